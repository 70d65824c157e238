import Derived.Test.YtmomlgnnbpkgcaaM1
import Derived.Test.YtmomlgnnbpkgcaaU7
import Derived.Test.YtmomlgnnbpkgcaaXD
namespace Go.Sym
set_option linter.unusedVariables false
set_option linter.unusedSimpArgs false
open Go.Proofs
set_option maxHeartbeats 4000000
structure Twn where
 n : Int
 es : List Ed
 ts : List Int
def twOk (x : Twn) : Bool := rightB ⟨x.n, x.es⟩ && decide (x.ts.length <= 60)
def twSz (x : Twn) : Nat := if twOk x = true then 1 else 0
def twA (x : Twn) : SV := .agg [.i .i64 x.n, .sl 100000 0 x.es.length, .sl 100001 0 x.ts.length]
def twH (x : Twn) : List (Nat × Blk) := [(100000, .rows .bor kE x.es.length (encL encE x.es)), (100001, .rows .bor k1 x.ts.length (encL encI x.ts))]
def tnetC : CT where
 X := Twn
 pre := fun x => True
 args := fun x => [twA x]
 g0 := twH
 res := fun x => .q 1 (twSz x)
 g1 := fun x => [(1, .rows .own kG (twSz x) (encG ⟨x.n.toNat, x.es⟩))]
def cfgUj : Cfg := ⟨T, [], [(23, .one rightC), (24, .one newC)], noInv, 20, {}⟩
theorem conUj : ConOk Try.prog cfgUj := ConL.ok (.cons (ConL.one right_good) (.cons (ConL.one new_good) .nil))
theorem copyRows {α : Type} [Inhabited α] {ks : List Kd} {e : α -> Nat -> D} {xs : List α} : RowsEq ks xs.length (appRows 0 (litRows []) 0 (encL e xs)) (encL e xs) := rowsEq_nil (Nat.le_refl _) (fun i _ => by rw [Nat.zero_add]; exact rowEq_rfl _ _ _)
theorem slEq (l : List Int) : Kd.eqv (.sl k1) (D.l l.length fun r c => D.i (l.getD (0 + r) default)) (D.l l.length (encL encI l)) := ⟨rfl, fun r _ => ⟨by show l.getD (0 + r) default = _; rw [Nat.zero_add]; rfl, trivial⟩⟩
theorem nilEq (f g : Nat -> Nat -> D) : Kd.eqv (.sl k1) (D.l 0 f) (D.l 0 g) := ⟨rfl, fun r h => absurd h (Nat.not_lt_zero _)⟩
set_option maxRecDepth 100000 in
theorem tnet_keeps : Keeps cfgUj Try.f9 tnetC noIv := Eq.mp (show ((∀ x1 : Twn, (True -> (∃ x3 : NewX, (True/\(((x1.n = x3.n/\((0=0 /\ x1.es.length = x3.es.length)/\True))/\True)/\((((RLe x3.es.length x1.es.length)/\(RowsEq [.int .i64, .int .i64, .int .i64] x3.es.length (encL encE x1.es) (encL encE x3.es)))/\True)/\((((!rightB x3) = false)-> (((decide (60 < (x1.ts.length : Int)) = true)-> ((twSz x1 = (0 : Nat))/\((twSz x1 = (0 : Nat))/\True)))/\((decide (60 < (x1.ts.length : Int)) = false)-> (True/\((0=0/\(((0 : Nat) <= (0 : Nat))/\(((0 : Nat) + x1.es.length <= x1.es.length)/\((0 : Nat) + x1.es.length <= (1073741824 : Nat)))))/\(∃ x7 : NewX, ((x7.es.length <= (1073741824 : Nat))/\((x1.n = x7.n/\((0=0/\((0 : Nat) + x1.es.length = x7.es.length))/\True))/\((((RLe x7.es.length ((0 : Nat) + x1.es.length))/\(RowsEq [.int .i64, .int .i64, .int .i64] x7.es.length (appRows 0 (litRows (@List.nil (List D))) 0 (encL encE x1.es)) (encL encE x7.es)))/\True)/\(((decide (errN x7 ≠ (0 : Int)) = true)-> ((twSz x1 = (0 : Nat))/\((twSz x1 = (0 : Nat))/\True)))/\((decide (errN x7 ≠ (0 : Int)) = false)-> ((szN x7 = twSz x1)/\(((RLe (twSz x1) (szN x7))/\(RowsEq [.sl [.int .i64, .int .i64, .int .i64], .sl [.sl [.int .i64]], .sl [.sl [.int .i64]]] (twSz x1) (encG (NewX.g x7)) (encG (Gr.mk (Int.toNat x1.n) x1.es))))/\True)))))))))))))/\(((!rightB x3) = true)-> ((twSz x1 = (0 : Nat))/\((twSz x1 = (0 : Nat))/\True))))))))))) = (Keeps cfgUj Try.f9 tnetC noIv) by kernel_rfl) (fun x1 => fun h2 => ⟨({ n := Twn.n x1, es := Twn.es x1 : NewX }),trivial,
⟨⟨rfl,
⟨rfl,rfl⟩,trivial⟩,trivial⟩,
⟨⟨⟨Nat.le_refl _⟩,RowsEq.rfl'⟩,trivial⟩,
fun h4 => ⟨fun g5 => have h5 := of_decide_eq_true g5; ⟨(by (try dsimp only at *); (have e : twOk x1 = false := (by unfold twOk; rw [Bool.and_eq_false_iff]; first | exact .inr (decide_eq_false (by omega)) | exact .inl (by simpa using h10)); first | (unfold twSz; rw [e]; rfl) | (show twSz x1 <= _; unfold twSz; rw [e]; decide))),
(by (try dsimp only at *); (have e : twOk x1 = false := (by unfold twOk; rw [Bool.and_eq_false_iff]; first | exact .inr (decide_eq_false (by omega)) | exact .inl (by simpa using h10)); first | (unfold twSz; rw [e]; rfl) | (show twSz x1 <= _; unfold twSz; rw [e]; decide))),trivial⟩,
fun g6 => have h6 := of_decide_eq_false g6; ⟨trivial,
⟨rfl,
(by (try dsimp only at *); omega),
(by (try dsimp only at *); omega),
(by (try dsimp only at *); (have q := of_decide_eq_true (Bool.and_eq_true _ _ ▸ (show rightB ⟨x1.n, x1.es⟩ = true by simpa using h4)).1; simp only at q; omega))⟩,
({ n := Twn.n x1, es := Twn.es x1 : NewX }),
(by (try dsimp only at *); (have q := of_decide_eq_true (Bool.and_eq_true _ _ ▸ (show rightB ⟨x1.n, x1.es⟩ = true by simpa using h4)).1; simp only at q; omega)),
⟨rfl,
⟨rfl,
(by (try dsimp only at *); omega)⟩,trivial⟩,
⟨⟨⟨(by (try dsimp only at *); omega)⟩,
(by (try dsimp only at *); exact copyRows)⟩,trivial⟩,
fun g8 => have h8 := of_decide_eq_true g8; ⟨(by (try dsimp only at *); exact absurd (right_err (x := NewX.mk x1.n x1.es) (by simpa using h4)) ‹_›),
(by (try dsimp only at *); exact absurd (right_err (x := NewX.mk x1.n x1.es) (by simpa using h4)) ‹_›),trivial⟩,
fun g9 => have h9 := of_decide_eq_false g9; ⟨(by (try dsimp only at *); ((have e : twOk x1 = true := (by unfold twOk; rw [Bool.and_eq_true]; exact ⟨by simpa using h4, decide_eq_true (by omega)⟩)); have e2 : twSz x1 = 1 := (if_pos e); have e3 : szN { n := x1.n, es := x1.es } = 1 := (if_pos (by simpa using h9)); first | (rw [e2, e3]; done) | (rw [e2, e3]; exact Nat.le_refl _) | (rw [e3, e2]; exact Nat.le_refl _))),
⟨⟨(by (try dsimp only at *); ((have e : twOk x1 = true := (by unfold twOk; rw [Bool.and_eq_true]; exact ⟨by simpa using h4, decide_eq_true (by omega)⟩)); have e2 : twSz x1 = 1 := (if_pos e); have e3 : szN { n := x1.n, es := x1.es } = 1 := (if_pos (by simpa using h9)); first | (rw [e2, e3]; done) | (rw [e2, e3]; exact Nat.le_refl _) | (rw [e3, e2]; exact Nat.le_refl _)))⟩,
(by (try dsimp only at *); exact RowsEq.rfl')⟩,trivial⟩⟩⟩,
fun h10 => ⟨(by (try dsimp only at *); (have e : twOk x1 = false := (by unfold twOk; rw [Bool.and_eq_false_iff]; first | exact .inr (decide_eq_false (by omega)) | exact .inl (by simpa using h10)); first | (unfold twSz; rw [e]; rfl) | (show twSz x1 <= _; unfold twSz; rw [e]; decide))),
(by (try dsimp only at *); (have e : twOk x1 = false := (by unfold twOk; rw [Bool.and_eq_false_iff]; first | exact .inr (decide_eq_false (by omega)) | exact .inl (by simpa using h10)); first | (unfold twSz; rw [e]; rfl) | (show twSz x1 <= _; unfold twSz; rw [e]; decide))),trivial⟩⟩)
theorem tnet_good : Good Try.prog 9 tnetC /\ FnOk Try.prog 9 := good_of tok conUj (fn := Try.f9) rfl (by decide +kernel) (fun _ => rfl) tnet_keeps
def ttimesC : CT where
 X := Twn
 pre := fun x => x.ts.length <= 60
 args := fun x => [twA x]
 g0 := twH
 res := fun x => .sl 1 0 x.ts.length
 g1 := fun x => [(1, .rows .own k1 x.ts.length (encL encI x.ts))]
set_option maxRecDepth 100000 in
theorem ttimes_keeps : Keeps cfgN0 Try.f12 ttimesC noIv := Eq.mp (show ((∀ x1 : Twn, ((x1.ts.length <= (60 : Nat))-> (True/\((0=0/\(((0 : Nat) <= (0 : Nat))/\(((0 : Nat) + x1.ts.length <= x1.ts.length)/\((0 : Nat) + x1.ts.length <= (1073741824 : Nat)))))/\((0=0/\((0 : Nat) + x1.ts.length = x1.ts.length))/\(((RLe x1.ts.length ((0 : Nat) + x1.ts.length))/\(RowsEq [.int .i64] x1.ts.length (appRows 0 (litRows (@List.nil (List D))) 0 (encL encI x1.ts)) (encL encI x1.ts)))/\True))))))) = (Keeps cfgN0 Try.f12 ttimesC noIv) by kernel_rfl) (fun x1 => fun h2 => ⟨trivial,
⟨rfl,
(by omega),
(by omega),
(by omega)⟩,
⟨rfl,
(by omega)⟩,
⟨⟨(by omega)⟩,
(by exact copyRows)⟩,trivial⟩)
theorem ttimes_good : Good Try.prog 12 ttimesC /\ FnOk Try.prog 12 := good_of tok conN0 (fn := Try.f12) rfl (by decide +kernel) (fun _ => rfl) ttimes_keeps
structure ICx where
 x : Inc
 t : Cal
def icA (x : ICx) (a : Nat) : SV := .agg [.i .i64 x.x.id, .i .i64 x.x.urg, .s x.x.code, .sl a 0 x.x.nodes.length, .i .i64 x.x.dis, .i .i64 x.x.since, .sl (a + 1) 0 x.x.calls.length, .sl (a + 2) 0 x.x.units.length, .i .i64 x.x.merged, .b x.x.closed,
 .i .i64 x.t.call, .i .i64 x.t.inc, .i .i64 x.t.urg, .s x.t.code, .sl (a + 3) 0 x.t.nodes.length, .i .i64 x.t.dis, .i .i64 x.t.since, .b x.t.closed]
def icH (x : ICx) (a : Nat) : List (Nat × Blk) := [(a, .rows .fz k1 x.x.nodes.length (encL encI x.x.nodes)), (a + 1, .rows .fz k1 x.x.calls.length (encL encI x.x.calls)), (a + 2, .rows .fz k1 x.x.units.length (encL encI x.x.units)), (a + 3, .rows .fz k1 x.t.nodes.length (encL encI x.t.nodes))]
def few2 (x : ICx) : Bool := fewB [x.x, ofT x.t]
def few2C : CT where
 X := ICx
 pre := fun _ => True
 args := fun x => [icA x 100000]
 g0 := fun x => icH x 100000
 res := fun x => .b (few2 x)
 g1 := fun _ => []
def cfgUk : Cfg := ⟨T, [], [(18, .one ofC), (17, .one fewC)], noInv, 20, {}⟩
theorem conUk : ConOk Try.prog cfgUk := ConL.ok (.cons (ConL.one xof_good) (.cons (ConL.one few_good) .nil))
set_option maxRecDepth 100000 in
theorem few2_keeps : Keeps cfgUk Try.f14 few2C noIv := Eq.mp (show ((∀ x1 : ICx, (True -> (∃ x3 : Cal, (True/\(((x1.t.call = x3.call/\(x1.t.inc = x3.inc/\(x1.t.urg = x3.urg/\(x1.t.code = x3.code/\((0=0 /\ x1.t.nodes.length = x3.nodes.length)/\(x1.t.dis = x3.dis/\(x1.t.since = x3.since/\(x1.t.closed = x3.closed/\True))))))))/\True)/\((((RLe x3.nodes.length x1.t.nodes.length)/\(RowsEq [.int .i64] x3.nodes.length (encL encI x1.t.nodes) (encL encI x3.nodes)))/\True)/\(((True/\(True/\(True/\(((0 : Nat) + x1.x.nodes.length <= x1.x.nodes.length)/\(True/\(True/\(((0 : Nat) + x1.x.calls.length <= x1.x.calls.length)/\(((0 : Nat) + x1.x.units.length <= x1.x.units.length)/\(True/\(True/\True))))))))))/\((True/\(True/\(True/\(((0 : Nat) + x3.nodes.length <= x1.t.nodes.length)/\(True/\(True/\(True/\(True/\(True/\(True/\True))))))))))/\True))/\(∃ x4 : List Inc, (True/\(((0=0/\((2 : Nat) = x4.length))/\True)/\((((RLe x4.length 2)/\(RowsEq (.int .i64 :: .int .i64 :: Kd.str :: .sl [.int .i64] :: .int .i64 :: .int .i64 :: .sl [.int .i64] :: .sl [.int .i64] :: .int .i64 :: Kd.bool :: []) x4.length (litRows ((D.i x1.x.id :: D.i x1.x.urg :: D.s x1.x.code :: (D.l x1.x.nodes.length fun (r c : Nat) => D.i (x1.x.nodes.getD ((0 : Nat) + r) default)) :: D.i x1.x.dis :: D.i x1.x.since :: (D.l x1.x.calls.length fun (r c : Nat) => D.i (x1.x.calls.getD ((0 : Nat) + r) default)) :: (D.l x1.x.units.length fun (r c : Nat) => D.i (x1.x.units.getD ((0 : Nat) + r) default)) :: D.i x1.x.merged :: D.b x1.x.closed :: @List.nil D) :: (D.i 0 :: D.i 0 :: D.s x3.code :: (D.l x3.nodes.length fun (r c : Nat) => D.i (x1.t.nodes.getD ((0 : Nat) + r) default)) :: D.i 0 :: D.i x3.since :: (D.l 0 fun (x x_1 : Nat) => D.i 0) :: (D.l 0 fun (x x_1 : Nat) => D.i 0) :: D.i 0 :: D.b false :: @List.nil D) :: @List.nil (List D))) (encL encInc x4)))/\True)/\((fewB x4 = few2 x1)/\True))))))))))))) = (Keeps cfgUk Try.f14 few2C noIv) by kernel_rfl) (fun x1 => fun h2 => ⟨(ICx.t x1),trivial,
⟨⟨rfl,rfl,rfl,rfl,
⟨rfl,rfl⟩,rfl,rfl,rfl,trivial⟩,trivial⟩,
⟨⟨⟨Nat.le_refl _⟩,RowsEq.rfl'⟩,trivial⟩,
⟨⟨trivial,trivial,trivial,
(by (try dsimp only at *); omega),trivial,trivial,
(by (try dsimp only at *); omega),
(by (try dsimp only at *); omega),trivial,trivial,trivial⟩,
⟨trivial,trivial,trivial,
(by (try dsimp only at *); omega),trivial,trivial,trivial,trivial,trivial,trivial,trivial⟩,trivial⟩,
(ICx.x x1 :: ofT (ICx.t x1) :: @List.nil Inc),trivial,
⟨⟨rfl,
(by (try dsimp only at *); grind)⟩,trivial⟩,
⟨⟨⟨(by (try dsimp only at *); grind)⟩,
(by (try dsimp only at *); exact ⟨fun r hr => by have hr : r < 2 := hr; rcases (show r = 0 ∨ r = 1 by omega) with h | h; (subst h; exact ⟨rfl, rfl, rfl, slEq _, rfl, rfl, slEq _, slEq _, rfl, rfl, trivial⟩); (subst h; exact ⟨rfl, rfl, rfl, slEq _, rfl, rfl, nilEq _ _, nilEq _ _, rfl, rfl, trivial⟩)⟩)⟩,trivial⟩,
(by (try dsimp only at *); rfl),trivial⟩)
theorem few2_good : Good Try.prog 14 few2C /\ FnOk Try.prog 14 := good_of tok conUk (fn := Try.f14) rfl (by decide +kernel) (fun _ => rfl) few2_keeps
def eG : Gr := ⟨3, [⟨0, 1, 4⟩]⟩
def fhS : ByteArray := ⟨#[102, 105, 114, 101, 45, 104, 111, 117, 115, 101]⟩
def fcS : ByteArray := ⟨#[102, 105, 114, 101, 45, 99, 97, 114]⟩
def eX : Inc := ⟨7, 0, fhS, [0], 0, 10, [], [], 0, false⟩
def eY : Inc := ⟨8, 0, fhS, [1], 0, 10, [], [], 0, false⟩
def eO : Inc := ⟨7, 0, fhS, [0], 0, 10, [], [], 0, true⟩
def eC : Cal := ⟨0, 0, 0, fcS, [1, 2], 0, 15, false⟩
theorem e_1 : kin fhS fcS = true := by decide +kernel
theorem e_4 : gapP eG [4] [1] [0, 2] = 4 := by decide +kernel
theorem e_5 : gapP eG [] [1] [0, 2] = 4611686018427387904 := by decide +kernel
theorem e_6 : simB eG [4] eX (ofT eC) 4 5 = true := by decide +kernel
theorem e_7 : simB eG [4] eX (ofT eC) 3 5 = false := by decide +kernel
theorem e_8 : simB eG [4] eX (ofT eC) 4 4 = false := by decide +kernel
theorem e_9 : simB eG [4] eO (ofT eC) 4 5 = false := by decide +kernel
theorem e_10 : (clL ⟨eG, [4], [eX, eY], eC, 4, 5⟩).2 = 8 := by decide +kernel
theorem e_11 : prL ⟨eG, [4], [eX, eY], 4, 5⟩ = [(7, 8)] := by decide +kernel
theorem eG_ok : GOk eG := gok (x := ⟨3, [⟨0, 1, 4⟩]⟩) (by decide) (by decide) (by decide) (by decide)
theorem e_err : errN ⟨3, [⟨0, 1, 4⟩]⟩ = 0 := by decide
theorem sl1 (a : Int) : Kd.eqv (.sl k1) (D.l 1 fun r c => ([[D.i a]].getD (0 + r) []).getD c (D.i 0)) (D.l 1 (encL encI [a])) := ⟨rfl, fun r hr => by have hr : r < 1 := hr; have : r = 0 := (by omega); subst this; exact ⟨rfl, trivial⟩⟩
theorem e_xs : ∀ y ∈ [eX, eY], y.nodes.length <= 1048576 /\ y.code.size <= 1073741824 := by
 intro y hy
 rcases List.mem_cons.1 hy with h | h
 ·subst h; decide
 ·rw [List.mem_singleton] at h; subst h; decide
theorem e_12 : ((prL ⟨eG, [4], [eX, eY], 4, 5⟩).length : Int) = 1 := by rw [e_11]; rfl
def awakeC : CT where
 X := Unit
 pre := fun _ => True
 args := fun _ => []
 g0 := fun _ => []
 res := fun _ => .b true
 g1 := fun _ => []
def cfgUl : Cfg := ⟨T, [], [(24, .one newOkC), (21, .one pairsC), (25, .one kinC), (11, .one gapC), (15, .one simC), (19, .one closC)], noInv, 20, {}⟩
theorem conUl : ConOk Try.prog cfgUl := ConL.ok (.cons (ConL.one newOk_good) (.cons (ConL.one pairs_good) (.cons (ConL.one zsame_good) (.cons (ConL.one gap_good) (.cons (ConL.one sim_good) (.cons (ConL.one clos_good) .nil))))))
set_option maxRecDepth 100000 in
theorem awake_keeps : Keeps cfgUl Try.f10 awakeC noIv := Eq.mp (show ((∀ x1 : Unit, (True -> (((True/\(True/\(True/\True)))/\True)/\(∃ x3 : NewX, (((x3.es.length <= (1073741824 : Nat))/\(errN x3 = 0))/\((3 = x3.n/\((0=0/\((1 : Nat) = x3.es.length))/\True))/\((((RLe x3.es.length 1)/\(RowsEq [.int .i64, .int .i64, .int .i64] x3.es.length (litRows ((D.i 0 :: D.i 1 :: D.i 4 :: @List.nil D) :: @List.nil (List D))) (encL encE x3.es)))/\True)/\(((decide ((0 : Int) ≠ (0 : Int)) = false)-> (((True/\True)/\True)/\(((True/\True)/\((True/\True)/\True))/\(((True/\True)/\True)/\(((True/\True)/\True)/\(((True/\(True/\(True/\(((1 : Nat) <= (1 : Nat))/\(True/\(True/\(True/\(True/\(True/\(True/\True))))))))))/\((True/\(True/\(True/\(((1 : Nat) <= (1 : Nat))/\(True/\(True/\(True/\(True/\(True/\(True/\True))))))))))/\True))/\(∃ x5 : PSx, ((PSok x5)/\(((0=0 /\ 0=0)/\((0=0/\((1 : Nat) = x5.ts.length))/\((0=0/\((2 : Nat) = x5.l.length))/\(4 = x5.near/\(5 = x5.win/\True)))))/\(((RLe 1 1/\(RowsEq [.sl [.int .i64, .int .i64, .int .i64], .sl [.sl [.int .i64]], .sl [.sl [.int .i64]]] 1 (encG (NewX.g x3)) (encG x5.g)))/\(((RLe x5.ts.length 1)/\(RowsEq [.int .i64] x5.ts.length (litRows ((D.i 4 :: @List.nil D) :: @List.nil (List D))) (encL encI x5.ts)))/\(((RLe x5.l.length 2)/\(RowsEq (.int .i64 :: .int .i64 :: Kd.str :: .sl [.int .i64] :: .int .i64 :: .int .i64 :: .sl [.int .i64] :: .sl [.int .i64] :: .int .i64 :: Kd.bool :: []) x5.l.length (litRows ((D.i 7 :: D.i 0 :: D.s (ByteArray.mk (List.toArray ((102 : UInt8) :: (105 : UInt8) :: (114 : UInt8) :: (101 : UInt8) :: (45 : UInt8) :: (104 : UInt8) :: (111 : UInt8) :: (117 : UInt8) :: (115 : UInt8) :: (101 : UInt8) :: @List.nil UInt8))) :: (D.l 1 fun (r c : Nat) => (((D.i 0 :: @List.nil D) :: @List.nil (List D)).getD ((0 : Nat) + r) (@List.nil D)).getD c (D.i 0)) :: D.i 0 :: D.i 10 :: (D.l 0 fun (x x_1 : Nat) => D.i 0) :: (D.l 0 fun (x x_1 : Nat) => D.i 0) :: D.i 0 :: D.b false :: @List.nil D) :: (D.i 8 :: D.i 0 :: D.s (ByteArray.mk (List.toArray ((102 : UInt8) :: (105 : UInt8) :: (114 : UInt8) :: (101 : UInt8) :: (45 : UInt8) :: (104 : UInt8) :: (111 : UInt8) :: (117 : UInt8) :: (115 : UInt8) :: (101 : UInt8) :: @List.nil UInt8))) :: (D.l 1 fun (r c : Nat) => (((D.i 1 :: @List.nil D) :: @List.nil (List D)).getD ((0 : Nat) + r) (@List.nil D)).getD c (D.i 0)) :: D.i 0 :: D.i 10 :: (D.l 0 fun (x x_1 : Nat) => D.i 0) :: (D.l 0 fun (x x_1 : Nat) => D.i 0) :: D.i 0 :: D.b false :: @List.nil D) :: @List.nil (List D))) (encL encInc x5.l)))/\True)))/\(∃ x6 : SSx, (((ByteArray.size x6.a <= (1073741824 : Nat))/\(ByteArray.size x6.b <= (1073741824 : Nat)))/\((((ByteArray.mk (List.toArray ((102 : UInt8) :: (105 : UInt8) :: (114 : UInt8) :: (101 : UInt8) :: (45 : UInt8) :: (104 : UInt8) :: (111 : UInt8) :: (117 : UInt8) :: (115 : UInt8) :: (101 : UInt8) :: @List.nil UInt8))) = x6.a)/\(((ByteArray.mk (List.toArray ((102 : UInt8) :: (105 : UInt8) :: (114 : UInt8) :: (101 : UInt8) :: (45 : UInt8) :: (99 : UInt8) :: (97 : UInt8) :: (114 : UInt8) :: @List.nil UInt8))) = x6.b)/\True))/\(True/\(((kin x6.a x6.b = true)-> (∃ x8 : SSx, (((ByteArray.size x8.a <= (1073741824 : Nat))/\(ByteArray.size x8.b <= (1073741824 : Nat)))/\((((ByteArray.mk (List.toArray ((102 : UInt8) :: (105 : UInt8) :: (114 : UInt8) :: (101 : UInt8) :: @List.nil UInt8))) = x8.a)/\(((ByteArray.mk (List.toArray ((102 : UInt8) :: (97 : UInt8) :: (108 : UInt8) :: (108 : UInt8) :: @List.nil UInt8))) = x8.b)/\True))/\(True/\((((!kin x8.a x8.b) = true)-> (∃ x10 : SSx, (((ByteArray.size x10.a <= (1073741824 : Nat))/\(ByteArray.size x10.b <= (1073741824 : Nat)))/\((((ByteArray.mk (List.toArray ((117 : UInt8) :: (110 : UInt8) :: (107 : UInt8) :: (110 : UInt8) :: (111 : UInt8) :: (119 : UInt8) :: (110 : UInt8) :: @List.nil UInt8))) = x10.a)/\(((ByteArray.mk (List.toArray ((102 : UInt8) :: (97 : UInt8) :: (108 : UInt8) :: (108 : UInt8) :: @List.nil UInt8))) = x10.b)/\True))/\(True/\(((kin x10.a x10.b = true)-> (((True/\True)/\True)/\(((True/\True)/\True)/\(((True/\True)/\((True/\True)/\True))/\(∃ x12 : GAx, ((GAok x12)/\(((0=0 /\ 0=0)/\((0=0/\((1 : Nat) = x12.ts.length))/\((0=0/\((1 : Nat) = x12.a.length))/\((0=0/\((2 : Nat) = x12.b.length))/\True))))/\(((RLe 1 1/\(RowsEq [.sl [.int .i64, .int .i64, .int .i64], .sl [.sl [.int .i64]], .sl [.sl [.int .i64]]] 1 (encG (NewX.g x3)) (encG x12.g)))/\(((RLe x12.ts.length 1)/\(RowsEq [.int .i64] x12.ts.length (litRows ((D.i 4 :: @List.nil D) :: @List.nil (List D))) (encL encI x12.ts)))/\(((RLe x12.a.length 1)/\(RowsEq [.int .i64] x12.a.length (litRows ((D.i 1 :: @List.nil D) :: @List.nil (List D))) (encL encI x12.a)))/\(((RLe x12.b.length 2)/\(RowsEq [.int .i64] x12.b.length (litRows ((D.i 0 :: @List.nil D) :: (D.i 2 :: @List.nil D) :: @List.nil (List D))) (encL encI x12.b)))/\True))))/\(((decide (gapP x12.g x12.ts x12.a x12.b = (4 : Int)) = true)-> (((True/\True)/\True)/\(((True/\True)/\((True/\True)/\True))/\(∃ x14 : GAx, ((GAok x14)/\(((0=0 /\ 0=0)/\((True/\(0=0/\(x14.ts.length = (0 : Nat))))/\((0=0/\((1 : Nat) = x14.a.length))/\((0=0/\((2 : Nat) = x14.b.length))/\True))))/\(((RLe 1 1/\(RowsEq [.sl [.int .i64, .int .i64, .int .i64], .sl [.sl [.int .i64]], .sl [.sl [.int .i64]]] 1 (encG (NewX.g x3)) (encG x14.g)))/\((x14.ts.length = (0 : Nat))/\(((RLe x14.a.length 1)/\(RowsEq [.int .i64] x14.a.length (litRows ((D.i 1 :: @List.nil D) :: @List.nil (List D))) (encL encI x14.a)))/\(((RLe x14.b.length 2)/\(RowsEq [.int .i64] x14.b.length (litRows ((D.i 0 :: @List.nil D) :: (D.i 2 :: @List.nil D) :: @List.nil (List D))) (encL encI x14.b)))/\True))))/\(((decide (gapP x14.g x14.ts x14.a x14.b = (4611686018427387904 : Int)) = true)-> (((True/\True)/\True)/\(∃ x16 : SIx, ((SIok x16)/\(((0=0 /\ 0=0)/\((0=0/\((1 : Nat) = x16.ts.length))/\((7 = x16.x.id/\(0 = x16.x.urg/\(((ByteArray.mk (List.toArray ((102 : UInt8) :: (105 : UInt8) :: (114 : UInt8) :: (101 : UInt8) :: (45 : UInt8) :: (104 : UInt8) :: (111 : UInt8) :: (117 : UInt8) :: (115 : UInt8) :: (101 : UInt8) :: @List.nil UInt8))) = x16.x.code)/\((0=0/\((1 : Nat) = x16.x.nodes.length))/\(0 = x16.x.dis/\(10 = x16.x.since/\((True/\(0=0/\(x16.x.calls.length = (0 : Nat))))/\((True/\(0=0/\(x16.x.units.length = (0 : Nat))))/\(0 = x16.x.merged/\(false = x16.x.closed/\True))))))))))/\((0 = x16.t.call/\(0 = x16.t.inc/\(0 = x16.t.urg/\(((ByteArray.mk (List.toArray ((102 : UInt8) :: (105 : UInt8) :: (114 : UInt8) :: (101 : UInt8) :: (45 : UInt8) :: (99 : UInt8) :: (97 : UInt8) :: (114 : UInt8) :: @List.nil UInt8))) = x16.t.code)/\((0=0/\((2 : Nat) = x16.t.nodes.length))/\(0 = x16.t.dis/\(15 = x16.t.since/\(false = x16.t.closed/\True))))))))/\(4 = x16.near/\(5 = x16.win/\True))))))/\(((RLe 1 1/\(RowsEq [.sl [.int .i64, .int .i64, .int .i64], .sl [.sl [.int .i64]], .sl [.sl [.int .i64]]] 1 (encG (NewX.g x3)) (encG x16.g)))/\(((RLe x16.ts.length 1)/\(RowsEq [.int .i64] x16.ts.length (litRows ((D.i 4 :: @List.nil D) :: @List.nil (List D))) (encL encI x16.ts)))/\(((RLe x16.x.nodes.length 1)/\(RowsEq [.int .i64] x16.x.nodes.length (litRows ((D.i 0 :: @List.nil D) :: @List.nil (List D))) (encL encI x16.x.nodes)))/\((x16.x.calls.length = (0 : Nat))/\((x16.x.units.length = (0 : Nat))/\(((RLe x16.t.nodes.length 2)/\(RowsEq [.int .i64] x16.t.nodes.length (litRows ((D.i 1 :: @List.nil D) :: (D.i 2 :: @List.nil D) :: @List.nil (List D))) (encL encI x16.t.nodes)))/\True))))))/\(((simB x16.g x16.ts x16.x (ofT x16.t) x16.near x16.win = true)-> (((True/\True)/\True)/\(∃ x18 : SIx, ((SIok x18)/\(((0=0 /\ 0=0)/\((0=0/\((1 : Nat) = x18.ts.length))/\((7 = x18.x.id/\(0 = x18.x.urg/\(((ByteArray.mk (List.toArray ((102 : UInt8) :: (105 : UInt8) :: (114 : UInt8) :: (101 : UInt8) :: (45 : UInt8) :: (104 : UInt8) :: (111 : UInt8) :: (117 : UInt8) :: (115 : UInt8) :: (101 : UInt8) :: @List.nil UInt8))) = x18.x.code)/\((0=0/\((1 : Nat) = x18.x.nodes.length))/\(0 = x18.x.dis/\(10 = x18.x.since/\((True/\(0=0/\(x18.x.calls.length = (0 : Nat))))/\((True/\(0=0/\(x18.x.units.length = (0 : Nat))))/\(0 = x18.x.merged/\(false = x18.x.closed/\True))))))))))/\((0 = x18.t.call/\(0 = x18.t.inc/\(0 = x18.t.urg/\(((ByteArray.mk (List.toArray ((102 : UInt8) :: (105 : UInt8) :: (114 : UInt8) :: (101 : UInt8) :: (45 : UInt8) :: (99 : UInt8) :: (97 : UInt8) :: (114 : UInt8) :: @List.nil UInt8))) = x18.t.code)/\((0=0/\((2 : Nat) = x18.t.nodes.length))/\(0 = x18.t.dis/\(15 = x18.t.since/\(false = x18.t.closed/\True))))))))/\(3 = x18.near/\(5 = x18.win/\True))))))/\(((RLe 1 1/\(RowsEq [.sl [.int .i64, .int .i64, .int .i64], .sl [.sl [.int .i64]], .sl [.sl [.int .i64]]] 1 (encG (NewX.g x3)) (encG x18.g)))/\(((RLe x18.ts.length 1)/\(RowsEq [.int .i64] x18.ts.length (litRows ((D.i 4 :: @List.nil D) :: @List.nil (List D))) (encL encI x18.ts)))/\(((RLe x18.x.nodes.length 1)/\(RowsEq [.int .i64] x18.x.nodes.length (litRows ((D.i 0 :: @List.nil D) :: @List.nil (List D))) (encL encI x18.x.nodes)))/\((x18.x.calls.length = (0 : Nat))/\((x18.x.units.length = (0 : Nat))/\(((RLe x18.t.nodes.length 2)/\(RowsEq [.int .i64] x18.t.nodes.length (litRows ((D.i 1 :: @List.nil D) :: (D.i 2 :: @List.nil D) :: @List.nil (List D))) (encL encI x18.t.nodes)))/\True))))))/\((((!simB x18.g x18.ts x18.x (ofT x18.t) x18.near x18.win) = true)-> (((True/\True)/\True)/\(∃ x20 : SIx, ((SIok x20)/\(((0=0 /\ 0=0)/\((0=0/\((1 : Nat) = x20.ts.length))/\((7 = x20.x.id/\(0 = x20.x.urg/\(((ByteArray.mk (List.toArray ((102 : UInt8) :: (105 : UInt8) :: (114 : UInt8) :: (101 : UInt8) :: (45 : UInt8) :: (104 : UInt8) :: (111 : UInt8) :: (117 : UInt8) :: (115 : UInt8) :: (101 : UInt8) :: @List.nil UInt8))) = x20.x.code)/\((0=0/\((1 : Nat) = x20.x.nodes.length))/\(0 = x20.x.dis/\(10 = x20.x.since/\((True/\(0=0/\(x20.x.calls.length = (0 : Nat))))/\((True/\(0=0/\(x20.x.units.length = (0 : Nat))))/\(0 = x20.x.merged/\(false = x20.x.closed/\True))))))))))/\((0 = x20.t.call/\(0 = x20.t.inc/\(0 = x20.t.urg/\(((ByteArray.mk (List.toArray ((102 : UInt8) :: (105 : UInt8) :: (114 : UInt8) :: (101 : UInt8) :: (45 : UInt8) :: (99 : UInt8) :: (97 : UInt8) :: (114 : UInt8) :: @List.nil UInt8))) = x20.t.code)/\((0=0/\((2 : Nat) = x20.t.nodes.length))/\(0 = x20.t.dis/\(15 = x20.t.since/\(false = x20.t.closed/\True))))))))/\(4 = x20.near/\(4 = x20.win/\True))))))/\(((RLe 1 1/\(RowsEq [.sl [.int .i64, .int .i64, .int .i64], .sl [.sl [.int .i64]], .sl [.sl [.int .i64]]] 1 (encG (NewX.g x3)) (encG x20.g)))/\(((RLe x20.ts.length 1)/\(RowsEq [.int .i64] x20.ts.length (litRows ((D.i 4 :: @List.nil D) :: @List.nil (List D))) (encL encI x20.ts)))/\(((RLe x20.x.nodes.length 1)/\(RowsEq [.int .i64] x20.x.nodes.length (litRows ((D.i 0 :: @List.nil D) :: @List.nil (List D))) (encL encI x20.x.nodes)))/\((x20.x.calls.length = (0 : Nat))/\((x20.x.units.length = (0 : Nat))/\(((RLe x20.t.nodes.length 2)/\(RowsEq [.int .i64] x20.t.nodes.length (litRows ((D.i 1 :: @List.nil D) :: (D.i 2 :: @List.nil D) :: @List.nil (List D))) (encL encI x20.t.nodes)))/\True))))))/\((((!simB x20.g x20.ts x20.x (ofT x20.t) x20.near x20.win) = true)-> (((True/\True)/\True)/\(∃ x22 : SIx, ((SIok x22)/\(((0=0 /\ 0=0)/\((0=0/\((1 : Nat) = x22.ts.length))/\((7 = x22.x.id/\(0 = x22.x.urg/\(((ByteArray.mk (List.toArray ((102 : UInt8) :: (105 : UInt8) :: (114 : UInt8) :: (101 : UInt8) :: (45 : UInt8) :: (104 : UInt8) :: (111 : UInt8) :: (117 : UInt8) :: (115 : UInt8) :: (101 : UInt8) :: @List.nil UInt8))) = x22.x.code)/\((0=0/\((1 : Nat) = x22.x.nodes.length))/\(0 = x22.x.dis/\(10 = x22.x.since/\((True/\(0=0/\(x22.x.calls.length = (0 : Nat))))/\((True/\(0=0/\(x22.x.units.length = (0 : Nat))))/\(0 = x22.x.merged/\(true = x22.x.closed/\True))))))))))/\((0 = x22.t.call/\(0 = x22.t.inc/\(0 = x22.t.urg/\(((ByteArray.mk (List.toArray ((102 : UInt8) :: (105 : UInt8) :: (114 : UInt8) :: (101 : UInt8) :: (45 : UInt8) :: (99 : UInt8) :: (97 : UInt8) :: (114 : UInt8) :: @List.nil UInt8))) = x22.t.code)/\((0=0/\((2 : Nat) = x22.t.nodes.length))/\(0 = x22.t.dis/\(15 = x22.t.since/\(false = x22.t.closed/\True))))))))/\(4 = x22.near/\(5 = x22.win/\True))))))/\(((RLe 1 1/\(RowsEq [.sl [.int .i64, .int .i64, .int .i64], .sl [.sl [.int .i64]], .sl [.sl [.int .i64]]] 1 (encG (NewX.g x3)) (encG x22.g)))/\(((RLe x22.ts.length 1)/\(RowsEq [.int .i64] x22.ts.length (litRows ((D.i 4 :: @List.nil D) :: @List.nil (List D))) (encL encI x22.ts)))/\(((RLe x22.x.nodes.length 1)/\(RowsEq [.int .i64] x22.x.nodes.length (litRows ((D.i 0 :: @List.nil D) :: @List.nil (List D))) (encL encI x22.x.nodes)))/\((x22.x.calls.length = (0 : Nat))/\((x22.x.units.length = (0 : Nat))/\(((RLe x22.t.nodes.length 2)/\(RowsEq [.int .i64] x22.t.nodes.length (litRows ((D.i 1 :: @List.nil D) :: (D.i 2 :: @List.nil D) :: @List.nil (List D))) (encL encI x22.t.nodes)))/\True))))))/\((((!simB x22.g x22.ts x22.x (ofT x22.t) x22.near x22.win) = true)-> (((True/\True)/\True)/\(((True/\(True/\(True/\(((1 : Nat) <= (1 : Nat))/\(True/\(True/\(True/\(True/\(True/\(True/\True))))))))))/\((True/\(True/\(True/\(((1 : Nat) <= (1 : Nat))/\(True/\(True/\(True/\(True/\(True/\(True/\True))))))))))/\True))/\(∃ x24 : LSx, ((LSok x24)/\(((0=0 /\ 0=0)/\((0=0/\((1 : Nat) = x24.ts.length))/\((0=0/\((2 : Nat) = x24.l.length))/\((0 = x24.t.call/\(0 = x24.t.inc/\(0 = x24.t.urg/\(((ByteArray.mk (List.toArray ((102 : UInt8) :: (105 : UInt8) :: (114 : UInt8) :: (101 : UInt8) :: (45 : UInt8) :: (99 : UInt8) :: (97 : UInt8) :: (114 : UInt8) :: @List.nil UInt8))) = x24.t.code)/\((0=0/\((2 : Nat) = x24.t.nodes.length))/\(0 = x24.t.dis/\(15 = x24.t.since/\(false = x24.t.closed/\True))))))))/\(4 = x24.near/\(5 = x24.win/\True))))))/\(((RLe 1 1/\(RowsEq [.sl [.int .i64, .int .i64, .int .i64], .sl [.sl [.int .i64]], .sl [.sl [.int .i64]]] 1 (encG (NewX.g x3)) (encG x24.g)))/\(((RLe x24.ts.length 1)/\(RowsEq [.int .i64] x24.ts.length (litRows ((D.i 4 :: @List.nil D) :: @List.nil (List D))) (encL encI x24.ts)))/\(((RLe x24.l.length 2)/\(RowsEq (.int .i64 :: .int .i64 :: Kd.str :: .sl [.int .i64] :: .int .i64 :: .int .i64 :: .sl [.int .i64] :: .sl [.int .i64] :: .int .i64 :: Kd.bool :: []) x24.l.length (litRows ((D.i 7 :: D.i 0 :: D.s (ByteArray.mk (List.toArray ((102 : UInt8) :: (105 : UInt8) :: (114 : UInt8) :: (101 : UInt8) :: (45 : UInt8) :: (104 : UInt8) :: (111 : UInt8) :: (117 : UInt8) :: (115 : UInt8) :: (101 : UInt8) :: @List.nil UInt8))) :: (D.l 1 fun (r c : Nat) => (((D.i 0 :: @List.nil D) :: @List.nil (List D)).getD ((0 : Nat) + r) (@List.nil D)).getD c (D.i 0)) :: D.i 0 :: D.i 10 :: (D.l 0 fun (x x_1 : Nat) => D.i 0) :: (D.l 0 fun (x x_1 : Nat) => D.i 0) :: D.i 0 :: D.b false :: @List.nil D) :: (D.i 8 :: D.i 0 :: D.s (ByteArray.mk (List.toArray ((102 : UInt8) :: (105 : UInt8) :: (114 : UInt8) :: (101 : UInt8) :: (45 : UInt8) :: (104 : UInt8) :: (111 : UInt8) :: (117 : UInt8) :: (115 : UInt8) :: (101 : UInt8) :: @List.nil UInt8))) :: (D.l 1 fun (r c : Nat) => (((D.i 1 :: @List.nil D) :: @List.nil (List D)).getD ((0 : Nat) + r) (@List.nil D)).getD c (D.i 0)) :: D.i 0 :: D.i 10 :: (D.l 0 fun (x x_1 : Nat) => D.i 0) :: (D.l 0 fun (x x_1 : Nat) => D.i 0) :: D.i 0 :: D.b false :: @List.nil D) :: @List.nil (List D))) (encL encInc x24.l)))/\(((RLe x24.t.nodes.length 2)/\(RowsEq [.int .i64] x24.t.nodes.length (litRows ((D.i 1 :: @List.nil D) :: (D.i 2 :: @List.nil D) :: @List.nil (List D))) (encL encI x24.t.nodes)))/\True))))/\(((decide (Prod.snd (clL x24) = (8 : Int)) = true)-> (((decide ((↑(prL x5).length : Int) = 1) = true)-> ((((0 : Int) <= (0 : Int))/\(0 < (↑(prL x5).length : Int)))/\((0 + Int.toNat 0 < (prL x5).length)/\(((True/\True)/\((True/\True)/\True))/\(((decide (Prod.fst ((prL x5).getD (0 + Int.toNat (0 : Int)) default) = (7 : Int)) && (decide (Prod.snd ((prL x5).getD (0 + Int.toNat (0 : Int)) default) = (8 : Int)) && true)) = true)/\True)))))/\((decide ((↑(prL x5).length : Int) = 1) = false)-> (false = true/\True))))/\((decide (Prod.snd (clL x24) = (8 : Int)) = false)-> (false = true/\True))))))))))/\(((!simB x22.g x22.ts x22.x (ofT x22.t) x22.near x22.win) = false)-> (false = true/\True)))))))))/\(((!simB x20.g x20.ts x20.x (ofT x20.t) x20.near x20.win) = false)-> (false = true/\True)))))))))/\(((!simB x18.g x18.ts x18.x (ofT x18.t) x18.near x18.win) = false)-> (false = true/\True)))))))))/\((simB x16.g x16.ts x16.x (ofT x16.t) x16.near x16.win = false)-> (false = true/\True)))))))))/\((decide (gapP x14.g x14.ts x14.a x14.b = (4611686018427387904 : Int)) = false)-> (false = true/\True))))))))))/\((decide (gapP x12.g x12.ts x12.a x12.b = (4 : Int)) = false)-> (false = true/\True)))))))))))/\((kin x10.a x10.b = false)-> (false = true/\True))))))))/\(((!kin x8.a x8.b) = false)-> (false = true/\True))))))))/\((kin x6.a x6.b = false)-> (false = true/\True)))))))))))))))))/\((decide ((0 : Int) ≠ (0 : Int)) = true)-> (false = true/\True))))))))))) = (Keeps cfgUl Try.f10 awakeC noIv) by kernel_rfl) (fun x1 => fun h2 => ⟨⟨⟨trivial,
 trivial,trivial,trivial⟩,trivial⟩,
({ n := (3 : Int), es := { f := (0 : Int), t := (1 : Int), d := (4 : Int) : Ed } :: @List.nil Ed : NewX }),
⟨(by (try dsimp only at *); grind),
(by (try dsimp only at *); rfl)⟩,
⟨rfl,
⟨rfl,
(by (try dsimp only at *); grind)⟩,trivial⟩,
⟨⟨⟨(by (try dsimp only at *); grind)⟩,
(by (try dsimp only at *); exact ⟨fun r hr => by have hr : r < 1 := hr; rcases (show r = 0 by omega) with h; subst h; exact ⟨rfl, rfl, rfl, trivial⟩⟩)⟩,trivial⟩,
fun g4 => have h4 := of_decide_eq_false g4; ⟨⟨⟨trivial,trivial⟩,trivial⟩,
⟨⟨trivial,trivial⟩,
⟨trivial,trivial⟩,trivial⟩,
⟨⟨trivial,trivial⟩,trivial⟩,
⟨⟨trivial,trivial⟩,trivial⟩,
⟨⟨trivial,trivial,trivial,
(by (try dsimp only at *); omega),trivial,trivial,trivial,trivial,trivial,trivial,trivial⟩,
⟨trivial,trivial,trivial,
(by (try dsimp only at *); omega),trivial,trivial,trivial,trivial,trivial,trivial,trivial⟩,trivial⟩,
({ g := eG, ts := (4 : Int) :: @List.nil Int, l := eX :: eY :: @List.nil Inc, near := (4 : Int), win := (5 : Int) : PSx }),
(by (try dsimp only at *); exact ⟨eG_ok, by decide, by decide, by decide⟩),
⟨⟨rfl,rfl⟩,
⟨rfl,
(by (try dsimp only at *); grind)⟩,
⟨rfl,
(by (try dsimp only at *); grind)⟩,rfl,rfl,trivial⟩,
⟨⟨⟨Nat.le_refl _⟩,
(by (try dsimp only at *); exact RowsEq.rfl')⟩,
⟨⟨(by (try dsimp only at *); grind)⟩,
(by (try dsimp only at *); exact ⟨fun r hr => by have hr : r < 1 := hr; rcases (show r = 0 by omega) with h; subst h; exact ⟨rfl, trivial⟩⟩)⟩,
⟨⟨(by (try dsimp only at *); grind)⟩,
(by (try dsimp only at *); exact ⟨fun r hr => by have hr : r < 2 := hr; rcases (show r = 0 ∨ r = 1 by omega) with h | h <;> subst h <;> exact ⟨rfl, rfl, rfl, sl1 _, rfl, rfl, nilEq _ _, nilEq _ _, rfl, rfl, trivial⟩⟩)⟩,trivial⟩,
({ a := { data := List.toArray ((102 : UInt8) :: (105 : UInt8) :: (114 : UInt8) :: (101 : UInt8) :: (45 : UInt8) :: (104 : UInt8) :: (111 : UInt8) :: (117 : UInt8) :: (115 : UInt8) :: (101 : UInt8) :: @List.nil UInt8) : ByteArray }, b := { data := List.toArray ((102 : UInt8) :: (105 : UInt8) :: (114 : UInt8) :: (101 : UInt8) :: (45 : UInt8) :: (99 : UInt8) :: (97 : UInt8) :: (114 : UInt8) :: @List.nil UInt8) : ByteArray } : SSx }),
⟨(by (try dsimp only at *); decide),
(by (try dsimp only at *); decide)⟩,
⟨rfl,rfl,trivial⟩,trivial,
fun h7 => ⟨({ a := { data := List.toArray ((102 : UInt8) :: (105 : UInt8) :: (114 : UInt8) :: (101 : UInt8) :: @List.nil UInt8) : ByteArray }, b := { data := List.toArray ((102 : UInt8) :: (97 : UInt8) :: (108 : UInt8) :: (108 : UInt8) :: @List.nil UInt8) : ByteArray } : SSx }),
⟨(by (try dsimp only at *); decide),
(by (try dsimp only at *); decide)⟩,
⟨rfl,rfl,trivial⟩,trivial,
fun h9 => ⟨({ a := { data := List.toArray ((117 : UInt8) :: (110 : UInt8) :: (107 : UInt8) :: (110 : UInt8) :: (111 : UInt8) :: (119 : UInt8) :: (110 : UInt8) :: @List.nil UInt8) : ByteArray }, b := { data := List.toArray ((102 : UInt8) :: (97 : UInt8) :: (108 : UInt8) :: (108 : UInt8) :: @List.nil UInt8) : ByteArray } : SSx }),
⟨(by (try dsimp only at *); decide),
(by (try dsimp only at *); decide)⟩,
⟨rfl,rfl,trivial⟩,trivial,
fun h11 => ⟨⟨⟨trivial,trivial⟩,trivial⟩,
⟨⟨trivial,trivial⟩,trivial⟩,
⟨⟨trivial,trivial⟩,
⟨trivial,trivial⟩,trivial⟩,
({ g := eG, ts := (4 : Int) :: @List.nil Int, a := (1 : Int) :: @List.nil Int, b := (0 : Int) :: (2 : Int) :: @List.nil Int : GAx }),
(by (try dsimp only at *); exact ⟨eG_ok, by decide, by decide, by decide⟩),
⟨⟨rfl,rfl⟩,
⟨rfl,
(by (try dsimp only at *); grind)⟩,
⟨rfl,
(by (try dsimp only at *); grind)⟩,
⟨rfl,
(by (try dsimp only at *); grind)⟩,trivial⟩,
⟨⟨⟨Nat.le_refl _⟩,
(by (try dsimp only at *); exact RowsEq.rfl')⟩,
⟨⟨(by (try dsimp only at *); grind)⟩,
(by (try dsimp only at *); exact ⟨fun r hr => by have hr : r < 1 := hr; rcases (show r = 0 by omega) with h; subst h; exact ⟨rfl, trivial⟩⟩)⟩,
⟨⟨(by (try dsimp only at *); grind)⟩,
(by (try dsimp only at *); exact ⟨fun r hr => by have hr : r < 1 := hr; rcases (show r = 0 by omega) with h; subst h; exact ⟨rfl, trivial⟩⟩)⟩,
⟨⟨(by (try dsimp only at *); grind)⟩,
(by (try dsimp only at *); exact ⟨fun r hr => by have hr : r < 2 := hr; rcases (show r = 0 ∨ r = 1 by omega) with h | h <;> subst h <;> exact ⟨rfl, trivial⟩⟩)⟩,trivial⟩,
fun g13 => have h13 := of_decide_eq_true g13; ⟨⟨⟨trivial,trivial⟩,trivial⟩,
⟨⟨trivial,trivial⟩,
⟨trivial,trivial⟩,trivial⟩,
({ g := eG, ts := @List.nil Int, a := (1 : Int) :: @List.nil Int, b := (0 : Int) :: (2 : Int) :: @List.nil Int : GAx }),
(by (try dsimp only at *); exact ⟨eG_ok, by decide, by decide, by decide⟩),
⟨⟨rfl,rfl⟩,
⟨trivial,rfl,
(by (try dsimp only at *); grind)⟩,
⟨rfl,
(by (try dsimp only at *); grind)⟩,
⟨rfl,
(by (try dsimp only at *); grind)⟩,trivial⟩,
⟨⟨⟨Nat.le_refl _⟩,
(by (try dsimp only at *); exact RowsEq.rfl')⟩,
(by (try dsimp only at *); grind),
⟨⟨(by (try dsimp only at *); grind)⟩,
(by (try dsimp only at *); exact ⟨fun r hr => by have hr : r < 1 := hr; rcases (show r = 0 by omega) with h; subst h; exact ⟨rfl, trivial⟩⟩)⟩,
⟨⟨(by (try dsimp only at *); grind)⟩,
(by (try dsimp only at *); exact ⟨fun r hr => by have hr : r < 2 := hr; rcases (show r = 0 ∨ r = 1 by omega) with h | h <;> subst h <;> exact ⟨rfl, trivial⟩⟩)⟩,trivial⟩,
fun g15 => have h15 := of_decide_eq_true g15; ⟨⟨⟨trivial,trivial⟩,trivial⟩,
({ g := eG, ts := (4 : Int) :: @List.nil Int, x := eX, t := eC, near := (4 : Int), win := (5 : Int) : SIx }),
(by (try dsimp only at *); exact ⟨eG_ok, by decide, by decide, by decide, by decide, by decide⟩),
⟨⟨rfl,rfl⟩,
⟨rfl,
(by (try dsimp only at *); grind)⟩,
⟨(by (try dsimp only at *); rfl),
(by (try dsimp only at *); rfl),
(by (try dsimp only at *); rfl),
⟨rfl,
(by (try dsimp only at *); rfl)⟩,
(by (try dsimp only at *); rfl),
(by (try dsimp only at *); rfl),
⟨trivial,rfl,
(by (try dsimp only at *); rfl)⟩,
⟨trivial,rfl,
(by (try dsimp only at *); rfl)⟩,
(by (try dsimp only at *); rfl),
(by (try dsimp only at *); assumption),trivial⟩,
⟨(by (try dsimp only at *); rfl),
(by (try dsimp only at *); rfl),
(by (try dsimp only at *); rfl),
(by (try dsimp only at *); rfl),
⟨rfl,
(by (try dsimp only at *); rfl)⟩,
(by (try dsimp only at *); rfl),
(by (try dsimp only at *); rfl),
(by (try dsimp only at *); assumption),trivial⟩,rfl,rfl,trivial⟩,
⟨⟨⟨Nat.le_refl _⟩,
(by (try dsimp only at *); exact RowsEq.rfl')⟩,
⟨⟨(by (try dsimp only at *); grind)⟩,
(by (try dsimp only at *); exact ⟨fun r hr => by have hr : r < 1 := hr; rcases (show r = 0 by omega) with h; subst h; exact ⟨rfl, trivial⟩⟩)⟩,
⟨⟨(by (try dsimp only at *); decide)⟩,
(by (try dsimp only at *); exact ⟨fun r hr => by have hr : r < 1 := hr; rcases (show r = 0 by omega) with h; subst h; exact ⟨rfl, trivial⟩⟩)⟩,
(by (try dsimp only at *); rfl),
(by (try dsimp only at *); rfl),
⟨⟨(by (try dsimp only at *); decide)⟩,
(by (try dsimp only at *); exact ⟨fun r hr => by have hr : r < 2 := hr; rcases (show r = 0 ∨ r = 1 by omega) with h | h <;> subst h <;> exact ⟨rfl, trivial⟩⟩)⟩,trivial⟩,
fun h17 => ⟨⟨⟨trivial,trivial⟩,trivial⟩,
({ g := eG, ts := (4 : Int) :: @List.nil Int, x := eX, t := eC, near := (3 : Int), win := (5 : Int) : SIx }),
(by (try dsimp only at *); exact ⟨eG_ok, by decide, by decide, by decide, by decide, by decide⟩),
⟨⟨rfl,rfl⟩,
⟨rfl,
(by (try dsimp only at *); grind)⟩,
⟨(by (try dsimp only at *); rfl),
(by (try dsimp only at *); rfl),
(by (try dsimp only at *); rfl),
⟨rfl,
(by (try dsimp only at *); rfl)⟩,
(by (try dsimp only at *); rfl),
(by (try dsimp only at *); rfl),
⟨trivial,rfl,
(by (try dsimp only at *); rfl)⟩,
⟨trivial,rfl,
(by (try dsimp only at *); rfl)⟩,
(by (try dsimp only at *); rfl),
(by (try dsimp only at *); assumption),trivial⟩,
⟨(by (try dsimp only at *); rfl),
(by (try dsimp only at *); rfl),
(by (try dsimp only at *); rfl),
(by (try dsimp only at *); rfl),
⟨rfl,
(by (try dsimp only at *); rfl)⟩,
(by (try dsimp only at *); rfl),
(by (try dsimp only at *); rfl),
(by (try dsimp only at *); assumption),trivial⟩,rfl,rfl,trivial⟩,
⟨⟨⟨Nat.le_refl _⟩,
(by (try dsimp only at *); exact RowsEq.rfl')⟩,
⟨⟨(by (try dsimp only at *); grind)⟩,
(by (try dsimp only at *); exact ⟨fun r hr => by have hr : r < 1 := hr; rcases (show r = 0 by omega) with h; subst h; exact ⟨rfl, trivial⟩⟩)⟩,
⟨⟨(by (try dsimp only at *); decide)⟩,
(by (try dsimp only at *); exact ⟨fun r hr => by have hr : r < 1 := hr; rcases (show r = 0 by omega) with h; subst h; exact ⟨rfl, trivial⟩⟩)⟩,
(by (try dsimp only at *); rfl),
(by (try dsimp only at *); rfl),
⟨⟨(by (try dsimp only at *); decide)⟩,
(by (try dsimp only at *); exact ⟨fun r hr => by have hr : r < 2 := hr; rcases (show r = 0 ∨ r = 1 by omega) with h | h <;> subst h <;> exact ⟨rfl, trivial⟩⟩)⟩,trivial⟩,
fun h19 => ⟨⟨⟨trivial,trivial⟩,trivial⟩,
({ g := eG, ts := (4 : Int) :: @List.nil Int, x := eX, t := eC, near := (4 : Int), win := (4 : Int) : SIx }),
(by (try dsimp only at *); exact ⟨eG_ok, by decide, by decide, by decide, by decide, by decide⟩),
⟨⟨rfl,rfl⟩,
⟨rfl,
(by (try dsimp only at *); grind)⟩,
⟨(by (try dsimp only at *); rfl),
(by (try dsimp only at *); rfl),
(by (try dsimp only at *); rfl),
⟨rfl,
(by (try dsimp only at *); rfl)⟩,
(by (try dsimp only at *); rfl),
(by (try dsimp only at *); rfl),
⟨trivial,rfl,
(by (try dsimp only at *); rfl)⟩,
⟨trivial,rfl,
(by (try dsimp only at *); rfl)⟩,
(by (try dsimp only at *); rfl),
(by (try dsimp only at *); assumption),trivial⟩,
⟨(by (try dsimp only at *); rfl),
(by (try dsimp only at *); rfl),
(by (try dsimp only at *); rfl),
(by (try dsimp only at *); rfl),
⟨rfl,
(by (try dsimp only at *); rfl)⟩,
(by (try dsimp only at *); rfl),
(by (try dsimp only at *); rfl),
(by (try dsimp only at *); assumption),trivial⟩,rfl,rfl,trivial⟩,
⟨⟨⟨Nat.le_refl _⟩,
(by (try dsimp only at *); exact RowsEq.rfl')⟩,
⟨⟨(by (try dsimp only at *); grind)⟩,
(by (try dsimp only at *); exact ⟨fun r hr => by have hr : r < 1 := hr; rcases (show r = 0 by omega) with h; subst h; exact ⟨rfl, trivial⟩⟩)⟩,
⟨⟨(by (try dsimp only at *); decide)⟩,
(by (try dsimp only at *); exact ⟨fun r hr => by have hr : r < 1 := hr; rcases (show r = 0 by omega) with h; subst h; exact ⟨rfl, trivial⟩⟩)⟩,
(by (try dsimp only at *); rfl),
(by (try dsimp only at *); rfl),
⟨⟨(by (try dsimp only at *); decide)⟩,
(by (try dsimp only at *); exact ⟨fun r hr => by have hr : r < 2 := hr; rcases (show r = 0 ∨ r = 1 by omega) with h | h <;> subst h <;> exact ⟨rfl, trivial⟩⟩)⟩,trivial⟩,
fun h21 => ⟨⟨⟨trivial,trivial⟩,trivial⟩,
({ g := eG, ts := (4 : Int) :: @List.nil Int, x := eO, t := eC, near := (4 : Int), win := (5 : Int) : SIx }),
(by (try dsimp only at *); exact ⟨eG_ok, by decide, by decide, by decide, by decide, by decide⟩),
⟨⟨rfl,rfl⟩,
⟨rfl,
(by (try dsimp only at *); grind)⟩,
⟨(by (try dsimp only at *); rfl),
(by (try dsimp only at *); rfl),
(by (try dsimp only at *); rfl),
⟨rfl,
(by (try dsimp only at *); rfl)⟩,
(by (try dsimp only at *); rfl),
(by (try dsimp only at *); rfl),
⟨trivial,rfl,
(by (try dsimp only at *); rfl)⟩,
⟨trivial,rfl,
(by (try dsimp only at *); rfl)⟩,
(by (try dsimp only at *); rfl),
(by (try dsimp only at *); assumption),trivial⟩,
⟨(by (try dsimp only at *); rfl),
(by (try dsimp only at *); rfl),
(by (try dsimp only at *); rfl),
(by (try dsimp only at *); rfl),
⟨rfl,
(by (try dsimp only at *); rfl)⟩,
(by (try dsimp only at *); rfl),
(by (try dsimp only at *); rfl),
(by (try dsimp only at *); assumption),trivial⟩,rfl,rfl,trivial⟩,
⟨⟨⟨Nat.le_refl _⟩,
(by (try dsimp only at *); exact RowsEq.rfl')⟩,
⟨⟨(by (try dsimp only at *); grind)⟩,
(by (try dsimp only at *); exact ⟨fun r hr => by have hr : r < 1 := hr; rcases (show r = 0 by omega) with h; subst h; exact ⟨rfl, trivial⟩⟩)⟩,
⟨⟨(by (try dsimp only at *); decide)⟩,
(by (try dsimp only at *); exact ⟨fun r hr => by have hr : r < 1 := hr; rcases (show r = 0 by omega) with h; subst h; exact ⟨rfl, trivial⟩⟩)⟩,
(by (try dsimp only at *); rfl),
(by (try dsimp only at *); rfl),
⟨⟨(by (try dsimp only at *); decide)⟩,
(by (try dsimp only at *); exact ⟨fun r hr => by have hr : r < 2 := hr; rcases (show r = 0 ∨ r = 1 by omega) with h | h <;> subst h <;> exact ⟨rfl, trivial⟩⟩)⟩,trivial⟩,
fun h23 => ⟨⟨⟨trivial,trivial⟩,trivial⟩,
⟨⟨trivial,trivial,trivial,
(by (try dsimp only at *); omega),trivial,trivial,trivial,trivial,trivial,trivial,trivial⟩,
⟨trivial,trivial,trivial,
(by (try dsimp only at *); omega),trivial,trivial,trivial,trivial,trivial,trivial,trivial⟩,trivial⟩,
({ g := eG, ts := (4 : Int) :: @List.nil Int, l := eX :: eY :: @List.nil Inc, t := eC, near := (4 : Int), win := (5 : Int) : LSx }),
(by (try dsimp only at *); exact ⟨eG_ok, by decide, by decide, by decide, by decide, by decide⟩),
⟨⟨rfl,rfl⟩,
⟨rfl,
(by (try dsimp only at *); grind)⟩,
⟨rfl,
(by (try dsimp only at *); grind)⟩,
⟨(by (try dsimp only at *); rfl),
(by (try dsimp only at *); rfl),
(by (try dsimp only at *); rfl),
(by (try dsimp only at *); rfl),
⟨rfl,
(by (try dsimp only at *); rfl)⟩,
(by (try dsimp only at *); rfl),
(by (try dsimp only at *); rfl),
(by (try dsimp only at *); assumption),trivial⟩,rfl,rfl,trivial⟩,
⟨⟨⟨Nat.le_refl _⟩,
(by (try dsimp only at *); exact RowsEq.rfl')⟩,
⟨⟨(by (try dsimp only at *); grind)⟩,
(by (try dsimp only at *); exact ⟨fun r hr => by have hr : r < 1 := hr; rcases (show r = 0 by omega) with h; subst h; exact ⟨rfl, trivial⟩⟩)⟩,
⟨⟨(by (try dsimp only at *); grind)⟩,
(by (try dsimp only at *); exact ⟨fun r hr => by have hr : r < 2 := hr; rcases (show r = 0 ∨ r = 1 by omega) with h | h <;> subst h <;> exact ⟨rfl, rfl, rfl, sl1 _, rfl, rfl, nilEq _ _, nilEq _ _, rfl, rfl, trivial⟩⟩)⟩,
⟨⟨(by (try dsimp only at *); decide)⟩,
(by (try dsimp only at *); exact ⟨fun r hr => by have hr : r < 2 := hr; rcases (show r = 0 ∨ r = 1 by omega) with h | h <;> subst h <;> exact ⟨rfl, trivial⟩⟩)⟩,trivial⟩,
fun g25 => have h25 := of_decide_eq_true g25; ⟨fun g26 => have h26 := of_decide_eq_true g26; ⟨⟨(by (try dsimp only at *); omega),
(by (try dsimp only at *); omega)⟩,
(by (try dsimp only at *); omega),
⟨⟨trivial,trivial⟩,
⟨trivial,trivial⟩,trivial⟩,
(by (try dsimp only at *); decide +kernel),trivial⟩,
fun g27 => have h27 := of_decide_eq_false g27; ⟨(by (try dsimp only at *); exact absurd e_12 (by assumption)),trivial⟩⟩,
fun g28 => have h28 := of_decide_eq_false g28; ⟨(by (try dsimp only at *); exact absurd e_10 (by assumption)),trivial⟩⟩,
fun h29 => ⟨(by (try dsimp only at *); exact absurd ‹(!simB _ _ _ _ _ _) = false› (by decide +kernel)),trivial⟩⟩,
fun h30 => ⟨(by (try dsimp only at *); exact absurd ‹(!simB _ _ _ _ _ _) = false› (by decide +kernel)),trivial⟩⟩,
fun h31 => ⟨(by (try dsimp only at *); exact absurd ‹(!simB _ _ _ _ _ _) = false› (by decide +kernel)),trivial⟩⟩,
fun h32 => ⟨(by (try dsimp only at *); exact absurd ‹simB _ _ _ _ _ _ = false› (by decide +kernel)),trivial⟩⟩,
fun g33 => have h33 := of_decide_eq_false g33; ⟨(by (try dsimp only at *); exact absurd e_5 (by assumption)),trivial⟩⟩,
fun g34 => have h34 := of_decide_eq_false g34; ⟨(by (try dsimp only at *); exact absurd e_4 (by assumption)),trivial⟩⟩,
fun h35 => ⟨(by (try dsimp only at *); exact absurd ‹kin _ _ = false› (by decide +kernel)),trivial⟩⟩,
fun h36 => ⟨(by (try dsimp only at *); exact absurd ‹(!kin _ _) = false› (by decide +kernel)),trivial⟩⟩,
fun h37 => ⟨(by (try dsimp only at *); exact absurd ‹kin _ _ = false› (by decide +kernel)),trivial⟩⟩,
fun g38 => have h38 := of_decide_eq_true g38; ⟨(by (try dsimp only at *); omega),trivial⟩⟩)
theorem awake_good : Good Try.prog 10 awakeC /\ FnOk Try.prog 10 := good_of tok conUl (fn := Try.f10) rfl (by decide +kernel) (fun _ => rfl) awake_keeps
end Go.Sym