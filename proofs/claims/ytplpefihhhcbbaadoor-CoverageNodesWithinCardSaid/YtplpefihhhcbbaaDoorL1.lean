import Derived.Test.YtplpefihhhcbbaaDoorK6
import Derived.Test.YtplpefihhhcbbaaDoorXD
namespace Go.Sym
set_option linter.unusedVariables false
set_option linter.unusedSimpArgs false
open Go.Proofs
set_option maxHeartbeats 4000000
def exE : List Ed := [⟨0, 1, 5⟩, ⟨1, 0, 5⟩, ⟨1, 2, 5⟩, ⟨2, 1, 5⟩]
def exG : Gr := ⟨3, exE⟩
def exU : Un := { (default : Un) with st := 1 }
theorem ex_worst : worstW exG [5, 5, 5, 5] [exU] (allW 3) = (10, 2) := by decide +kernel
theorem ex_bound : boundW ⟨exG, [5, 5, 5, 5], allW 3, 1⟩ = (5, [1]) := by decide +kernel
theorem good_say [Glob] {P : Program} {f : Nat} {ct ct' : CT} (φ : ct'.X -> ct.X) (h : Good P f ct) (hp : ∀ x, ct'.pre x -> ct.pre (φ x)) (ha : ∀ x, ct'.args x = ct.args (φ x)) (h0 : ∀ x, ct'.g0 x = ct.g0 (φ x))
  (h1 : ∀ x, ct'.pre x -> ct.g1 (φ x) = ct'.g1 x) (hr : ∀ x, ct'.pre x -> ∀ ρ v, Den ρ (ct.res (φ x)) v -> Den ρ (ct'.res x) v) (hs : ∀ x, ctSt ct' x = true) : Good P f ct' := by
 intro x hx
 obtain ⟨_, h2⟩ := h (φ x) (hp x hx)
 refine ⟨hs x, fun ρ w vals a b c => ?_⟩
 rw [ha] at b
 rw [h0] at c ⊢
 refine (h2 ρ w vals a b c).mono ?_
 rw [h1 x hx]
 rintro e w' ⟨v, ρ', e1, e2, e3⟩
 exact ⟨v, ρ', e1, hr x hx ρ' v e2, e3⟩
theorem den_q1 {ρ : Env} {l : Nat} {b : SV} {v : Value} (h : Den ρ (.tup [.q l 1, b]) v) : Den ρ (.tup [.p l 0 0, b]) v := by
 simp only [Den, DenL] at h ⊢
 obtain ⟨vs, e1, u, r, e2, e3, e4⟩ := h
 refine ⟨vs, e1, u, r, e2, ?_, e4⟩
 rcases e3 with ⟨q, _⟩ | ⟨pl, _, q1, q2⟩
 ·cases q
 ·exact ⟨pl, q1, q2⟩
theorem den_q0 {ρ : Env} {l : Nat} {b : SV} {v : Value} (h : Den ρ (.tup [.q l 0, b]) v) : Den ρ (.tup [.np, b]) v := by
 simp only [Den, DenL] at h ⊢
 obtain ⟨vs, e1, u, r, e2, e3, e4⟩ := h
 refine ⟨vs, e1, u, r, e2, ?_, e4⟩
 rcases e3 with ⟨_, q⟩ | ⟨pl, q, _⟩
 ·exact q
 ·exact absurd rfl q
def newOkC : CT where
 X := NewX
 pre := fun x => x.es.length <= 1073741824 /\ errN x = 0
 args := newC.args
 g0 := newC.g0
 res := fun x => .tup [.p 1 0 0, .i .i64 0]
 g1 := fun x => [(1, .rows .own kG 1 (encG x.g))]
theorem newOk_good : Good Tryd.prog 30 newOkC /\ FnOk Tryd.prog 30 := by
 refine ⟨good_say (ct := newC) (ct' := newOkC) (fun x => x) new_good.1 (fun x h => h.1) (fun _ => rfl) (fun _ => rfl) (fun x h => ?_) (fun x h ρ v hd => ?_) (fun x => rfl), new_good.2⟩
 ·have e : szN x = 1 := if_pos h.2
  show [(1, Blk.rows .own kG (szN x) (encG x.g))] = _
  rw [e]; rfl
 ·have e : szN x = 1 := if_pos h.2
  have hd : Den ρ (.tup [.q 1 (szN x), .i .i64 (errN x)]) v := hd
  rw [e, h.2] at hd
  exact den_q1 hd
theorem ex_err : errN ⟨3, exE⟩ = 0 := by decide
def wakesC : CT where
 X := Unit
 pre := fun _ => True
 args := fun _ => []
 g0 := fun _ => []
 res := fun _ => .b true
 g1 := fun _ => []
def cfgWk : Cfg := ⟨T, [], [(30, .one newOkC), (19, .one allNC), (13, .one wwaitC), (16, .one cboundC)], noInv, 20, {}⟩
theorem conWk : ConOk Tryd.prog cfgWk := ConL.ok (.cons (ConL.one newOk_good) (.cons (ConL.one all_good) (.cons (ConL.one wwait_good) (.cons (ConL.one cbound_good) .nil))))
theorem exG_ok : GOk exG := gok (x := ⟨3, exE⟩) (by decide) (by decide) (by decide) (by decide)
theorem exY_ok : YXok ⟨exG, [5, 5, 5, 5], [exU], allW 3, 0⟩ := ⟨⟨exG_ok, by decide, by decide, by decide⟩, allW_ok 3⟩
theorem exB_ok : BWok ⟨exG, [5, 5, 5, 5], allW 3, 1⟩ := ⟨exG_ok, by decide, allW_ok 3⟩
set_option maxRecDepth 100000 in
theorem wakes_keeps : Keeps cfgWk Tryd.f10 wakesC noIv := Eq.mp (show ((∀ x1 : Unit, (True -> (((True/\(True/\(True/\True)))/\((True/\(True/\(True/\True)))/\((True/\(True/\(True/\True)))/\((True/\(True/\(True/\True)))/\True))))/\(∃ x3 : NewX, (((x3.es.length <= (1073741824 : Nat))/\(errN x3 = 0))/\((3 = x3.n/\((0=0/\((4 : Nat) = x3.es.length))/\True))/\((((RLe x3.es.length 4)/\(RowsEq [.int .i64, .int .i64, .int .i64] x3.es.length (litRows ((D.i 0 :: D.i 1 :: D.i 5 :: @List.nil D) :: (D.i 1 :: D.i 0 :: D.i 5 :: @List.nil D) :: (D.i 1 :: D.i 2 :: D.i 5 :: @List.nil D) :: (D.i 2 :: D.i 1 :: D.i 5 :: @List.nil D) :: @List.nil (List D))) (encL encE x3.es)))/\True)/\(((decide ((0 : Int) ≠ (0 : Int)) = false)-> (((True/\True)/\((True/\True)/\((True/\True)/\((True/\True)/\True))))/\(((True/\(True/\(True/\(True/\(True/\(True/\(True/\(True/\(True/\(True/\True))))))))))/\True)/\(∃ x5 : Int, (((0 : Int) <= x5)/\((3 = x5/\True)/\(True/\(∃ x6 : YX, ((YXok x6)/\(((0=0 /\ 0=0)/\((0=0/\((4 : Nat) = x6.ts.length))/\((0=0/\((1 : Nat) = x6.us.length))/\(((szW (allW (Int.toNat (min x5 (4096 : Int)))) = szW x6.ws)/\True)/\True))))/\(((RLe 1 1/\(RowsEq [.sl [.int .i64, .int .i64, .int .i64], .sl [.sl [.int .i64]], .sl [.sl [.int .i64]]] 1 (encG (NewX.g x3)) (encG x6.g)))/\(((RLe x6.ts.length 4)/\(RowsEq [.int .i64] x6.ts.length (litRows ((D.i 5 :: @List.nil D) :: (D.i 5 :: @List.nil D) :: (D.i 5 :: @List.nil D) :: (D.i 5 :: @List.nil D) :: @List.nil (List D))) (encL encI x6.ts)))/\(((RLe x6.us.length 1)/\(RowsEq [.int .i64, .int .i64, .int .i64, .int .i64, .int .i64, .int .i64, .int .i64, .int .i64, .int .i64, .int .i64] x6.us.length (litRows ((D.i 0 :: D.i 0 :: D.i 0 :: D.i 1 :: D.i 0 :: D.i 0 :: D.i 0 :: D.i 0 :: D.i 0 :: D.i 0 :: @List.nil D) :: @List.nil (List D))) (encL encU x6.us)))/\(((RLe (szW x6.ws) (szW (allW (Int.toNat (min x5 (4096 : Int))))))/\(RowsEq [.int .u64] (szW x6.ws) (encL encW (allW (Int.toNat (min x5 (4096 : Int))))) (encL encW x6.ws)))/\True))))/\(((True/\True)/\((True/\True)/\((True/\True)/\((True/\True)/\True))))/\(∃ x7 : Int, (((0 : Int) <= x7)/\((3 = x7/\True)/\(True/\(∃ x8 : BWX, ((BWok x8)/\(((0=0 /\ 0=0)/\((0=0/\((4 : Nat) = x8.ts.length))/\(((szW (allW (Int.toNat (min x7 (4096 : Int)))) = szW x8.ws)/\True)/\(1 = x8.u/\True))))/\(((RLe 1 1/\(RowsEq [.sl [.int .i64, .int .i64, .int .i64], .sl [.sl [.int .i64]], .sl [.sl [.int .i64]]] 1 (encG (NewX.g x3)) (encG x8.g)))/\(((RLe x8.ts.length 4)/\(RowsEq [.int .i64] x8.ts.length (litRows ((D.i 5 :: @List.nil D) :: (D.i 5 :: @List.nil D) :: (D.i 5 :: @List.nil D) :: (D.i 5 :: @List.nil D) :: @List.nil (List D))) (encL encI x8.ts)))/\(((RLe (szW x8.ws) (szW (allW (Int.toNat (min x7 (4096 : Int))))))/\(RowsEq [.int .u64] (szW x8.ws) (encL encW (allW (Int.toNat (min x7 (4096 : Int))))) (encL encW x8.ws)))/\True)))/\(((decide (Prod.fst (worstW x6.g x6.ts x6.us x6.ws) = (10 : Int)) = true)-> (((decide (Prod.snd (worstW x6.g x6.ts x6.us x6.ws) = (2 : Int)) = true)-> (((decide (Prod.fst (boundW x8) = (5 : Int)) = true)-> (((decide ((↑(Prod.snd (boundW x8)).length : Int) = 1) = true)-> ((((0 : Int) <= (0 : Int))/\(0 < (↑(Prod.snd (boundW x8)).length : Int)))/\((0 + Int.toNat 0 < (Prod.snd (boundW x8)).length)/\((decide ((Prod.snd (boundW x8)).getD (0 + Int.toNat (0 : Int)) default = 1) = true)/\True))))/\((decide ((↑(Prod.snd (boundW x8)).length : Int) = 1) = false)-> (false = true/\True))))/\((decide (Prod.fst (boundW x8) = (5 : Int)) = false)-> (false = true/\True))))/\((decide (Prod.snd (worstW x6.g x6.ts x6.us x6.ws) = (2 : Int)) = false)-> (false = true/\True))))/\((decide (Prod.fst (worstW x6.g x6.ts x6.us x6.ws) = (10 : Int)) = false)-> (false = true/\True)))))))))))))))))))))))/\((decide ((0 : Int) ≠ (0 : Int)) = true)-> (false = true/\True))))))))))) = (Keeps cfgWk Tryd.f10 wakesC noIv) by kernel_rfl) (fun x1 => fun h2 => ⟨⟨⟨trivial,trivial,trivial,trivial⟩,
⟨trivial,trivial,trivial,trivial⟩,
⟨trivial,trivial,trivial,trivial⟩,
⟨trivial,trivial,trivial,trivial⟩,trivial⟩,
({ n := (3 : Int), es := exE : NewX }),
⟨(by (try dsimp only at *); decide),
(by (try dsimp only at *); rfl)⟩,
⟨rfl,
⟨rfl,
(by (try dsimp only at *); rfl)⟩,trivial⟩,
⟨⟨⟨(by (try dsimp only at *); decide)⟩,
(by (try dsimp only at *); exact ⟨fun r hr => by have hr : r < 4 := hr; rcases (show r = 0 ∨ r = 1 ∨ r = 2 ∨ r = 3 by omega) with h | h | h | h <;> subst h <;> exact ⟨rfl, rfl, rfl, trivial⟩⟩)⟩,trivial⟩,
fun g4 => have h4 := of_decide_eq_false g4; ⟨⟨⟨trivial,trivial⟩,
⟨trivial,trivial⟩,
⟨trivial,trivial⟩,
⟨trivial,trivial⟩,trivial⟩,
⟨⟨trivial,trivial,trivial,trivial,trivial,trivial,trivial,trivial,trivial,trivial,trivial⟩,trivial⟩,
((3 : Int)),
(by (try dsimp only at *); omega),
⟨rfl,trivial⟩,trivial,
({ g := exG, ts := (5 : Int) :: (5 : Int) :: (5 : Int) :: (5 : Int) :: @List.nil Int, us := exU :: @List.nil Un, ws := allW (3 : Nat), t := (0 : Int) : YX }),
(by (try dsimp only at *); exact exY_ok),
⟨⟨rfl,rfl⟩,
⟨rfl,
(by (try dsimp only at *); grind)⟩,
⟨rfl,
(by (try dsimp only at *); grind)⟩,
⟨(by (try dsimp only at *); grind),trivial⟩,trivial⟩,
⟨⟨⟨Nat.le_refl _⟩,
(by (try dsimp only at *); exact RowsEq.rfl')⟩,
⟨⟨(by (try dsimp only at *); grind)⟩,
(by (try dsimp only at *); exact ⟨fun r hr => by have hr : r < 4 := hr; rcases (show r = 0 ∨ r = 1 ∨ r = 2 ∨ r = 3 by omega) with h | h | h | h <;> subst h <;> exact ⟨rfl, trivial⟩⟩)⟩,
⟨⟨(by (try dsimp only at *); grind)⟩,
(by (try dsimp only at *); exact ⟨fun r hr => by have hr : r < 1 := hr; rcases (show r = 0 by omega) with h; subst h; exact ⟨rfl, rfl, rfl, rfl, rfl, rfl, rfl, rfl, rfl, rfl, trivial⟩⟩)⟩,
⟨⟨(by (try dsimp only at *); grind)⟩,
(by (try dsimp only at *); exact RowsEq.rfl')⟩,trivial⟩,
⟨⟨trivial,trivial⟩,
⟨trivial,trivial⟩,
⟨trivial,trivial⟩,
⟨trivial,trivial⟩,trivial⟩,
((3 : Int)),
(by (try dsimp only at *); omega),
⟨rfl,trivial⟩,trivial,
({ g := exG, ts := (5 : Int) :: (5 : Int) :: (5 : Int) :: (5 : Int) :: @List.nil Int, ws := allW (3 : Nat), u := (1 : Int) : BWX }),
(by (try dsimp only at *); exact exB_ok),
⟨⟨rfl,rfl⟩,
⟨rfl,
(by (try dsimp only at *); grind)⟩,
⟨(by (try dsimp only at *); grind),trivial⟩,rfl,trivial⟩,
⟨⟨⟨Nat.le_refl _⟩,
(by (try dsimp only at *); exact RowsEq.rfl')⟩,
⟨⟨(by (try dsimp only at *); grind)⟩,
(by (try dsimp only at *); exact ⟨fun r hr => by have hr : r < 4 := hr; rcases (show r = 0 ∨ r = 1 ∨ r = 2 ∨ r = 3 by omega) with h | h | h | h <;> subst h <;> exact ⟨rfl, trivial⟩⟩)⟩,
⟨⟨(by (try dsimp only at *); grind)⟩,
(by (try dsimp only at *); exact RowsEq.rfl')⟩,trivial⟩,
fun g9 => have h9 := of_decide_eq_true g9; ⟨fun g10 => have h10 := of_decide_eq_true g10; ⟨fun g11 => have h11 := of_decide_eq_true g11; ⟨fun g12 => have h12 := of_decide_eq_true g12; ⟨⟨(by (try dsimp only at *); omega),
(by (try dsimp only at *); omega)⟩,
(by (try dsimp only at *); omega),
(by (try dsimp only at *); (simp only [ex_bound]; decide)),trivial⟩,
fun g13 => have h13 := of_decide_eq_false g13; ⟨(by (try dsimp only at *); (exfalso; simp [ex_worst, ex_bound] at *)),trivial⟩⟩,
fun g14 => have h14 := of_decide_eq_false g14; ⟨(by (try dsimp only at *); (exfalso; simp [ex_worst, ex_bound] at *)),trivial⟩⟩,
fun g15 => have h15 := of_decide_eq_false g15; ⟨(by (try dsimp only at *); (exfalso; simp [ex_worst, ex_bound] at *)),trivial⟩⟩,
fun g16 => have h16 := of_decide_eq_false g16; ⟨(by (try dsimp only at *); (exfalso; simp [ex_worst, ex_bound] at *)),trivial⟩⟩,
fun g17 => have h17 := of_decide_eq_true g17; ⟨(by (try dsimp only at *); omega),trivial⟩⟩)
theorem wakes_good : Good Tryd.prog 10 wakesC /\ FnOk Tryd.prog 10 := good_of tok conWk (fn := Tryd.f10) rfl (by decide +kernel) (fun _ => rfl) wakes_keeps
structure CaX where
 n : Int
 es : List Ed
 ts : List Int
 us : List Un
def netOk (x : CaX) : Bool := rightB ⟨x.n, x.es⟩ && decide (x.ts.length <= 60 /\ x.us.length <= 12)
def netSz (x : CaX) : Nat := if netOk x = true then 1 else 0
def caseA (x : CaX) : SV := .agg [.i .i64 x.n, .sl 100000 0 x.es.length, .sl 100001 0 x.ts.length, .sl 100002 0 x.us.length]
def caseH (x : CaX) : List (Nat × Blk) := [(100000, .rows .bor kE x.es.length (encL encE x.es)), (100001, .rows .bor k1 x.ts.length (encL encI x.ts)), (100002, .rows .bor kU x.us.length (encL encU x.us))]
def netC : CT where
 X := CaX
 pre := fun x => True
 args := fun x => [caseA x]
 g0 := caseH
 res := fun x => .tup [.q 1 (netSz x), .b (netOk x)]
 g1 := fun x => [(1, .rows .own kG (netSz x) (encG ⟨x.n.toNat, x.es⟩))]
def cfgNt : Cfg := ⟨T, [], [(31, .one rightC), (30, .one newC)], noInv, 20, {}⟩
theorem conNt : ConOk Tryd.prog cfgNt := ConL.ok (.cons (ConL.one right_good) (.cons (ConL.one new_good) .nil))
theorem right_err {x : NewX} (h : rightB x = true) : errN x = 0 := by
 unfold rightB at h
 rw [Bool.and_eq_true] at h
 have := of_decide_eq_true h.1
 exact err_ok (by omega) (by omega) (by omega) h.2
set_option maxRecDepth 100000 in
theorem net_keeps : Keeps cfgNt Tryd.f11 netC noIv := Eq.mp (show ((∀ x1 : CaX, (True -> (∃ x3 : NewX, (True/\(((x1.n = x3.n/\((0=0 /\ x1.es.length = x3.es.length)/\True))/\True)/\((((RLe x3.es.length x1.es.length)/\(RowsEq [.int .i64, .int .i64, .int .i64] x3.es.length (encL encE x1.es) (encL encE x3.es)))/\True)/\((((!rightB x3) = false)-> (((decide (60 < (x1.ts.length : Int)) = false)-> (((decide (12 < (x1.us.length : Int)) = true)-> (((netSz x1 = (0 : Nat))/\((false = netOk x1)/\True))/\((netSz x1 = (0 : Nat))/\True)))/\((decide (12 < (x1.us.length : Int)) = false)-> (∃ x8 : NewX, ((x8.es.length <= (1073741824 : Nat))/\((x1.n = x8.n/\((0=0 /\ x1.es.length = x8.es.length)/\True))/\((((RLe x8.es.length x1.es.length)/\(RowsEq [.int .i64, .int .i64, .int .i64] x8.es.length (encL encE x1.es) (encL encE x8.es)))/\True)/\(((decide (errN x8 = 0) = true)-> (((szN x8 = netSz x1)/\(((!decide (szN x8 = (0 : Nat))) = netOk x1)/\True))/\(((RLe (netSz x1) (szN x8))/\(RowsEq [.sl [.int .i64, .int .i64, .int .i64], .sl [.sl [.int .i64]], .sl [.sl [.int .i64]]] (netSz x1) (encG (NewX.g x8)) (encG (Gr.mk (Int.toNat x1.n) x1.es))))/\True)))/\((decide (errN x8 = 0) = false)-> (((szN x8 = netSz x1)/\((false = netOk x1)/\True))/\(((RLe (netSz x1) (szN x8))/\(RowsEq [.sl [.int .i64, .int .i64, .int .i64], .sl [.sl [.int .i64]], .sl [.sl [.int .i64]]] (netSz x1) (encG (NewX.g x8)) (encG (Gr.mk (Int.toNat x1.n) x1.es))))/\True)))))))))))/\((decide (60 < (x1.ts.length : Int)) = true)-> (((netSz x1 = (0 : Nat))/\((false = netOk x1)/\True))/\((netSz x1 = (0 : Nat))/\True)))))/\(((!rightB x3) = true)-> (((netSz x1 = (0 : Nat))/\((false = netOk x1)/\True))/\((netSz x1 = (0 : Nat))/\True))))))))))) = (Keeps cfgNt Tryd.f11 netC noIv) by kernel_rfl) (fun x1 => fun h2 => ⟨({ n := CaX.n x1, es := CaX.es x1 : NewX }),trivial,
⟨⟨rfl,
⟨rfl,rfl⟩,trivial⟩,trivial⟩,
⟨⟨⟨Nat.le_refl _⟩,RowsEq.rfl'⟩,trivial⟩,
fun h4 => ⟨fun g5 => have h5 := of_decide_eq_false g5; ⟨fun g6 => have h6 := of_decide_eq_true g6; ⟨⟨(by (try dsimp only at *); (have e : netOk x1 = false := (by unfold netOk; rw [Bool.and_eq_false_iff]; first | exact .inr (decide_eq_false (by omega)) | exact .inl (by simpa using h12)); first | exact e.symm | (unfold netSz; rw [e]; rfl) | (show netSz x1 <= _; unfold netSz; rw [e]; decide))),
(by (try dsimp only at *); (have e : netOk x1 = false := (by unfold netOk; rw [Bool.and_eq_false_iff]; first | exact .inr (decide_eq_false (by omega)) | exact .inl (by simpa using h12)); first | exact e.symm | (unfold netSz; rw [e]; rfl) | (show netSz x1 <= _; unfold netSz; rw [e]; decide))),trivial⟩,
(by (try dsimp only at *); (have e : netOk x1 = false := (by unfold netOk; rw [Bool.and_eq_false_iff]; first | exact .inr (decide_eq_false (by omega)) | exact .inl (by simpa using h12)); first | exact e.symm | (unfold netSz; rw [e]; rfl) | (show netSz x1 <= _; unfold netSz; rw [e]; decide))),trivial⟩,
fun g7 => have h7 := of_decide_eq_false g7; ⟨({ n := CaX.n x1, es := CaX.es x1 : NewX }),
(by (try dsimp only at *); (have q := of_decide_eq_true (Bool.and_eq_true _ _ ▸ (show rightB ⟨x1.n, x1.es⟩ = true by simpa using h4)).1; simp only at q; omega)),
⟨rfl,
⟨rfl,rfl⟩,trivial⟩,
⟨⟨⟨Nat.le_refl _⟩,RowsEq.rfl'⟩,trivial⟩,
fun g9 => have h9 := of_decide_eq_true g9; ⟨⟨(by (try dsimp only at *); ((have e : netOk x1 = true := (by unfold netOk; rw [Bool.and_eq_true]; exact ⟨by simpa using h4, decide_eq_true (by omega)⟩)); have e2 : netSz x1 = 1 := (if_pos e); have e3 : szN { n := x1.n, es := x1.es } = 1 := (if_pos h9); first | (rw [e2, e3]; done) | (rw [e2, e3]; exact Nat.le_refl _) | (rw [e, e3]; rfl))),
(by (try dsimp only at *); ((have e : netOk x1 = true := (by unfold netOk; rw [Bool.and_eq_true]; exact ⟨by simpa using h4, decide_eq_true (by omega)⟩)); have e2 : netSz x1 = 1 := (if_pos e); have e3 : szN { n := x1.n, es := x1.es } = 1 := (if_pos h9); first | (rw [e2, e3]; done) | (rw [e2, e3]; exact Nat.le_refl _) | (rw [e, e3]; rfl))),trivial⟩,
⟨⟨(by (try dsimp only at *); ((have e : netOk x1 = true := (by unfold netOk; rw [Bool.and_eq_true]; exact ⟨by simpa using h4, decide_eq_true (by omega)⟩)); have e2 : netSz x1 = 1 := (if_pos e); have e3 : szN { n := x1.n, es := x1.es } = 1 := (if_pos h9); first | (rw [e2, e3]; done) | (rw [e2, e3]; exact Nat.le_refl _) | (rw [e, e3]; rfl)))⟩,
(by (try dsimp only at *); exact RowsEq.rfl')⟩,trivial⟩,
fun g10 => have h10 := of_decide_eq_false g10; ⟨⟨(by (try dsimp only at *); exact absurd (right_err (x := NewX.mk x1.n x1.es) (by simpa using h4)) h10),
(by (try dsimp only at *); exact absurd (right_err (x := NewX.mk x1.n x1.es) (by simpa using h4)) h10),trivial⟩,
⟨⟨(by (try dsimp only at *); exact absurd (right_err (x := NewX.mk x1.n x1.es) (by simpa using h4)) h10)⟩,
(by (try dsimp only at *); exact RowsEq.rfl')⟩,trivial⟩⟩⟩,
fun g11 => have h11 := of_decide_eq_true g11; ⟨⟨(by (try dsimp only at *); (have e : netOk x1 = false := (by unfold netOk; rw [Bool.and_eq_false_iff]; first | exact .inr (decide_eq_false (by omega)) | exact .inl (by simpa using h12)); first | exact e.symm | (unfold netSz; rw [e]; rfl) | (show netSz x1 <= _; unfold netSz; rw [e]; decide))),
(by (try dsimp only at *); (have e : netOk x1 = false := (by unfold netOk; rw [Bool.and_eq_false_iff]; first | exact .inr (decide_eq_false (by omega)) | exact .inl (by simpa using h12)); first | exact e.symm | (unfold netSz; rw [e]; rfl) | (show netSz x1 <= _; unfold netSz; rw [e]; decide))),trivial⟩,
(by (try dsimp only at *); (have e : netOk x1 = false := (by unfold netOk; rw [Bool.and_eq_false_iff]; first | exact .inr (decide_eq_false (by omega)) | exact .inl (by simpa using h12)); first | exact e.symm | (unfold netSz; rw [e]; rfl) | (show netSz x1 <= _; unfold netSz; rw [e]; decide))),trivial⟩⟩,
fun h12 => ⟨⟨(by (try dsimp only at *); (have e : netOk x1 = false := (by unfold netOk; rw [Bool.and_eq_false_iff]; first | exact .inr (decide_eq_false (by omega)) | exact .inl (by simpa using h12)); first | exact e.symm | (unfold netSz; rw [e]; rfl) | (show netSz x1 <= _; unfold netSz; rw [e]; decide))),
(by (try dsimp only at *); (have e : netOk x1 = false := (by unfold netOk; rw [Bool.and_eq_false_iff]; first | exact .inr (decide_eq_false (by omega)) | exact .inl (by simpa using h12)); first | exact e.symm | (unfold netSz; rw [e]; rfl) | (show netSz x1 <= _; unfold netSz; rw [e]; decide))),trivial⟩,
(by (try dsimp only at *); (have e : netOk x1 = false := (by unfold netOk; rw [Bool.and_eq_false_iff]; first | exact .inr (decide_eq_false (by omega)) | exact .inl (by simpa using h12)); first | exact e.symm | (unfold netSz; rw [e]; rfl) | (show netSz x1 <= _; unfold netSz; rw [e]; decide))),trivial⟩⟩)
theorem net_good : Good Tryd.prog 11 netC /\ FnOk Tryd.prog 11 := good_of tok conNt (fn := Tryd.f11) rfl (by decide +kernel) (fun _ => rfl) net_keeps
def netYesC : CT where
 X := CaX
 pre := fun x => netOk x = true
 args := fun x => [caseA x]
 g0 := caseH
 res := fun x => .tup [.p 1 0 0, .bt true]
 g1 := fun x => [(1, .rows .own kG 1 (encG ⟨x.n.toNat, x.es⟩))]
def netNoC : CT where
 X := CaX
 pre := fun x => netOk x = false
 args := fun x => [caseA x]
 g0 := caseH
 res := fun x => .tup [.np, .bt false]
 g1 := fun x => [(1, .rows .own kG 0 (encG ⟨x.n.toNat, x.es⟩))]
theorem netYes_good : Good Tryd.prog 11 netYesC /\ FnOk Tryd.prog 11 := by
 refine ⟨good_say (ct := netC) (ct' := netYesC) (fun x => x) net_good.1 (fun x h => trivial) (fun _ => rfl) (fun _ => rfl) (fun x h => ?_) (fun x h ρ v hd => ?_) (fun x => rfl), net_good.2⟩
 ·have e : netSz x = 1 := if_pos h
  show [(1, Blk.rows .own kG (netSz x) (encG ⟨x.n.toNat, x.es⟩))] = _
  rw [e]; rfl
 ·have e : netSz x = 1 := if_pos h
  have hd : Den ρ (.tup [.q 1 (netSz x), .b (netOk x)]) v := hd
  rw [e, show netOk x = _ from h] at hd
  exact den_q1 hd
theorem netNo_good : Good Tryd.prog 11 netNoC /\ FnOk Tryd.prog 11 := by
 refine ⟨good_say (ct := netC) (ct' := netNoC) (fun x => x) net_good.1 (fun x h => trivial) (fun _ => rfl) (fun _ => rfl) (fun x h => ?_) (fun x h ρ v hd => ?_) (fun x => rfl), net_good.2⟩
 ·have e : netSz x = 0 := if_neg (by rw [h]; decide)
  show [(1, Blk.rows .own kG (netSz x) (encG ⟨x.n.toNat, x.es⟩))] = _
  rw [e]; rfl
 ·have e : netSz x = 0 := if_neg (by rw [h]; decide)
  have hd : Den ρ (.tup [.q 1 (netSz x), .b (netOk x)]) v := hd
  rw [e, show netOk x = _ from h] at hd
  exact den_q0 hd
end Go.Sym
namespace Go.Sym
set_option linter.unusedVariables false
set_option linter.unusedSimpArgs false
open Go.Proofs
structure LaX where
 n : Int
 es : List Ed
 ts : List Int
 us : List Un
 of : List Int
 u : Int
 v : Un
def LaX.c (x : LaX) : CaX := ⟨x.n, x.es, x.ts, x.us⟩
def LaX.g (x : LaX) : Gr := ⟨x.n.toNat, x.es⟩
structure LaOk (x : LaX) : Prop where
 g : GOk x.g
 n : x.g.n <= 12
 e : ((x.g.n : Nat) : Int) = x.n
 us : x.us.length <= 12
 ts : x.ts.length <= 60
theorem la_ok {x : LaX} (h : netOk x.c = true) : LaOk x := by
 unfold netOk rightB at h
 rw [Bool.and_eq_true, Bool.and_eq_true] at h
 obtain ⟨⟨a, b⟩, c⟩ := h
 have a : 1 <= x.n /\ x.n <= 12 /\ x.es.length <= 40 := of_decide_eq_true a
 have c : x.ts.length <= 60 /\ x.us.length <= 12 := of_decide_eq_true c
 exact ⟨gok (x := ⟨x.n, x.es⟩) (by show ¬ x.n < 1; omega) (by show ¬ 4096 < x.n; omega) (by show ¬ 16384 < x.es.length; omega) b, by show x.n.toNat <= 12; omega, by show ((x.n.toNat : Nat) : Int) = x.n; omega, c.2, c.1⟩
theorem LaOk.u {x : LaX} (h : LaOk x) {of : List Int} (ho : of.length <= 60) : UXok ⟨x.g, x.ts, x.us, of⟩ := ⟨h.g, h.n, by have := h.us; show x.us.length <= _; omega, by show of.length <= _; omega⟩
theorem LaOk.y {x : LaX} (h : LaOk x) {ws : List Nat} (hw : WOk ws) (t : Int) : YXok ⟨x.g, x.ts, x.us, ws, t⟩ := ⟨h.u (of := []) (Nat.zero_le _), hw⟩
def laA (x : LaX) : List SV := [caseA x.c, .sl 100003 0 x.of.length]
def laH (x : LaX) : List (Nat × Blk) := [(100000, .rows .bor kE x.es.length (encL encE x.es)), (100001, .rows .bor k1 x.ts.length (encL encI x.ts)), (100002, .rows .bor kU x.us.length (encL encU x.us)), (100003, .rows .bor k1 x.of.length (encL encI x.of))]
theorem both_b {P : Program} [Glob] {f : Nat} {X : Type} {pre : X -> Prop} {t : X -> Bool} {a : X -> List SV} {g : X -> List (Nat × Blk)} {r : X -> SV} {g1 : X -> List (Nat × Blk)} (h1 : Good P f ⟨X, fun x => pre x /\ t x = true, a, g, r, g1⟩) (h2 : Good P f ⟨X, fun x => pre x /\ t x = false, a, g, r, g1⟩) :
  Good P f ⟨X, pre, a, g, r, g1⟩ := by
 intro x hx
 cases h : t x with
 | true => exact h1 x ⟨hx, h⟩
 | false => exact h2 x ⟨hx, h⟩
end Go.Sym