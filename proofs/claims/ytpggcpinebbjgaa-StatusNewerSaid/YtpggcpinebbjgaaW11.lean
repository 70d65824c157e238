/- law30: StatusNewer, StatusEmpty: the walks (I): the closures, and what is newer. -/
import Derived.Test.YtpggcpinebbjgaaW10
import Derived.Test.YtpggcpinebbjgaaXD
import Derived.RecoverIn
import Derived.TacticsInMore
namespace Go.Sym
set_option linter.unusedVariables false
set_option linter.unusedSimpArgs false
open Go.Proofs
theorem harm32 : Harmless Try.prog 32 := by
  refine ⟨⟨Try.f32, rfl, by decide +kernel, rfl⟩, fun vals w => callsDIn_of_wpSIn (fn := Try.f32) rfl rfl trivial fun c₀ cs hu => ?_⟩
  have hsz : ∃ tm : Array Value, tm = vals ++ Array.replicate (Try.f32.ntmps - vals.size) undef ∧ 3 ≤ tm.size := ⟨_, rfl, by simp; omega⟩
  obtain ⟨tm, e, h3⟩ := hsz
  rw [← e]
  clear e
  apply wpSIn_seq
  apply wpSIn_region
  simp [wpOpsSIn, go_sem, recoverD, hu, Exit.thenS]
  have h1 : (1 : Nat) < tm.size := by omega
  have h2 : (2 : Nat) < tm.size := by omega
  have g1 : (eqGuard BinOp.neq 20 (Operand.tmp 1) (Operand.const Value.nilIface) Value.nilIface Value.nilIface).run Try.prog w = .ok () w := by with_unfolding_all rfl
  have g2 : (binOp BinOp.neq 20 Value.nilIface Value.nilIface).run Try.prog w = .ok (.bool false) w := by with_unfolding_all rfl
  simp only [h1, if_true, g1, g2, Result.andThen]
  refine wpSIn_cond (t := false) (by simp [Act.eval, h2]) ?_
  simp only [Bool.false_eq_true, if_false]
  refine wpSIn_of_wpIn rfl (wpIn_skip ?_)
  refine ⟨rfl, .returning, ?_, .tuple #[], ?_, ⟨_, rfl⟩, rfl, rfl⟩
  · cases c₀; simp_all
  · simp [results, show Try.f32.results = #[] from rfl, Sem.run_pure]
def k5 : List Kd := [.int .i64, .int .i64, .int .i64, .int .i64, .int .i64]
def encStaD (s : Sta) (c : Nat) : D := encN [.i s.unit, .i s.seq, .i s.state, .i s.node, .i s.epoch] c
def knAt (ks : List Int) (u : Int) : Int := if 0 ≤ u ∧ u < ks.length then ks.getD u.toNat default else 0
/-! The closures. -/
structure KnX where
  y : Ref
  ks : List Int
  u : Int
def refC (y : Ref) (l : Nat) : List SV := [.i .i64 y.units, .i .i64 y.since, .sl l 0 y.news.length]
def knownC : CT where
  X := KnX
  pre := fun x => x.y.news.length ≤ 1000 ∧ x.y.there x.u = true
  args := fun x => [.i .i64 x.u, .p 100000 0 0, .p 100002 0 0, .p 100003 0 0]
  g0 := fun x => [(100000, .one .bor (refC x.y 100001)), (100001, .rows .bor k6 x.y.news.length (encL encCame x.y.news)), (100002, .one .own [.b true]), (100003, .one .bor [.sl 100004 0 x.ks.length]), (100004, .rows .bor k1 x.ks.length (encL encI x.ks))]
  res := fun x => .i .i64 (knAt x.ks x.u)
  g1 := fun x => [(100002, .one .own [.b true])]
def C11 : List (Nat × Con) := [(11, .one lastC), (12, .one rlastC)]
def cfg11 : Cfg := ⟨T, [], C11, noInv, 40, {}⟩
theorem con11 : ConOk Try.prog cfg11 := ConL.ok (.cons (ConL.one last_good) (.cons (ConL.one rlast_good) .nil))
set_option maxRecDepth 100000 in
theorem known_keeps : Keeps cfg11 Try.f21 knownC noIv := Eq.mp (show ((∀ x1 : KnX,
 ((List.length (Ref.news (KnX.y x1)) ≤ (1000 : Nat) ∧ Ref.there (KnX.y x1) (KnX.u x1) = true) →
 (∃ x3 : RefI,
 ((List.length (Ref.news (RefI.y x3)) ≤ (1000 : Nat)) ∧
 ((((Ref.units (KnX.y x1) = Ref.units (RefI.y x3)) ∧
 ((Ref.since (KnX.y x1) = Ref.since (RefI.y x3)) ∧
 ((((0 : Nat) = (0 : Nat)) ∧
 (List.length (Ref.news (KnX.y x1)) = List.length (Ref.news (RefI.y x3)))) ∧
 (True)))) ∧
 ((KnX.u x1 = RefI.u x3) ∧
 (True))) ∧
 ((((RLe (List.length (Ref.news (RefI.y x3))) (List.length (Ref.news (KnX.y x1)))) ∧
 (RowsEq (Kd.int IntKind.i64 :: Kd.int IntKind.i64 :: Kd.int IntKind.i64 :: Kd.int IntKind.i64 :: Kd.int IntKind.i64 :: Kd.int IntKind.i64 :: @List.nil Kd) (List.length (Ref.news (RefI.y x3))) (encL encCame (Ref.news (KnX.y x1))) (encL encCame (Ref.news (RefI.y x3))))) ∧
 (True)) ∧
 ((((!Ref.there (RefI.y x3) (RefI.u x3)) = true) →
 (((decide ((0 : Int) ≤ KnX.u x1) = true) →
 (((decide (KnX.u x1 < (↑(List.length (KnX.ks x1)) : Int)) = true) →
 ((((0 : Int) ≤ KnX.u x1) ∧
 (KnX.u x1 < (↑(List.length (KnX.ks x1)) : Int))) ∧
 (((0 : Nat) + Int.toNat (KnX.u x1) < List.length (KnX.ks x1)) ∧
 ((List.getD (KnX.ks x1) ((0 : Nat) + Int.toNat (KnX.u x1)) default = knAt (KnX.ks x1) (KnX.u x1)) ∧
 (((false = true) ∧
 (True)) ∧
 (True)))))) ∧
 ((decide (KnX.u x1 < (↑(List.length (KnX.ks x1)) : Int)) = false) →
 (((0 : Int) = knAt (KnX.ks x1) (KnX.u x1)) ∧
 (((false = true) ∧
 (True)) ∧
 (True)))))) ∧
 ((decide ((0 : Int) ≤ KnX.u x1) = false) →
 (((0 : Int) = knAt (KnX.ks x1) (KnX.u x1)) ∧
 (((false = true) ∧
 (True)) ∧
 (True)))))) ∧
 (((!Ref.there (RefI.y x3) (RefI.u x3)) = false) →
 (((decide ((0 : Int) ≤ KnX.u x1) = true) →
 (((decide (KnX.u x1 < (↑(List.length (KnX.ks x1)) : Int)) = true) →
 ((((0 : Int) ≤ KnX.u x1) ∧
 (KnX.u x1 < (↑(List.length (KnX.ks x1)) : Int))) ∧
 (((0 : Nat) + Int.toNat (KnX.u x1) < List.length (KnX.ks x1)) ∧
 ((List.getD (KnX.ks x1) ((0 : Nat) + Int.toNat (KnX.u x1)) default = knAt (KnX.ks x1) (KnX.u x1)) ∧
 (((true = true) ∧
 (True)) ∧
 (True)))))) ∧
 ((decide (KnX.u x1 < (↑(List.length (KnX.ks x1)) : Int)) = false) →
 (((0 : Int) = knAt (KnX.ks x1) (KnX.u x1)) ∧
 (((true = true) ∧
 (True)) ∧
 (True)))))) ∧
 ((decide ((0 : Int) ≤ KnX.u x1) = false) →
 (((0 : Int) = knAt (KnX.ks x1) (KnX.u x1)) ∧
 (((true = true) ∧
 (True)) ∧
 (True)))))))))))))) = Keeps cfg11 Try.f21 knownC noIv by kernel_rfl) (fun x1 => fun h2 => ⟨({ y := KnX.y x1, u := KnX.u x1 : RefI }),
 (by (try dsimp only at *); omega),
 ⟨⟨rfl,
 rfl,
 ⟨rfl,
 rfl⟩,
 trivial⟩,
 rfl,
 trivial⟩,
 ⟨⟨⟨Nat.le_refl _⟩,
 RowsEq.rfl'⟩,
 trivial⟩,
 fun h4 => ⟨fun g5 => have h5 := of_decide_eq_true g5; ⟨fun g6 => have h6 := of_decide_eq_true g6; ⟨⟨(by (try dsimp only at *); omega),
 (by (try dsimp only at *); omega)⟩,
 (by (try dsimp only at *); omega),
 (by (try dsimp only at *); grind),
 ⟨(by (try dsimp only at *); grind),
 trivial⟩,
 trivial⟩,
 fun g7 => have h7 := of_decide_eq_false g7; ⟨(by (try dsimp only at *); grind),
 ⟨(by (try dsimp only at *); grind),
 trivial⟩,
 trivial⟩⟩,
 fun g8 => have h8 := of_decide_eq_false g8; ⟨(by (try dsimp only at *); grind),
 ⟨(by (try dsimp only at *); grind),
 trivial⟩,
 trivial⟩⟩,
 fun h9 => ⟨fun g10 => have h10 := of_decide_eq_true g10; ⟨fun g11 => have h11 := of_decide_eq_true g11; ⟨⟨(by (try dsimp only at *); omega),
 (by (try dsimp only at *); omega)⟩,
 (by (try dsimp only at *); omega),
 (by (try dsimp only at *); grind [knAt]),
 ⟨rfl,
 trivial⟩,
 trivial⟩,
 fun g12 => have h12 := of_decide_eq_false g12; ⟨(by (try dsimp only at *); grind [knAt]),
 ⟨rfl,
 trivial⟩,
 trivial⟩⟩,
 fun g13 => have h13 := of_decide_eq_false g13; ⟨(by (try dsimp only at *); grind [knAt]),
 ⟨rfl,
 trivial⟩,
 trivial⟩⟩⟩)

def allKnownC : CT where
  X := BoxI
  pre := fun x => True
  args := fun x => [.i .i64 x.u, .p 100000 0 0]
  g0 := fun x => [(100000, .one .bor [.p 100001 0 0]), (100001, .one .bor [.sl 100002 0 x.b.length]), (100002, .rows .bor k7 x.b.length (encL encRec x.b))]
  res := fun x => .i .i64 (x.b.last x.u).seq
  g1 := fun x => []
set_option maxRecDepth 100000 in
theorem allKnown_keeps : Keeps cfg11 Try.f22 allKnownC noIv := Eq.mp (show ((∀ x1 : BoxI,
 ((True) →
 (∃ x3 : BoxI,
 ((True) ∧
 (((((0 : Nat) = (0 : Nat)) ∧
 ((0 : Nat) = (0 : Nat))) ∧
 ((BoxI.u x1 = BoxI.u x3) ∧
 (True))) ∧
 ((((((0 : Nat) = (0 : Nat)) ∧
 (List.length (BoxI.b x1) = List.length (BoxI.b x3))) ∧
 (True)) ∧
 (((RLe (List.length (BoxI.b x3)) (List.length (BoxI.b x1))) ∧
 (RowsEq (Kd.int IntKind.i64 :: Kd.int IntKind.i64 :: Kd.int IntKind.i64 :: Kd.int IntKind.i64 :: Kd.int IntKind.i64 :: Kd.int IntKind.i64 :: Kd.int IntKind.i64 :: @List.nil Kd) (List.length (BoxI.b x3)) (encL encRec (BoxI.b x1)) (encL encRec (BoxI.b x3)))) ∧
 (True))) ∧
 ((Sta.seq (Box.last (BoxI.b x3) (BoxI.u x3)) = Sta.seq (Box.last (BoxI.b x1) (BoxI.u x1))) ∧
 (True))))))))) = Keeps cfg11 Try.f22 allKnownC noIv by kernel_rfl) (fun x1 => fun h2 => ⟨(x1),
 trivial,
 ⟨⟨rfl,
 rfl⟩,
 rfl,
 trivial⟩,
 ⟨⟨⟨rfl,
 rfl⟩,
 trivial⟩,
 ⟨⟨Nat.le_refl _⟩,
 RowsEq.rfl'⟩,
 trivial⟩,
 rfl,
 trivial⟩)

def minusC : CT where
  X := Int
  pre := fun x => True
  args := fun u => [.i .i64 u]
  g0 := fun x => []
  res := fun x => .i .i64 (-1)
  g1 := fun x => []
set_option maxRecDepth 100000 in
theorem minus_keeps : Keeps cfg11 Try.f25 minusC noIv := Eq.mp (show ((∀ x1 : Int,
 ((True) →
 (((-1 : Int) = (-1 : Int)) ∧
 (True))))) = Keeps cfg11 Try.f25 minusC noIv by kernel_rfl) (fun x1 => fun h2 => ⟨rfl,
 trivial⟩)

theorem known_good : Good Try.prog 21 knownC ∧ FnOk Try.prog 21 := good_of tok con11 (fn := Try.f21) rfl (by decide +kernel) (fun _ => rfl) known_keeps
theorem allKnown_good : Good Try.prog 22 allKnownC ∧ FnOk Try.prog 22 := good_of tok con11 (fn := Try.f22) rfl (by decide +kernel) (fun _ => rfl) allKnown_keeps
theorem minus_good : Good Try.prog 25 minusC ∧ FnOk Try.prog 25 := good_of tok con11 (fn := Try.f25) rfl (by decide +kernel) (fun _ => rfl) minus_keeps
/-! Newer. -/
def newerB (b : Box) (kn : Int → Int) (k : Nat) : List Sta := ((List.range k).filter fun u => decide ((b.getD u default).added ≠ 0) && decide ((b.getD u default).sta.seq > kn u)).map fun u => (b.getD u default).sta
theorem newerB_succ (b : Box) (kn : Int → Int) (k : Nat) : newerB b kn (k + 1) = newerB b kn k ++ if (decide ((b.getD k default).added ≠ 0) && decide ((b.getD k default).sta.seq > kn k)) = true then [(b.getD k default).sta] else [] := by
  unfold newerB
  rw [List.range_succ, List.filter_append, List.map_append]
  congr 1
  by_cases h : (decide ((b.getD k default).added ≠ 0) && decide ((b.getD k default).sta.seq > kn k)) = true
  · simp only [List.filter_cons, List.filter_nil, h, if_true]; rfl
  · simp only [List.filter_cons, List.filter_nil, h, if_false]; rfl
theorem newerB_len (b : Box) (kn : Int → Int) (k : Nat) : (newerB b kn k).length ≤ k := by
  unfold newerB
  have := List.length_filter_le (fun u => decide ((b.getD u default).added ≠ 0) && decide ((b.getD u default).sta.seq > kn u)) (List.range k)
  simpa using this
def newerY (y : Ref) (kn : Int → Int) (k : Nat) : List Sta := ((List.range k).filter fun u : Nat => y.there u && decide ((y.last u).seq > kn u)).map fun u : Nat => y.last u
theorem newerY_succ (y : Ref) (kn : Int → Int) (k : Nat) : newerY y kn (k + 1) = newerY y kn k ++ if (y.there k && decide ((y.last k).seq > kn k)) = true then [y.last k] else [] := by
  unfold newerY
  rw [List.range_succ, List.filter_append, List.map_append]
  congr 1
  by_cases h : (y.there k && decide ((y.last k).seq > kn k)) = true
  · simp only [List.filter_cons, List.filter_nil, h, if_true]; rfl
  · simp only [List.filter_cons, List.filter_nil, h, if_false]; rfl
theorem newerY_len (y : Ref) (kn : Int → Int) (k : Nat) : (newerY y kn k).length ≤ k := by
  unfold newerY
  have := List.length_filter_le (fun u : Nat => y.there u && decide ((y.last u).seq > kn u)) (List.range k)
  simpa using this
theorem Same.lastAt {b : Box} {y : Ref} (h : Same b y) {u : Nat} (hu : u < b.length) : y.there u = decide ((b.getD u default).added ≠ 0) ∧ ((b.getD u default).added ≠ 0 → y.last u = (b.getD u default).sta) := by
  have h1 := h.there u hu
  have h2 := h.sta u hu
  refine ⟨h1.symm, fun ha => ?_⟩
  unfold Ref.last Ref.there
  rw [← h1, if_pos (decide_eq_true ha), ← h2]
theorem Same.newer {b : Box} {y : Ref} (h : Same b y) (kn : Int → Int) : ∀ k : Nat, k ≤ b.length → newerY y kn k = newerB b kn k
  | 0, _ => rfl
  | k + 1, hk => by
    rw [newerY_succ, newerB_succ, h.newer kn k (by omega)]
    obtain ⟨h1, h2⟩ := h.lastAt (u := k) (by omega)
    rw [h1]
    by_cases ha : (b.getD k default).added ≠ 0
    · rw [h2 ha]
    · have e : decide ((b.getD k default).added ≠ 0) = false := by simpa using ha
      rw [e]; rfl
theorem nb_no {b : Box} {kn : Int → Int} {k : Nat} (h : (b.getD (0 + (k : Int).toNat) default).added = 0) : newerB b kn (k + 1) = newerB b kn k := by
  rw [Nat.zero_add, Int.toNat_natCast] at h
  rw [newerB_succ, h]; simp
theorem nb_old {b : Box} {kn : Int → Int} {k : Nat} (h : ¬ kn k < (b.getD (0 + (k : Int).toNat) default).sta.seq) : newerB b kn (k + 1) = newerB b kn k := by
  rw [Nat.zero_add, Int.toNat_natCast] at h
  rw [newerB_succ, if_neg (by simp; intro _; simpa using h)]; simp
theorem nb_new {b : Box} {kn : Int → Int} {k : Nat} (h1 : ¬ (b.getD (0 + (k : Int).toNat) default).added = 0) (h : kn k < (b.getD (0 + (k : Int).toNat) default).sta.seq) : newerB b kn (k + 1) = newerB b kn k ++ [b.getD (0 + (k : Int).toNat) default |>.sta] := by
  rw [Nat.zero_add, Int.toNat_natCast] at *
  rw [newerB_succ, if_pos (by simp only [Bool.and_eq_true, decide_eq_true_eq]; exact ⟨h1, h⟩)]
theorem nb_len {b : Box} {kn : Int → Int} {k : Nat} (h1 : ¬ (b.getD (0 + (k : Int).toNat) default).added = 0) (h : kn k < (b.getD (0 + (k : Int).toNat) default).sta.seq) : (newerB b kn (k + 1)).length = (newerB b kn k).length + 1 := by
  rw [nb_new h1 h]; simp
theorem nb_rows {b : Box} {kn : Int → Int} {k : Nat} (h1 : ¬ (b.getD (0 + (k : Int).toNat) default).added = 0) (h : kn k < (b.getD (0 + (k : Int).toNat) default).sta.seq) :
    RowsEq k5 (newerB b kn (k + 1)).length (appRows (newerB b kn k).length (encL encStaD (newerB b kn k)) 0 (litRows [[D.i (b.getD (0 + (k : Int).toNat) default).sta.unit, D.i (b.getD (0 + (k : Int).toNat) default).sta.seq, D.i (b.getD (0 + (k : Int).toNat) default).sta.state, D.i (b.getD (0 + (k : Int).toNat) default).sta.node, D.i (b.getD (0 + (k : Int).toNat) default).sta.epoch]])) (encL encStaD (newerB b kn (k + 1))) := by
  rw [nb_new h1 h]
  exact rowsEq_push rfl (by simp) (by simp only [rowEq, Kd.eqv, k5]; exact ⟨rfl, rfl, rfl, rfl, rfl, trivial⟩)
theorem nb_there {b : Box} {y : Ref} (h : Same b y) {k : Nat} (hk : (k : Int) < b.length) (h1 : ¬ (b.getD (0 + (k : Int).toNat) default).added = 0) : y.there k = true := by
  rw [Nat.zero_add, Int.toNat_natCast] at h1
  rw [(h.lastAt (by omega)).1]; exact decide_eq_true h1
structure NewrX where
  b : Box
  y : Ref
  ks : List Int
def newerH (b : Box) (kn : Int → Int) (k : Nat) (l : Nat) : List (Nat × Blk) := [(l, .rows .own k5 (newerB b kn k).length (encL encStaD (newerB b kn k)))]
def newer1C : CT where
  X := NewrX
  pre := fun x => Same x.b x.y ∧ x.y.news.length ≤ 1000
  args := fun x => [.p 100000 0 0, .fn 21 [.p 100002 0 0, .p 100004 0 0, .p 100005 0 0]]
  g0 := fun x => boxH .bor x.b ++ [(100002, .one .bor (refC x.y 100003)), (100003, .rows .bor k6 x.y.news.length (encL encCame x.y.news)), (100004, .one .own [.b true]), (100005, .one .bor [.sl 100006 0 x.ks.length]), (100006, .rows .bor k1 x.ks.length (encL encI x.ks))]
  res := fun x => .sl 1 0 (newerB x.b (knAt x.ks) x.b.length).length
  g1 := fun x => newerH x.b (knAt x.ks) x.b.length 1 ++ [(100004, .one .own [.b true])]
def newerI (b : Box) (kn : Int → Int) (more : List (Nat × Blk)) (id : Nat) : Option Inv := match id with
  | 0 => some { X := Nat, ok := fun k => k ≤ b.length, fr := fun k => [(13, .i .i64 k), (4, .p 4 0 0)], hp := fun k => [(4, .one .own [.sl 1 0 (newerB b kn k).length])] ++ newerH b kn k 1 ++ more, me := fun k => b.length - k }
  | _ => none
def newer1I (x : NewrX) : Nat → Option Inv := newerI x.b (knAt x.ks) [(100004, .one .own [.b true])]
def C12 : List (Nat × Con) := [(21, .one knownC), (22, .one allKnownC), (25, .one minusC)]
def cfg12 : Cfg := ⟨T, [], C12, noInv, 45, { harm := [32] }⟩
theorem con12 : ConOk Try.prog cfg12 := ConL.ok (.cons (ConL.one known_good) (.cons (ConL.one allKnown_good) (.cons (ConL.one minus_good) .nil)))
set_option maxRecDepth 100000 in
theorem newer1_keeps : Keeps cfg12 Try.f20 newer1C newer1I := Eq.mp (show ((∀ x1 : NewrX,
 ((Same (NewrX.b x1) (NewrX.y x1) ∧ List.length (Ref.news (NewrX.y x1)) ≤ (1000 : Nat)) →
 (∃ x3 : Nat,
 (((x3 ≤ List.length (NewrX.b x1)) ∧
 ((((0 : Int) = (↑x3 : Int)) ∧
 ((((0 : Nat) = (0 : Nat)) ∧
 ((0 : Nat) = (0 : Nat))) ∧
 (((↑(List.length (NewrX.b x1)) : Int) = (↑(List.length (NewrX.b x1)) : Int)) ∧
 ((((0 : Nat) = (0 : Nat)) ∧
 (List.length (NewrX.b x1) = List.length (NewrX.b x1))) ∧
 ((((0 : Nat) = (0 : Nat)) ∧
 ((0 : Nat) = (0 : Nat))) ∧
 ((((0 : Nat) = (0 : Nat)) ∧
 ((0 : Nat) = (0 : Nat))) ∧
 ((((0 : Nat) = (0 : Nat)) ∧
 ((0 : Nat) = (0 : Nat))) ∧
 (((((0 : Nat) = (0 : Nat)) ∧
 ((0 : Nat) = (0 : Nat))) ∧
 (True)) ∧
 ((((0 : Nat) = (0 : Nat)) ∧
 ((0 : Nat) = (0 : Nat))) ∧
 (((((0 : Nat) = (0 : Nat)) ∧
 ((0 : Nat) = (0 : Nat))) ∧
 ((((0 : Nat) = (0 : Nat)) ∧
 ((0 : Nat) = (0 : Nat))) ∧
 ((((0 : Nat) = (0 : Nat)) ∧
 ((0 : Nat) = (0 : Nat))) ∧
 (True)))) ∧
 (True))))))))))) ∧
 ((((True) ∧
 (((0 : Nat) = (0 : Nat)) ∧
 (List.length (newerB (NewrX.b x1) (knAt (NewrX.ks x1)) x3) = (0 : Nat)))) ∧
 (True)) ∧
 ((List.length (newerB (NewrX.b x1) (knAt (NewrX.ks x1)) x3) = (0 : Nat)) ∧
 (((true = true) ∧
 (True)) ∧
 (((((0 : Nat) = (0 : Nat)) ∧
 (List.length (NewrX.b x1) = List.length (NewrX.b x1))) ∧
 (True)) ∧
 (((RLe (List.length (NewrX.b x1)) (List.length (NewrX.b x1))) ∧
 (RowsEq (Kd.int IntKind.i64 :: Kd.int IntKind.i64 :: Kd.int IntKind.i64 :: Kd.int IntKind.i64 :: Kd.int IntKind.i64 :: Kd.int IntKind.i64 :: Kd.int IntKind.i64 :: @List.nil Kd) (List.length (NewrX.b x1)) (encL encRec (NewrX.b x1)) (encL encRec (NewrX.b x1)))) ∧
 (((Ref.units (NewrX.y x1) = Ref.units (NewrX.y x1)) ∧
 ((Ref.since (NewrX.y x1) = Ref.since (NewrX.y x1)) ∧
 ((((0 : Nat) = (0 : Nat)) ∧
 (List.length (Ref.news (NewrX.y x1)) = List.length (Ref.news (NewrX.y x1)))) ∧
 (True)))) ∧
 (((RLe (List.length (Ref.news (NewrX.y x1))) (List.length (Ref.news (NewrX.y x1)))) ∧
 (RowsEq (Kd.int IntKind.i64 :: Kd.int IntKind.i64 :: Kd.int IntKind.i64 :: Kd.int IntKind.i64 :: Kd.int IntKind.i64 :: Kd.int IntKind.i64 :: @List.nil Kd) (List.length (Ref.news (NewrX.y x1))) (encL encCame (Ref.news (NewrX.y x1))) (encL encCame (Ref.news (NewrX.y x1))))) ∧
 (((((0 : Nat) = (0 : Nat)) ∧
 (List.length (NewrX.ks x1) = List.length (NewrX.ks x1))) ∧
 (True)) ∧
 (((RLe (List.length (NewrX.ks x1)) (List.length (NewrX.ks x1))) ∧
 (RowsEq (Kd.int IntKind.i64 :: @List.nil Kd) (List.length (NewrX.ks x1)) (encL encI (NewrX.ks x1)) (encL encI (NewrX.ks x1)))) ∧
 (True)))))))))))) ∧
 (∀ x4 : Nat,
 ((x4 ≤ List.length (NewrX.b x1)) →
 (((decide ((↑x4 : Int) < (↑(List.length (NewrX.b x1)) : Int)) = true) →
 ((((0 : Int) ≤ (↑x4 : Int)) ∧
 ((↑x4 : Int) < (↑(List.length (NewrX.b x1)) : Int))) ∧
 (((0 : Nat) + Int.toNat (↑x4 : Int) < List.length (NewrX.b x1)) ∧
 (((decide (Rec.added (List.getD (NewrX.b x1) ((0 : Nat) + Int.toNat (↑x4 : Int)) default) = (0 : Int)) = true) →
 ((((-9223372036854775808 : Int) ≤ (↑x4 : Int) + (1 : Int)) ∧
 ((↑x4 : Int) + (1 : Int) ≤ (9223372036854775807 : Int))) ∧
 (∃ x8 : Nat,
 ((List.length (NewrX.b x1) - x8 < List.length (NewrX.b x1) - x4) ∧
 ((x8 ≤ List.length (NewrX.b x1)) ∧
 ((((↑x4 : Int) + (1 : Int) = (↑x8 : Int)) ∧
 ((((0 : Nat) = (0 : Nat)) ∧
 ((0 : Nat) = (0 : Nat))) ∧
 (((↑(List.length (NewrX.b x1)) : Int) = (↑(List.length (NewrX.b x1)) : Int)) ∧
 ((((0 : Nat) = (0 : Nat)) ∧
 (List.length (NewrX.b x1) = List.length (NewrX.b x1))) ∧
 ((((0 : Nat) = (0 : Nat)) ∧
 ((0 : Nat) = (0 : Nat))) ∧
 ((((0 : Nat) = (0 : Nat)) ∧
 ((0 : Nat) = (0 : Nat))) ∧
 ((((0 : Nat) = (0 : Nat)) ∧
 ((0 : Nat) = (0 : Nat))) ∧
 (((((0 : Nat) = (0 : Nat)) ∧
 ((0 : Nat) = (0 : Nat))) ∧
 (True)) ∧
 ((((0 : Nat) = (0 : Nat)) ∧
 ((0 : Nat) = (0 : Nat))) ∧
 (((((0 : Nat) = (0 : Nat)) ∧
 ((0 : Nat) = (0 : Nat))) ∧
 ((((0 : Nat) = (0 : Nat)) ∧
 ((0 : Nat) = (0 : Nat))) ∧
 ((((0 : Nat) = (0 : Nat)) ∧
 ((0 : Nat) = (0 : Nat))) ∧
 (True)))) ∧
 (True))))))))))) ∧
 (((((0 : Nat) = (0 : Nat)) ∧
 (List.length (newerB (NewrX.b x1) (knAt (NewrX.ks x1)) x4) = List.length (newerB (NewrX.b x1) (knAt (NewrX.ks x1)) x8))) ∧
 (True)) ∧
 (((RLe (List.length (newerB (NewrX.b x1) (knAt (NewrX.ks x1)) x8)) (List.length (newerB (NewrX.b x1) (knAt (NewrX.ks x1)) x4))) ∧
 (RowsEq (Kd.int IntKind.i64 :: Kd.int IntKind.i64 :: Kd.int IntKind.i64 :: Kd.int IntKind.i64 :: Kd.int IntKind.i64 :: @List.nil Kd) (List.length (newerB (NewrX.b x1) (knAt (NewrX.ks x1)) x8)) (encL encStaD (newerB (NewrX.b x1) (knAt (NewrX.ks x1)) x4)) (encL encStaD (newerB (NewrX.b x1) (knAt (NewrX.ks x1)) x8)))) ∧
 (((true = true) ∧
 (True)) ∧
 (((((0 : Nat) = (0 : Nat)) ∧
 (List.length (NewrX.b x1) = List.length (NewrX.b x1))) ∧
 (True)) ∧
 (((RLe (List.length (NewrX.b x1)) (List.length (NewrX.b x1))) ∧
 (RowsEq (Kd.int IntKind.i64 :: Kd.int IntKind.i64 :: Kd.int IntKind.i64 :: Kd.int IntKind.i64 :: Kd.int IntKind.i64 :: Kd.int IntKind.i64 :: Kd.int IntKind.i64 :: @List.nil Kd) (List.length (NewrX.b x1)) (encL encRec (NewrX.b x1)) (encL encRec (NewrX.b x1)))) ∧
 (((Ref.units (NewrX.y x1) = Ref.units (NewrX.y x1)) ∧
 ((Ref.since (NewrX.y x1) = Ref.since (NewrX.y x1)) ∧
 ((((0 : Nat) = (0 : Nat)) ∧
 (List.length (Ref.news (NewrX.y x1)) = List.length (Ref.news (NewrX.y x1)))) ∧
 (True)))) ∧
 (((RLe (List.length (Ref.news (NewrX.y x1))) (List.length (Ref.news (NewrX.y x1)))) ∧
 (RowsEq (Kd.int IntKind.i64 :: Kd.int IntKind.i64 :: Kd.int IntKind.i64 :: Kd.int IntKind.i64 :: Kd.int IntKind.i64 :: Kd.int IntKind.i64 :: @List.nil Kd) (List.length (Ref.news (NewrX.y x1))) (encL encCame (Ref.news (NewrX.y x1))) (encL encCame (Ref.news (NewrX.y x1))))) ∧
 (((((0 : Nat) = (0 : Nat)) ∧
 (List.length (NewrX.ks x1) = List.length (NewrX.ks x1))) ∧
 (True)) ∧
 (((RLe (List.length (NewrX.ks x1)) (List.length (NewrX.ks x1))) ∧
 (RowsEq (Kd.int IntKind.i64 :: @List.nil Kd) (List.length (NewrX.ks x1)) (encL encI (NewrX.ks x1)) (encL encI (NewrX.ks x1)))) ∧
 (True)))))))))))))))) ∧
 ((decide (Rec.added (List.getD (NewrX.b x1) ((0 : Nat) + Int.toNat (↑x4 : Int)) default) = (0 : Int)) = false) →
 ((((0 : Int) ≤ (↑x4 : Int)) ∧
 ((↑x4 : Int) < (↑(List.length (NewrX.b x1)) : Int))) ∧
 (((0 : Nat) + Int.toNat (↑x4 : Int) < List.length (NewrX.b x1)) ∧
 (∃ x10 : KnX,
 (((List.length (Ref.news (KnX.y x10)) ≤ (1000 : Nat)) ∧
 (Ref.there (KnX.y x10) (KnX.u x10) = true)) ∧
 ((((↑x4 : Int) = KnX.u x10) ∧
 ((((0 : Nat) = (0 : Nat)) ∧
 ((0 : Nat) = (0 : Nat))) ∧
 ((((0 : Nat) = (0 : Nat)) ∧
 ((0 : Nat) = (0 : Nat))) ∧
 ((((0 : Nat) = (0 : Nat)) ∧
 ((0 : Nat) = (0 : Nat))) ∧
 (True))))) ∧
 ((((Ref.units (NewrX.y x1) = Ref.units (KnX.y x10)) ∧
 ((Ref.since (NewrX.y x1) = Ref.since (KnX.y x10)) ∧
 ((((0 : Nat) = (0 : Nat)) ∧
 (List.length (Ref.news (NewrX.y x1)) = List.length (Ref.news (KnX.y x10)))) ∧
 (True)))) ∧
 (((RLe (List.length (Ref.news (KnX.y x10))) (List.length (Ref.news (NewrX.y x1)))) ∧
 (RowsEq (Kd.int IntKind.i64 :: Kd.int IntKind.i64 :: Kd.int IntKind.i64 :: Kd.int IntKind.i64 :: Kd.int IntKind.i64 :: Kd.int IntKind.i64 :: @List.nil Kd) (List.length (Ref.news (KnX.y x10))) (encL encCame (Ref.news (NewrX.y x1))) (encL encCame (Ref.news (KnX.y x10))))) ∧
 (((true = true) ∧
 (True)) ∧
 (((((0 : Nat) = (0 : Nat)) ∧
 (List.length (NewrX.ks x1) = List.length (KnX.ks x10))) ∧
 (True)) ∧
 (((RLe (List.length (KnX.ks x10)) (List.length (NewrX.ks x1))) ∧
 (RowsEq (Kd.int IntKind.i64 :: @List.nil Kd) (List.length (KnX.ks x10)) (encL encI (NewrX.ks x1)) (encL encI (KnX.ks x10)))) ∧
 (True)))))) ∧
 (((decide (knAt (KnX.ks x10) (KnX.u x10) < Sta.seq (Rec.sta (List.getD (NewrX.b x1) ((0 : Nat) + Int.toNat (↑x4 : Int)) default))) = true) →
 ((((True) ∧
 ((True) ∧
 ((True) ∧
 ((True) ∧
 ((True) ∧
 (True)))))) ∧
 (True)) ∧
 ((((0 : Nat) = (0 : Nat)) ∧
 ((List.length (newerB (NewrX.b x1) (knAt (NewrX.ks x1)) x4) ≤ List.length (newerB (NewrX.b x1) (knAt (NewrX.ks x1)) x4)) ∧
 (((1 : Nat) ≤ (1 : Nat)) ∧
 (List.length (newerB (NewrX.b x1) (knAt (NewrX.ks x1)) x4) + (1 : Nat) ≤ (1073741824 : Nat))))) ∧
 ((((-9223372036854775808 : Int) ≤ (↑x4 : Int) + (1 : Int)) ∧
 ((↑x4 : Int) + (1 : Int) ≤ (9223372036854775807 : Int))) ∧
 (∃ x12 : Nat,
 ((List.length (NewrX.b x1) - x12 < List.length (NewrX.b x1) - x4) ∧
 ((x12 ≤ List.length (NewrX.b x1)) ∧
 ((((↑x4 : Int) + (1 : Int) = (↑x12 : Int)) ∧
 ((((0 : Nat) = (0 : Nat)) ∧
 ((0 : Nat) = (0 : Nat))) ∧
 (((↑(List.length (NewrX.b x1)) : Int) = (↑(List.length (NewrX.b x1)) : Int)) ∧
 ((((0 : Nat) = (0 : Nat)) ∧
 (List.length (NewrX.b x1) = List.length (NewrX.b x1))) ∧
 ((((0 : Nat) = (0 : Nat)) ∧
 ((0 : Nat) = (0 : Nat))) ∧
 ((((0 : Nat) = (0 : Nat)) ∧
 ((0 : Nat) = (0 : Nat))) ∧
 ((((0 : Nat) = (0 : Nat)) ∧
 ((0 : Nat) = (0 : Nat))) ∧
 (((((0 : Nat) = (0 : Nat)) ∧
 ((0 : Nat) = (0 : Nat))) ∧
 (True)) ∧
 ((((0 : Nat) = (0 : Nat)) ∧
 ((0 : Nat) = (0 : Nat))) ∧
 (((((0 : Nat) = (0 : Nat)) ∧
 ((0 : Nat) = (0 : Nat))) ∧
 ((((0 : Nat) = (0 : Nat)) ∧
 ((0 : Nat) = (0 : Nat))) ∧
 ((((0 : Nat) = (0 : Nat)) ∧
 ((0 : Nat) = (0 : Nat))) ∧
 (True)))) ∧
 (True))))))))))) ∧
 (((((0 : Nat) = (0 : Nat)) ∧
 (List.length (newerB (NewrX.b x1) (knAt (NewrX.ks x1)) x4) + (1 : Nat) = List.length (newerB (NewrX.b x1) (knAt (NewrX.ks x1)) x12))) ∧
 (True)) ∧
 (((RLe (List.length (newerB (NewrX.b x1) (knAt (NewrX.ks x1)) x12)) (List.length (newerB (NewrX.b x1) (knAt (NewrX.ks x1)) x4) + (1 : Nat))) ∧
 (RowsEq (Kd.int IntKind.i64 :: Kd.int IntKind.i64 :: Kd.int IntKind.i64 :: Kd.int IntKind.i64 :: Kd.int IntKind.i64 :: @List.nil Kd) (List.length (newerB (NewrX.b x1) (knAt (NewrX.ks x1)) x12)) (appRows (List.length (newerB (NewrX.b x1) (knAt (NewrX.ks x1)) x4)) (encL encStaD (newerB (NewrX.b x1) (knAt (NewrX.ks x1)) x4)) (0 : Nat) (litRows ((D.i (Sta.unit (Rec.sta (List.getD (NewrX.b x1) ((0 : Nat) + Int.toNat (↑x4 : Int)) default))) :: D.i (Sta.seq (Rec.sta (List.getD (NewrX.b x1) ((0 : Nat) + Int.toNat (↑x4 : Int)) default))) :: D.i (Sta.state (Rec.sta (List.getD (NewrX.b x1) ((0 : Nat) + Int.toNat (↑x4 : Int)) default))) :: D.i (Sta.node (Rec.sta (List.getD (NewrX.b x1) ((0 : Nat) + Int.toNat (↑x4 : Int)) default))) :: D.i (Sta.epoch (Rec.sta (List.getD (NewrX.b x1) ((0 : Nat) + Int.toNat (↑x4 : Int)) default))) :: @List.nil D) :: @List.nil (List D)))) (encL encStaD (newerB (NewrX.b x1) (knAt (NewrX.ks x1)) x12)))) ∧
 (((true = true) ∧
 (True)) ∧
 (((((0 : Nat) = (0 : Nat)) ∧
 (List.length (NewrX.b x1) = List.length (NewrX.b x1))) ∧
 (True)) ∧
 (((RLe (List.length (NewrX.b x1)) (List.length (NewrX.b x1))) ∧
 (RowsEq (Kd.int IntKind.i64 :: Kd.int IntKind.i64 :: Kd.int IntKind.i64 :: Kd.int IntKind.i64 :: Kd.int IntKind.i64 :: Kd.int IntKind.i64 :: Kd.int IntKind.i64 :: @List.nil Kd) (List.length (NewrX.b x1)) (encL encRec (NewrX.b x1)) (encL encRec (NewrX.b x1)))) ∧
 (((Ref.units (NewrX.y x1) = Ref.units (NewrX.y x1)) ∧
 ((Ref.since (NewrX.y x1) = Ref.since (NewrX.y x1)) ∧
 ((((0 : Nat) = (0 : Nat)) ∧
 (List.length (Ref.news (NewrX.y x1)) = List.length (Ref.news (NewrX.y x1)))) ∧
 (True)))) ∧
 (((RLe (List.length (Ref.news (NewrX.y x1))) (List.length (Ref.news (NewrX.y x1)))) ∧
 (RowsEq (Kd.int IntKind.i64 :: Kd.int IntKind.i64 :: Kd.int IntKind.i64 :: Kd.int IntKind.i64 :: Kd.int IntKind.i64 :: Kd.int IntKind.i64 :: @List.nil Kd) (List.length (Ref.news (NewrX.y x1))) (encL encCame (Ref.news (NewrX.y x1))) (encL encCame (Ref.news (NewrX.y x1))))) ∧
 (((((0 : Nat) = (0 : Nat)) ∧
 (List.length (NewrX.ks x1) = List.length (NewrX.ks x1))) ∧
 (True)) ∧
 (((RLe (List.length (NewrX.ks x1)) (List.length (NewrX.ks x1))) ∧
 (RowsEq (Kd.int IntKind.i64 :: @List.nil Kd) (List.length (NewrX.ks x1)) (encL encI (NewrX.ks x1)) (encL encI (NewrX.ks x1)))) ∧
 (True)))))))))))))))))) ∧
 ((decide (knAt (KnX.ks x10) (KnX.u x10) < Sta.seq (Rec.sta (List.getD (NewrX.b x1) ((0 : Nat) + Int.toNat (↑x4 : Int)) default))) = false) →
 ((((-9223372036854775808 : Int) ≤ (↑x4 : Int) + (1 : Int)) ∧
 ((↑x4 : Int) + (1 : Int) ≤ (9223372036854775807 : Int))) ∧
 (∃ x14 : Nat,
 ((List.length (NewrX.b x1) - x14 < List.length (NewrX.b x1) - x4) ∧
 ((x14 ≤ List.length (NewrX.b x1)) ∧
 ((((↑x4 : Int) + (1 : Int) = (↑x14 : Int)) ∧
 ((((0 : Nat) = (0 : Nat)) ∧
 ((0 : Nat) = (0 : Nat))) ∧
 (((↑(List.length (NewrX.b x1)) : Int) = (↑(List.length (NewrX.b x1)) : Int)) ∧
 ((((0 : Nat) = (0 : Nat)) ∧
 (List.length (NewrX.b x1) = List.length (NewrX.b x1))) ∧
 ((((0 : Nat) = (0 : Nat)) ∧
 ((0 : Nat) = (0 : Nat))) ∧
 ((((0 : Nat) = (0 : Nat)) ∧
 ((0 : Nat) = (0 : Nat))) ∧
 ((((0 : Nat) = (0 : Nat)) ∧
 ((0 : Nat) = (0 : Nat))) ∧
 (((((0 : Nat) = (0 : Nat)) ∧
 ((0 : Nat) = (0 : Nat))) ∧
 (True)) ∧
 ((((0 : Nat) = (0 : Nat)) ∧
 ((0 : Nat) = (0 : Nat))) ∧
 (((((0 : Nat) = (0 : Nat)) ∧
 ((0 : Nat) = (0 : Nat))) ∧
 ((((0 : Nat) = (0 : Nat)) ∧
 ((0 : Nat) = (0 : Nat))) ∧
 ((((0 : Nat) = (0 : Nat)) ∧
 ((0 : Nat) = (0 : Nat))) ∧
 (True)))) ∧
 (True))))))))))) ∧
 (((((0 : Nat) = (0 : Nat)) ∧
 (List.length (newerB (NewrX.b x1) (knAt (NewrX.ks x1)) x4) = List.length (newerB (NewrX.b x1) (knAt (NewrX.ks x1)) x14))) ∧
 (True)) ∧
 (((RLe (List.length (newerB (NewrX.b x1) (knAt (NewrX.ks x1)) x14)) (List.length (newerB (NewrX.b x1) (knAt (NewrX.ks x1)) x4))) ∧
 (RowsEq (Kd.int IntKind.i64 :: Kd.int IntKind.i64 :: Kd.int IntKind.i64 :: Kd.int IntKind.i64 :: Kd.int IntKind.i64 :: @List.nil Kd) (List.length (newerB (NewrX.b x1) (knAt (NewrX.ks x1)) x14)) (encL encStaD (newerB (NewrX.b x1) (knAt (NewrX.ks x1)) x4)) (encL encStaD (newerB (NewrX.b x1) (knAt (NewrX.ks x1)) x14)))) ∧
 (((true = true) ∧
 (True)) ∧
 (((((0 : Nat) = (0 : Nat)) ∧
 (List.length (NewrX.b x1) = List.length (NewrX.b x1))) ∧
 (True)) ∧
 (((RLe (List.length (NewrX.b x1)) (List.length (NewrX.b x1))) ∧
 (RowsEq (Kd.int IntKind.i64 :: Kd.int IntKind.i64 :: Kd.int IntKind.i64 :: Kd.int IntKind.i64 :: Kd.int IntKind.i64 :: Kd.int IntKind.i64 :: Kd.int IntKind.i64 :: @List.nil Kd) (List.length (NewrX.b x1)) (encL encRec (NewrX.b x1)) (encL encRec (NewrX.b x1)))) ∧
 (((Ref.units (NewrX.y x1) = Ref.units (NewrX.y x1)) ∧
 ((Ref.since (NewrX.y x1) = Ref.since (NewrX.y x1)) ∧
 ((((0 : Nat) = (0 : Nat)) ∧
 (List.length (Ref.news (NewrX.y x1)) = List.length (Ref.news (NewrX.y x1)))) ∧
 (True)))) ∧
 (((RLe (List.length (Ref.news (NewrX.y x1))) (List.length (Ref.news (NewrX.y x1)))) ∧
 (RowsEq (Kd.int IntKind.i64 :: Kd.int IntKind.i64 :: Kd.int IntKind.i64 :: Kd.int IntKind.i64 :: Kd.int IntKind.i64 :: Kd.int IntKind.i64 :: @List.nil Kd) (List.length (Ref.news (NewrX.y x1))) (encL encCame (Ref.news (NewrX.y x1))) (encL encCame (Ref.news (NewrX.y x1))))) ∧
 (((((0 : Nat) = (0 : Nat)) ∧
 (List.length (NewrX.ks x1) = List.length (NewrX.ks x1))) ∧
 (True)) ∧
 (((RLe (List.length (NewrX.ks x1)) (List.length (NewrX.ks x1))) ∧
 (RowsEq (Kd.int IntKind.i64 :: @List.nil Kd) (List.length (NewrX.ks x1)) (encL encI (NewrX.ks x1)) (encL encI (NewrX.ks x1)))) ∧
 (True)))))))))))))))))))))))))))) ∧
 ((decide ((↑x4 : Int) < (↑(List.length (NewrX.b x1)) : Int)) = false) →
 ((((0 : Nat) = (0 : Nat)) ∧
 (List.length (newerB (NewrX.b x1) (knAt (NewrX.ks x1)) x4) = List.length (newerB (NewrX.b x1) (knAt (NewrX.ks x1)) (List.length (NewrX.b x1))))) ∧
 (((RLe (List.length (newerB (NewrX.b x1) (knAt (NewrX.ks x1)) (List.length (NewrX.b x1)))) (List.length (newerB (NewrX.b x1) (knAt (NewrX.ks x1)) x4))) ∧
 (RowsEq (Kd.int IntKind.i64 :: Kd.int IntKind.i64 :: Kd.int IntKind.i64 :: Kd.int IntKind.i64 :: Kd.int IntKind.i64 :: @List.nil Kd) (List.length (newerB (NewrX.b x1) (knAt (NewrX.ks x1)) (List.length (NewrX.b x1)))) (encL encStaD (newerB (NewrX.b x1) (knAt (NewrX.ks x1)) x4)) (encL encStaD (newerB (NewrX.b x1) (knAt (NewrX.ks x1)) (List.length (NewrX.b x1)))))) ∧
 (((true = true) ∧
 (True)) ∧
 (True))))))))))))) = Keeps cfg12 Try.f20 newer1C newer1I by kernel_rfl) (fun x1 => fun h2 => ⟨((0 : Nat)),
 ⟨(by (try dsimp only at *); omega),
 ⟨(by (try dsimp only at *); omega),
 ⟨rfl,
 rfl⟩,
 rfl,
 ⟨rfl,
 rfl⟩,
 ⟨rfl,
 rfl⟩,
 ⟨rfl,
 rfl⟩,
 ⟨rfl,
 rfl⟩,
 ⟨⟨rfl,
 rfl⟩,
 trivial⟩,
 ⟨rfl,
 rfl⟩,
 ⟨⟨rfl,
 rfl⟩,
 ⟨rfl,
 rfl⟩,
 ⟨rfl,
 rfl⟩,
 trivial⟩,
 trivial⟩,
 ⟨⟨trivial,
 rfl,
 (by (try dsimp only at *); rfl)⟩,
 trivial⟩,
 (by (try dsimp only at *); rfl),
 ⟨rfl,
 trivial⟩,
 ⟨⟨rfl,
 rfl⟩,
 trivial⟩,
 ⟨⟨Nat.le_refl _⟩,
 RowsEq.rfl'⟩,
 ⟨rfl,
 rfl,
 ⟨rfl,
 rfl⟩,
 trivial⟩,
 ⟨⟨Nat.le_refl _⟩,
 RowsEq.rfl'⟩,
 ⟨⟨rfl,
 rfl⟩,
 trivial⟩,
 ⟨⟨Nat.le_refl _⟩,
 RowsEq.rfl'⟩,
 trivial⟩,
 fun x4 => fun h5 => ⟨fun g6 => have h6 := of_decide_eq_true g6; ⟨⟨(by (try dsimp only at *); omega),
 (by (try dsimp only at *); omega)⟩,
 (by (try dsimp only at *); omega),
 fun g7 => have h7 := of_decide_eq_true g7; ⟨⟨(by (try dsimp only at *); omega),
 (by (try dsimp only at *); (have := h2.1.few; omega))⟩,
 (x4 + (1 : Nat)),
 (by (try dsimp only at *); omega),
 (by (try dsimp only at *); omega),
 ⟨(by (try dsimp only at *); omega),
 ⟨rfl,
 rfl⟩,
 rfl,
 ⟨rfl,
 rfl⟩,
 ⟨rfl,
 rfl⟩,
 ⟨rfl,
 rfl⟩,
 ⟨rfl,
 rfl⟩,
 ⟨⟨rfl,
 rfl⟩,
 trivial⟩,
 ⟨rfl,
 rfl⟩,
 ⟨⟨rfl,
 rfl⟩,
 ⟨rfl,
 rfl⟩,
 ⟨rfl,
 rfl⟩,
 trivial⟩,
 trivial⟩,
 ⟨⟨rfl,
 (by (try dsimp only at *); (rw [nb_no ‹_›]; done))⟩,
 trivial⟩,
 ⟨⟨(by (try dsimp only at *); (rw [nb_no ‹_›]; exact Nat.le_refl _))⟩,
 (by (try dsimp only at *); (rw [nb_no ‹_›]; exact RowsEq.rfl'))⟩,
 ⟨rfl,
 trivial⟩,
 ⟨⟨rfl,
 rfl⟩,
 trivial⟩,
 ⟨⟨Nat.le_refl _⟩,
 RowsEq.rfl'⟩,
 ⟨rfl,
 rfl,
 ⟨rfl,
 rfl⟩,
 trivial⟩,
 ⟨⟨Nat.le_refl _⟩,
 RowsEq.rfl'⟩,
 ⟨⟨rfl,
 rfl⟩,
 trivial⟩,
 ⟨⟨Nat.le_refl _⟩,
 RowsEq.rfl'⟩,
 trivial⟩,
 fun g9 => have h9 := of_decide_eq_false g9; ⟨⟨(by (try dsimp only at *); omega),
 (by (try dsimp only at *); omega)⟩,
 (by (try dsimp only at *); omega),
 ({ y := NewrX.y x1, ks := NewrX.ks x1, u := (↑x4 : Int) : KnX }),
 ⟨(by (try dsimp only at *); omega),
 (by (try dsimp only at *); exact nb_there h2.1 ‹_› ‹_›)⟩,
 ⟨rfl,
 ⟨rfl,
 rfl⟩,
 ⟨rfl,
 rfl⟩,
 ⟨rfl,
 rfl⟩,
 trivial⟩,
 ⟨⟨rfl,
 rfl,
 ⟨rfl,
 rfl⟩,
 trivial⟩,
 ⟨⟨Nat.le_refl _⟩,
 RowsEq.rfl'⟩,
 ⟨rfl,
 trivial⟩,
 ⟨⟨rfl,
 rfl⟩,
 trivial⟩,
 ⟨⟨Nat.le_refl _⟩,
 RowsEq.rfl'⟩,
 trivial⟩,
 fun g11 => have h11 := of_decide_eq_true g11; ⟨⟨⟨trivial,
 trivial,
 trivial,
 trivial,
 trivial,
 trivial⟩,
 trivial⟩,
 ⟨rfl,
 (by (try dsimp only at *); omega),
 (by (try dsimp only at *); omega),
 (by (try dsimp only at *); (have := h2.1.few; have := newerB_len x1.b (knAt x1.ks) x4; omega))⟩,
 ⟨(by (try dsimp only at *); omega),
 (by (try dsimp only at *); (have := h2.1.few; omega))⟩,
 (x4 + (1 : Nat)),
 (by (try dsimp only at *); omega),
 (by (try dsimp only at *); omega),
 ⟨(by (try dsimp only at *); omega),
 ⟨rfl,
 rfl⟩,
 rfl,
 ⟨rfl,
 rfl⟩,
 ⟨rfl,
 rfl⟩,
 ⟨rfl,
 rfl⟩,
 ⟨rfl,
 rfl⟩,
 ⟨⟨rfl,
 rfl⟩,
 trivial⟩,
 ⟨rfl,
 rfl⟩,
 ⟨⟨rfl,
 rfl⟩,
 ⟨rfl,
 rfl⟩,
 ⟨rfl,
 rfl⟩,
 trivial⟩,
 trivial⟩,
 ⟨⟨rfl,
 (by (try dsimp only at *); exact (nb_len ‹_› ‹_›).symm)⟩,
 trivial⟩,
 ⟨⟨(by (try dsimp only at *); exact Nat.le_of_eq (nb_len ‹_› ‹_›))⟩,
 (by (try dsimp only at *); exact nb_rows ‹_› ‹_›)⟩,
 ⟨rfl,
 trivial⟩,
 ⟨⟨rfl,
 rfl⟩,
 trivial⟩,
 ⟨⟨Nat.le_refl _⟩,
 RowsEq.rfl'⟩,
 ⟨rfl,
 rfl,
 ⟨rfl,
 rfl⟩,
 trivial⟩,
 ⟨⟨Nat.le_refl _⟩,
 RowsEq.rfl'⟩,
 ⟨⟨rfl,
 rfl⟩,
 trivial⟩,
 ⟨⟨Nat.le_refl _⟩,
 RowsEq.rfl'⟩,
 trivial⟩,
 fun g13 => have h13 := of_decide_eq_false g13; ⟨⟨(by (try dsimp only at *); omega),
 (by (try dsimp only at *); (have := h2.1.few; omega))⟩,
 (x4 + (1 : Nat)),
 (by (try dsimp only at *); omega),
 (by (try dsimp only at *); omega),
 ⟨(by (try dsimp only at *); omega),
 ⟨rfl,
 rfl⟩,
 rfl,
 ⟨rfl,
 rfl⟩,
 ⟨rfl,
 rfl⟩,
 ⟨rfl,
 rfl⟩,
 ⟨rfl,
 rfl⟩,
 ⟨⟨rfl,
 rfl⟩,
 trivial⟩,
 ⟨rfl,
 rfl⟩,
 ⟨⟨rfl,
 rfl⟩,
 ⟨rfl,
 rfl⟩,
 ⟨rfl,
 rfl⟩,
 trivial⟩,
 trivial⟩,
 ⟨⟨rfl,
 (by (try dsimp only at *); (rw [nb_old ‹_›]; done))⟩,
 trivial⟩,
 ⟨⟨(by (try dsimp only at *); (rw [nb_old ‹_›]; exact Nat.le_refl _))⟩,
 (by (try dsimp only at *); (rw [nb_old ‹_›]; exact RowsEq.rfl'))⟩,
 ⟨rfl,
 trivial⟩,
 ⟨⟨rfl,
 rfl⟩,
 trivial⟩,
 ⟨⟨Nat.le_refl _⟩,
 RowsEq.rfl'⟩,
 ⟨rfl,
 rfl,
 ⟨rfl,
 rfl⟩,
 trivial⟩,
 ⟨⟨Nat.le_refl _⟩,
 RowsEq.rfl'⟩,
 ⟨⟨rfl,
 rfl⟩,
 trivial⟩,
 ⟨⟨Nat.le_refl _⟩,
 RowsEq.rfl'⟩,
 trivial⟩⟩⟩,
 fun g15 => have h15 := of_decide_eq_false g15; ⟨⟨rfl,
 (by (try dsimp only at *); grind)⟩,
 ⟨⟨(by (try dsimp only at *); grind)⟩,
 (by (try dsimp only at *); (obtain rfl : x4 = x1.b.length := (by omega); exact RowsEq.rfl'))⟩,
 ⟨rfl,
 trivial⟩,
 trivial⟩⟩⟩)


theorem newerB_none (b : Box) (kn : Int → Int) (h : ∀ u : Nat, u < b.length → (b.getD u default).added ≠ 0 → (b.getD u default).sta.seq ≤ kn u) : ∀ k, k ≤ b.length → newerB b kn k = []
  | 0, _ => rfl
  | k + 1, hk => by
    rw [newerB_succ, newerB_none b kn h k (by omega)]
    have := h k (by omega)
    rw [if_neg]
    · rfl
    · simp only [Bool.and_eq_true, decide_eq_true_eq]; intro ⟨h1, h2⟩; have := this h1; omega
def newer2C : CT where
  X := BoxI
  pre := fun x => x.b.length ≤ 256
  args := fun x => [.p 100000 0 0, .fn 22 [.p 100002 0 0]]
  g0 := fun x => boxH .bor x.b ++ [(100002, .one .bor [.p 100000 0 0])]
  res := fun x => .sl 1 0 (newerB x.b (fun u => (x.b.last u).seq) x.b.length).length
  g1 := fun x => newerH x.b (fun u => (x.b.last u).seq) x.b.length 1
def newer2I (x : BoxI) : Nat → Option Inv := newerI x.b (fun u => (x.b.last u).seq) []
set_option maxRecDepth 100000 in
theorem newer2_keeps : Keeps cfg12 Try.f20 newer2C newer2I := Eq.mp (show ((∀ x1 : BoxI,
 ((List.length (BoxI.b x1) ≤ (256 : Nat)) →
 (∃ x3 : Nat,
 (((x3 ≤ List.length (BoxI.b x1)) ∧
 ((((0 : Int) = (↑x3 : Int)) ∧
 ((((0 : Nat) = (0 : Nat)) ∧
 ((0 : Nat) = (0 : Nat))) ∧
 (((↑(List.length (BoxI.b x1)) : Int) = (↑(List.length (BoxI.b x1)) : Int)) ∧
 ((((0 : Nat) = (0 : Nat)) ∧
 (List.length (BoxI.b x1) = List.length (BoxI.b x1))) ∧
 ((((0 : Nat) = (0 : Nat)) ∧
 ((0 : Nat) = (0 : Nat))) ∧
 ((((0 : Nat) = (0 : Nat)) ∧
 ((0 : Nat) = (0 : Nat))) ∧
 ((((0 : Nat) = (0 : Nat)) ∧
 ((0 : Nat) = (0 : Nat))) ∧
 (((((0 : Nat) = (0 : Nat)) ∧
 ((0 : Nat) = (0 : Nat))) ∧
 (True)) ∧
 ((((0 : Nat) = (0 : Nat)) ∧
 ((0 : Nat) = (0 : Nat))) ∧
 (((((0 : Nat) = (0 : Nat)) ∧
 ((0 : Nat) = (0 : Nat))) ∧
 (True)) ∧
 (True))))))))))) ∧
 ((((True) ∧
 (((0 : Nat) = (0 : Nat)) ∧
 (List.length (newerB (BoxI.b x1) (fun (u : Int) => Sta.seq (Box.last (BoxI.b x1) u)) x3) = (0 : Nat)))) ∧
 (True)) ∧
 ((List.length (newerB (BoxI.b x1) (fun (u : Int) => Sta.seq (Box.last (BoxI.b x1) u)) x3) = (0 : Nat)) ∧
 (((((0 : Nat) = (0 : Nat)) ∧
 (List.length (BoxI.b x1) = List.length (BoxI.b x1))) ∧
 (True)) ∧
 (((RLe (List.length (BoxI.b x1)) (List.length (BoxI.b x1))) ∧
 (RowsEq (Kd.int IntKind.i64 :: Kd.int IntKind.i64 :: Kd.int IntKind.i64 :: Kd.int IntKind.i64 :: Kd.int IntKind.i64 :: Kd.int IntKind.i64 :: Kd.int IntKind.i64 :: @List.nil Kd) (List.length (BoxI.b x1)) (encL encRec (BoxI.b x1)) (encL encRec (BoxI.b x1)))) ∧
 (((((0 : Nat) = (0 : Nat)) ∧
 ((0 : Nat) = (0 : Nat))) ∧
 (True)) ∧
 (True)))))))) ∧
 (∀ x4 : Nat,
 ((x4 ≤ List.length (BoxI.b x1)) →
 (((decide ((↑x4 : Int) < (↑(List.length (BoxI.b x1)) : Int)) = true) →
 ((((0 : Int) ≤ (↑x4 : Int)) ∧
 ((↑x4 : Int) < (↑(List.length (BoxI.b x1)) : Int))) ∧
 (((0 : Nat) + Int.toNat (↑x4 : Int) < List.length (BoxI.b x1)) ∧
 (((decide (Rec.added (List.getD (BoxI.b x1) ((0 : Nat) + Int.toNat (↑x4 : Int)) default) = (0 : Int)) = true) →
 ((((-9223372036854775808 : Int) ≤ (↑x4 : Int) + (1 : Int)) ∧
 ((↑x4 : Int) + (1 : Int) ≤ (9223372036854775807 : Int))) ∧
 (∃ x8 : Nat,
 ((List.length (BoxI.b x1) - x8 < List.length (BoxI.b x1) - x4) ∧
 ((x8 ≤ List.length (BoxI.b x1)) ∧
 ((((↑x4 : Int) + (1 : Int) = (↑x8 : Int)) ∧
 ((((0 : Nat) = (0 : Nat)) ∧
 ((0 : Nat) = (0 : Nat))) ∧
 (((↑(List.length (BoxI.b x1)) : Int) = (↑(List.length (BoxI.b x1)) : Int)) ∧
 ((((0 : Nat) = (0 : Nat)) ∧
 (List.length (BoxI.b x1) = List.length (BoxI.b x1))) ∧
 ((((0 : Nat) = (0 : Nat)) ∧
 ((0 : Nat) = (0 : Nat))) ∧
 ((((0 : Nat) = (0 : Nat)) ∧
 ((0 : Nat) = (0 : Nat))) ∧
 ((((0 : Nat) = (0 : Nat)) ∧
 ((0 : Nat) = (0 : Nat))) ∧
 (((((0 : Nat) = (0 : Nat)) ∧
 ((0 : Nat) = (0 : Nat))) ∧
 (True)) ∧
 ((((0 : Nat) = (0 : Nat)) ∧
 ((0 : Nat) = (0 : Nat))) ∧
 (((((0 : Nat) = (0 : Nat)) ∧
 ((0 : Nat) = (0 : Nat))) ∧
 (True)) ∧
 (True))))))))))) ∧
 (((((0 : Nat) = (0 : Nat)) ∧
 (List.length (newerB (BoxI.b x1) (fun (u : Int) => Sta.seq (Box.last (BoxI.b x1) u)) x4) = List.length (newerB (BoxI.b x1) (fun (u : Int) => Sta.seq (Box.last (BoxI.b x1) u)) x8))) ∧
 (True)) ∧
 (((RLe (List.length (newerB (BoxI.b x1) (fun (u : Int) => Sta.seq (Box.last (BoxI.b x1) u)) x8)) (List.length (newerB (BoxI.b x1) (fun (u : Int) => Sta.seq (Box.last (BoxI.b x1) u)) x4))) ∧
 (RowsEq (Kd.int IntKind.i64 :: Kd.int IntKind.i64 :: Kd.int IntKind.i64 :: Kd.int IntKind.i64 :: Kd.int IntKind.i64 :: @List.nil Kd) (List.length (newerB (BoxI.b x1) (fun (u : Int) => Sta.seq (Box.last (BoxI.b x1) u)) x8)) (encL encStaD (newerB (BoxI.b x1) (fun (u : Int) => Sta.seq (Box.last (BoxI.b x1) u)) x4)) (encL encStaD (newerB (BoxI.b x1) (fun (u : Int) => Sta.seq (Box.last (BoxI.b x1) u)) x8)))) ∧
 (((((0 : Nat) = (0 : Nat)) ∧
 (List.length (BoxI.b x1) = List.length (BoxI.b x1))) ∧
 (True)) ∧
 (((RLe (List.length (BoxI.b x1)) (List.length (BoxI.b x1))) ∧
 (RowsEq (Kd.int IntKind.i64 :: Kd.int IntKind.i64 :: Kd.int IntKind.i64 :: Kd.int IntKind.i64 :: Kd.int IntKind.i64 :: Kd.int IntKind.i64 :: Kd.int IntKind.i64 :: @List.nil Kd) (List.length (BoxI.b x1)) (encL encRec (BoxI.b x1)) (encL encRec (BoxI.b x1)))) ∧
 (((((0 : Nat) = (0 : Nat)) ∧
 ((0 : Nat) = (0 : Nat))) ∧
 (True)) ∧
 (True)))))))))))) ∧
 ((decide (Rec.added (List.getD (BoxI.b x1) ((0 : Nat) + Int.toNat (↑x4 : Int)) default) = (0 : Int)) = false) →
 ((((0 : Int) ≤ (↑x4 : Int)) ∧
 ((↑x4 : Int) < (↑(List.length (BoxI.b x1)) : Int))) ∧
 (((0 : Nat) + Int.toNat (↑x4 : Int) < List.length (BoxI.b x1)) ∧
 (∃ x10 : BoxI,
 ((True) ∧
 ((((↑x4 : Int) = BoxI.u x10) ∧
 ((((0 : Nat) = (0 : Nat)) ∧
 ((0 : Nat) = (0 : Nat))) ∧
 (True))) ∧
 ((((((0 : Nat) = (0 : Nat)) ∧
 ((0 : Nat) = (0 : Nat))) ∧
 (True)) ∧
 (((((0 : Nat) = (0 : Nat)) ∧
 (List.length (BoxI.b x1) = List.length (BoxI.b x10))) ∧
 (True)) ∧
 (((RLe (List.length (BoxI.b x10)) (List.length (BoxI.b x1))) ∧
 (RowsEq (Kd.int IntKind.i64 :: Kd.int IntKind.i64 :: Kd.int IntKind.i64 :: Kd.int IntKind.i64 :: Kd.int IntKind.i64 :: Kd.int IntKind.i64 :: Kd.int IntKind.i64 :: @List.nil Kd) (List.length (BoxI.b x10)) (encL encRec (BoxI.b x1)) (encL encRec (BoxI.b x10)))) ∧
 (True)))) ∧
 (((decide (Sta.seq (Box.last (BoxI.b x10) (BoxI.u x10)) < Sta.seq (Rec.sta (List.getD (BoxI.b x1) ((0 : Nat) + Int.toNat (↑x4 : Int)) default))) = true) →
 ((((True) ∧
 ((True) ∧
 ((True) ∧
 ((True) ∧
 ((True) ∧
 (True)))))) ∧
 (True)) ∧
 ((((0 : Nat) = (0 : Nat)) ∧
 ((List.length (newerB (BoxI.b x1) (fun (u : Int) => Sta.seq (Box.last (BoxI.b x1) u)) x4) ≤ List.length (newerB (BoxI.b x1) (fun (u : Int) => Sta.seq (Box.last (BoxI.b x1) u)) x4)) ∧
 (((1 : Nat) ≤ (1 : Nat)) ∧
 (List.length (newerB (BoxI.b x1) (fun (u : Int) => Sta.seq (Box.last (BoxI.b x1) u)) x4) + (1 : Nat) ≤ (1073741824 : Nat))))) ∧
 ((((-9223372036854775808 : Int) ≤ (↑x4 : Int) + (1 : Int)) ∧
 ((↑x4 : Int) + (1 : Int) ≤ (9223372036854775807 : Int))) ∧
 (∃ x12 : Nat,
 ((List.length (BoxI.b x1) - x12 < List.length (BoxI.b x1) - x4) ∧
 ((x12 ≤ List.length (BoxI.b x1)) ∧
 ((((↑x4 : Int) + (1 : Int) = (↑x12 : Int)) ∧
 ((((0 : Nat) = (0 : Nat)) ∧
 ((0 : Nat) = (0 : Nat))) ∧
 (((↑(List.length (BoxI.b x1)) : Int) = (↑(List.length (BoxI.b x1)) : Int)) ∧
 ((((0 : Nat) = (0 : Nat)) ∧
 (List.length (BoxI.b x1) = List.length (BoxI.b x1))) ∧
 ((((0 : Nat) = (0 : Nat)) ∧
 ((0 : Nat) = (0 : Nat))) ∧
 ((((0 : Nat) = (0 : Nat)) ∧
 ((0 : Nat) = (0 : Nat))) ∧
 ((((0 : Nat) = (0 : Nat)) ∧
 ((0 : Nat) = (0 : Nat))) ∧
 (((((0 : Nat) = (0 : Nat)) ∧
 ((0 : Nat) = (0 : Nat))) ∧
 (True)) ∧
 ((((0 : Nat) = (0 : Nat)) ∧
 ((0 : Nat) = (0 : Nat))) ∧
 (((((0 : Nat) = (0 : Nat)) ∧
 ((0 : Nat) = (0 : Nat))) ∧
 (True)) ∧
 (True))))))))))) ∧
 (((((0 : Nat) = (0 : Nat)) ∧
 (List.length (newerB (BoxI.b x1) (fun (u : Int) => Sta.seq (Box.last (BoxI.b x1) u)) x4) + (1 : Nat) = List.length (newerB (BoxI.b x1) (fun (u : Int) => Sta.seq (Box.last (BoxI.b x1) u)) x12))) ∧
 (True)) ∧
 (((RLe (List.length (newerB (BoxI.b x1) (fun (u : Int) => Sta.seq (Box.last (BoxI.b x1) u)) x12)) (List.length (newerB (BoxI.b x1) (fun (u : Int) => Sta.seq (Box.last (BoxI.b x1) u)) x4) + (1 : Nat))) ∧
 (RowsEq (Kd.int IntKind.i64 :: Kd.int IntKind.i64 :: Kd.int IntKind.i64 :: Kd.int IntKind.i64 :: Kd.int IntKind.i64 :: @List.nil Kd) (List.length (newerB (BoxI.b x1) (fun (u : Int) => Sta.seq (Box.last (BoxI.b x1) u)) x12)) (appRows (List.length (newerB (BoxI.b x1) (fun (u : Int) => Sta.seq (Box.last (BoxI.b x1) u)) x4)) (encL encStaD (newerB (BoxI.b x1) (fun (u : Int) => Sta.seq (Box.last (BoxI.b x1) u)) x4)) (0 : Nat) (litRows ((D.i (Sta.unit (Rec.sta (List.getD (BoxI.b x1) ((0 : Nat) + Int.toNat (↑x4 : Int)) default))) :: D.i (Sta.seq (Rec.sta (List.getD (BoxI.b x1) ((0 : Nat) + Int.toNat (↑x4 : Int)) default))) :: D.i (Sta.state (Rec.sta (List.getD (BoxI.b x1) ((0 : Nat) + Int.toNat (↑x4 : Int)) default))) :: D.i (Sta.node (Rec.sta (List.getD (BoxI.b x1) ((0 : Nat) + Int.toNat (↑x4 : Int)) default))) :: D.i (Sta.epoch (Rec.sta (List.getD (BoxI.b x1) ((0 : Nat) + Int.toNat (↑x4 : Int)) default))) :: @List.nil D) :: @List.nil (List D)))) (encL encStaD (newerB (BoxI.b x1) (fun (u : Int) => Sta.seq (Box.last (BoxI.b x1) u)) x12)))) ∧
 (((((0 : Nat) = (0 : Nat)) ∧
 (List.length (BoxI.b x1) = List.length (BoxI.b x1))) ∧
 (True)) ∧
 (((RLe (List.length (BoxI.b x1)) (List.length (BoxI.b x1))) ∧
 (RowsEq (Kd.int IntKind.i64 :: Kd.int IntKind.i64 :: Kd.int IntKind.i64 :: Kd.int IntKind.i64 :: Kd.int IntKind.i64 :: Kd.int IntKind.i64 :: Kd.int IntKind.i64 :: @List.nil Kd) (List.length (BoxI.b x1)) (encL encRec (BoxI.b x1)) (encL encRec (BoxI.b x1)))) ∧
 (((((0 : Nat) = (0 : Nat)) ∧
 ((0 : Nat) = (0 : Nat))) ∧
 (True)) ∧
 (True)))))))))))))) ∧
 ((decide (Sta.seq (Box.last (BoxI.b x10) (BoxI.u x10)) < Sta.seq (Rec.sta (List.getD (BoxI.b x1) ((0 : Nat) + Int.toNat (↑x4 : Int)) default))) = false) →
 ((((-9223372036854775808 : Int) ≤ (↑x4 : Int) + (1 : Int)) ∧
 ((↑x4 : Int) + (1 : Int) ≤ (9223372036854775807 : Int))) ∧
 (∃ x14 : Nat,
 ((List.length (BoxI.b x1) - x14 < List.length (BoxI.b x1) - x4) ∧
 ((x14 ≤ List.length (BoxI.b x1)) ∧
 ((((↑x4 : Int) + (1 : Int) = (↑x14 : Int)) ∧
 ((((0 : Nat) = (0 : Nat)) ∧
 ((0 : Nat) = (0 : Nat))) ∧
 (((↑(List.length (BoxI.b x1)) : Int) = (↑(List.length (BoxI.b x1)) : Int)) ∧
 ((((0 : Nat) = (0 : Nat)) ∧
 (List.length (BoxI.b x1) = List.length (BoxI.b x1))) ∧
 ((((0 : Nat) = (0 : Nat)) ∧
 ((0 : Nat) = (0 : Nat))) ∧
 ((((0 : Nat) = (0 : Nat)) ∧
 ((0 : Nat) = (0 : Nat))) ∧
 ((((0 : Nat) = (0 : Nat)) ∧
 ((0 : Nat) = (0 : Nat))) ∧
 (((((0 : Nat) = (0 : Nat)) ∧
 ((0 : Nat) = (0 : Nat))) ∧
 (True)) ∧
 ((((0 : Nat) = (0 : Nat)) ∧
 ((0 : Nat) = (0 : Nat))) ∧
 (((((0 : Nat) = (0 : Nat)) ∧
 ((0 : Nat) = (0 : Nat))) ∧
 (True)) ∧
 (True))))))))))) ∧
 (((((0 : Nat) = (0 : Nat)) ∧
 (List.length (newerB (BoxI.b x1) (fun (u : Int) => Sta.seq (Box.last (BoxI.b x1) u)) x4) = List.length (newerB (BoxI.b x1) (fun (u : Int) => Sta.seq (Box.last (BoxI.b x1) u)) x14))) ∧
 (True)) ∧
 (((RLe (List.length (newerB (BoxI.b x1) (fun (u : Int) => Sta.seq (Box.last (BoxI.b x1) u)) x14)) (List.length (newerB (BoxI.b x1) (fun (u : Int) => Sta.seq (Box.last (BoxI.b x1) u)) x4))) ∧
 (RowsEq (Kd.int IntKind.i64 :: Kd.int IntKind.i64 :: Kd.int IntKind.i64 :: Kd.int IntKind.i64 :: Kd.int IntKind.i64 :: @List.nil Kd) (List.length (newerB (BoxI.b x1) (fun (u : Int) => Sta.seq (Box.last (BoxI.b x1) u)) x14)) (encL encStaD (newerB (BoxI.b x1) (fun (u : Int) => Sta.seq (Box.last (BoxI.b x1) u)) x4)) (encL encStaD (newerB (BoxI.b x1) (fun (u : Int) => Sta.seq (Box.last (BoxI.b x1) u)) x14)))) ∧
 (((((0 : Nat) = (0 : Nat)) ∧
 (List.length (BoxI.b x1) = List.length (BoxI.b x1))) ∧
 (True)) ∧
 (((RLe (List.length (BoxI.b x1)) (List.length (BoxI.b x1))) ∧
 (RowsEq (Kd.int IntKind.i64 :: Kd.int IntKind.i64 :: Kd.int IntKind.i64 :: Kd.int IntKind.i64 :: Kd.int IntKind.i64 :: Kd.int IntKind.i64 :: Kd.int IntKind.i64 :: @List.nil Kd) (List.length (BoxI.b x1)) (encL encRec (BoxI.b x1)) (encL encRec (BoxI.b x1)))) ∧
 (((((0 : Nat) = (0 : Nat)) ∧
 ((0 : Nat) = (0 : Nat))) ∧
 (True)) ∧
 (True)))))))))))))))))))))))) ∧
 ((decide ((↑x4 : Int) < (↑(List.length (BoxI.b x1)) : Int)) = false) →
 ((((0 : Nat) = (0 : Nat)) ∧
 (List.length (newerB (BoxI.b x1) (fun (u : Int) => Sta.seq (Box.last (BoxI.b x1) u)) x4) = List.length (newerB (BoxI.b x1) (fun (u : Int) => Sta.seq (Box.last (BoxI.b x1) u)) (List.length (BoxI.b x1))))) ∧
 (((RLe (List.length (newerB (BoxI.b x1) (fun (u : Int) => Sta.seq (Box.last (BoxI.b x1) u)) (List.length (BoxI.b x1)))) (List.length (newerB (BoxI.b x1) (fun (u : Int) => Sta.seq (Box.last (BoxI.b x1) u)) x4))) ∧
 (RowsEq (Kd.int IntKind.i64 :: Kd.int IntKind.i64 :: Kd.int IntKind.i64 :: Kd.int IntKind.i64 :: Kd.int IntKind.i64 :: @List.nil Kd) (List.length (newerB (BoxI.b x1) (fun (u : Int) => Sta.seq (Box.last (BoxI.b x1) u)) (List.length (BoxI.b x1)))) (encL encStaD (newerB (BoxI.b x1) (fun (u : Int) => Sta.seq (Box.last (BoxI.b x1) u)) x4)) (encL encStaD (newerB (BoxI.b x1) (fun (u : Int) => Sta.seq (Box.last (BoxI.b x1) u)) (List.length (BoxI.b x1)))))) ∧
 (True)))))))))))) = Keeps cfg12 Try.f20 newer2C newer2I by kernel_rfl) (fun x1 => fun h2 => ⟨((0 : Nat)),
 ⟨(by (try dsimp only at *); omega),
 ⟨(by (try dsimp only at *); omega),
 ⟨rfl,
 rfl⟩,
 rfl,
 ⟨rfl,
 rfl⟩,
 ⟨rfl,
 rfl⟩,
 ⟨rfl,
 rfl⟩,
 ⟨rfl,
 rfl⟩,
 ⟨⟨rfl,
 rfl⟩,
 trivial⟩,
 ⟨rfl,
 rfl⟩,
 ⟨⟨rfl,
 rfl⟩,
 trivial⟩,
 trivial⟩,
 ⟨⟨trivial,
 rfl,
 (by (try dsimp only at *); rfl)⟩,
 trivial⟩,
 (by (try dsimp only at *); rfl),
 ⟨⟨rfl,
 rfl⟩,
 trivial⟩,
 ⟨⟨Nat.le_refl _⟩,
 RowsEq.rfl'⟩,
 ⟨⟨rfl,
 rfl⟩,
 trivial⟩,
 trivial⟩,
 fun x4 => fun h5 => ⟨fun g6 => have h6 := of_decide_eq_true g6; ⟨⟨(by (try dsimp only at *); omega),
 (by (try dsimp only at *); omega)⟩,
 (by (try dsimp only at *); omega),
 fun g7 => have h7 := of_decide_eq_true g7; ⟨⟨(by (try dsimp only at *); omega),
 (by (try dsimp only at *); omega)⟩,
 (x4 + (1 : Nat)),
 (by (try dsimp only at *); omega),
 (by (try dsimp only at *); omega),
 ⟨(by (try dsimp only at *); omega),
 ⟨rfl,
 rfl⟩,
 rfl,
 ⟨rfl,
 rfl⟩,
 ⟨rfl,
 rfl⟩,
 ⟨rfl,
 rfl⟩,
 ⟨rfl,
 rfl⟩,
 ⟨⟨rfl,
 rfl⟩,
 trivial⟩,
 ⟨rfl,
 rfl⟩,
 ⟨⟨rfl,
 rfl⟩,
 trivial⟩,
 trivial⟩,
 ⟨⟨rfl,
 (by (try dsimp only at *); (rw [nb_no ‹_›]; done))⟩,
 trivial⟩,
 ⟨⟨(by (try dsimp only at *); (rw [nb_no ‹_›]; exact Nat.le_refl _))⟩,
 (by (try dsimp only at *); (rw [nb_no ‹_›]; exact RowsEq.rfl'))⟩,
 ⟨⟨rfl,
 rfl⟩,
 trivial⟩,
 ⟨⟨Nat.le_refl _⟩,
 RowsEq.rfl'⟩,
 ⟨⟨rfl,
 rfl⟩,
 trivial⟩,
 trivial⟩,
 fun g9 => have h9 := of_decide_eq_false g9; ⟨⟨(by (try dsimp only at *); omega),
 (by (try dsimp only at *); omega)⟩,
 (by (try dsimp only at *); omega),
 ({ b := BoxI.b x1, u := (↑x4 : Int) : BoxI }),
 trivial,
 ⟨rfl,
 ⟨rfl,
 rfl⟩,
 trivial⟩,
 ⟨⟨⟨rfl,
 rfl⟩,
 trivial⟩,
 ⟨⟨rfl,
 rfl⟩,
 trivial⟩,
 ⟨⟨Nat.le_refl _⟩,
 RowsEq.rfl'⟩,
 trivial⟩,
 fun g11 => have h11 := of_decide_eq_true g11; ⟨⟨⟨trivial,
 trivial,
 trivial,
 trivial,
 trivial,
 trivial⟩,
 trivial⟩,
 ⟨rfl,
 (by (try dsimp only at *); omega),
 (by (try dsimp only at *); omega),
 (by (try dsimp only at *); (have := h2; have := newerB_len x1.b (fun u => (x1.b.last u).seq) x4; omega))⟩,
 ⟨(by (try dsimp only at *); omega),
 (by (try dsimp only at *); omega)⟩,
 (x4 + (1 : Nat)),
 (by (try dsimp only at *); omega),
 (by (try dsimp only at *); omega),
 ⟨(by (try dsimp only at *); omega),
 ⟨rfl,
 rfl⟩,
 rfl,
 ⟨rfl,
 rfl⟩,
 ⟨rfl,
 rfl⟩,
 ⟨rfl,
 rfl⟩,
 ⟨rfl,
 rfl⟩,
 ⟨⟨rfl,
 rfl⟩,
 trivial⟩,
 ⟨rfl,
 rfl⟩,
 ⟨⟨rfl,
 rfl⟩,
 trivial⟩,
 trivial⟩,
 ⟨⟨rfl,
 (by (try dsimp only at *); exact (nb_len ‹_› ‹_›).symm)⟩,
 trivial⟩,
 ⟨⟨(by (try dsimp only at *); exact Nat.le_of_eq (nb_len ‹_› ‹_›))⟩,
 (by (try dsimp only at *); exact nb_rows ‹_› ‹_›)⟩,
 ⟨⟨rfl,
 rfl⟩,
 trivial⟩,
 ⟨⟨Nat.le_refl _⟩,
 RowsEq.rfl'⟩,
 ⟨⟨rfl,
 rfl⟩,
 trivial⟩,
 trivial⟩,
 fun g13 => have h13 := of_decide_eq_false g13; ⟨⟨(by (try dsimp only at *); omega),
 (by (try dsimp only at *); omega)⟩,
 (x4 + (1 : Nat)),
 (by (try dsimp only at *); omega),
 (by (try dsimp only at *); omega),
 ⟨(by (try dsimp only at *); omega),
 ⟨rfl,
 rfl⟩,
 rfl,
 ⟨rfl,
 rfl⟩,
 ⟨rfl,
 rfl⟩,
 ⟨rfl,
 rfl⟩,
 ⟨rfl,
 rfl⟩,
 ⟨⟨rfl,
 rfl⟩,
 trivial⟩,
 ⟨rfl,
 rfl⟩,
 ⟨⟨rfl,
 rfl⟩,
 trivial⟩,
 trivial⟩,
 ⟨⟨rfl,
 (by (try dsimp only at *); (rw [nb_old ‹_›]; done))⟩,
 trivial⟩,
 ⟨⟨(by (try dsimp only at *); (rw [nb_old ‹_›]; exact Nat.le_refl _))⟩,
 (by (try dsimp only at *); (rw [nb_old ‹_›]; exact RowsEq.rfl'))⟩,
 ⟨⟨rfl,
 rfl⟩,
 trivial⟩,
 ⟨⟨Nat.le_refl _⟩,
 RowsEq.rfl'⟩,
 ⟨⟨rfl,
 rfl⟩,
 trivial⟩,
 trivial⟩⟩⟩,
 fun g15 => have h15 := of_decide_eq_false g15; ⟨⟨rfl,
 (by (try dsimp only at *); grind)⟩,
 ⟨⟨(by (try dsimp only at *); grind)⟩,
 (by (try dsimp only at *); (obtain rfl : x4 = x1.b.length := (by omega); exact RowsEq.rfl'))⟩,
 trivial⟩⟩⟩)


def newer3C : CT where
  X := BoxI
  pre := fun x => x.b.length ≤ 256
  args := fun x => [.p 100000 0 0, .fn 25 []]
  g0 := fun x => boxH .bor x.b
  res := fun x => .sl 1 0 (newerB x.b (fun u => -1) x.b.length).length
  g1 := fun x => newerH x.b (fun u => -1) x.b.length 1
def newer3I (x : BoxI) : Nat → Option Inv := newerI x.b (fun u => -1) []
set_option maxRecDepth 100000 in
theorem newer3_keeps : Keeps cfg12 Try.f20 newer3C newer3I := Eq.mp (show ((∀ x1 : BoxI,
 ((List.length (BoxI.b x1) ≤ (256 : Nat)) →
 (∃ x3 : Nat,
 (((x3 ≤ List.length (BoxI.b x1)) ∧
 ((((0 : Int) = (↑x3 : Int)) ∧
 ((((0 : Nat) = (0 : Nat)) ∧
 ((0 : Nat) = (0 : Nat))) ∧
 (((↑(List.length (BoxI.b x1)) : Int) = (↑(List.length (BoxI.b x1)) : Int)) ∧
 ((((0 : Nat) = (0 : Nat)) ∧
 (List.length (BoxI.b x1) = List.length (BoxI.b x1))) ∧
 ((((0 : Nat) = (0 : Nat)) ∧
 ((0 : Nat) = (0 : Nat))) ∧
 ((((0 : Nat) = (0 : Nat)) ∧
 ((0 : Nat) = (0 : Nat))) ∧
 ((((0 : Nat) = (0 : Nat)) ∧
 ((0 : Nat) = (0 : Nat))) ∧
 (((((0 : Nat) = (0 : Nat)) ∧
 ((0 : Nat) = (0 : Nat))) ∧
 (True)) ∧
 ((((0 : Nat) = (0 : Nat)) ∧
 ((0 : Nat) = (0 : Nat))) ∧
 ((True) ∧
 (True))))))))))) ∧
 ((((True) ∧
 (((0 : Nat) = (0 : Nat)) ∧
 (List.length (newerB (BoxI.b x1) (fun (u : Int) => (-1 : Int)) x3) = (0 : Nat)))) ∧
 (True)) ∧
 ((List.length (newerB (BoxI.b x1) (fun (u : Int) => (-1 : Int)) x3) = (0 : Nat)) ∧
 (((((0 : Nat) = (0 : Nat)) ∧
 (List.length (BoxI.b x1) = List.length (BoxI.b x1))) ∧
 (True)) ∧
 (((RLe (List.length (BoxI.b x1)) (List.length (BoxI.b x1))) ∧
 (RowsEq (Kd.int IntKind.i64 :: Kd.int IntKind.i64 :: Kd.int IntKind.i64 :: Kd.int IntKind.i64 :: Kd.int IntKind.i64 :: Kd.int IntKind.i64 :: Kd.int IntKind.i64 :: @List.nil Kd) (List.length (BoxI.b x1)) (encL encRec (BoxI.b x1)) (encL encRec (BoxI.b x1)))) ∧
 (True))))))) ∧
 (∀ x4 : Nat,
 ((x4 ≤ List.length (BoxI.b x1)) →
 (((decide ((↑x4 : Int) < (↑(List.length (BoxI.b x1)) : Int)) = true) →
 ((((0 : Int) ≤ (↑x4 : Int)) ∧
 ((↑x4 : Int) < (↑(List.length (BoxI.b x1)) : Int))) ∧
 (((0 : Nat) + Int.toNat (↑x4 : Int) < List.length (BoxI.b x1)) ∧
 (((decide (Rec.added (List.getD (BoxI.b x1) ((0 : Nat) + Int.toNat (↑x4 : Int)) default) = (0 : Int)) = true) →
 ((((-9223372036854775808 : Int) ≤ (↑x4 : Int) + (1 : Int)) ∧
 ((↑x4 : Int) + (1 : Int) ≤ (9223372036854775807 : Int))) ∧
 (∃ x8 : Nat,
 ((List.length (BoxI.b x1) - x8 < List.length (BoxI.b x1) - x4) ∧
 ((x8 ≤ List.length (BoxI.b x1)) ∧
 ((((↑x4 : Int) + (1 : Int) = (↑x8 : Int)) ∧
 ((((0 : Nat) = (0 : Nat)) ∧
 ((0 : Nat) = (0 : Nat))) ∧
 (((↑(List.length (BoxI.b x1)) : Int) = (↑(List.length (BoxI.b x1)) : Int)) ∧
 ((((0 : Nat) = (0 : Nat)) ∧
 (List.length (BoxI.b x1) = List.length (BoxI.b x1))) ∧
 ((((0 : Nat) = (0 : Nat)) ∧
 ((0 : Nat) = (0 : Nat))) ∧
 ((((0 : Nat) = (0 : Nat)) ∧
 ((0 : Nat) = (0 : Nat))) ∧
 ((((0 : Nat) = (0 : Nat)) ∧
 ((0 : Nat) = (0 : Nat))) ∧
 (((((0 : Nat) = (0 : Nat)) ∧
 ((0 : Nat) = (0 : Nat))) ∧
 (True)) ∧
 ((((0 : Nat) = (0 : Nat)) ∧
 ((0 : Nat) = (0 : Nat))) ∧
 ((True) ∧
 (True))))))))))) ∧
 (((((0 : Nat) = (0 : Nat)) ∧
 (List.length (newerB (BoxI.b x1) (fun (u : Int) => (-1 : Int)) x4) = List.length (newerB (BoxI.b x1) (fun (u : Int) => (-1 : Int)) x8))) ∧
 (True)) ∧
 (((RLe (List.length (newerB (BoxI.b x1) (fun (u : Int) => (-1 : Int)) x8)) (List.length (newerB (BoxI.b x1) (fun (u : Int) => (-1 : Int)) x4))) ∧
 (RowsEq (Kd.int IntKind.i64 :: Kd.int IntKind.i64 :: Kd.int IntKind.i64 :: Kd.int IntKind.i64 :: Kd.int IntKind.i64 :: @List.nil Kd) (List.length (newerB (BoxI.b x1) (fun (u : Int) => (-1 : Int)) x8)) (encL encStaD (newerB (BoxI.b x1) (fun (u : Int) => (-1 : Int)) x4)) (encL encStaD (newerB (BoxI.b x1) (fun (u : Int) => (-1 : Int)) x8)))) ∧
 (((((0 : Nat) = (0 : Nat)) ∧
 (List.length (BoxI.b x1) = List.length (BoxI.b x1))) ∧
 (True)) ∧
 (((RLe (List.length (BoxI.b x1)) (List.length (BoxI.b x1))) ∧
 (RowsEq (Kd.int IntKind.i64 :: Kd.int IntKind.i64 :: Kd.int IntKind.i64 :: Kd.int IntKind.i64 :: Kd.int IntKind.i64 :: Kd.int IntKind.i64 :: Kd.int IntKind.i64 :: @List.nil Kd) (List.length (BoxI.b x1)) (encL encRec (BoxI.b x1)) (encL encRec (BoxI.b x1)))) ∧
 (True))))))))))) ∧
 ((decide (Rec.added (List.getD (BoxI.b x1) ((0 : Nat) + Int.toNat (↑x4 : Int)) default) = (0 : Int)) = false) →
 ((((0 : Int) ≤ (↑x4 : Int)) ∧
 ((↑x4 : Int) < (↑(List.length (BoxI.b x1)) : Int))) ∧
 (((0 : Nat) + Int.toNat (↑x4 : Int) < List.length (BoxI.b x1)) ∧
 (∃ x10 : Int,
 ((True) ∧
 ((((↑x4 : Int) = x10) ∧
 (True)) ∧
 ((True) ∧
 (((decide ((-1 : Int) < Sta.seq (Rec.sta (List.getD (BoxI.b x1) ((0 : Nat) + Int.toNat (↑x4 : Int)) default))) = true) →
 ((((True) ∧
 ((True) ∧
 ((True) ∧
 ((True) ∧
 ((True) ∧
 (True)))))) ∧
 (True)) ∧
 ((((0 : Nat) = (0 : Nat)) ∧
 ((List.length (newerB (BoxI.b x1) (fun (u : Int) => (-1 : Int)) x4) ≤ List.length (newerB (BoxI.b x1) (fun (u : Int) => (-1 : Int)) x4)) ∧
 (((1 : Nat) ≤ (1 : Nat)) ∧
 (List.length (newerB (BoxI.b x1) (fun (u : Int) => (-1 : Int)) x4) + (1 : Nat) ≤ (1073741824 : Nat))))) ∧
 ((((-9223372036854775808 : Int) ≤ (↑x4 : Int) + (1 : Int)) ∧
 ((↑x4 : Int) + (1 : Int) ≤ (9223372036854775807 : Int))) ∧
 (∃ x12 : Nat,
 ((List.length (BoxI.b x1) - x12 < List.length (BoxI.b x1) - x4) ∧
 ((x12 ≤ List.length (BoxI.b x1)) ∧
 ((((↑x4 : Int) + (1 : Int) = (↑x12 : Int)) ∧
 ((((0 : Nat) = (0 : Nat)) ∧
 ((0 : Nat) = (0 : Nat))) ∧
 (((↑(List.length (BoxI.b x1)) : Int) = (↑(List.length (BoxI.b x1)) : Int)) ∧
 ((((0 : Nat) = (0 : Nat)) ∧
 (List.length (BoxI.b x1) = List.length (BoxI.b x1))) ∧
 ((((0 : Nat) = (0 : Nat)) ∧
 ((0 : Nat) = (0 : Nat))) ∧
 ((((0 : Nat) = (0 : Nat)) ∧
 ((0 : Nat) = (0 : Nat))) ∧
 ((((0 : Nat) = (0 : Nat)) ∧
 ((0 : Nat) = (0 : Nat))) ∧
 (((((0 : Nat) = (0 : Nat)) ∧
 ((0 : Nat) = (0 : Nat))) ∧
 (True)) ∧
 ((((0 : Nat) = (0 : Nat)) ∧
 ((0 : Nat) = (0 : Nat))) ∧
 ((True) ∧
 (True))))))))))) ∧
 (((((0 : Nat) = (0 : Nat)) ∧
 (List.length (newerB (BoxI.b x1) (fun (u : Int) => (-1 : Int)) x4) + (1 : Nat) = List.length (newerB (BoxI.b x1) (fun (u : Int) => (-1 : Int)) x12))) ∧
 (True)) ∧
 (((RLe (List.length (newerB (BoxI.b x1) (fun (u : Int) => (-1 : Int)) x12)) (List.length (newerB (BoxI.b x1) (fun (u : Int) => (-1 : Int)) x4) + (1 : Nat))) ∧
 (RowsEq (Kd.int IntKind.i64 :: Kd.int IntKind.i64 :: Kd.int IntKind.i64 :: Kd.int IntKind.i64 :: Kd.int IntKind.i64 :: @List.nil Kd) (List.length (newerB (BoxI.b x1) (fun (u : Int) => (-1 : Int)) x12)) (appRows (List.length (newerB (BoxI.b x1) (fun (u : Int) => (-1 : Int)) x4)) (encL encStaD (newerB (BoxI.b x1) (fun (u : Int) => (-1 : Int)) x4)) (0 : Nat) (litRows ((D.i (Sta.unit (Rec.sta (List.getD (BoxI.b x1) ((0 : Nat) + Int.toNat (↑x4 : Int)) default))) :: D.i (Sta.seq (Rec.sta (List.getD (BoxI.b x1) ((0 : Nat) + Int.toNat (↑x4 : Int)) default))) :: D.i (Sta.state (Rec.sta (List.getD (BoxI.b x1) ((0 : Nat) + Int.toNat (↑x4 : Int)) default))) :: D.i (Sta.node (Rec.sta (List.getD (BoxI.b x1) ((0 : Nat) + Int.toNat (↑x4 : Int)) default))) :: D.i (Sta.epoch (Rec.sta (List.getD (BoxI.b x1) ((0 : Nat) + Int.toNat (↑x4 : Int)) default))) :: @List.nil D) :: @List.nil (List D)))) (encL encStaD (newerB (BoxI.b x1) (fun (u : Int) => (-1 : Int)) x12)))) ∧
 (((((0 : Nat) = (0 : Nat)) ∧
 (List.length (BoxI.b x1) = List.length (BoxI.b x1))) ∧
 (True)) ∧
 (((RLe (List.length (BoxI.b x1)) (List.length (BoxI.b x1))) ∧
 (RowsEq (Kd.int IntKind.i64 :: Kd.int IntKind.i64 :: Kd.int IntKind.i64 :: Kd.int IntKind.i64 :: Kd.int IntKind.i64 :: Kd.int IntKind.i64 :: Kd.int IntKind.i64 :: @List.nil Kd) (List.length (BoxI.b x1)) (encL encRec (BoxI.b x1)) (encL encRec (BoxI.b x1)))) ∧
 (True))))))))))))) ∧
 ((decide ((-1 : Int) < Sta.seq (Rec.sta (List.getD (BoxI.b x1) ((0 : Nat) + Int.toNat (↑x4 : Int)) default))) = false) →
 ((((-9223372036854775808 : Int) ≤ (↑x4 : Int) + (1 : Int)) ∧
 ((↑x4 : Int) + (1 : Int) ≤ (9223372036854775807 : Int))) ∧
 (∃ x14 : Nat,
 ((List.length (BoxI.b x1) - x14 < List.length (BoxI.b x1) - x4) ∧
 ((x14 ≤ List.length (BoxI.b x1)) ∧
 ((((↑x4 : Int) + (1 : Int) = (↑x14 : Int)) ∧
 ((((0 : Nat) = (0 : Nat)) ∧
 ((0 : Nat) = (0 : Nat))) ∧
 (((↑(List.length (BoxI.b x1)) : Int) = (↑(List.length (BoxI.b x1)) : Int)) ∧
 ((((0 : Nat) = (0 : Nat)) ∧
 (List.length (BoxI.b x1) = List.length (BoxI.b x1))) ∧
 ((((0 : Nat) = (0 : Nat)) ∧
 ((0 : Nat) = (0 : Nat))) ∧
 ((((0 : Nat) = (0 : Nat)) ∧
 ((0 : Nat) = (0 : Nat))) ∧
 ((((0 : Nat) = (0 : Nat)) ∧
 ((0 : Nat) = (0 : Nat))) ∧
 (((((0 : Nat) = (0 : Nat)) ∧
 ((0 : Nat) = (0 : Nat))) ∧
 (True)) ∧
 ((((0 : Nat) = (0 : Nat)) ∧
 ((0 : Nat) = (0 : Nat))) ∧
 ((True) ∧
 (True))))))))))) ∧
 (((((0 : Nat) = (0 : Nat)) ∧
 (List.length (newerB (BoxI.b x1) (fun (u : Int) => (-1 : Int)) x4) = List.length (newerB (BoxI.b x1) (fun (u : Int) => (-1 : Int)) x14))) ∧
 (True)) ∧
 (((RLe (List.length (newerB (BoxI.b x1) (fun (u : Int) => (-1 : Int)) x14)) (List.length (newerB (BoxI.b x1) (fun (u : Int) => (-1 : Int)) x4))) ∧
 (RowsEq (Kd.int IntKind.i64 :: Kd.int IntKind.i64 :: Kd.int IntKind.i64 :: Kd.int IntKind.i64 :: Kd.int IntKind.i64 :: @List.nil Kd) (List.length (newerB (BoxI.b x1) (fun (u : Int) => (-1 : Int)) x14)) (encL encStaD (newerB (BoxI.b x1) (fun (u : Int) => (-1 : Int)) x4)) (encL encStaD (newerB (BoxI.b x1) (fun (u : Int) => (-1 : Int)) x14)))) ∧
 (((((0 : Nat) = (0 : Nat)) ∧
 (List.length (BoxI.b x1) = List.length (BoxI.b x1))) ∧
 (True)) ∧
 (((RLe (List.length (BoxI.b x1)) (List.length (BoxI.b x1))) ∧
 (RowsEq (Kd.int IntKind.i64 :: Kd.int IntKind.i64 :: Kd.int IntKind.i64 :: Kd.int IntKind.i64 :: Kd.int IntKind.i64 :: Kd.int IntKind.i64 :: Kd.int IntKind.i64 :: @List.nil Kd) (List.length (BoxI.b x1)) (encL encRec (BoxI.b x1)) (encL encRec (BoxI.b x1)))) ∧
 (True))))))))))))))))))))))) ∧
 ((decide ((↑x4 : Int) < (↑(List.length (BoxI.b x1)) : Int)) = false) →
 ((((0 : Nat) = (0 : Nat)) ∧
 (List.length (newerB (BoxI.b x1) (fun (u : Int) => (-1 : Int)) x4) = List.length (newerB (BoxI.b x1) (fun (u : Int) => (-1 : Int)) (List.length (BoxI.b x1))))) ∧
 (((RLe (List.length (newerB (BoxI.b x1) (fun (u : Int) => (-1 : Int)) (List.length (BoxI.b x1)))) (List.length (newerB (BoxI.b x1) (fun (u : Int) => (-1 : Int)) x4))) ∧
 (RowsEq (Kd.int IntKind.i64 :: Kd.int IntKind.i64 :: Kd.int IntKind.i64 :: Kd.int IntKind.i64 :: Kd.int IntKind.i64 :: @List.nil Kd) (List.length (newerB (BoxI.b x1) (fun (u : Int) => (-1 : Int)) (List.length (BoxI.b x1)))) (encL encStaD (newerB (BoxI.b x1) (fun (u : Int) => (-1 : Int)) x4)) (encL encStaD (newerB (BoxI.b x1) (fun (u : Int) => (-1 : Int)) (List.length (BoxI.b x1)))))) ∧
 (True)))))))))))) = Keeps cfg12 Try.f20 newer3C newer3I by kernel_rfl) (fun x1 => fun h2 => ⟨((0 : Nat)),
 ⟨(by (try dsimp only at *); omega),
 ⟨(by (try dsimp only at *); omega),
 ⟨rfl,
 rfl⟩,
 rfl,
 ⟨rfl,
 rfl⟩,
 ⟨rfl,
 rfl⟩,
 ⟨rfl,
 rfl⟩,
 ⟨rfl,
 rfl⟩,
 ⟨⟨rfl,
 rfl⟩,
 trivial⟩,
 ⟨rfl,
 rfl⟩,
 trivial,
 trivial⟩,
 ⟨⟨trivial,
 rfl,
 (by (try dsimp only at *); rfl)⟩,
 trivial⟩,
 (by (try dsimp only at *); rfl),
 ⟨⟨rfl,
 rfl⟩,
 trivial⟩,
 ⟨⟨Nat.le_refl _⟩,
 RowsEq.rfl'⟩,
 trivial⟩,
 fun x4 => fun h5 => ⟨fun g6 => have h6 := of_decide_eq_true g6; ⟨⟨(by (try dsimp only at *); omega),
 (by (try dsimp only at *); omega)⟩,
 (by (try dsimp only at *); omega),
 fun g7 => have h7 := of_decide_eq_true g7; ⟨⟨(by (try dsimp only at *); omega),
 (by (try dsimp only at *); omega)⟩,
 (x4 + (1 : Nat)),
 (by (try dsimp only at *); omega),
 (by (try dsimp only at *); omega),
 ⟨(by (try dsimp only at *); omega),
 ⟨rfl,
 rfl⟩,
 rfl,
 ⟨rfl,
 rfl⟩,
 ⟨rfl,
 rfl⟩,
 ⟨rfl,
 rfl⟩,
 ⟨rfl,
 rfl⟩,
 ⟨⟨rfl,
 rfl⟩,
 trivial⟩,
 ⟨rfl,
 rfl⟩,
 trivial,
 trivial⟩,
 ⟨⟨rfl,
 (by (try dsimp only at *); (rw [nb_no ‹_›]; done))⟩,
 trivial⟩,
 ⟨⟨(by (try dsimp only at *); (rw [nb_no ‹_›]; exact Nat.le_refl _))⟩,
 (by (try dsimp only at *); (rw [nb_no ‹_›]; exact RowsEq.rfl'))⟩,
 ⟨⟨rfl,
 rfl⟩,
 trivial⟩,
 ⟨⟨Nat.le_refl _⟩,
 RowsEq.rfl'⟩,
 trivial⟩,
 fun g9 => have h9 := of_decide_eq_false g9; ⟨⟨(by (try dsimp only at *); omega),
 (by (try dsimp only at *); omega)⟩,
 (by (try dsimp only at *); omega),
 ((↑x4 : Int)),
 trivial,
 ⟨rfl,
 trivial⟩,
 trivial,
 fun g11 => have h11 := of_decide_eq_true g11; ⟨⟨⟨trivial,
 trivial,
 trivial,
 trivial,
 trivial,
 trivial⟩,
 trivial⟩,
 ⟨rfl,
 (by (try dsimp only at *); omega),
 (by (try dsimp only at *); omega),
 (by (try dsimp only at *); (have := h2; have := newerB_len x1.b (fun u => -1) x4; omega))⟩,
 ⟨(by (try dsimp only at *); omega),
 (by (try dsimp only at *); omega)⟩,
 (x4 + (1 : Nat)),
 (by (try dsimp only at *); omega),
 (by (try dsimp only at *); omega),
 ⟨(by (try dsimp only at *); omega),
 ⟨rfl,
 rfl⟩,
 rfl,
 ⟨rfl,
 rfl⟩,
 ⟨rfl,
 rfl⟩,
 ⟨rfl,
 rfl⟩,
 ⟨rfl,
 rfl⟩,
 ⟨⟨rfl,
 rfl⟩,
 trivial⟩,
 ⟨rfl,
 rfl⟩,
 trivial,
 trivial⟩,
 ⟨⟨rfl,
 (by (try dsimp only at *); exact (nb_len ‹_› ‹_›).symm)⟩,
 trivial⟩,
 ⟨⟨(by (try dsimp only at *); exact Nat.le_of_eq (nb_len ‹_› ‹_›))⟩,
 (by (try dsimp only at *); exact nb_rows ‹_› ‹_›)⟩,
 ⟨⟨rfl,
 rfl⟩,
 trivial⟩,
 ⟨⟨Nat.le_refl _⟩,
 RowsEq.rfl'⟩,
 trivial⟩,
 fun g13 => have h13 := of_decide_eq_false g13; ⟨⟨(by (try dsimp only at *); omega),
 (by (try dsimp only at *); omega)⟩,
 (x4 + (1 : Nat)),
 (by (try dsimp only at *); omega),
 (by (try dsimp only at *); omega),
 ⟨(by (try dsimp only at *); omega),
 ⟨rfl,
 rfl⟩,
 rfl,
 ⟨rfl,
 rfl⟩,
 ⟨rfl,
 rfl⟩,
 ⟨rfl,
 rfl⟩,
 ⟨rfl,
 rfl⟩,
 ⟨⟨rfl,
 rfl⟩,
 trivial⟩,
 ⟨rfl,
 rfl⟩,
 trivial,
 trivial⟩,
 ⟨⟨rfl,
 (by (try dsimp only at *); (rw [nb_old ‹_›]; done))⟩,
 trivial⟩,
 ⟨⟨(by (try dsimp only at *); (rw [nb_old ‹_›]; exact Nat.le_refl _))⟩,
 (by (try dsimp only at *); (rw [nb_old ‹_›]; exact RowsEq.rfl'))⟩,
 ⟨⟨rfl,
 rfl⟩,
 trivial⟩,
 ⟨⟨Nat.le_refl _⟩,
 RowsEq.rfl'⟩,
 trivial⟩⟩⟩,
 fun g15 => have h15 := of_decide_eq_false g15; ⟨⟨rfl,
 (by (try dsimp only at *); grind)⟩,
 ⟨⟨(by (try dsimp only at *); grind)⟩,
 (by (try dsimp only at *); (obtain rfl : x4 = x1.b.length := (by omega); exact RowsEq.rfl'))⟩,
 trivial⟩⟩⟩)


theorem harm12 : ∀ g, memN cfg12.ex.harm g = true → Harmless Try.prog g := by
  intro g hg
  have : g = 32 := by
    have h : memN [32] g = true := hg
    unfold memN at h
    split at h
    · rename_i h1; exact (Nat.eq_of_beq_eq_true h1).symm
    · simp [memN] at h
  subst this
  exact harm32
theorem newer1_good : Good Try.prog 20 newer1C ∧ FnOk Try.prog 20 := good_ofX tok con12 (fn := Try.f20) rfl (by decide +kernel) (fun _ => rfl) newer1_keeps harm12 (fun q _ lc h => by cases h)
theorem newer2_good : Good Try.prog 20 newer2C ∧ FnOk Try.prog 20 := good_ofX tok con12 (fn := Try.f20) rfl (by decide +kernel) (fun _ => rfl) newer2_keeps harm12 (fun q _ lc h => by cases h)
theorem newer3_good : Good Try.prog 20 newer3C ∧ FnOk Try.prog 20 := good_ofX tok con12 (fn := Try.f20) rfl (by decide +kernel) (fun _ => rfl) newer3_keeps harm12 (fun q _ lc h => by cases h)
/-! The reference. -/
structure NewyX where
  y : Ref
  ks : List Int
def rnewerC : CT where
  X := NewyX
  pre := fun x => x.y.news.length ≤ 1000 ∧ 0 ≤ x.y.units ∧ x.y.units ≤ 256
  args := fun x => [refV x.y 100000, .sl 100001 0 x.ks.length]
  g0 := fun x => refH x.y .bor 100000 ++ [(100001, .rows .bor k1 x.ks.length (encL encI x.ks))]
  res := fun x => .sl 1 0 (newerY x.y (knAt x.ks) x.y.units.toNat).length
  g1 := fun x => [(1, .rows .own k5 (newerY x.y (knAt x.ks) x.y.units.toNat).length (encL encStaD (newerY x.y (knAt x.ks) x.y.units.toNat)))]
def rnewerI (x : NewyX) (id : Nat) : Option Inv := match id with
  | 0 => some { X := Nat, ok := fun k => k ≤ x.y.units.toNat, fr := fun k => [(6, .i .i64 k), (5, .sl 1 0 (newerY x.y (knAt x.ks) k).length)], hp := fun k => [(1, .rows .own k5 (newerY x.y (knAt x.ks) k).length (encL encStaD (newerY x.y (knAt x.ks) k)))], me := fun k => x.y.units.toNat - k }
  | _ => none
theorem ny_old {y : Ref} {ks : List Int} {k : Nat} {v : Int} (hv : knAt ks k = v) (h : ¬ v < (y.last k).seq) : newerY y (knAt ks) (k + 1) = newerY y (knAt ks) k := by
  subst hv
  rw [newerY_succ, if_neg (by simp only [Bool.and_eq_true, decide_eq_true_eq]; exact fun q => h q.2)]; simp
theorem ny_not {y : Ref} {ks : List Int} {k : Nat} (h : y.there k = false) : newerY y (knAt ks) (k + 1) = newerY y (knAt ks) k := by
  rw [newerY_succ, if_neg (by rw [h]; simp)]; simp
theorem ny_new {y : Ref} {ks : List Int} {k : Nat} {v : Int} (hv : knAt ks k = v) (h1 : y.there k = true) (h : v < (y.last k).seq) : newerY y (knAt ks) (k + 1) = newerY y (knAt ks) k ++ [y.last k] := by
  subst hv
  rw [newerY_succ, if_pos (by simp only [Bool.and_eq_true, decide_eq_true_eq]; exact ⟨h1, h⟩)]
theorem kn_in {ks : List Int} {k : Nat} (h : (k : Int) < ks.length) : knAt ks k = ks.getD (0 + (k : Int).toNat) default := by
  unfold knAt; rw [if_pos ⟨by omega, h⟩, Nat.zero_add]
theorem kn_out {ks : List Int} {k : Nat} (h : ¬ (k : Int) < ks.length) : knAt ks k = 0 := by
  unfold knAt; rw [if_neg (fun q => h q.2)]
theorem ny_rows {y : Ref} {ks : List Int} {k : Nat} (h : newerY y (knAt ks) (k + 1) = newerY y (knAt ks) k ++ [y.last k]) :
    RowsEq k5 (newerY y (knAt ks) (k + 1)).length (appRows (newerY y (knAt ks) k).length (encL encStaD (newerY y (knAt ks) k)) 0 (litRows [[D.i (y.last k).unit, D.i (y.last k).seq, D.i (y.last k).state, D.i (y.last k).node, D.i (y.last k).epoch]])) (encL encStaD (newerY y (knAt ks) (k + 1))) := by
  rw [h]
  exact rowsEq_push rfl (by simp) (by simp only [rowEq, Kd.eqv, k5]; exact ⟨rfl, rfl, rfl, rfl, rfl, trivial⟩)
theorem ny_len {y : Ref} {ks : List Int} {k : Nat} (h : newerY y (knAt ks) (k + 1) = newerY y (knAt ks) k ++ [y.last k]) : (newerY y (knAt ks) (k + 1)).length = (newerY y (knAt ks) k).length + 1 := by rw [h]; simp
set_option maxRecDepth 100000 in
theorem rnewer_keeps : Keeps { cfg11 with vars := 11 } Try.f24 rnewerC rnewerI := Eq.mp (show ((∀ x1 : NewyX,
 ((List.length (Ref.news (NewyX.y x1)) ≤ (1000 : Nat) ∧ (0 : Int) ≤ Ref.units (NewyX.y x1) ∧ Ref.units (NewyX.y x1) ≤ (256 : Int)) →
 (∃ x3 : Nat,
 (((x3 ≤ Int.toNat (Ref.units (NewyX.y x1))) ∧
 ((((0 : Int) = (↑x3 : Int)) ∧
 (((True) ∧
 (((0 : Nat) = (0 : Nat)) ∧
 (List.length (newerY (NewyX.y x1) (knAt (NewyX.ks x1)) x3) = (0 : Nat)))) ∧
 ((True) ∧
 ((((0 : Nat) = (0 : Nat)) ∧
 ((0 : Nat) = (0 : Nat))) ∧
 (((Ref.units (NewyX.y x1) = Ref.units (NewyX.y x1)) ∧
 ((Ref.since (NewyX.y x1) = Ref.since (NewyX.y x1)) ∧
 ((((0 : Nat) = (0 : Nat)) ∧
 (List.length (Ref.news (NewyX.y x1)) = List.length (Ref.news (NewyX.y x1)))) ∧
 (True)))) ∧
 ((((0 : Nat) = (0 : Nat)) ∧
 (List.length (NewyX.ks x1) = List.length (NewyX.ks x1))) ∧
 (True))))))) ∧
 ((List.length (newerY (NewyX.y x1) (knAt (NewyX.ks x1)) x3) = (0 : Nat)) ∧
 (((Ref.units (NewyX.y x1) = Ref.units (NewyX.y x1)) ∧
 ((Ref.since (NewyX.y x1) = Ref.since (NewyX.y x1)) ∧
 ((((0 : Nat) = (0 : Nat)) ∧
 (List.length (Ref.news (NewyX.y x1)) = List.length (Ref.news (NewyX.y x1)))) ∧
 (True)))) ∧
 (((RLe (List.length (Ref.news (NewyX.y x1))) (List.length (Ref.news (NewyX.y x1)))) ∧
 (RowsEq (Kd.int IntKind.i64 :: Kd.int IntKind.i64 :: Kd.int IntKind.i64 :: Kd.int IntKind.i64 :: Kd.int IntKind.i64 :: Kd.int IntKind.i64 :: @List.nil Kd) (List.length (Ref.news (NewyX.y x1))) (encL encCame (Ref.news (NewyX.y x1))) (encL encCame (Ref.news (NewyX.y x1))))) ∧
 (((RLe (List.length (NewyX.ks x1)) (List.length (NewyX.ks x1))) ∧
 (RowsEq (Kd.int IntKind.i64 :: @List.nil Kd) (List.length (NewyX.ks x1)) (encL encI (NewyX.ks x1)) (encL encI (NewyX.ks x1)))) ∧
 (True))))))) ∧
 (∀ x4 : Nat,
 ((x4 ≤ Int.toNat (Ref.units (NewyX.y x1))) →
 (((decide ((↑x4 : Int) < Ref.units (NewyX.y x1)) = true) →
 (((decide ((↑x4 : Int) < (↑(List.length (NewyX.ks x1)) : Int)) = true) →
 ((((0 : Int) ≤ (↑x4 : Int)) ∧
 ((↑x4 : Int) < (↑(List.length (NewyX.ks x1)) : Int))) ∧
 (((0 : Nat) + Int.toNat (↑x4 : Int) < List.length (NewyX.ks x1)) ∧
 (∃ x8 : RefI,
 ((List.length (Ref.news (RefI.y x8)) ≤ (1000 : Nat)) ∧
 ((((Ref.units (NewyX.y x1) = Ref.units (RefI.y x8)) ∧
 ((Ref.since (NewyX.y x1) = Ref.since (RefI.y x8)) ∧
 ((((0 : Nat) = (0 : Nat)) ∧
 (List.length (Ref.news (NewyX.y x1)) = List.length (Ref.news (RefI.y x8)))) ∧
 (True)))) ∧
 (((↑x4 : Int) = RefI.u x8) ∧
 (True))) ∧
 ((((RLe (List.length (Ref.news (RefI.y x8))) (List.length (Ref.news (NewyX.y x1)))) ∧
 (RowsEq (Kd.int IntKind.i64 :: Kd.int IntKind.i64 :: Kd.int IntKind.i64 :: Kd.int IntKind.i64 :: Kd.int IntKind.i64 :: Kd.int IntKind.i64 :: @List.nil Kd) (List.length (Ref.news (RefI.y x8))) (encL encCame (Ref.news (NewyX.y x1))) (encL encCame (Ref.news (RefI.y x8))))) ∧
 (True)) ∧
 (((Ref.there (RefI.y x8) (RefI.u x8) = true) →
 (((decide (List.getD (NewyX.ks x1) ((0 : Nat) + Int.toNat (↑x4 : Int)) default < Sta.seq (Ref.last (RefI.y x8) (RefI.u x8))) = true) →
 ((((True) ∧
 ((True) ∧
 ((True) ∧
 ((True) ∧
 ((True) ∧
 (True)))))) ∧
 (True)) ∧
 ((((0 : Nat) = (0 : Nat)) ∧
 ((List.length (newerY (NewyX.y x1) (knAt (NewyX.ks x1)) x4) ≤ List.length (newerY (NewyX.y x1) (knAt (NewyX.ks x1)) x4)) ∧
 (((1 : Nat) ≤ (1 : Nat)) ∧
 (List.length (newerY (NewyX.y x1) (knAt (NewyX.ks x1)) x4) + (1 : Nat) ≤ (1073741824 : Nat))))) ∧
 ((((-9223372036854775808 : Int) ≤ (↑x4 : Int) + (1 : Int)) ∧
 ((↑x4 : Int) + (1 : Int) ≤ (9223372036854775807 : Int))) ∧
 (∃ x11 : Nat,
 ((Int.toNat (Ref.units (NewyX.y x1)) - x11 < Int.toNat (Ref.units (NewyX.y x1)) - x4) ∧
 ((x11 ≤ Int.toNat (Ref.units (NewyX.y x1))) ∧
 ((((↑x4 : Int) + (1 : Int) = (↑x11 : Int)) ∧
 ((((0 : Nat) = (0 : Nat)) ∧
 (List.length (newerY (NewyX.y x1) (knAt (NewyX.ks x1)) x4) + (1 : Nat) = List.length (newerY (NewyX.y x1) (knAt (NewyX.ks x1)) x11))) ∧
 ((True) ∧
 ((((0 : Nat) = (0 : Nat)) ∧
 ((0 : Nat) = (0 : Nat))) ∧
 (((Ref.units (NewyX.y x1) = Ref.units (NewyX.y x1)) ∧
 ((Ref.since (NewyX.y x1) = Ref.since (NewyX.y x1)) ∧
 ((((0 : Nat) = (0 : Nat)) ∧
 (List.length (Ref.news (NewyX.y x1)) = List.length (Ref.news (NewyX.y x1)))) ∧
 (True)))) ∧
 ((((0 : Nat) = (0 : Nat)) ∧
 (List.length (NewyX.ks x1) = List.length (NewyX.ks x1))) ∧
 (True))))))) ∧
 (((RLe (List.length (newerY (NewyX.y x1) (knAt (NewyX.ks x1)) x11)) (List.length (newerY (NewyX.y x1) (knAt (NewyX.ks x1)) x4) + (1 : Nat))) ∧
 (RowsEq (Kd.int IntKind.i64 :: Kd.int IntKind.i64 :: Kd.int IntKind.i64 :: Kd.int IntKind.i64 :: Kd.int IntKind.i64 :: @List.nil Kd) (List.length (newerY (NewyX.y x1) (knAt (NewyX.ks x1)) x11)) (appRows (List.length (newerY (NewyX.y x1) (knAt (NewyX.ks x1)) x4)) (encL encStaD (newerY (NewyX.y x1) (knAt (NewyX.ks x1)) x4)) (0 : Nat) (litRows ((D.i (Sta.unit (Ref.last (RefI.y x8) (RefI.u x8))) :: D.i (Sta.seq (Ref.last (RefI.y x8) (RefI.u x8))) :: D.i (Sta.state (Ref.last (RefI.y x8) (RefI.u x8))) :: D.i (Sta.node (Ref.last (RefI.y x8) (RefI.u x8))) :: D.i (Sta.epoch (Ref.last (RefI.y x8) (RefI.u x8))) :: @List.nil D) :: @List.nil (List D)))) (encL encStaD (newerY (NewyX.y x1) (knAt (NewyX.ks x1)) x11)))) ∧
 (((Ref.units (NewyX.y x1) = Ref.units (NewyX.y x1)) ∧
 ((Ref.since (NewyX.y x1) = Ref.since (NewyX.y x1)) ∧
 ((((0 : Nat) = (0 : Nat)) ∧
 (List.length (Ref.news (NewyX.y x1)) = List.length (Ref.news (NewyX.y x1)))) ∧
 (True)))) ∧
 (((RLe (List.length (Ref.news (NewyX.y x1))) (List.length (Ref.news (NewyX.y x1)))) ∧
 (RowsEq (Kd.int IntKind.i64 :: Kd.int IntKind.i64 :: Kd.int IntKind.i64 :: Kd.int IntKind.i64 :: Kd.int IntKind.i64 :: Kd.int IntKind.i64 :: @List.nil Kd) (List.length (Ref.news (NewyX.y x1))) (encL encCame (Ref.news (NewyX.y x1))) (encL encCame (Ref.news (NewyX.y x1))))) ∧
 (((RLe (List.length (NewyX.ks x1)) (List.length (NewyX.ks x1))) ∧
 (RowsEq (Kd.int IntKind.i64 :: @List.nil Kd) (List.length (NewyX.ks x1)) (encL encI (NewyX.ks x1)) (encL encI (NewyX.ks x1)))) ∧
 (True))))))))))))) ∧
 ((decide (List.getD (NewyX.ks x1) ((0 : Nat) + Int.toNat (↑x4 : Int)) default < Sta.seq (Ref.last (RefI.y x8) (RefI.u x8))) = false) →
 ((((-9223372036854775808 : Int) ≤ (↑x4 : Int) + (1 : Int)) ∧
 ((↑x4 : Int) + (1 : Int) ≤ (9223372036854775807 : Int))) ∧
 (∃ x13 : Nat,
 ((Int.toNat (Ref.units (NewyX.y x1)) - x13 < Int.toNat (Ref.units (NewyX.y x1)) - x4) ∧
 ((x13 ≤ Int.toNat (Ref.units (NewyX.y x1))) ∧
 ((((↑x4 : Int) + (1 : Int) = (↑x13 : Int)) ∧
 ((((0 : Nat) = (0 : Nat)) ∧
 (List.length (newerY (NewyX.y x1) (knAt (NewyX.ks x1)) x4) = List.length (newerY (NewyX.y x1) (knAt (NewyX.ks x1)) x13))) ∧
 ((True) ∧
 ((((0 : Nat) = (0 : Nat)) ∧
 ((0 : Nat) = (0 : Nat))) ∧
 (((Ref.units (NewyX.y x1) = Ref.units (NewyX.y x1)) ∧
 ((Ref.since (NewyX.y x1) = Ref.since (NewyX.y x1)) ∧
 ((((0 : Nat) = (0 : Nat)) ∧
 (List.length (Ref.news (NewyX.y x1)) = List.length (Ref.news (NewyX.y x1)))) ∧
 (True)))) ∧
 ((((0 : Nat) = (0 : Nat)) ∧
 (List.length (NewyX.ks x1) = List.length (NewyX.ks x1))) ∧
 (True))))))) ∧
 (((RLe (List.length (newerY (NewyX.y x1) (knAt (NewyX.ks x1)) x13)) (List.length (newerY (NewyX.y x1) (knAt (NewyX.ks x1)) x4))) ∧
 (RowsEq (Kd.int IntKind.i64 :: Kd.int IntKind.i64 :: Kd.int IntKind.i64 :: Kd.int IntKind.i64 :: Kd.int IntKind.i64 :: @List.nil Kd) (List.length (newerY (NewyX.y x1) (knAt (NewyX.ks x1)) x13)) (encL encStaD (newerY (NewyX.y x1) (knAt (NewyX.ks x1)) x4)) (encL encStaD (newerY (NewyX.y x1) (knAt (NewyX.ks x1)) x13)))) ∧
 (((Ref.units (NewyX.y x1) = Ref.units (NewyX.y x1)) ∧
 ((Ref.since (NewyX.y x1) = Ref.since (NewyX.y x1)) ∧
 ((((0 : Nat) = (0 : Nat)) ∧
 (List.length (Ref.news (NewyX.y x1)) = List.length (Ref.news (NewyX.y x1)))) ∧
 (True)))) ∧
 (((RLe (List.length (Ref.news (NewyX.y x1))) (List.length (Ref.news (NewyX.y x1)))) ∧
 (RowsEq (Kd.int IntKind.i64 :: Kd.int IntKind.i64 :: Kd.int IntKind.i64 :: Kd.int IntKind.i64 :: Kd.int IntKind.i64 :: Kd.int IntKind.i64 :: @List.nil Kd) (List.length (Ref.news (NewyX.y x1))) (encL encCame (Ref.news (NewyX.y x1))) (encL encCame (Ref.news (NewyX.y x1))))) ∧
 (((RLe (List.length (NewyX.ks x1)) (List.length (NewyX.ks x1))) ∧
 (RowsEq (Kd.int IntKind.i64 :: @List.nil Kd) (List.length (NewyX.ks x1)) (encL encI (NewyX.ks x1)) (encL encI (NewyX.ks x1)))) ∧
 (True))))))))))))) ∧
 ((Ref.there (RefI.y x8) (RefI.u x8) = false) →
 ((((-9223372036854775808 : Int) ≤ (↑x4 : Int) + (1 : Int)) ∧
 ((↑x4 : Int) + (1 : Int) ≤ (9223372036854775807 : Int))) ∧
 (∃ x15 : Nat,
 ((Int.toNat (Ref.units (NewyX.y x1)) - x15 < Int.toNat (Ref.units (NewyX.y x1)) - x4) ∧
 ((x15 ≤ Int.toNat (Ref.units (NewyX.y x1))) ∧
 ((((↑x4 : Int) + (1 : Int) = (↑x15 : Int)) ∧
 ((((0 : Nat) = (0 : Nat)) ∧
 (List.length (newerY (NewyX.y x1) (knAt (NewyX.ks x1)) x4) = List.length (newerY (NewyX.y x1) (knAt (NewyX.ks x1)) x15))) ∧
 ((True) ∧
 ((((0 : Nat) = (0 : Nat)) ∧
 ((0 : Nat) = (0 : Nat))) ∧
 (((Ref.units (NewyX.y x1) = Ref.units (NewyX.y x1)) ∧
 ((Ref.since (NewyX.y x1) = Ref.since (NewyX.y x1)) ∧
 ((((0 : Nat) = (0 : Nat)) ∧
 (List.length (Ref.news (NewyX.y x1)) = List.length (Ref.news (NewyX.y x1)))) ∧
 (True)))) ∧
 ((((0 : Nat) = (0 : Nat)) ∧
 (List.length (NewyX.ks x1) = List.length (NewyX.ks x1))) ∧
 (True))))))) ∧
 (((RLe (List.length (newerY (NewyX.y x1) (knAt (NewyX.ks x1)) x15)) (List.length (newerY (NewyX.y x1) (knAt (NewyX.ks x1)) x4))) ∧
 (RowsEq (Kd.int IntKind.i64 :: Kd.int IntKind.i64 :: Kd.int IntKind.i64 :: Kd.int IntKind.i64 :: Kd.int IntKind.i64 :: @List.nil Kd) (List.length (newerY (NewyX.y x1) (knAt (NewyX.ks x1)) x15)) (encL encStaD (newerY (NewyX.y x1) (knAt (NewyX.ks x1)) x4)) (encL encStaD (newerY (NewyX.y x1) (knAt (NewyX.ks x1)) x15)))) ∧
 (((Ref.units (NewyX.y x1) = Ref.units (NewyX.y x1)) ∧
 ((Ref.since (NewyX.y x1) = Ref.since (NewyX.y x1)) ∧
 ((((0 : Nat) = (0 : Nat)) ∧
 (List.length (Ref.news (NewyX.y x1)) = List.length (Ref.news (NewyX.y x1)))) ∧
 (True)))) ∧
 (((RLe (List.length (Ref.news (NewyX.y x1))) (List.length (Ref.news (NewyX.y x1)))) ∧
 (RowsEq (Kd.int IntKind.i64 :: Kd.int IntKind.i64 :: Kd.int IntKind.i64 :: Kd.int IntKind.i64 :: Kd.int IntKind.i64 :: Kd.int IntKind.i64 :: @List.nil Kd) (List.length (Ref.news (NewyX.y x1))) (encL encCame (Ref.news (NewyX.y x1))) (encL encCame (Ref.news (NewyX.y x1))))) ∧
 (((RLe (List.length (NewyX.ks x1)) (List.length (NewyX.ks x1))) ∧
 (RowsEq (Kd.int IntKind.i64 :: @List.nil Kd) (List.length (NewyX.ks x1)) (encL encI (NewyX.ks x1)) (encL encI (NewyX.ks x1)))) ∧
 (True))))))))))))))))))) ∧
 ((decide ((↑x4 : Int) < (↑(List.length (NewyX.ks x1)) : Int)) = false) →
 (∃ x17 : RefI,
 ((List.length (Ref.news (RefI.y x17)) ≤ (1000 : Nat)) ∧
 ((((Ref.units (NewyX.y x1) = Ref.units (RefI.y x17)) ∧
 ((Ref.since (NewyX.y x1) = Ref.since (RefI.y x17)) ∧
 ((((0 : Nat) = (0 : Nat)) ∧
 (List.length (Ref.news (NewyX.y x1)) = List.length (Ref.news (RefI.y x17)))) ∧
 (True)))) ∧
 (((↑x4 : Int) = RefI.u x17) ∧
 (True))) ∧
 ((((RLe (List.length (Ref.news (RefI.y x17))) (List.length (Ref.news (NewyX.y x1)))) ∧
 (RowsEq (Kd.int IntKind.i64 :: Kd.int IntKind.i64 :: Kd.int IntKind.i64 :: Kd.int IntKind.i64 :: Kd.int IntKind.i64 :: Kd.int IntKind.i64 :: @List.nil Kd) (List.length (Ref.news (RefI.y x17))) (encL encCame (Ref.news (NewyX.y x1))) (encL encCame (Ref.news (RefI.y x17))))) ∧
 (True)) ∧
 (((Ref.there (RefI.y x17) (RefI.u x17) = true) →
 (((decide ((0 : Int) < Sta.seq (Ref.last (RefI.y x17) (RefI.u x17))) = true) →
 ((((True) ∧
 ((True) ∧
 ((True) ∧
 ((True) ∧
 ((True) ∧
 (True)))))) ∧
 (True)) ∧
 ((((0 : Nat) = (0 : Nat)) ∧
 ((List.length (newerY (NewyX.y x1) (knAt (NewyX.ks x1)) x4) ≤ List.length (newerY (NewyX.y x1) (knAt (NewyX.ks x1)) x4)) ∧
 (((1 : Nat) ≤ (1 : Nat)) ∧
 (List.length (newerY (NewyX.y x1) (knAt (NewyX.ks x1)) x4) + (1 : Nat) ≤ (1073741824 : Nat))))) ∧
 ((((-9223372036854775808 : Int) ≤ (↑x4 : Int) + (1 : Int)) ∧
 ((↑x4 : Int) + (1 : Int) ≤ (9223372036854775807 : Int))) ∧
 (∃ x20 : Nat,
 ((Int.toNat (Ref.units (NewyX.y x1)) - x20 < Int.toNat (Ref.units (NewyX.y x1)) - x4) ∧
 ((x20 ≤ Int.toNat (Ref.units (NewyX.y x1))) ∧
 ((((↑x4 : Int) + (1 : Int) = (↑x20 : Int)) ∧
 ((((0 : Nat) = (0 : Nat)) ∧
 (List.length (newerY (NewyX.y x1) (knAt (NewyX.ks x1)) x4) + (1 : Nat) = List.length (newerY (NewyX.y x1) (knAt (NewyX.ks x1)) x20))) ∧
 ((True) ∧
 ((((0 : Nat) = (0 : Nat)) ∧
 ((0 : Nat) = (0 : Nat))) ∧
 (((Ref.units (NewyX.y x1) = Ref.units (NewyX.y x1)) ∧
 ((Ref.since (NewyX.y x1) = Ref.since (NewyX.y x1)) ∧
 ((((0 : Nat) = (0 : Nat)) ∧
 (List.length (Ref.news (NewyX.y x1)) = List.length (Ref.news (NewyX.y x1)))) ∧
 (True)))) ∧
 ((((0 : Nat) = (0 : Nat)) ∧
 (List.length (NewyX.ks x1) = List.length (NewyX.ks x1))) ∧
 (True))))))) ∧
 (((RLe (List.length (newerY (NewyX.y x1) (knAt (NewyX.ks x1)) x20)) (List.length (newerY (NewyX.y x1) (knAt (NewyX.ks x1)) x4) + (1 : Nat))) ∧
 (RowsEq (Kd.int IntKind.i64 :: Kd.int IntKind.i64 :: Kd.int IntKind.i64 :: Kd.int IntKind.i64 :: Kd.int IntKind.i64 :: @List.nil Kd) (List.length (newerY (NewyX.y x1) (knAt (NewyX.ks x1)) x20)) (appRows (List.length (newerY (NewyX.y x1) (knAt (NewyX.ks x1)) x4)) (encL encStaD (newerY (NewyX.y x1) (knAt (NewyX.ks x1)) x4)) (0 : Nat) (litRows ((D.i (Sta.unit (Ref.last (RefI.y x17) (RefI.u x17))) :: D.i (Sta.seq (Ref.last (RefI.y x17) (RefI.u x17))) :: D.i (Sta.state (Ref.last (RefI.y x17) (RefI.u x17))) :: D.i (Sta.node (Ref.last (RefI.y x17) (RefI.u x17))) :: D.i (Sta.epoch (Ref.last (RefI.y x17) (RefI.u x17))) :: @List.nil D) :: @List.nil (List D)))) (encL encStaD (newerY (NewyX.y x1) (knAt (NewyX.ks x1)) x20)))) ∧
 (((Ref.units (NewyX.y x1) = Ref.units (NewyX.y x1)) ∧
 ((Ref.since (NewyX.y x1) = Ref.since (NewyX.y x1)) ∧
 ((((0 : Nat) = (0 : Nat)) ∧
 (List.length (Ref.news (NewyX.y x1)) = List.length (Ref.news (NewyX.y x1)))) ∧
 (True)))) ∧
 (((RLe (List.length (Ref.news (NewyX.y x1))) (List.length (Ref.news (NewyX.y x1)))) ∧
 (RowsEq (Kd.int IntKind.i64 :: Kd.int IntKind.i64 :: Kd.int IntKind.i64 :: Kd.int IntKind.i64 :: Kd.int IntKind.i64 :: Kd.int IntKind.i64 :: @List.nil Kd) (List.length (Ref.news (NewyX.y x1))) (encL encCame (Ref.news (NewyX.y x1))) (encL encCame (Ref.news (NewyX.y x1))))) ∧
 (((RLe (List.length (NewyX.ks x1)) (List.length (NewyX.ks x1))) ∧
 (RowsEq (Kd.int IntKind.i64 :: @List.nil Kd) (List.length (NewyX.ks x1)) (encL encI (NewyX.ks x1)) (encL encI (NewyX.ks x1)))) ∧
 (True))))))))))))) ∧
 ((decide ((0 : Int) < Sta.seq (Ref.last (RefI.y x17) (RefI.u x17))) = false) →
 ((((-9223372036854775808 : Int) ≤ (↑x4 : Int) + (1 : Int)) ∧
 ((↑x4 : Int) + (1 : Int) ≤ (9223372036854775807 : Int))) ∧
 (∃ x22 : Nat,
 ((Int.toNat (Ref.units (NewyX.y x1)) - x22 < Int.toNat (Ref.units (NewyX.y x1)) - x4) ∧
 ((x22 ≤ Int.toNat (Ref.units (NewyX.y x1))) ∧
 ((((↑x4 : Int) + (1 : Int) = (↑x22 : Int)) ∧
 ((((0 : Nat) = (0 : Nat)) ∧
 (List.length (newerY (NewyX.y x1) (knAt (NewyX.ks x1)) x4) = List.length (newerY (NewyX.y x1) (knAt (NewyX.ks x1)) x22))) ∧
 ((True) ∧
 ((((0 : Nat) = (0 : Nat)) ∧
 ((0 : Nat) = (0 : Nat))) ∧
 (((Ref.units (NewyX.y x1) = Ref.units (NewyX.y x1)) ∧
 ((Ref.since (NewyX.y x1) = Ref.since (NewyX.y x1)) ∧
 ((((0 : Nat) = (0 : Nat)) ∧
 (List.length (Ref.news (NewyX.y x1)) = List.length (Ref.news (NewyX.y x1)))) ∧
 (True)))) ∧
 ((((0 : Nat) = (0 : Nat)) ∧
 (List.length (NewyX.ks x1) = List.length (NewyX.ks x1))) ∧
 (True))))))) ∧
 (((RLe (List.length (newerY (NewyX.y x1) (knAt (NewyX.ks x1)) x22)) (List.length (newerY (NewyX.y x1) (knAt (NewyX.ks x1)) x4))) ∧
 (RowsEq (Kd.int IntKind.i64 :: Kd.int IntKind.i64 :: Kd.int IntKind.i64 :: Kd.int IntKind.i64 :: Kd.int IntKind.i64 :: @List.nil Kd) (List.length (newerY (NewyX.y x1) (knAt (NewyX.ks x1)) x22)) (encL encStaD (newerY (NewyX.y x1) (knAt (NewyX.ks x1)) x4)) (encL encStaD (newerY (NewyX.y x1) (knAt (NewyX.ks x1)) x22)))) ∧
 (((Ref.units (NewyX.y x1) = Ref.units (NewyX.y x1)) ∧
 ((Ref.since (NewyX.y x1) = Ref.since (NewyX.y x1)) ∧
 ((((0 : Nat) = (0 : Nat)) ∧
 (List.length (Ref.news (NewyX.y x1)) = List.length (Ref.news (NewyX.y x1)))) ∧
 (True)))) ∧
 (((RLe (List.length (Ref.news (NewyX.y x1))) (List.length (Ref.news (NewyX.y x1)))) ∧
 (RowsEq (Kd.int IntKind.i64 :: Kd.int IntKind.i64 :: Kd.int IntKind.i64 :: Kd.int IntKind.i64 :: Kd.int IntKind.i64 :: Kd.int IntKind.i64 :: @List.nil Kd) (List.length (Ref.news (NewyX.y x1))) (encL encCame (Ref.news (NewyX.y x1))) (encL encCame (Ref.news (NewyX.y x1))))) ∧
 (((RLe (List.length (NewyX.ks x1)) (List.length (NewyX.ks x1))) ∧
 (RowsEq (Kd.int IntKind.i64 :: @List.nil Kd) (List.length (NewyX.ks x1)) (encL encI (NewyX.ks x1)) (encL encI (NewyX.ks x1)))) ∧
 (True))))))))))))) ∧
 ((Ref.there (RefI.y x17) (RefI.u x17) = false) →
 ((((-9223372036854775808 : Int) ≤ (↑x4 : Int) + (1 : Int)) ∧
 ((↑x4 : Int) + (1 : Int) ≤ (9223372036854775807 : Int))) ∧
 (∃ x24 : Nat,
 ((Int.toNat (Ref.units (NewyX.y x1)) - x24 < Int.toNat (Ref.units (NewyX.y x1)) - x4) ∧
 ((x24 ≤ Int.toNat (Ref.units (NewyX.y x1))) ∧
 ((((↑x4 : Int) + (1 : Int) = (↑x24 : Int)) ∧
 ((((0 : Nat) = (0 : Nat)) ∧
 (List.length (newerY (NewyX.y x1) (knAt (NewyX.ks x1)) x4) = List.length (newerY (NewyX.y x1) (knAt (NewyX.ks x1)) x24))) ∧
 ((True) ∧
 ((((0 : Nat) = (0 : Nat)) ∧
 ((0 : Nat) = (0 : Nat))) ∧
 (((Ref.units (NewyX.y x1) = Ref.units (NewyX.y x1)) ∧
 ((Ref.since (NewyX.y x1) = Ref.since (NewyX.y x1)) ∧
 ((((0 : Nat) = (0 : Nat)) ∧
 (List.length (Ref.news (NewyX.y x1)) = List.length (Ref.news (NewyX.y x1)))) ∧
 (True)))) ∧
 ((((0 : Nat) = (0 : Nat)) ∧
 (List.length (NewyX.ks x1) = List.length (NewyX.ks x1))) ∧
 (True))))))) ∧
 (((RLe (List.length (newerY (NewyX.y x1) (knAt (NewyX.ks x1)) x24)) (List.length (newerY (NewyX.y x1) (knAt (NewyX.ks x1)) x4))) ∧
 (RowsEq (Kd.int IntKind.i64 :: Kd.int IntKind.i64 :: Kd.int IntKind.i64 :: Kd.int IntKind.i64 :: Kd.int IntKind.i64 :: @List.nil Kd) (List.length (newerY (NewyX.y x1) (knAt (NewyX.ks x1)) x24)) (encL encStaD (newerY (NewyX.y x1) (knAt (NewyX.ks x1)) x4)) (encL encStaD (newerY (NewyX.y x1) (knAt (NewyX.ks x1)) x24)))) ∧
 (((Ref.units (NewyX.y x1) = Ref.units (NewyX.y x1)) ∧
 ((Ref.since (NewyX.y x1) = Ref.since (NewyX.y x1)) ∧
 ((((0 : Nat) = (0 : Nat)) ∧
 (List.length (Ref.news (NewyX.y x1)) = List.length (Ref.news (NewyX.y x1)))) ∧
 (True)))) ∧
 (((RLe (List.length (Ref.news (NewyX.y x1))) (List.length (Ref.news (NewyX.y x1)))) ∧
 (RowsEq (Kd.int IntKind.i64 :: Kd.int IntKind.i64 :: Kd.int IntKind.i64 :: Kd.int IntKind.i64 :: Kd.int IntKind.i64 :: Kd.int IntKind.i64 :: @List.nil Kd) (List.length (Ref.news (NewyX.y x1))) (encL encCame (Ref.news (NewyX.y x1))) (encL encCame (Ref.news (NewyX.y x1))))) ∧
 (((RLe (List.length (NewyX.ks x1)) (List.length (NewyX.ks x1))) ∧
 (RowsEq (Kd.int IntKind.i64 :: @List.nil Kd) (List.length (NewyX.ks x1)) (encL encI (NewyX.ks x1)) (encL encI (NewyX.ks x1)))) ∧
 (True))))))))))))))))))) ∧
 ((decide ((↑x4 : Int) < Ref.units (NewyX.y x1)) = false) →
 ((((0 : Nat) = (0 : Nat)) ∧
 (List.length (newerY (NewyX.y x1) (knAt (NewyX.ks x1)) x4) = List.length (newerY (NewyX.y x1) (knAt (NewyX.ks x1)) (Int.toNat (Ref.units (NewyX.y x1)))))) ∧
 (((RLe (List.length (newerY (NewyX.y x1) (knAt (NewyX.ks x1)) (Int.toNat (Ref.units (NewyX.y x1))))) (List.length (newerY (NewyX.y x1) (knAt (NewyX.ks x1)) x4))) ∧
 (RowsEq (Kd.int IntKind.i64 :: Kd.int IntKind.i64 :: Kd.int IntKind.i64 :: Kd.int IntKind.i64 :: Kd.int IntKind.i64 :: @List.nil Kd) (List.length (newerY (NewyX.y x1) (knAt (NewyX.ks x1)) (Int.toNat (Ref.units (NewyX.y x1))))) (encL encStaD (newerY (NewyX.y x1) (knAt (NewyX.ks x1)) x4)) (encL encStaD (newerY (NewyX.y x1) (knAt (NewyX.ks x1)) (Int.toNat (Ref.units (NewyX.y x1))))))) ∧
 (True)))))))))))) = Keeps { cfg11 with vars := 11 } Try.f24 rnewerC rnewerI by kernel_rfl) (fun x1 => fun h2 => ⟨((0 : Nat)),
 ⟨(by (try dsimp only at *); omega),
 ⟨(by (try dsimp only at *); omega),
 ⟨trivial,
 rfl,
 (by (try dsimp only at *); rfl)⟩,
 trivial,
 ⟨rfl,
 rfl⟩,
 ⟨rfl,
 rfl,
 ⟨rfl,
 rfl⟩,
 trivial⟩,
 ⟨rfl,
 rfl⟩,
 trivial⟩,
 (by (try dsimp only at *); rfl),
 ⟨rfl,
 rfl,
 ⟨rfl,
 rfl⟩,
 trivial⟩,
 ⟨⟨Nat.le_refl _⟩,
 RowsEq.rfl'⟩,
 ⟨⟨Nat.le_refl _⟩,
 RowsEq.rfl'⟩,
 trivial⟩,
 fun x4 => fun h5 => ⟨fun g6 => have h6 := of_decide_eq_true g6; ⟨fun g7 => have h7 := of_decide_eq_true g7; ⟨⟨(by (try dsimp only at *); omega),
 (by (try dsimp only at *); omega)⟩,
 (by (try dsimp only at *); omega),
 ({ y := NewyX.y x1, u := (↑x4 : Int) : RefI }),
 (by (try dsimp only at *); omega),
 ⟨⟨rfl,
 rfl,
 ⟨rfl,
 rfl⟩,
 trivial⟩,
 rfl,
 trivial⟩,
 ⟨⟨⟨Nat.le_refl _⟩,
 RowsEq.rfl'⟩,
 trivial⟩,
 fun h9 => ⟨fun g10 => have h10 := of_decide_eq_true g10; ⟨⟨⟨trivial,
 trivial,
 trivial,
 trivial,
 trivial,
 trivial⟩,
 trivial⟩,
 ⟨rfl,
 (by (try dsimp only at *); omega),
 (by (try dsimp only at *); omega),
 (by (try dsimp only at *); (have := newerY_len x1.y (knAt x1.ks) x4; omega))⟩,
 ⟨(by (try dsimp only at *); omega),
 (by (try dsimp only at *); omega)⟩,
 (x4 + (1 : Nat)),
 (by (try dsimp only at *); omega),
 (by (try dsimp only at *); omega),
 ⟨(by (try dsimp only at *); omega),
 ⟨rfl,
 (by (try dsimp only at *); exact (ny_len (ny_new (y := x1.y) (kn_in (ks := x1.ks) (k := x4) ‹_›) ‹_› ‹_›)).symm)⟩,
 trivial,
 ⟨rfl,
 rfl⟩,
 ⟨rfl,
 rfl,
 ⟨rfl,
 rfl⟩,
 trivial⟩,
 ⟨rfl,
 rfl⟩,
 trivial⟩,
 ⟨⟨(by (try dsimp only at *); exact Nat.le_of_eq (ny_len (ny_new (y := x1.y) (kn_in (ks := x1.ks) (k := x4) ‹_›) ‹_› ‹_›)))⟩,
 (by (try dsimp only at *); exact ny_rows (ny_new (y := x1.y) (kn_in (ks := x1.ks) (k := x4) ‹_›) ‹_› ‹_›))⟩,
 ⟨rfl,
 rfl,
 ⟨rfl,
 rfl⟩,
 trivial⟩,
 ⟨⟨Nat.le_refl _⟩,
 RowsEq.rfl'⟩,
 ⟨⟨Nat.le_refl _⟩,
 RowsEq.rfl'⟩,
 trivial⟩,
 fun g12 => have h12 := of_decide_eq_false g12; ⟨⟨(by (try dsimp only at *); omega),
 (by (try dsimp only at *); omega)⟩,
 (x4 + (1 : Nat)),
 (by (try dsimp only at *); omega),
 (by (try dsimp only at *); omega),
 ⟨(by (try dsimp only at *); omega),
 ⟨rfl,
 (by (try dsimp only at *); (rw [ny_old (y := x1.y) (kn_in (ks := x1.ks) (k := x4) ‹_›) ‹_›]; done))⟩,
 trivial,
 ⟨rfl,
 rfl⟩,
 ⟨rfl,
 rfl,
 ⟨rfl,
 rfl⟩,
 trivial⟩,
 ⟨rfl,
 rfl⟩,
 trivial⟩,
 ⟨⟨(by (try dsimp only at *); (rw [ny_old (y := x1.y) (kn_in (ks := x1.ks) (k := x4) ‹_›) ‹_›]; exact Nat.le_refl _))⟩,
 (by (try dsimp only at *); (rw [ny_old (y := x1.y) (kn_in (ks := x1.ks) (k := x4) ‹_›) ‹_›]; exact RowsEq.rfl'))⟩,
 ⟨rfl,
 rfl,
 ⟨rfl,
 rfl⟩,
 trivial⟩,
 ⟨⟨Nat.le_refl _⟩,
 RowsEq.rfl'⟩,
 ⟨⟨Nat.le_refl _⟩,
 RowsEq.rfl'⟩,
 trivial⟩⟩,
 fun h14 => ⟨⟨(by (try dsimp only at *); omega),
 (by (try dsimp only at *); omega)⟩,
 (x4 + (1 : Nat)),
 (by (try dsimp only at *); omega),
 (by (try dsimp only at *); omega),
 ⟨(by (try dsimp only at *); omega),
 ⟨rfl,
 (by (try dsimp only at *); (rw [ny_not (y := x1.y) (ks := x1.ks) (k := x4) ‹_›]; done))⟩,
 trivial,
 ⟨rfl,
 rfl⟩,
 ⟨rfl,
 rfl,
 ⟨rfl,
 rfl⟩,
 trivial⟩,
 ⟨rfl,
 rfl⟩,
 trivial⟩,
 ⟨⟨(by (try dsimp only at *); (rw [ny_not (y := x1.y) (ks := x1.ks) (k := x4) ‹_›]; exact Nat.le_refl _))⟩,
 (by (try dsimp only at *); (rw [ny_not (y := x1.y) (ks := x1.ks) (k := x4) ‹_›]; exact RowsEq.rfl'))⟩,
 ⟨rfl,
 rfl,
 ⟨rfl,
 rfl⟩,
 trivial⟩,
 ⟨⟨Nat.le_refl _⟩,
 RowsEq.rfl'⟩,
 ⟨⟨Nat.le_refl _⟩,
 RowsEq.rfl'⟩,
 trivial⟩⟩,
 fun g16 => have h16 := of_decide_eq_false g16; ⟨({ y := NewyX.y x1, u := (↑x4 : Int) : RefI }),
 (by (try dsimp only at *); omega),
 ⟨⟨rfl,
 rfl,
 ⟨rfl,
 rfl⟩,
 trivial⟩,
 rfl,
 trivial⟩,
 ⟨⟨⟨Nat.le_refl _⟩,
 RowsEq.rfl'⟩,
 trivial⟩,
 fun h18 => ⟨fun g19 => have h19 := of_decide_eq_true g19; ⟨⟨⟨trivial,
 trivial,
 trivial,
 trivial,
 trivial,
 trivial⟩,
 trivial⟩,
 ⟨rfl,
 (by (try dsimp only at *); omega),
 (by (try dsimp only at *); omega),
 (by (try dsimp only at *); (have := newerY_len x1.y (knAt x1.ks) x4; omega))⟩,
 ⟨(by (try dsimp only at *); omega),
 (by (try dsimp only at *); omega)⟩,
 (x4 + (1 : Nat)),
 (by (try dsimp only at *); omega),
 (by (try dsimp only at *); omega),
 ⟨(by (try dsimp only at *); omega),
 ⟨rfl,
 (by (try dsimp only at *); exact (ny_len (ny_new (y := x1.y) (kn_out (ks := x1.ks) (k := x4) ‹_›) ‹_› ‹_›)).symm)⟩,
 trivial,
 ⟨rfl,
 rfl⟩,
 ⟨rfl,
 rfl,
 ⟨rfl,
 rfl⟩,
 trivial⟩,
 ⟨rfl,
 rfl⟩,
 trivial⟩,
 ⟨⟨(by (try dsimp only at *); exact Nat.le_of_eq (ny_len (ny_new (y := x1.y) (kn_out (ks := x1.ks) (k := x4) ‹_›) ‹_› ‹_›)))⟩,
 (by (try dsimp only at *); exact ny_rows (ny_new (y := x1.y) (kn_out (ks := x1.ks) (k := x4) ‹_›) ‹_› ‹_›))⟩,
 ⟨rfl,
 rfl,
 ⟨rfl,
 rfl⟩,
 trivial⟩,
 ⟨⟨Nat.le_refl _⟩,
 RowsEq.rfl'⟩,
 ⟨⟨Nat.le_refl _⟩,
 RowsEq.rfl'⟩,
 trivial⟩,
 fun g21 => have h21 := of_decide_eq_false g21; ⟨⟨(by (try dsimp only at *); omega),
 (by (try dsimp only at *); omega)⟩,
 (x4 + (1 : Nat)),
 (by (try dsimp only at *); omega),
 (by (try dsimp only at *); omega),
 ⟨(by (try dsimp only at *); omega),
 ⟨rfl,
 (by (try dsimp only at *); (rw [ny_old (y := x1.y) (kn_out (ks := x1.ks) (k := x4) ‹_›) ‹_›]; done))⟩,
 trivial,
 ⟨rfl,
 rfl⟩,
 ⟨rfl,
 rfl,
 ⟨rfl,
 rfl⟩,
 trivial⟩,
 ⟨rfl,
 rfl⟩,
 trivial⟩,
 ⟨⟨(by (try dsimp only at *); (rw [ny_old (y := x1.y) (kn_out (ks := x1.ks) (k := x4) ‹_›) ‹_›]; exact Nat.le_refl _))⟩,
 (by (try dsimp only at *); (rw [ny_old (y := x1.y) (kn_out (ks := x1.ks) (k := x4) ‹_›) ‹_›]; exact RowsEq.rfl'))⟩,
 ⟨rfl,
 rfl,
 ⟨rfl,
 rfl⟩,
 trivial⟩,
 ⟨⟨Nat.le_refl _⟩,
 RowsEq.rfl'⟩,
 ⟨⟨Nat.le_refl _⟩,
 RowsEq.rfl'⟩,
 trivial⟩⟩,
 fun h23 => ⟨⟨(by (try dsimp only at *); omega),
 (by (try dsimp only at *); omega)⟩,
 (x4 + (1 : Nat)),
 (by (try dsimp only at *); omega),
 (by (try dsimp only at *); omega),
 ⟨(by (try dsimp only at *); omega),
 ⟨rfl,
 (by (try dsimp only at *); (rw [ny_not (y := x1.y) (ks := x1.ks) (k := x4) ‹_›]; done))⟩,
 trivial,
 ⟨rfl,
 rfl⟩,
 ⟨rfl,
 rfl,
 ⟨rfl,
 rfl⟩,
 trivial⟩,
 ⟨rfl,
 rfl⟩,
 trivial⟩,
 ⟨⟨(by (try dsimp only at *); (rw [ny_not (y := x1.y) (ks := x1.ks) (k := x4) ‹_›]; exact Nat.le_refl _))⟩,
 (by (try dsimp only at *); (rw [ny_not (y := x1.y) (ks := x1.ks) (k := x4) ‹_›]; exact RowsEq.rfl'))⟩,
 ⟨rfl,
 rfl,
 ⟨rfl,
 rfl⟩,
 trivial⟩,
 ⟨⟨Nat.le_refl _⟩,
 RowsEq.rfl'⟩,
 ⟨⟨Nat.le_refl _⟩,
 RowsEq.rfl'⟩,
 trivial⟩⟩⟩,
 fun g25 => have h25 := of_decide_eq_false g25; ⟨⟨rfl,
 (by (try dsimp only at *); grind)⟩,
 ⟨⟨(by (try dsimp only at *); grind)⟩,
 (by (try dsimp only at *); (obtain rfl : x4 = x1.y.units.toNat := (by omega); exact RowsEq.rfl'))⟩,
 trivial⟩⟩⟩)

structure StaX where
  a : List Sta
  b : List Sta
def sameC : CT where
  X := StaX
  pre := fun x => x.a.length ≤ 1048576
  args := fun x => [.sl 100000 0 x.a.length, .sl 100001 0 x.b.length]
  g0 := fun x => [(100000, .rows .bor k5 x.a.length (encL encStaD x.a)), (100001, .rows .bor k5 x.b.length (encL encStaD x.b))]
  res := fun x => .b (decide (x.a = x.b))
  g1 := fun _ => []
theorem stas_eq {a b : List Sta} (hl : a.length = b.length) (h : ∀ i : Nat, i < a.length → a.getD i default = b.getD i default) : a = b := by
  apply List.ext_getElem hl
  intro i h1 h2
  have := h i h1
  simp only [List.getD_eq_getElem?_getD, List.getElem?_eq_getElem h1, List.getElem?_eq_getElem h2, Option.getD_some] at this
  exact this
theorem stas_ne {a b : List Sta} {i : Nat} (h : ¬ a.getD i default = b.getD i default) : a ≠ b := fun e => h (by rw [e])
def sameI (x : StaX) (id : Nat) : Option Inv := match id with
  | 0 => some { X := Nat, ok := fun k => k ≤ x.a.length ∧ ∀ i : Nat, i < k → x.a.getD i default = x.b.getD i default, fr := fun k => [(13, .i .i64 k)], hp := fun k => [], me := fun k => x.a.length - k }
  | _ => none
set_option maxRecDepth 100000 in
theorem sames_keeps : Keeps { cfg0 with vars := 6 } Try.f23 sameC sameI := Eq.mp (show ((∀ x1 : StaX,
 ((List.length (StaX.a x1) ≤ (1048576 : Nat)) →
 (((decide ((↑(List.length (StaX.a x1)) : Int) ≠ (↑(List.length (StaX.b x1)) : Int)) = true) →
 ((false = decide (StaX.a x1 = StaX.b x1)) ∧
 (True))) ∧
 ((decide ((↑(List.length (StaX.a x1)) : Int) ≠ (↑(List.length (StaX.b x1)) : Int)) = false) →
 (∃ x5 : Nat,
 ((((x5 ≤ List.length (StaX.a x1)) ∧
 (∀ i6 : Nat,
 ((i6 < x5) →
 (List.getD (StaX.a x1) i6 default = List.getD (StaX.b x1) i6 default)))) ∧
 ((((0 : Int) = (↑x5 : Int)) ∧
 (((↑(List.length (StaX.a x1)) : Int) = (↑(List.length (StaX.a x1)) : Int)) ∧
 ((((0 : Nat) = (0 : Nat)) ∧
 (List.length (StaX.a x1) = List.length (StaX.a x1))) ∧
 ((((0 : Nat) = (0 : Nat)) ∧
 (List.length (StaX.b x1) = List.length (StaX.b x1))) ∧
 (True))))) ∧
 (((RLe (List.length (StaX.a x1)) (List.length (StaX.a x1))) ∧
 (RowsEq (Kd.int IntKind.i64 :: Kd.int IntKind.i64 :: Kd.int IntKind.i64 :: Kd.int IntKind.i64 :: Kd.int IntKind.i64 :: @List.nil Kd) (List.length (StaX.a x1)) (encL encStaD (StaX.a x1)) (encL encStaD (StaX.a x1)))) ∧
 (((RLe (List.length (StaX.b x1)) (List.length (StaX.b x1))) ∧
 (RowsEq (Kd.int IntKind.i64 :: Kd.int IntKind.i64 :: Kd.int IntKind.i64 :: Kd.int IntKind.i64 :: Kd.int IntKind.i64 :: @List.nil Kd) (List.length (StaX.b x1)) (encL encStaD (StaX.b x1)) (encL encStaD (StaX.b x1)))) ∧
 (True))))) ∧
 (∀ x8 : Nat,
 ((x8 ≤ List.length (StaX.a x1) ∧ ∀ (i : Nat), i < x8 → List.getD (StaX.a x1) i default = List.getD (StaX.b x1) i default) →
 (((decide ((↑x8 : Int) < (↑(List.length (StaX.a x1)) : Int)) = true) →
 ((((0 : Int) ≤ (↑x8 : Int)) ∧
 ((↑x8 : Int) < (↑(List.length (StaX.a x1)) : Int))) ∧
 (((0 : Nat) + Int.toNat (↑x8 : Int) < List.length (StaX.a x1)) ∧
 ((((0 : Int) ≤ (↑x8 : Int)) ∧
 ((↑x8 : Int) < (↑(List.length (StaX.b x1)) : Int))) ∧
 (((0 : Nat) + Int.toNat (↑x8 : Int) < List.length (StaX.b x1)) ∧
 ((((!(decide (Sta.unit (List.getD (StaX.a x1) ((0 : Nat) + Int.toNat (↑x8 : Int)) default) = Sta.unit (List.getD (StaX.b x1) ((0 : Nat) + Int.toNat (↑x8 : Int)) default)) && (decide (Sta.seq (List.getD (StaX.a x1) ((0 : Nat) + Int.toNat (↑x8 : Int)) default) = Sta.seq (List.getD (StaX.b x1) ((0 : Nat) + Int.toNat (↑x8 : Int)) default)) && (decide (Sta.state (List.getD (StaX.a x1) ((0 : Nat) + Int.toNat (↑x8 : Int)) default) = Sta.state (List.getD (StaX.b x1) ((0 : Nat) + Int.toNat (↑x8 : Int)) default)) && (decide (Sta.node (List.getD (StaX.a x1) ((0 : Nat) + Int.toNat (↑x8 : Int)) default) = Sta.node (List.getD (StaX.b x1) ((0 : Nat) + Int.toNat (↑x8 : Int)) default)) && (decide (Sta.epoch (List.getD (StaX.a x1) ((0 : Nat) + Int.toNat (↑x8 : Int)) default) = Sta.epoch (List.getD (StaX.b x1) ((0 : Nat) + Int.toNat (↑x8 : Int)) default)) && true)))))) = true) →
 ((false = decide (StaX.a x1 = StaX.b x1)) ∧
 (True))) ∧
 (((!(decide (Sta.unit (List.getD (StaX.a x1) ((0 : Nat) + Int.toNat (↑x8 : Int)) default) = Sta.unit (List.getD (StaX.b x1) ((0 : Nat) + Int.toNat (↑x8 : Int)) default)) && (decide (Sta.seq (List.getD (StaX.a x1) ((0 : Nat) + Int.toNat (↑x8 : Int)) default) = Sta.seq (List.getD (StaX.b x1) ((0 : Nat) + Int.toNat (↑x8 : Int)) default)) && (decide (Sta.state (List.getD (StaX.a x1) ((0 : Nat) + Int.toNat (↑x8 : Int)) default) = Sta.state (List.getD (StaX.b x1) ((0 : Nat) + Int.toNat (↑x8 : Int)) default)) && (decide (Sta.node (List.getD (StaX.a x1) ((0 : Nat) + Int.toNat (↑x8 : Int)) default) = Sta.node (List.getD (StaX.b x1) ((0 : Nat) + Int.toNat (↑x8 : Int)) default)) && (decide (Sta.epoch (List.getD (StaX.a x1) ((0 : Nat) + Int.toNat (↑x8 : Int)) default) = Sta.epoch (List.getD (StaX.b x1) ((0 : Nat) + Int.toNat (↑x8 : Int)) default)) && true)))))) = false) →
 ((((-9223372036854775808 : Int) ≤ (↑x8 : Int) + (1 : Int)) ∧
 ((↑x8 : Int) + (1 : Int) ≤ (9223372036854775807 : Int))) ∧
 (∃ x13 : Nat,
 ((List.length (StaX.a x1) - x13 < List.length (StaX.a x1) - x8) ∧
 (((x13 ≤ List.length (StaX.a x1)) ∧
 (∀ i14 : Nat,
 ((i14 < x13) →
 (List.getD (StaX.a x1) i14 default = List.getD (StaX.b x1) i14 default)))) ∧
 ((((↑x8 : Int) + (1 : Int) = (↑x13 : Int)) ∧
 (((↑(List.length (StaX.a x1)) : Int) = (↑(List.length (StaX.a x1)) : Int)) ∧
 ((((0 : Nat) = (0 : Nat)) ∧
 (List.length (StaX.a x1) = List.length (StaX.a x1))) ∧
 ((((0 : Nat) = (0 : Nat)) ∧
 (List.length (StaX.b x1) = List.length (StaX.b x1))) ∧
 (True))))) ∧
 (((RLe (List.length (StaX.a x1)) (List.length (StaX.a x1))) ∧
 (RowsEq (Kd.int IntKind.i64 :: Kd.int IntKind.i64 :: Kd.int IntKind.i64 :: Kd.int IntKind.i64 :: Kd.int IntKind.i64 :: @List.nil Kd) (List.length (StaX.a x1)) (encL encStaD (StaX.a x1)) (encL encStaD (StaX.a x1)))) ∧
 (((RLe (List.length (StaX.b x1)) (List.length (StaX.b x1))) ∧
 (RowsEq (Kd.int IntKind.i64 :: Kd.int IntKind.i64 :: Kd.int IntKind.i64 :: Kd.int IntKind.i64 :: Kd.int IntKind.i64 :: @List.nil Kd) (List.length (StaX.b x1)) (encL encStaD (StaX.b x1)) (encL encStaD (StaX.b x1)))) ∧
 (True))))))))))))))) ∧
 ((decide ((↑x8 : Int) < (↑(List.length (StaX.a x1)) : Int)) = false) →
 ((true = decide (StaX.a x1 = StaX.b x1)) ∧
 (True))))))))))))) = Keeps { cfg0 with vars := 6 } Try.f23 sameC sameI by kernel_rfl) (fun x1 => fun h2 => ⟨fun g3 => have h3 := of_decide_eq_true g3; ⟨(by grind),
 trivial⟩,
 fun g4 => have h4 := of_decide_eq_false g4; ⟨((0 : Nat)),
 ⟨⟨(by (try dsimp only at *); omega),
 fun i6 => fun h7 => (by (try dsimp only at *); omega)⟩,
 ⟨(by (try dsimp only at *); omega),
 rfl,
 ⟨rfl,
 rfl⟩,
 ⟨rfl,
 rfl⟩,
 trivial⟩,
 ⟨⟨Nat.le_refl _⟩,
 RowsEq.rfl'⟩,
 ⟨⟨Nat.le_refl _⟩,
 RowsEq.rfl'⟩,
 trivial⟩,
 fun x8 => fun h9 => ⟨fun g10 => have h10 := of_decide_eq_true g10; ⟨⟨(by (try dsimp only at *); omega),
 (by (try dsimp only at *); omega)⟩,
 (by (try dsimp only at *); omega),
 ⟨(by (try dsimp only at *); omega),
 (by (try dsimp only at *); omega)⟩,
 (by (try dsimp only at *); omega),
 fun h11 => ⟨(by (try dsimp only at *); grind),
 trivial⟩,
 fun h12 => ⟨⟨(by (try dsimp only at *); omega),
 (by (try dsimp only at *); omega)⟩,
 (x8 + (1 : Nat)),
 (by (try dsimp only at *); omega),
 ⟨(by (try dsimp only at *); omega),
 fun i14 => fun h15 => (by
        (by_cases e : i14 = x8; (subst e; simp only [Nat.zero_add, Int.toNat_natCast] at h12; simp at h12; have a := h12; cases h1 : x1.a.getD i14 default; cases h2 : x1.b.getD i14 default; simp_all); exact h9.2 i14 (by omega)))⟩,
 ⟨(by (try dsimp only at *); omega),
 rfl,
 ⟨rfl,
 rfl⟩,
 ⟨rfl,
 rfl⟩,
 trivial⟩,
 ⟨⟨Nat.le_refl _⟩,
 RowsEq.rfl'⟩,
 ⟨⟨Nat.le_refl _⟩,
 RowsEq.rfl'⟩,
 trivial⟩⟩,
 fun g16 => have h16 := of_decide_eq_false g16; ⟨(by
        (exact (decide_eq_true (stas_eq (by omega) (fun i hi => h9.2 i (by omega)))).symm)),
 trivial⟩⟩⟩⟩)

theorem rnewer_good : Good Try.prog 24 rnewerC ∧ FnOk Try.prog 24 := good_of (c := { cfg11 with vars := 11 }) tok con11 (fn := Try.f24) rfl (by decide +kernel) (fun _ => rfl) rnewer_keeps
theorem sames_good : Good Try.prog 23 sameC ∧ FnOk Try.prog 23 := good_of (c := { cfg0 with vars := 6 }) tok con0 (fn := Try.f23) rfl (by decide +kernel) (fun _ => rfl) sames_keeps
end Go.Sym
