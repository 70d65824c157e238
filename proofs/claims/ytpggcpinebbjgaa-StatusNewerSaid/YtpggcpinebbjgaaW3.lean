/- law30: the walks (III): the reference; what returns lists. -/
import Derived.Test.YtpggcpinebbjgaaW2
import Derived.Test.YtpggcpinebbjgaaXD
namespace Go.Sym
set_option linter.unusedVariables false
set_option linter.unusedSimpArgs false
open Go.Proofs
def C3 : List (Nat × Con) := [(12, .one rlastC), (31, .one clampC), (29, .one clampC)]
def cfg3 : Cfg := ⟨T, [], C3, noInv, 0, {}⟩
theorem con3 : ConOk Try.prog cfg3 := ConL.ok (.cons (ConL.one rlast_good) (.cons (ConL.one tick_good) (.cons (ConL.one clamp_good) .nil)))
/-- The counts that the arithmetic can bear. -/
structure Ref.Ok (y : Ref) : Prop where
  n : y.news.length ≤ 1000
  s : ∀ c ∈ y.news, 0 ≤ c.sta.seq ∧ c.sta.seq ≤ lim
theorem Ref.count_zero (y : Ref) (u : Int) : y.count u 0 = 0 := rfl
theorem Ref.count_succ (y : Ref) (u : Int) (k : Nat) (h : k < y.news.length) : y.count u (k + 1) = y.count u k + (if (y.news.getD k default).sta.unit = u then 1 else 0) := by
  unfold Ref.count
  rw [take_succ_getD (d := default) h, List.filter_append, List.length_append]
  by_cases e : (y.news.getD k default).sta.unit = u
  · simp only [List.filter_cons, List.filter_nil, e, decide_true, if_true]; simp
  · simp only [List.filter_cons, List.filter_nil, e, decide_false, if_false]; simp
theorem Ref.count_le (y : Ref) (u : Int) (k : Nat) : 0 ≤ y.count u k ∧ y.count u k ≤ y.news.length := by
  unfold Ref.count
  have := List.length_filter_le (fun c : Came => decide (c.sta.unit = u)) (y.news.take k)
  simp at this ⊢
  omega
theorem Ref.all_seq (y : Ref) (u : Int) (h : y.Ok) : 0 ≤ (y.all u).1.seq ∧ (y.all u).1.seq ≤ lim := by
  have : ∀ (l : List Came) (a : Sta × Int × Bool), (∀ c ∈ l, 0 ≤ c.sta.seq ∧ c.sta.seq ≤ lim) → 0 ≤ a.1.seq ∧ a.1.seq ≤ lim → 0 ≤ (l.foldl (Ref.step u) a).1.seq ∧ (l.foldl (Ref.step u) a).1.seq ≤ lim := by
    intro l
    induction l with
    | nil => intro a _ h; exact h
    | cons c l ih =>
      intro a hl ha
      refine ih _ (fun c hc => hl c (by simp [hc])) ?_
      unfold Ref.step
      split
      · exact hl c (by simp)
      · exact ha
  exact this _ _ h.s (by simp [zeroSta, lim])
def rmissedC : CT where
  X := RefI
  pre := fun x => x.y.Ok
  args := fun x => [refV x.y 100000, .i .i64 x.u]
  g0 := fun x => refH x.y .bor 100000
  res := fun x => .i .i64 (x.y.missed x.u)
  g1 := fun _ => []
def rmissedI (x : RefI) (id : Nat) : Option Inv := match id with
  | 0 => some { X := Nat, ok := fun k => k ≤ x.y.news.length, fr := fun k => [(25, .i .i64 k), (8, .i .i64 ((x.y.last x.u).seq - x.y.count x.u k))], hp := fun k => [], me := fun k => x.y.news.length - k }
  | _ => none
set_option maxRecDepth 100000 in
theorem rmissed_keeps : Keeps { cfg3 with vars := 11 } Try.f14 rmissedC rmissedI := Eq.mp (show ((∀ x1 : RefI,
 ((Ref.Ok (RefI.y x1)) →
 (∃ x3 : RefI,
 ((List.length (Ref.news (RefI.y x3)) ≤ (1000 : Nat)) ∧
 ((((Ref.units (RefI.y x1) = Ref.units (RefI.y x3)) ∧
 ((Ref.since (RefI.y x1) = Ref.since (RefI.y x3)) ∧
 ((((0 : Nat) = (0 : Nat)) ∧
 (List.length (Ref.news (RefI.y x1)) = List.length (Ref.news (RefI.y x3)))) ∧
 (True)))) ∧
 ((RefI.u x1 = RefI.u x3) ∧
 (True))) ∧
 ((((RLe (List.length (Ref.news (RefI.y x3))) (List.length (Ref.news (RefI.y x1)))) ∧
 (RowsEq (Kd.int IntKind.i64 :: Kd.int IntKind.i64 :: Kd.int IntKind.i64 :: Kd.int IntKind.i64 :: Kd.int IntKind.i64 :: Kd.int IntKind.i64 :: @List.nil Kd) (List.length (Ref.news (RefI.y x3))) (encL encCame (Ref.news (RefI.y x1))) (encL encCame (Ref.news (RefI.y x3))))) ∧
 (True)) ∧
 ((((!Ref.there (RefI.y x3) (RefI.u x3)) = true) →
 (((0 : Int) = Ref.missed (RefI.y x1) (RefI.u x1)) ∧
 (True))) ∧
 (((!Ref.there (RefI.y x3) (RefI.u x3)) = false) →
 (∃ x6 : Nat,
 (((x6 ≤ List.length (Ref.news (RefI.y x1))) ∧
 ((((0 : Int) = (↑x6 : Int)) ∧
 ((Sta.seq (Ref.last (RefI.y x3) (RefI.u x3)) = Sta.seq (Ref.last (RefI.y x1) (RefI.u x1)) - Ref.count (RefI.y x1) (RefI.u x1) x6) ∧
 (((↑(List.length (Ref.news (RefI.y x1))) : Int) = (↑(List.length (Ref.news (RefI.y x1))) : Int)) ∧
 ((((0 : Nat) = (0 : Nat)) ∧
 (List.length (Ref.news (RefI.y x1)) = List.length (Ref.news (RefI.y x1)))) ∧
 ((Ref.there (RefI.y x3) (RefI.u x3) = Ref.there (RefI.y x3) (RefI.u x3)) ∧
 ((Ref.heard (RefI.y x3) (RefI.u x3) = Ref.heard (RefI.y x3) (RefI.u x3)) ∧
 ((((0 : Nat) = (0 : Nat)) ∧
 ((0 : Nat) = (0 : Nat))) ∧
 (((0 : Int) = (0 : Int)) ∧
 ((((0 : Nat) = (0 : Nat)) ∧
 ((0 : Nat) = (0 : Nat))) ∧
 (((Ref.units (RefI.y x1) = Ref.units (RefI.y x1)) ∧
 ((Ref.since (RefI.y x1) = Ref.since (RefI.y x1)) ∧
 ((((0 : Nat) = (0 : Nat)) ∧
 (List.length (Ref.news (RefI.y x1)) = List.length (Ref.news (RefI.y x1)))) ∧
 (True)))) ∧
 ((RefI.u x1 = RefI.u x1) ∧
 (True)))))))))))) ∧
 (((Sta.unit (Ref.last (RefI.y x3) (RefI.u x3)) = Sta.unit (Ref.last (RefI.y x3) (RefI.u x3))) ∧
 ((Sta.seq (Ref.last (RefI.y x3) (RefI.u x3)) = Sta.seq (Ref.last (RefI.y x3) (RefI.u x3))) ∧
 ((Sta.state (Ref.last (RefI.y x3) (RefI.u x3)) = Sta.state (Ref.last (RefI.y x3) (RefI.u x3))) ∧
 ((Sta.node (Ref.last (RefI.y x3) (RefI.u x3)) = Sta.node (Ref.last (RefI.y x3) (RefI.u x3))) ∧
 ((Sta.epoch (Ref.last (RefI.y x3) (RefI.u x3)) = Sta.epoch (Ref.last (RefI.y x3) (RefI.u x3))) ∧
 (True)))))) ∧
 (((Ref.units (RefI.y x1) = Ref.units (RefI.y x1)) ∧
 ((Ref.since (RefI.y x1) = Ref.since (RefI.y x1)) ∧
 ((((0 : Nat) = (0 : Nat)) ∧
 (List.length (Ref.news (RefI.y x1)) = List.length (Ref.news (RefI.y x1)))) ∧
 (True)))) ∧
 (((RLe (List.length (Ref.news (RefI.y x1))) (List.length (Ref.news (RefI.y x1)))) ∧
 (RowsEq (Kd.int IntKind.i64 :: Kd.int IntKind.i64 :: Kd.int IntKind.i64 :: Kd.int IntKind.i64 :: Kd.int IntKind.i64 :: Kd.int IntKind.i64 :: @List.nil Kd) (List.length (Ref.news (RefI.y x1))) (encL encCame (Ref.news (RefI.y x1))) (encL encCame (Ref.news (RefI.y x1))))) ∧
 (True)))))) ∧
 (∀ x7 : Nat,
 ((x7 ≤ List.length (Ref.news (RefI.y x1))) →
 (((decide ((↑x7 : Int) < (↑(List.length (Ref.news (RefI.y x1))) : Int)) = true) →
 ((((0 : Int) ≤ (↑x7 : Int)) ∧
 ((↑x7 : Int) < (↑(List.length (Ref.news (RefI.y x1))) : Int))) ∧
 (((0 : Nat) + Int.toNat (↑x7 : Int) < List.length (Ref.news (RefI.y x1))) ∧
 (((decide (Sta.unit (Came.sta (List.getD (Ref.news (RefI.y x1)) ((0 : Nat) + Int.toNat (↑x7 : Int)) default)) = RefI.u x1) = true) →
 ((((-9223372036854775808 : Int) ≤ Sta.seq (Ref.last (RefI.y x1) (RefI.u x1)) - Ref.count (RefI.y x1) (RefI.u x1) x7 - (1 : Int)) ∧
 (Sta.seq (Ref.last (RefI.y x1) (RefI.u x1)) - Ref.count (RefI.y x1) (RefI.u x1) x7 - (1 : Int) ≤ (9223372036854775807 : Int))) ∧
 ((((-9223372036854775808 : Int) ≤ (↑x7 : Int) + (1 : Int)) ∧
 ((↑x7 : Int) + (1 : Int) ≤ (9223372036854775807 : Int))) ∧
 (∃ x11 : Nat,
 ((List.length (Ref.news (RefI.y x1)) - x11 < List.length (Ref.news (RefI.y x1)) - x7) ∧
 ((x11 ≤ List.length (Ref.news (RefI.y x1))) ∧
 ((((↑x7 : Int) + (1 : Int) = (↑x11 : Int)) ∧
 ((Sta.seq (Ref.last (RefI.y x1) (RefI.u x1)) - Ref.count (RefI.y x1) (RefI.u x1) x7 - (1 : Int) = Sta.seq (Ref.last (RefI.y x1) (RefI.u x1)) - Ref.count (RefI.y x1) (RefI.u x1) x11) ∧
 (((↑(List.length (Ref.news (RefI.y x1))) : Int) = (↑(List.length (Ref.news (RefI.y x1))) : Int)) ∧
 ((((0 : Nat) = (0 : Nat)) ∧
 (List.length (Ref.news (RefI.y x1)) = List.length (Ref.news (RefI.y x1)))) ∧
 ((Ref.there (RefI.y x3) (RefI.u x3) = Ref.there (RefI.y x3) (RefI.u x3)) ∧
 ((Ref.heard (RefI.y x3) (RefI.u x3) = Ref.heard (RefI.y x3) (RefI.u x3)) ∧
 ((((0 : Nat) = (0 : Nat)) ∧
 ((0 : Nat) = (0 : Nat))) ∧
 (((0 : Int) = (0 : Int)) ∧
 ((((0 : Nat) = (0 : Nat)) ∧
 ((0 : Nat) = (0 : Nat))) ∧
 (((Ref.units (RefI.y x1) = Ref.units (RefI.y x1)) ∧
 ((Ref.since (RefI.y x1) = Ref.since (RefI.y x1)) ∧
 ((((0 : Nat) = (0 : Nat)) ∧
 (List.length (Ref.news (RefI.y x1)) = List.length (Ref.news (RefI.y x1)))) ∧
 (True)))) ∧
 ((RefI.u x1 = RefI.u x1) ∧
 (True)))))))))))) ∧
 (((Sta.unit (Ref.last (RefI.y x3) (RefI.u x3)) = Sta.unit (Ref.last (RefI.y x3) (RefI.u x3))) ∧
 ((Sta.seq (Ref.last (RefI.y x3) (RefI.u x3)) = Sta.seq (Ref.last (RefI.y x3) (RefI.u x3))) ∧
 ((Sta.state (Ref.last (RefI.y x3) (RefI.u x3)) = Sta.state (Ref.last (RefI.y x3) (RefI.u x3))) ∧
 ((Sta.node (Ref.last (RefI.y x3) (RefI.u x3)) = Sta.node (Ref.last (RefI.y x3) (RefI.u x3))) ∧
 ((Sta.epoch (Ref.last (RefI.y x3) (RefI.u x3)) = Sta.epoch (Ref.last (RefI.y x3) (RefI.u x3))) ∧
 (True)))))) ∧
 (((Ref.units (RefI.y x1) = Ref.units (RefI.y x1)) ∧
 ((Ref.since (RefI.y x1) = Ref.since (RefI.y x1)) ∧
 ((((0 : Nat) = (0 : Nat)) ∧
 (List.length (Ref.news (RefI.y x1)) = List.length (Ref.news (RefI.y x1)))) ∧
 (True)))) ∧
 (((RLe (List.length (Ref.news (RefI.y x1))) (List.length (Ref.news (RefI.y x1)))) ∧
 (RowsEq (Kd.int IntKind.i64 :: Kd.int IntKind.i64 :: Kd.int IntKind.i64 :: Kd.int IntKind.i64 :: Kd.int IntKind.i64 :: Kd.int IntKind.i64 :: @List.nil Kd) (List.length (Ref.news (RefI.y x1))) (encL encCame (Ref.news (RefI.y x1))) (encL encCame (Ref.news (RefI.y x1))))) ∧
 (True))))))))))) ∧
 ((decide (Sta.unit (Came.sta (List.getD (Ref.news (RefI.y x1)) ((0 : Nat) + Int.toNat (↑x7 : Int)) default)) = RefI.u x1) = false) →
 ((((-9223372036854775808 : Int) ≤ (↑x7 : Int) + (1 : Int)) ∧
 ((↑x7 : Int) + (1 : Int) ≤ (9223372036854775807 : Int))) ∧
 (∃ x13 : Nat,
 ((List.length (Ref.news (RefI.y x1)) - x13 < List.length (Ref.news (RefI.y x1)) - x7) ∧
 ((x13 ≤ List.length (Ref.news (RefI.y x1))) ∧
 ((((↑x7 : Int) + (1 : Int) = (↑x13 : Int)) ∧
 ((Sta.seq (Ref.last (RefI.y x1) (RefI.u x1)) - Ref.count (RefI.y x1) (RefI.u x1) x7 = Sta.seq (Ref.last (RefI.y x1) (RefI.u x1)) - Ref.count (RefI.y x1) (RefI.u x1) x13) ∧
 (((↑(List.length (Ref.news (RefI.y x1))) : Int) = (↑(List.length (Ref.news (RefI.y x1))) : Int)) ∧
 ((((0 : Nat) = (0 : Nat)) ∧
 (List.length (Ref.news (RefI.y x1)) = List.length (Ref.news (RefI.y x1)))) ∧
 ((Ref.there (RefI.y x3) (RefI.u x3) = Ref.there (RefI.y x3) (RefI.u x3)) ∧
 ((Ref.heard (RefI.y x3) (RefI.u x3) = Ref.heard (RefI.y x3) (RefI.u x3)) ∧
 ((((0 : Nat) = (0 : Nat)) ∧
 ((0 : Nat) = (0 : Nat))) ∧
 (((0 : Int) = (0 : Int)) ∧
 ((((0 : Nat) = (0 : Nat)) ∧
 ((0 : Nat) = (0 : Nat))) ∧
 (((Ref.units (RefI.y x1) = Ref.units (RefI.y x1)) ∧
 ((Ref.since (RefI.y x1) = Ref.since (RefI.y x1)) ∧
 ((((0 : Nat) = (0 : Nat)) ∧
 (List.length (Ref.news (RefI.y x1)) = List.length (Ref.news (RefI.y x1)))) ∧
 (True)))) ∧
 ((RefI.u x1 = RefI.u x1) ∧
 (True)))))))))))) ∧
 (((Sta.unit (Ref.last (RefI.y x3) (RefI.u x3)) = Sta.unit (Ref.last (RefI.y x3) (RefI.u x3))) ∧
 ((Sta.seq (Ref.last (RefI.y x3) (RefI.u x3)) = Sta.seq (Ref.last (RefI.y x3) (RefI.u x3))) ∧
 ((Sta.state (Ref.last (RefI.y x3) (RefI.u x3)) = Sta.state (Ref.last (RefI.y x3) (RefI.u x3))) ∧
 ((Sta.node (Ref.last (RefI.y x3) (RefI.u x3)) = Sta.node (Ref.last (RefI.y x3) (RefI.u x3))) ∧
 ((Sta.epoch (Ref.last (RefI.y x3) (RefI.u x3)) = Sta.epoch (Ref.last (RefI.y x3) (RefI.u x3))) ∧
 (True)))))) ∧
 (((Ref.units (RefI.y x1) = Ref.units (RefI.y x1)) ∧
 ((Ref.since (RefI.y x1) = Ref.since (RefI.y x1)) ∧
 ((((0 : Nat) = (0 : Nat)) ∧
 (List.length (Ref.news (RefI.y x1)) = List.length (Ref.news (RefI.y x1)))) ∧
 (True)))) ∧
 (((RLe (List.length (Ref.news (RefI.y x1))) (List.length (Ref.news (RefI.y x1)))) ∧
 (RowsEq (Kd.int IntKind.i64 :: Kd.int IntKind.i64 :: Kd.int IntKind.i64 :: Kd.int IntKind.i64 :: Kd.int IntKind.i64 :: Kd.int IntKind.i64 :: @List.nil Kd) (List.length (Ref.news (RefI.y x1))) (encL encCame (Ref.news (RefI.y x1))) (encL encCame (Ref.news (RefI.y x1))))) ∧
 (True)))))))))))))) ∧
 ((decide ((↑x7 : Int) < (↑(List.length (Ref.news (RefI.y x1))) : Int)) = false) →
 ((Sta.seq (Ref.last (RefI.y x1) (RefI.u x1)) - Ref.count (RefI.y x1) (RefI.u x1) x7 = Ref.missed (RefI.y x1) (RefI.u x1)) ∧
 (True))))))))))))))))) = Keeps { cfg3 with vars := 11 } Try.f14 rmissedC rmissedI by kernel_rfl) (fun x1 => fun h2 => ⟨(x1),
 (by (try dsimp only at *); exact h2.n),
 ⟨⟨rfl,
 rfl,
 ⟨rfl,
 rfl⟩,
 trivial⟩,
 rfl,
 trivial⟩,
 ⟨⟨⟨Nat.le_refl _⟩,
 RowsEq.rfl'⟩,
 trivial⟩,
 fun h4 => ⟨(by (try dsimp only at *); grind [Ref.missed, Ref.last, Ref.heard, Ref.there, zeroSta]),
 trivial⟩,
 fun h5 => ⟨((0 : Nat)),
 ⟨(by (try dsimp only at *); omega),
 ⟨(by (try dsimp only at *); omega),
 (by (try dsimp only at *); (rw [Ref.count_zero]; omega)),
 rfl,
 ⟨rfl,
 rfl⟩,
 rfl,
 rfl,
 ⟨rfl,
 rfl⟩,
 rfl,
 ⟨rfl,
 rfl⟩,
 ⟨rfl,
 rfl,
 ⟨rfl,
 rfl⟩,
 trivial⟩,
 rfl,
 trivial⟩,
 ⟨rfl,
 rfl,
 rfl,
 rfl,
 rfl,
 trivial⟩,
 ⟨rfl,
 rfl,
 ⟨rfl,
 rfl⟩,
 trivial⟩,
 ⟨⟨Nat.le_refl _⟩,
 RowsEq.rfl'⟩,
 trivial⟩,
 fun x7 => fun h8 => ⟨fun g9 => have h9 := of_decide_eq_true g9; ⟨⟨(by (try dsimp only at *); omega),
 (by (try dsimp only at *); omega)⟩,
 (by (try dsimp only at *); omega),
 fun g10 => have h10 := of_decide_eq_true g10; ⟨⟨(by (try dsimp only at *); (have hk : x7 < x1.y.news.length := (by omega); have := Ref.all_seq x1.y x1.u h2; have := h2.n; have := Ref.count_le x1.y x1.u x7; simp only [Ref.last, lim, Nat.zero_add, Int.toNat_natCast, zeroSta] at *; grind)),
 (by (try dsimp only at *); (have hk : x7 < x1.y.news.length := (by omega); have := Ref.all_seq x1.y x1.u h2; have := h2.n; have := Ref.count_le x1.y x1.u x7; simp only [Ref.last, lim, Nat.zero_add, Int.toNat_natCast, zeroSta] at *; grind))⟩,
 ⟨(by (try dsimp only at *); omega),
 (by (try dsimp only at *); (have := h2.n; omega))⟩,
 (x7 + (1 : Nat)),
 (by (try dsimp only at *); omega),
 (by (try dsimp only at *); omega),
 ⟨(by (try dsimp only at *); omega),
 (by (try dsimp only at *); (have hk : x7 < x1.y.news.length := (by omega); have := Ref.all_seq x1.y x1.u h2; have := h2.n; have := Ref.count_le x1.y x1.u x7; rw [Ref.count_succ _ _ _ hk]; simp only [Ref.last, lim, Nat.zero_add, Int.toNat_natCast, zeroSta] at *; grind)),
 rfl,
 ⟨rfl,
 rfl⟩,
 rfl,
 rfl,
 ⟨rfl,
 rfl⟩,
 rfl,
 ⟨rfl,
 rfl⟩,
 ⟨rfl,
 rfl,
 ⟨rfl,
 rfl⟩,
 trivial⟩,
 rfl,
 trivial⟩,
 ⟨rfl,
 rfl,
 rfl,
 rfl,
 rfl,
 trivial⟩,
 ⟨rfl,
 rfl,
 ⟨rfl,
 rfl⟩,
 trivial⟩,
 ⟨⟨Nat.le_refl _⟩,
 RowsEq.rfl'⟩,
 trivial⟩,
 fun g12 => have h12 := of_decide_eq_false g12; ⟨⟨(by (try dsimp only at *); omega),
 (by (try dsimp only at *); (have := h2.n; omega))⟩,
 (x7 + (1 : Nat)),
 (by (try dsimp only at *); omega),
 (by (try dsimp only at *); omega),
 ⟨(by (try dsimp only at *); omega),
 (by (try dsimp only at *); (have hk : x7 < x1.y.news.length := (by omega); have := Ref.all_seq x1.y x1.u h2; have := h2.n; have := Ref.count_le x1.y x1.u x7; rw [Ref.count_succ _ _ _ hk]; simp only [Ref.last, lim, Nat.zero_add, Int.toNat_natCast, zeroSta] at *; grind)),
 rfl,
 ⟨rfl,
 rfl⟩,
 rfl,
 rfl,
 ⟨rfl,
 rfl⟩,
 rfl,
 ⟨rfl,
 rfl⟩,
 ⟨rfl,
 rfl,
 ⟨rfl,
 rfl⟩,
 trivial⟩,
 rfl,
 trivial⟩,
 ⟨rfl,
 rfl,
 rfl,
 rfl,
 rfl,
 trivial⟩,
 ⟨rfl,
 rfl,
 ⟨rfl,
 rfl⟩,
 trivial⟩,
 ⟨⟨Nat.le_refl _⟩,
 RowsEq.rfl'⟩,
 trivial⟩⟩,
 fun g14 => have h14 := of_decide_eq_false g14; ⟨(by (try dsimp only at *); grind [Ref.missed, Ref.last, Ref.heard, Ref.there, zeroSta]),
 trivial⟩⟩⟩⟩)

structure RefS where
  y : Ref
  s : Sta
  now : Int
def rightC : CT where
  X := RefS
  pre := fun _ => True
  args := fun x => [refV x.y 100000, encSta x.s]
  g0 := fun x => refH x.y .bor 100000
  res := fun x => .b (x.y.valid x.s)
  g1 := fun _ => []
set_option maxRecDepth 100000 in
theorem right_keeps : Keeps cfg0 Try.f33 rightC noIv := Eq.mp (show ((∀ x1 : RefS,
 ((True) →
 (((decide (Sta.state (RefS.s x1) = (1 : Int)) = false) →
 (((decide (Sta.state (RefS.s x1) = (3 : Int)) = false) →
 (((decide (Sta.state (RefS.s x1) = (4 : Int)) = false) →
 (((decide (Sta.state (RefS.s x1) = (5 : Int)) = false) →
 (((decide ((0 : Int) ≤ Sta.unit (RefS.s x1)) = true) →
 (((decide (Sta.unit (RefS.s x1) < Ref.units (RefS.y x1)) = true) →
 (((decide ((1 : Int) ≤ Sta.seq (RefS.s x1)) = true) →
 (((decide (Sta.seq (RefS.s x1) ≤ (1099511627776 : Int)) = true) →
 (((decide (Sta.state (RefS.s x1) = (6 : Int)) = true) →
 (((decide ((0 : Int) ≤ Sta.node (RefS.s x1)) = true) →
 (((decide ((0 : Int) ≤ Sta.epoch (RefS.s x1)) = true) →
 ((decide (Sta.epoch (RefS.s x1) ≤ (1099511627776 : Int)) = Ref.valid (RefS.y x1) (RefS.s x1)) ∧
 (True))) ∧
 ((decide ((0 : Int) ≤ Sta.epoch (RefS.s x1)) = false) →
 ((false = Ref.valid (RefS.y x1) (RefS.s x1)) ∧
 (True))))) ∧
 ((decide ((0 : Int) ≤ Sta.node (RefS.s x1)) = false) →
 ((false = Ref.valid (RefS.y x1) (RefS.s x1)) ∧
 (True))))) ∧
 ((decide (Sta.state (RefS.s x1) = (6 : Int)) = false) →
 ((false = Ref.valid (RefS.y x1) (RefS.s x1)) ∧
 (True))))) ∧
 ((decide (Sta.seq (RefS.s x1) ≤ (1099511627776 : Int)) = false) →
 ((false = Ref.valid (RefS.y x1) (RefS.s x1)) ∧
 (True))))) ∧
 ((decide ((1 : Int) ≤ Sta.seq (RefS.s x1)) = false) →
 ((false = Ref.valid (RefS.y x1) (RefS.s x1)) ∧
 (True))))) ∧
 ((decide (Sta.unit (RefS.s x1) < Ref.units (RefS.y x1)) = false) →
 ((false = Ref.valid (RefS.y x1) (RefS.s x1)) ∧
 (True))))) ∧
 ((decide ((0 : Int) ≤ Sta.unit (RefS.s x1)) = false) →
 ((false = Ref.valid (RefS.y x1) (RefS.s x1)) ∧
 (True))))) ∧
 ((decide (Sta.state (RefS.s x1) = (5 : Int)) = true) →
 (((decide ((0 : Int) ≤ Sta.unit (RefS.s x1)) = true) →
 (((decide (Sta.unit (RefS.s x1) < Ref.units (RefS.y x1)) = true) →
 (((decide ((1 : Int) ≤ Sta.seq (RefS.s x1)) = true) →
 (((decide (Sta.seq (RefS.s x1) ≤ (1099511627776 : Int)) = true) →
 (((decide ((0 : Int) ≤ Sta.node (RefS.s x1)) = true) →
 (((decide ((0 : Int) ≤ Sta.epoch (RefS.s x1)) = true) →
 ((decide (Sta.epoch (RefS.s x1) ≤ (1099511627776 : Int)) = Ref.valid (RefS.y x1) (RefS.s x1)) ∧
 (True))) ∧
 ((decide ((0 : Int) ≤ Sta.epoch (RefS.s x1)) = false) →
 ((false = Ref.valid (RefS.y x1) (RefS.s x1)) ∧
 (True))))) ∧
 ((decide ((0 : Int) ≤ Sta.node (RefS.s x1)) = false) →
 ((false = Ref.valid (RefS.y x1) (RefS.s x1)) ∧
 (True))))) ∧
 ((decide (Sta.seq (RefS.s x1) ≤ (1099511627776 : Int)) = false) →
 ((false = Ref.valid (RefS.y x1) (RefS.s x1)) ∧
 (True))))) ∧
 ((decide ((1 : Int) ≤ Sta.seq (RefS.s x1)) = false) →
 ((false = Ref.valid (RefS.y x1) (RefS.s x1)) ∧
 (True))))) ∧
 ((decide (Sta.unit (RefS.s x1) < Ref.units (RefS.y x1)) = false) →
 ((false = Ref.valid (RefS.y x1) (RefS.s x1)) ∧
 (True))))) ∧
 ((decide ((0 : Int) ≤ Sta.unit (RefS.s x1)) = false) →
 ((false = Ref.valid (RefS.y x1) (RefS.s x1)) ∧
 (True))))))) ∧
 ((decide (Sta.state (RefS.s x1) = (4 : Int)) = true) →
 (((decide ((0 : Int) ≤ Sta.unit (RefS.s x1)) = true) →
 (((decide (Sta.unit (RefS.s x1) < Ref.units (RefS.y x1)) = true) →
 (((decide ((1 : Int) ≤ Sta.seq (RefS.s x1)) = true) →
 (((decide (Sta.seq (RefS.s x1) ≤ (1099511627776 : Int)) = true) →
 (((decide ((0 : Int) ≤ Sta.node (RefS.s x1)) = true) →
 (((decide ((0 : Int) ≤ Sta.epoch (RefS.s x1)) = true) →
 ((decide (Sta.epoch (RefS.s x1) ≤ (1099511627776 : Int)) = Ref.valid (RefS.y x1) (RefS.s x1)) ∧
 (True))) ∧
 ((decide ((0 : Int) ≤ Sta.epoch (RefS.s x1)) = false) →
 ((false = Ref.valid (RefS.y x1) (RefS.s x1)) ∧
 (True))))) ∧
 ((decide ((0 : Int) ≤ Sta.node (RefS.s x1)) = false) →
 ((false = Ref.valid (RefS.y x1) (RefS.s x1)) ∧
 (True))))) ∧
 ((decide (Sta.seq (RefS.s x1) ≤ (1099511627776 : Int)) = false) →
 ((false = Ref.valid (RefS.y x1) (RefS.s x1)) ∧
 (True))))) ∧
 ((decide ((1 : Int) ≤ Sta.seq (RefS.s x1)) = false) →
 ((false = Ref.valid (RefS.y x1) (RefS.s x1)) ∧
 (True))))) ∧
 ((decide (Sta.unit (RefS.s x1) < Ref.units (RefS.y x1)) = false) →
 ((false = Ref.valid (RefS.y x1) (RefS.s x1)) ∧
 (True))))) ∧
 ((decide ((0 : Int) ≤ Sta.unit (RefS.s x1)) = false) →
 ((false = Ref.valid (RefS.y x1) (RefS.s x1)) ∧
 (True))))))) ∧
 ((decide (Sta.state (RefS.s x1) = (3 : Int)) = true) →
 (((decide ((0 : Int) ≤ Sta.unit (RefS.s x1)) = true) →
 (((decide (Sta.unit (RefS.s x1) < Ref.units (RefS.y x1)) = true) →
 (((decide ((1 : Int) ≤ Sta.seq (RefS.s x1)) = true) →
 (((decide (Sta.seq (RefS.s x1) ≤ (1099511627776 : Int)) = true) →
 (((decide ((0 : Int) ≤ Sta.node (RefS.s x1)) = true) →
 (((decide ((0 : Int) ≤ Sta.epoch (RefS.s x1)) = true) →
 ((decide (Sta.epoch (RefS.s x1) ≤ (1099511627776 : Int)) = Ref.valid (RefS.y x1) (RefS.s x1)) ∧
 (True))) ∧
 ((decide ((0 : Int) ≤ Sta.epoch (RefS.s x1)) = false) →
 ((false = Ref.valid (RefS.y x1) (RefS.s x1)) ∧
 (True))))) ∧
 ((decide ((0 : Int) ≤ Sta.node (RefS.s x1)) = false) →
 ((false = Ref.valid (RefS.y x1) (RefS.s x1)) ∧
 (True))))) ∧
 ((decide (Sta.seq (RefS.s x1) ≤ (1099511627776 : Int)) = false) →
 ((false = Ref.valid (RefS.y x1) (RefS.s x1)) ∧
 (True))))) ∧
 ((decide ((1 : Int) ≤ Sta.seq (RefS.s x1)) = false) →
 ((false = Ref.valid (RefS.y x1) (RefS.s x1)) ∧
 (True))))) ∧
 ((decide (Sta.unit (RefS.s x1) < Ref.units (RefS.y x1)) = false) →
 ((false = Ref.valid (RefS.y x1) (RefS.s x1)) ∧
 (True))))) ∧
 ((decide ((0 : Int) ≤ Sta.unit (RefS.s x1)) = false) →
 ((false = Ref.valid (RefS.y x1) (RefS.s x1)) ∧
 (True))))))) ∧
 ((decide (Sta.state (RefS.s x1) = (1 : Int)) = true) →
 (((decide ((0 : Int) ≤ Sta.unit (RefS.s x1)) = true) →
 (((decide (Sta.unit (RefS.s x1) < Ref.units (RefS.y x1)) = true) →
 (((decide ((1 : Int) ≤ Sta.seq (RefS.s x1)) = true) →
 (((decide (Sta.seq (RefS.s x1) ≤ (1099511627776 : Int)) = true) →
 (((decide ((0 : Int) ≤ Sta.node (RefS.s x1)) = true) →
 (((decide ((0 : Int) ≤ Sta.epoch (RefS.s x1)) = true) →
 ((decide (Sta.epoch (RefS.s x1) ≤ (1099511627776 : Int)) = Ref.valid (RefS.y x1) (RefS.s x1)) ∧
 (True))) ∧
 ((decide ((0 : Int) ≤ Sta.epoch (RefS.s x1)) = false) →
 ((false = Ref.valid (RefS.y x1) (RefS.s x1)) ∧
 (True))))) ∧
 ((decide ((0 : Int) ≤ Sta.node (RefS.s x1)) = false) →
 ((false = Ref.valid (RefS.y x1) (RefS.s x1)) ∧
 (True))))) ∧
 ((decide (Sta.seq (RefS.s x1) ≤ (1099511627776 : Int)) = false) →
 ((false = Ref.valid (RefS.y x1) (RefS.s x1)) ∧
 (True))))) ∧
 ((decide ((1 : Int) ≤ Sta.seq (RefS.s x1)) = false) →
 ((false = Ref.valid (RefS.y x1) (RefS.s x1)) ∧
 (True))))) ∧
 ((decide (Sta.unit (RefS.s x1) < Ref.units (RefS.y x1)) = false) →
 ((false = Ref.valid (RefS.y x1) (RefS.s x1)) ∧
 (True))))) ∧
 ((decide ((0 : Int) ≤ Sta.unit (RefS.s x1)) = false) →
 ((false = Ref.valid (RefS.y x1) (RefS.s x1)) ∧
 (True))))))))) = Keeps cfg0 Try.f33 rightC noIv by kernel_rfl) (fun x1 => fun h2 => ⟨fun g3 => have h3 := of_decide_eq_false g3; ⟨fun g4 => have h4 := of_decide_eq_false g4; ⟨fun g5 => have h5 := of_decide_eq_false g5; ⟨fun g6 => have h6 := of_decide_eq_false g6; ⟨fun g7 => have h7 := of_decide_eq_true g7; ⟨fun g8 => have h8 := of_decide_eq_true g8; ⟨fun g9 => have h9 := of_decide_eq_true g9; ⟨fun g10 => have h10 := of_decide_eq_true g10; ⟨fun g11 => have h11 := of_decide_eq_true g11; ⟨fun g12 => have h12 := of_decide_eq_true g12; ⟨fun g13 => have h13 := of_decide_eq_true g13; ⟨(by grind [Ref.valid, stateOk, lim]),
 trivial⟩,
 fun g14 => have h14 := of_decide_eq_false g14; ⟨(by grind [Ref.valid, stateOk, lim]),
 trivial⟩⟩,
 fun g15 => have h15 := of_decide_eq_false g15; ⟨(by grind [Ref.valid, stateOk, lim]),
 trivial⟩⟩,
 fun g16 => have h16 := of_decide_eq_false g16; ⟨(by grind [Ref.valid, stateOk, lim]),
 trivial⟩⟩,
 fun g17 => have h17 := of_decide_eq_false g17; ⟨(by grind [Ref.valid, stateOk, lim]),
 trivial⟩⟩,
 fun g18 => have h18 := of_decide_eq_false g18; ⟨(by grind [Ref.valid, stateOk, lim]),
 trivial⟩⟩,
 fun g19 => have h19 := of_decide_eq_false g19; ⟨(by grind [Ref.valid, stateOk, lim]),
 trivial⟩⟩,
 fun g20 => have h20 := of_decide_eq_false g20; ⟨(by grind [Ref.valid, stateOk, lim]),
 trivial⟩⟩,
 fun g21 => have h21 := of_decide_eq_true g21; ⟨fun g22 => have h22 := of_decide_eq_true g22; ⟨fun g23 => have h23 := of_decide_eq_true g23; ⟨fun g24 => have h24 := of_decide_eq_true g24; ⟨fun g25 => have h25 := of_decide_eq_true g25; ⟨fun g26 => have h26 := of_decide_eq_true g26; ⟨fun g27 => have h27 := of_decide_eq_true g27; ⟨(by grind [Ref.valid, stateOk, lim]),
 trivial⟩,
 fun g28 => have h28 := of_decide_eq_false g28; ⟨(by grind [Ref.valid, stateOk, lim]),
 trivial⟩⟩,
 fun g29 => have h29 := of_decide_eq_false g29; ⟨(by grind [Ref.valid, stateOk, lim]),
 trivial⟩⟩,
 fun g30 => have h30 := of_decide_eq_false g30; ⟨(by grind [Ref.valid, stateOk, lim]),
 trivial⟩⟩,
 fun g31 => have h31 := of_decide_eq_false g31; ⟨(by grind [Ref.valid, stateOk, lim]),
 trivial⟩⟩,
 fun g32 => have h32 := of_decide_eq_false g32; ⟨(by grind [Ref.valid, stateOk, lim]),
 trivial⟩⟩,
 fun g33 => have h33 := of_decide_eq_false g33; ⟨(by grind [Ref.valid, stateOk, lim]),
 trivial⟩⟩⟩,
 fun g34 => have h34 := of_decide_eq_true g34; ⟨fun g35 => have h35 := of_decide_eq_true g35; ⟨fun g36 => have h36 := of_decide_eq_true g36; ⟨fun g37 => have h37 := of_decide_eq_true g37; ⟨fun g38 => have h38 := of_decide_eq_true g38; ⟨fun g39 => have h39 := of_decide_eq_true g39; ⟨fun g40 => have h40 := of_decide_eq_true g40; ⟨(by grind [Ref.valid, stateOk, lim]),
 trivial⟩,
 fun g41 => have h41 := of_decide_eq_false g41; ⟨(by grind [Ref.valid, stateOk, lim]),
 trivial⟩⟩,
 fun g42 => have h42 := of_decide_eq_false g42; ⟨(by grind [Ref.valid, stateOk, lim]),
 trivial⟩⟩,
 fun g43 => have h43 := of_decide_eq_false g43; ⟨(by grind [Ref.valid, stateOk, lim]),
 trivial⟩⟩,
 fun g44 => have h44 := of_decide_eq_false g44; ⟨(by grind [Ref.valid, stateOk, lim]),
 trivial⟩⟩,
 fun g45 => have h45 := of_decide_eq_false g45; ⟨(by grind [Ref.valid, stateOk, lim]),
 trivial⟩⟩,
 fun g46 => have h46 := of_decide_eq_false g46; ⟨(by grind [Ref.valid, stateOk, lim]),
 trivial⟩⟩⟩,
 fun g47 => have h47 := of_decide_eq_true g47; ⟨fun g48 => have h48 := of_decide_eq_true g48; ⟨fun g49 => have h49 := of_decide_eq_true g49; ⟨fun g50 => have h50 := of_decide_eq_true g50; ⟨fun g51 => have h51 := of_decide_eq_true g51; ⟨fun g52 => have h52 := of_decide_eq_true g52; ⟨fun g53 => have h53 := of_decide_eq_true g53; ⟨(by grind [Ref.valid, stateOk, lim]),
 trivial⟩,
 fun g54 => have h54 := of_decide_eq_false g54; ⟨(by grind [Ref.valid, stateOk, lim]),
 trivial⟩⟩,
 fun g55 => have h55 := of_decide_eq_false g55; ⟨(by grind [Ref.valid, stateOk, lim]),
 trivial⟩⟩,
 fun g56 => have h56 := of_decide_eq_false g56; ⟨(by grind [Ref.valid, stateOk, lim]),
 trivial⟩⟩,
 fun g57 => have h57 := of_decide_eq_false g57; ⟨(by grind [Ref.valid, stateOk, lim]),
 trivial⟩⟩,
 fun g58 => have h58 := of_decide_eq_false g58; ⟨(by grind [Ref.valid, stateOk, lim]),
 trivial⟩⟩,
 fun g59 => have h59 := of_decide_eq_false g59; ⟨(by grind [Ref.valid, stateOk, lim]),
 trivial⟩⟩⟩,
 fun g60 => have h60 := of_decide_eq_true g60; ⟨fun g61 => have h61 := of_decide_eq_true g61; ⟨fun g62 => have h62 := of_decide_eq_true g62; ⟨fun g63 => have h63 := of_decide_eq_true g63; ⟨fun g64 => have h64 := of_decide_eq_true g64; ⟨fun g65 => have h65 := of_decide_eq_true g65; ⟨fun g66 => have h66 := of_decide_eq_true g66; ⟨(by grind [Ref.valid, stateOk, lim]),
 trivial⟩,
 fun g67 => have h67 := of_decide_eq_false g67; ⟨(by grind [Ref.valid, stateOk, lim]),
 trivial⟩⟩,
 fun g68 => have h68 := of_decide_eq_false g68; ⟨(by grind [Ref.valid, stateOk, lim]),
 trivial⟩⟩,
 fun g69 => have h69 := of_decide_eq_false g69; ⟨(by grind [Ref.valid, stateOk, lim]),
 trivial⟩⟩,
 fun g70 => have h70 := of_decide_eq_false g70; ⟨(by grind [Ref.valid, stateOk, lim]),
 trivial⟩⟩,
 fun g71 => have h71 := of_decide_eq_false g71; ⟨(by grind [Ref.valid, stateOk, lim]),
 trivial⟩⟩,
 fun g72 => have h72 := of_decide_eq_false g72; ⟨(by grind [Ref.valid, stateOk, lim]),
 trivial⟩⟩⟩)


theorem rmissed_good : Good Try.prog 14 rmissedC ∧ FnOk Try.prog 14 := good_of (c := { cfg3 with vars := 11 }) tok con3 (fn := Try.f14) rfl (by decide +kernel) (fun _ => rfl) rmissed_keeps
theorem right_good : Good Try.prog 33 rightC ∧ FnOk Try.prog 33 := good_of tok con0 (fn := Try.f33) rfl (by decide +kernel) (fun _ => rfl) right_keeps
def C4 : List (Nat × Con) := [(12, .one rlastC), (31, .one clampC), (29, .one clampC), (33, .one rightC)]
def cfg4 : Cfg := ⟨T, [], C4, noInv, 0, {}⟩
theorem con4 : ConOk Try.prog cfg4 := ConL.ok (.cons (ConL.one rlast_good) (.cons (ConL.one tick_good) (.cons (ConL.one clamp_good) (.cons (ConL.one right_good) .nil))))
def rputC : CT where
  X := RefS
  pre := fun x => x.y.news.length ≤ 999
  args := fun x => [refV x.y 100000, encSta x.s, .i .i64 x.now]
  g0 := fun x => refH x.y .bor 100000
  res := fun x => .tup [refV (x.y.put x.s x.now) 1, .b (x.y.isNew x.s), .i .i64 (x.y.err x.s)]
  g1 := fun x => refH (x.y.put x.s x.now) .bor 1
set_option maxRecDepth 100000 in
theorem rput_keeps : Keeps cfg4 Try.f27 rputC noIv := Eq.mp (show ((∀ x1 : RefS,
 ((List.length (Ref.news (RefS.y x1)) ≤ (999 : Nat)) →
 (∃ x3 : RefS,
 ((True) ∧
 ((((Ref.units (RefS.y x1) = Ref.units (RefS.y x3)) ∧
 ((Ref.since (RefS.y x1) = Ref.since (RefS.y x3)) ∧
 ((((0 : Nat) = (0 : Nat)) ∧
 (List.length (Ref.news (RefS.y x1)) = List.length (Ref.news (RefS.y x3)))) ∧
 (True)))) ∧
 (((Sta.unit (RefS.s x1) = Sta.unit (RefS.s x3)) ∧
 ((Sta.seq (RefS.s x1) = Sta.seq (RefS.s x3)) ∧
 ((Sta.state (RefS.s x1) = Sta.state (RefS.s x3)) ∧
 ((Sta.node (RefS.s x1) = Sta.node (RefS.s x3)) ∧
 ((Sta.epoch (RefS.s x1) = Sta.epoch (RefS.s x3)) ∧
 (True)))))) ∧
 (True))) ∧
 ((((RLe (List.length (Ref.news (RefS.y x3))) (List.length (Ref.news (RefS.y x1)))) ∧
 (RowsEq (Kd.int IntKind.i64 :: Kd.int IntKind.i64 :: Kd.int IntKind.i64 :: Kd.int IntKind.i64 :: Kd.int IntKind.i64 :: Kd.int IntKind.i64 :: @List.nil Kd) (List.length (Ref.news (RefS.y x3))) (encL encCame (Ref.news (RefS.y x1))) (encL encCame (Ref.news (RefS.y x3))))) ∧
 (True)) ∧
 ((((!Ref.valid (RefS.y x3) (RefS.s x3)) = true) →
 ((((Ref.units (RefS.y x1) = Ref.units (Ref.put (RefS.y x1) (RefS.s x1) (RefS.now x1))) ∧
 ((Ref.since (RefS.y x1) = Ref.since (Ref.put (RefS.y x1) (RefS.s x1) (RefS.now x1))) ∧
 ((((0 : Nat) = (0 : Nat)) ∧
 (List.length (Ref.news (RefS.y x1)) = List.length (Ref.news (Ref.put (RefS.y x1) (RefS.s x1) (RefS.now x1))))) ∧
 (True)))) ∧
 ((false = Ref.isNew (RefS.y x1) (RefS.s x1)) ∧
 (((1 : Int) = Ref.err (RefS.y x1) (RefS.s x1)) ∧
 (True)))) ∧
 (((RLe (List.length (Ref.news (Ref.put (RefS.y x1) (RefS.s x1) (RefS.now x1)))) (List.length (Ref.news (RefS.y x1)))) ∧
 (RowsEq (Kd.int IntKind.i64 :: Kd.int IntKind.i64 :: Kd.int IntKind.i64 :: Kd.int IntKind.i64 :: Kd.int IntKind.i64 :: Kd.int IntKind.i64 :: @List.nil Kd) (List.length (Ref.news (Ref.put (RefS.y x1) (RefS.s x1) (RefS.now x1)))) (encL encCame (Ref.news (RefS.y x1))) (encL encCame (Ref.news (Ref.put (RefS.y x1) (RefS.s x1) (RefS.now x1)))))) ∧
 (True)))) ∧
 (((!Ref.valid (RefS.y x3) (RefS.s x3)) = false) →
 (∃ x6 : RefI,
 ((List.length (Ref.news (RefI.y x6)) ≤ (1000 : Nat)) ∧
 ((((Ref.units (RefS.y x1) = Ref.units (RefI.y x6)) ∧
 ((Ref.since (RefS.y x1) = Ref.since (RefI.y x6)) ∧
 ((((0 : Nat) = (0 : Nat)) ∧
 (List.length (Ref.news (RefS.y x1)) = List.length (Ref.news (RefI.y x6)))) ∧
 (True)))) ∧
 ((Sta.unit (RefS.s x1) = RefI.u x6) ∧
 (True))) ∧
 ((((RLe (List.length (Ref.news (RefI.y x6))) (List.length (Ref.news (RefS.y x1)))) ∧
 (RowsEq (Kd.int IntKind.i64 :: Kd.int IntKind.i64 :: Kd.int IntKind.i64 :: Kd.int IntKind.i64 :: Kd.int IntKind.i64 :: Kd.int IntKind.i64 :: @List.nil Kd) (List.length (Ref.news (RefI.y x6))) (encL encCame (Ref.news (RefS.y x1))) (encL encCame (Ref.news (RefI.y x6))))) ∧
 (True)) ∧
 (((Ref.there (RefI.y x6) (RefI.u x6) = true) →
 (((decide (Sta.seq (RefS.s x1) ≤ Sta.seq (Ref.last (RefI.y x6) (RefI.u x6))) = true) →
 ((((Ref.units (RefS.y x1) = Ref.units (Ref.put (RefS.y x1) (RefS.s x1) (RefS.now x1))) ∧
 ((Ref.since (RefS.y x1) = Ref.since (Ref.put (RefS.y x1) (RefS.s x1) (RefS.now x1))) ∧
 ((((0 : Nat) = (0 : Nat)) ∧
 (List.length (Ref.news (RefS.y x1)) = List.length (Ref.news (Ref.put (RefS.y x1) (RefS.s x1) (RefS.now x1))))) ∧
 (True)))) ∧
 ((false = Ref.isNew (RefS.y x1) (RefS.s x1)) ∧
 (((0 : Int) = Ref.err (RefS.y x1) (RefS.s x1)) ∧
 (True)))) ∧
 (((RLe (List.length (Ref.news (Ref.put (RefS.y x1) (RefS.s x1) (RefS.now x1)))) (List.length (Ref.news (RefS.y x1)))) ∧
 (RowsEq (Kd.int IntKind.i64 :: Kd.int IntKind.i64 :: Kd.int IntKind.i64 :: Kd.int IntKind.i64 :: Kd.int IntKind.i64 :: Kd.int IntKind.i64 :: @List.nil Kd) (List.length (Ref.news (Ref.put (RefS.y x1) (RefS.s x1) (RefS.now x1)))) (encL encCame (Ref.news (RefS.y x1))) (encL encCame (Ref.news (Ref.put (RefS.y x1) (RefS.s x1) (RefS.now x1)))))) ∧
 (True)))) ∧
 ((decide (Sta.seq (RefS.s x1) ≤ Sta.seq (Ref.last (RefI.y x6) (RefI.u x6))) = false) →
 ((((0 : Nat) + List.length (Ref.news (RefS.y x1)) ≤ List.length (Ref.news (RefS.y x1))) ∧
 (List.length (Ref.news (RefS.y x1)) ≤ (1073741824 : Nat))) ∧
 (∃ x10 : Int,
 ((True) ∧
 (((RefS.now x1 = x10) ∧
 (True)) ∧
 ((True) ∧
 ((((True) ∧
 ((True) ∧
 ((True) ∧
 ((True) ∧
 ((True) ∧
 ((True) ∧
 (True))))))) ∧
 (True)) ∧
 ((((0 : Nat) = (0 : Nat)) ∧
 ((List.length (Ref.news (RefS.y x1)) ≤ List.length (Ref.news (RefS.y x1))) ∧
 (((1 : Nat) ≤ (1 : Nat)) ∧
 (List.length (Ref.news (RefS.y x1)) + (1 : Nat) ≤ (1073741824 : Nat))))) ∧
 ((((Ref.units (RefS.y x1) = Ref.units (Ref.put (RefS.y x1) (RefS.s x1) (RefS.now x1))) ∧
 ((Ref.since (RefS.y x1) = Ref.since (Ref.put (RefS.y x1) (RefS.s x1) (RefS.now x1))) ∧
 ((((0 : Nat) = (0 : Nat)) ∧
 (List.length (Ref.news (RefS.y x1)) + (1 : Nat) = List.length (Ref.news (Ref.put (RefS.y x1) (RefS.s x1) (RefS.now x1))))) ∧
 (True)))) ∧
 ((true = Ref.isNew (RefS.y x1) (RefS.s x1)) ∧
 (((0 : Int) = Ref.err (RefS.y x1) (RefS.s x1)) ∧
 (True)))) ∧
 (((RLe (List.length (Ref.news (Ref.put (RefS.y x1) (RefS.s x1) (RefS.now x1)))) (List.length (Ref.news (RefS.y x1)) + (1 : Nat))) ∧
 (RowsEq (Kd.int IntKind.i64 :: Kd.int IntKind.i64 :: Kd.int IntKind.i64 :: Kd.int IntKind.i64 :: Kd.int IntKind.i64 :: Kd.int IntKind.i64 :: @List.nil Kd) (List.length (Ref.news (Ref.put (RefS.y x1) (RefS.s x1) (RefS.now x1)))) (appRows (List.length (Ref.news (RefS.y x1))) (appRows (0 : Nat) (fun (x x_1 : Nat) => D.i (0 : Int)) (0 : Nat) (encL encCame (Ref.news (RefS.y x1)))) (0 : Nat) (litRows ((D.i (Sta.unit (RefS.s x1)) :: D.i (Sta.seq (RefS.s x1)) :: D.i (Sta.state (RefS.s x1)) :: D.i (Sta.node (RefS.s x1)) :: D.i (Sta.epoch (RefS.s x1)) :: D.i (minMax x10) :: @List.nil D) :: @List.nil (List D)))) (encL encCame (Ref.news (Ref.put (RefS.y x1) (RefS.s x1) (RefS.now x1)))))) ∧
 (True))))))))))))) ∧
 ((Ref.there (RefI.y x6) (RefI.u x6) = false) →
 ((((0 : Nat) + List.length (Ref.news (RefS.y x1)) ≤ List.length (Ref.news (RefS.y x1))) ∧
 (List.length (Ref.news (RefS.y x1)) ≤ (1073741824 : Nat))) ∧
 (∃ x12 : Int,
 ((True) ∧
 (((RefS.now x1 = x12) ∧
 (True)) ∧
 ((True) ∧
 ((((True) ∧
 ((True) ∧
 ((True) ∧
 ((True) ∧
 ((True) ∧
 ((True) ∧
 (True))))))) ∧
 (True)) ∧
 ((((0 : Nat) = (0 : Nat)) ∧
 ((List.length (Ref.news (RefS.y x1)) ≤ List.length (Ref.news (RefS.y x1))) ∧
 (((1 : Nat) ≤ (1 : Nat)) ∧
 (List.length (Ref.news (RefS.y x1)) + (1 : Nat) ≤ (1073741824 : Nat))))) ∧
 ((((Ref.units (RefS.y x1) = Ref.units (Ref.put (RefS.y x1) (RefS.s x1) (RefS.now x1))) ∧
 ((Ref.since (RefS.y x1) = Ref.since (Ref.put (RefS.y x1) (RefS.s x1) (RefS.now x1))) ∧
 ((((0 : Nat) = (0 : Nat)) ∧
 (List.length (Ref.news (RefS.y x1)) + (1 : Nat) = List.length (Ref.news (Ref.put (RefS.y x1) (RefS.s x1) (RefS.now x1))))) ∧
 (True)))) ∧
 ((true = Ref.isNew (RefS.y x1) (RefS.s x1)) ∧
 (((0 : Int) = Ref.err (RefS.y x1) (RefS.s x1)) ∧
 (True)))) ∧
 (((RLe (List.length (Ref.news (Ref.put (RefS.y x1) (RefS.s x1) (RefS.now x1)))) (List.length (Ref.news (RefS.y x1)) + (1 : Nat))) ∧
 (RowsEq (Kd.int IntKind.i64 :: Kd.int IntKind.i64 :: Kd.int IntKind.i64 :: Kd.int IntKind.i64 :: Kd.int IntKind.i64 :: Kd.int IntKind.i64 :: @List.nil Kd) (List.length (Ref.news (Ref.put (RefS.y x1) (RefS.s x1) (RefS.now x1)))) (appRows (List.length (Ref.news (RefS.y x1))) (appRows (0 : Nat) (fun (x x_1 : Nat) => D.i (0 : Int)) (0 : Nat) (encL encCame (Ref.news (RefS.y x1)))) (0 : Nat) (litRows ((D.i (Sta.unit (RefS.s x1)) :: D.i (Sta.seq (RefS.s x1)) :: D.i (Sta.state (RefS.s x1)) :: D.i (Sta.node (RefS.s x1)) :: D.i (Sta.epoch (RefS.s x1)) :: D.i (minMax x12) :: @List.nil D) :: @List.nil (List D)))) (encL encCame (Ref.news (Ref.put (RefS.y x1) (RefS.s x1) (RefS.now x1)))))) ∧
 (True))))))))))))))))))))))))) = Keeps cfg4 Try.f27 rputC noIv by kernel_rfl) (fun x1 => fun h2 => ⟨({ y := RefS.y x1, s := RefS.s x1, now := default : RefS }),
 trivial,
 ⟨⟨rfl,
 rfl,
 ⟨rfl,
 rfl⟩,
 trivial⟩,
 ⟨rfl,
 rfl,
 rfl,
 rfl,
 rfl,
 trivial⟩,
 trivial⟩,
 ⟨⟨⟨Nat.le_refl _⟩,
 RowsEq.rfl'⟩,
 trivial⟩,
 fun h4 => ⟨⟨⟨(by (try dsimp only at *); grind [Ref.put, Ref.isNew, Ref.err]),
 (by (try dsimp only at *); grind [Ref.put, Ref.isNew, Ref.err]),
 ⟨rfl,
 (by (try dsimp only at *); grind [Ref.put, Ref.isNew, Ref.err])⟩,
 trivial⟩,
 (by (try dsimp only at *); grind [Ref.put, Ref.isNew, Ref.err]),
 (by (try dsimp only at *); grind [Ref.put, Ref.isNew, Ref.err]),
 trivial⟩,
 ⟨⟨(by (try dsimp only at *); grind [Ref.put, Ref.isNew, Ref.err])⟩,
 (by (try dsimp only at *); (have e : x1.y.put x1.s x1.now = x1.y := (by grind [Ref.put, Ref.isNew]); rw [e]; exact RowsEq.rfl'))⟩,
 trivial⟩,
 fun h5 => ⟨({ y := RefS.y x1, u := Sta.unit (RefS.s x1) : RefI }),
 (by (try dsimp only at *); omega),
 ⟨⟨rfl,
 rfl,
 ⟨rfl,
 rfl⟩,
 trivial⟩,
 rfl,
 trivial⟩,
 ⟨⟨⟨Nat.le_refl _⟩,
 RowsEq.rfl'⟩,
 trivial⟩,
 fun h7 => ⟨fun g8 => have h8 := of_decide_eq_true g8; ⟨⟨⟨(by (try dsimp only at *); grind [Ref.put, Ref.isNew, Ref.err]),
 (by (try dsimp only at *); grind [Ref.put, Ref.isNew, Ref.err]),
 ⟨rfl,
 (by (try dsimp only at *); grind [Ref.put, Ref.isNew, Ref.err])⟩,
 trivial⟩,
 (by (try dsimp only at *); grind [Ref.put, Ref.isNew, Ref.err]),
 (by (try dsimp only at *); grind [Ref.put, Ref.isNew, Ref.err]),
 trivial⟩,
 ⟨⟨(by (try dsimp only at *); grind [Ref.put, Ref.isNew, Ref.err])⟩,
 (by (try dsimp only at *); (have e : x1.y.put x1.s x1.now = x1.y := (by grind [Ref.put, Ref.isNew]); rw [e]; exact RowsEq.rfl'))⟩,
 trivial⟩,
 fun g9 => have h9 := of_decide_eq_false g9; ⟨⟨(by (try dsimp only at *); omega),
 (by (try dsimp only at *); omega)⟩,
 (RefS.now x1),
 trivial,
 ⟨rfl,
 trivial⟩,
 trivial,
 ⟨⟨trivial,
 trivial,
 trivial,
 trivial,
 trivial,
 trivial,
 trivial⟩,
 trivial⟩,
 ⟨rfl,
 (by (try dsimp only at *); omega),
 (by (try dsimp only at *); omega),
 (by (try dsimp only at *); omega)⟩,
 ⟨⟨(by (try dsimp only at *); grind [Ref.put, Ref.isNew, Ref.err]),
 (by (try dsimp only at *); grind [Ref.put, Ref.isNew, Ref.err]),
 ⟨rfl,
 (by (try dsimp only at *); grind [Ref.put, Ref.isNew, Ref.err])⟩,
 trivial⟩,
 (by (try dsimp only at *); grind [Ref.put, Ref.isNew, Ref.err]),
 (by (try dsimp only at *); grind [Ref.put, Ref.isNew, Ref.err]),
 trivial⟩,
 ⟨⟨(by (try dsimp only at *); grind [Ref.put, Ref.isNew, Ref.err])⟩,
 (by (try dsimp only at *); (have e : (x1.y.put x1.s x1.now).news = x1.y.news ++ [⟨x1.s, minMax x1.now⟩] := (by grind [Ref.put, Ref.isNew]); rw [e]; refine rowsEq_pushOf (rowsEq_nil (ys := x1.y.news) (Nat.le_refl _) (fun i _ => by rw [Nat.zero_add]; exact rowEq_rfl _ _ _)) rfl (by simp) (by simp only [rowEq, Kd.eqv]; exact ⟨rfl, rfl, rfl, rfl, rfl, rfl, trivial⟩)))⟩,
 trivial⟩⟩,
 fun h11 => ⟨⟨(by (try dsimp only at *); omega),
 (by (try dsimp only at *); omega)⟩,
 (RefS.now x1),
 trivial,
 ⟨rfl,
 trivial⟩,
 trivial,
 ⟨⟨trivial,
 trivial,
 trivial,
 trivial,
 trivial,
 trivial,
 trivial⟩,
 trivial⟩,
 ⟨rfl,
 (by (try dsimp only at *); omega),
 (by (try dsimp only at *); omega),
 (by (try dsimp only at *); omega)⟩,
 ⟨⟨(by (try dsimp only at *); grind [Ref.put, Ref.isNew, Ref.err]),
 (by (try dsimp only at *); grind [Ref.put, Ref.isNew, Ref.err]),
 ⟨rfl,
 (by (try dsimp only at *); grind [Ref.put, Ref.isNew, Ref.err])⟩,
 trivial⟩,
 (by (try dsimp only at *); grind [Ref.put, Ref.isNew, Ref.err]),
 (by (try dsimp only at *); grind [Ref.put, Ref.isNew, Ref.err]),
 trivial⟩,
 ⟨⟨(by (try dsimp only at *); grind [Ref.put, Ref.isNew, Ref.err])⟩,
 (by (try dsimp only at *); (have e : (x1.y.put x1.s x1.now).news = x1.y.news ++ [⟨x1.s, minMax x1.now⟩] := (by grind [Ref.put, Ref.isNew]); rw [e]; refine rowsEq_pushOf (rowsEq_nil (ys := x1.y.news) (Nat.le_refl _) (fun i _ => by rw [Nat.zero_add]; exact rowEq_rfl _ _ _)) rfl (by simp) (by simp only [rowEq, Kd.eqv]; exact ⟨rfl, rfl, rfl, rfl, rfl, rfl, trivial⟩)))⟩,
 trivial⟩⟩⟩)

structure UI where
  n : Int
  now : Int
def rnewC : CT where
  X := UI
  pre := fun _ => True
  args := fun x => [.i .i64 x.n, .i .i64 x.now]
  g0 := fun _ => []
  res := fun x => .tup [refV (Ref.new x.n x.now) 1, .i .i64 (if unitsOk x.n then 0 else 1)]
  g1 := fun x => refH (Ref.new x.n x.now) .bor 1
set_option maxRecDepth 100000 in
theorem rnew_keeps : Keeps cfg4 Try.f26 rnewC noIv := Eq.mp (show ((∀ x1 : UI,
 ((True) →
 (((decide (UI.n x1 < (0 : Int)) = false) →
 (((decide ((256 : Int) < UI.n x1) = true) →
 (((((0 : Int) = Ref.units (Ref.new (UI.n x1) (UI.now x1))) ∧
 (((0 : Int) = Ref.since (Ref.new (UI.n x1) (UI.now x1))) ∧
 (((True) ∧
 (((0 : Nat) = (0 : Nat)) ∧
 (List.length (Ref.news (Ref.new (UI.n x1) (UI.now x1))) = (0 : Nat)))) ∧
 (True)))) ∧
 (((1 : Int) = if unitsOk (UI.n x1) = true then (0 : Int) else (1 : Int)) ∧
 (True))) ∧
 ((List.length (Ref.news (Ref.new (UI.n x1) (UI.now x1))) = (0 : Nat)) ∧
 (True)))) ∧
 ((decide ((256 : Int) < UI.n x1) = false) →
 (∃ x6 : Int,
 ((True) ∧
 (((UI.now x1 = x6) ∧
 (True)) ∧
 ((True) ∧
 ((((UI.n x1 = Ref.units (Ref.new (UI.n x1) (UI.now x1))) ∧
 ((minMax x6 = Ref.since (Ref.new (UI.n x1) (UI.now x1))) ∧
 (((True) ∧
 (((0 : Nat) = (0 : Nat)) ∧
 (List.length (Ref.news (Ref.new (UI.n x1) (UI.now x1))) = (0 : Nat)))) ∧
 (True)))) ∧
 (((0 : Int) = if unitsOk (UI.n x1) = true then (0 : Int) else (1 : Int)) ∧
 (True))) ∧
 ((List.length (Ref.news (Ref.new (UI.n x1) (UI.now x1))) = (0 : Nat)) ∧
 (True)))))))))) ∧
 ((decide (UI.n x1 < (0 : Int)) = true) →
 (((((0 : Int) = Ref.units (Ref.new (UI.n x1) (UI.now x1))) ∧
 (((0 : Int) = Ref.since (Ref.new (UI.n x1) (UI.now x1))) ∧
 (((True) ∧
 (((0 : Nat) = (0 : Nat)) ∧
 (List.length (Ref.news (Ref.new (UI.n x1) (UI.now x1))) = (0 : Nat)))) ∧
 (True)))) ∧
 (((1 : Int) = if unitsOk (UI.n x1) = true then (0 : Int) else (1 : Int)) ∧
 (True))) ∧
 ((List.length (Ref.news (Ref.new (UI.n x1) (UI.now x1))) = (0 : Nat)) ∧
 (True)))))))) = Keeps cfg4 Try.f26 rnewC noIv by kernel_rfl) (fun x1 => fun h2 => ⟨fun g3 => have h3 := of_decide_eq_false g3; ⟨fun g4 => have h4 := of_decide_eq_true g4; ⟨⟨⟨(by grind [Ref.new, unitsOk]),
 (by grind [Ref.new, unitsOk]),
 ⟨trivial,
 rfl,
 (by grind [Ref.new, unitsOk])⟩,
 trivial⟩,
 (by grind [Ref.new, unitsOk]),
 trivial⟩,
 (by grind [Ref.new, unitsOk]),
 trivial⟩,
 fun g5 => have h5 := of_decide_eq_false g5; ⟨(UI.now x1),
 trivial,
 ⟨rfl,
 trivial⟩,
 trivial,
 ⟨⟨(by (try dsimp only at *); grind [Ref.new, unitsOk]),
 (by (try dsimp only at *); grind [Ref.new, unitsOk]),
 ⟨trivial,
 rfl,
 (by (try dsimp only at *); grind [Ref.new, unitsOk])⟩,
 trivial⟩,
 (by (try dsimp only at *); grind [Ref.new, unitsOk]),
 trivial⟩,
 (by (try dsimp only at *); grind [Ref.new, unitsOk]),
 trivial⟩⟩,
 fun g7 => have h7 := of_decide_eq_true g7; ⟨⟨⟨(by (try dsimp only at *); grind [Ref.new, unitsOk]),
 (by (try dsimp only at *); grind [Ref.new, unitsOk]),
 ⟨trivial,
 rfl,
 (by (try dsimp only at *); grind [Ref.new, unitsOk])⟩,
 trivial⟩,
 (by (try dsimp only at *); grind [Ref.new, unitsOk]),
 trivial⟩,
 (by (try dsimp only at *); grind [Ref.new, unitsOk]),
 trivial⟩⟩)


theorem rput_good : Good Try.prog 27 rputC ∧ FnOk Try.prog 27 := good_of tok con4 (fn := Try.f27) rfl (by decide +kernel) (fun _ => rfl) rput_keeps
theorem rnew_good : Good Try.prog 26 rnewC ∧ FnOk Try.prog 26 := good_of tok con4 (fn := Try.f26) rfl (by decide +kernel) (fun _ => rfl) rnew_keeps
end Go.Sym
