/- law03: the reference's functions: contracts and walks. -/
import Derived.Test.YtofigelofojjlaaHEi
import Derived.Test.YtofigelofojjlaaXD
namespace Go.Sym
set_option linter.unusedVariables false
set_option linter.unusedSimpArgs false
open Go.Proofs
abbrev Line := El Int
def refB (a : Nat) (l : List Line) : Nat × Blk := (a, .rows .bor kEi l.length (encL encEi l))
theorem posOf_first {l : List Line} {id : Int} {k : Nat} (hk : k < l.length) (h : ∀ j, j < k → (l.getD j default).id ≠ id) (e : (l.getD k default).id = id) : id ∈ ids l ∧ posOf l id = k := by
  have hm : id ∈ ids l := by rw [← e]; exact mem_ids hk
  refine ⟨hm, ?_⟩
  obtain ⟨h1, h2⟩ := posOf_lt hm
  have h3 : ¬ posOf l id < k := fun hl => h _ hl h2
  have h4 : ¬ k < posOf l id := by
    intro hl
    have := List.not_of_lt_findIdx (p := fun e : Line => decide (e.id = id)) (xs := l) hl
    rw [List.getD_eq_getElem?_getD, List.getElem?_eq_getElem hk] at e
    simp only [Option.getD_some] at e
    rw [e] at this
    simp at this
  omega
theorem not_ids {l : List Line} {id : Int} (h : ∀ j, j < l.length → (l.getD j default).id ≠ id) : id ∉ ids l := by
  intro hm
  obtain ⟨h1, h2⟩ := posOf_lt hm
  exact h _ h1 h2
def rkeyC : CT where
  X := LKi
  pre := fun x => x.l.length ≤ 1000000
  args := fun x => [.sl 100000 0 x.l.length, .i .i64 x.id]
  g0 := fun x => [refB 100000 x.l]
  res := fun x => .tup [.i .i64 (keyOfi x.l x.id), .b (decide (x.id ∈ ids x.l))]
  g1 := fun _ => []
def scanI (sl : Nat) (x : LKi) (id : Nat) : Option Inv := match id with
  | 0 => some { X := Nat, ok := fun k => k ≤ x.l.length ∧ ∀ j, j < k → (x.l.getD j default).id ≠ x.id, fr := fun k => [(sl, .i .i64 k)], hp := fun _ => [], me := fun k => x.l.length - k }
  | _ => none
theorem scan_step {l : List Line} {id : Int} {k : Nat} (h : ∀ j, j < k → (l.getD j default).id ≠ id) (e : ¬ (l.getD k default).id = id) : ∀ j, j < k + 1 → (l.getD j default).id ≠ id := by
  intro j hj
  by_cases e2 : j = k
  · subst e2; exact e
  · exact h j (by omega)
theorem keyOf_at {l : List Line} {id : Int} {k : Nat} (h : id ∈ ids l ∧ posOf l id = k) : keyOfi l id = (l.getD k default).key := by
  unfold keyOfi; rw [if_pos h.1, h.2]
theorem keyOf_out {l : List Line} {id : Int} (h : id ∉ ids l) : keyOfi l id = 0 := by
  unfold keyOfi; rw [if_neg h]; rfl
set_option maxRecDepth 100000 in
theorem rkey_keeps : Keeps cfg0 Try.f12 rkeyC (scanI 6) := Eq.mp (show ((∀ x1 : LKi,
 ((List.length (LKi.l x1) ≤ (1000000 : Nat)) →
 (∃ x3 : Nat,
 ((((x3 ≤ List.length (LKi.l x1)) ∧
 (∀ j4 : Nat,
 ((j4 < x3) →
 (El.id (List.getD (LKi.l x1) j4 default) ≠ LKi.id x1)))) ∧
 ((((0 : Int) = (↑x3 : Int)) ∧
 ((((0 : Nat) = (0 : Nat)) ∧
 (List.length (LKi.l x1) = List.length (LKi.l x1))) ∧
 ((LKi.id x1 = LKi.id x1) ∧
 (True)))) ∧
 (((RLe (List.length (LKi.l x1)) (List.length (LKi.l x1))) ∧
 (RowsEq (Kd.int IntKind.i64 :: Kd.int IntKind.i64 :: @List.nil Kd) (List.length (LKi.l x1)) (encL encEi (LKi.l x1)) (encL encEi (LKi.l x1)))) ∧
 (True)))) ∧
 (∀ x6 : Nat,
 ((x6 ≤ List.length (LKi.l x1) ∧ ∀ (j : Nat), j < x6 → El.id (List.getD (LKi.l x1) j default) ≠ LKi.id x1) →
 (((decide ((↑x6 : Int) < (↑(List.length (LKi.l x1)) : Int)) = true) →
 ((((0 : Int) ≤ (↑x6 : Int)) ∧
 ((↑x6 : Int) < (↑(List.length (LKi.l x1)) : Int))) ∧
 (((0 : Nat) + Int.toNat (↑x6 : Int) < List.length (LKi.l x1)) ∧
 (((decide (El.id (List.getD (LKi.l x1) ((0 : Nat) + Int.toNat (↑x6 : Int)) default) = LKi.id x1) = true) →
 ((((0 : Int) ≤ (↑x6 : Int)) ∧
 ((↑x6 : Int) < (↑(List.length (LKi.l x1)) : Int))) ∧
 (((0 : Nat) + Int.toNat (↑x6 : Int) < List.length (LKi.l x1)) ∧
 (((El.key (List.getD (LKi.l x1) ((0 : Nat) + Int.toNat (↑x6 : Int)) default) = keyOfi (LKi.l x1) (LKi.id x1)) ∧
 ((true = decide (LKi.id x1 ∈ ids (LKi.l x1))) ∧
 (True))) ∧
 (True))))) ∧
 ((decide (El.id (List.getD (LKi.l x1) ((0 : Nat) + Int.toNat (↑x6 : Int)) default) = LKi.id x1) = false) →
 ((((-9223372036854775808 : Int) ≤ (↑x6 : Int) + (1 : Int)) ∧
 ((↑x6 : Int) + (1 : Int) ≤ (9223372036854775807 : Int))) ∧
 (∃ x11 : Nat,
 ((List.length (LKi.l x1) - x11 < List.length (LKi.l x1) - x6) ∧
 (((x11 ≤ List.length (LKi.l x1)) ∧
 (∀ j12 : Nat,
 ((j12 < x11) →
 (El.id (List.getD (LKi.l x1) j12 default) ≠ LKi.id x1)))) ∧
 ((((↑x6 : Int) + (1 : Int) = (↑x11 : Int)) ∧
 ((((0 : Nat) = (0 : Nat)) ∧
 (List.length (LKi.l x1) = List.length (LKi.l x1))) ∧
 ((LKi.id x1 = LKi.id x1) ∧
 (True)))) ∧
 (((RLe (List.length (LKi.l x1)) (List.length (LKi.l x1))) ∧
 (RowsEq (Kd.int IntKind.i64 :: Kd.int IntKind.i64 :: @List.nil Kd) (List.length (LKi.l x1)) (encL encEi (LKi.l x1)) (encL encEi (LKi.l x1)))) ∧
 (True)))))))))))) ∧
 ((decide ((↑x6 : Int) < (↑(List.length (LKi.l x1)) : Int)) = false) →
 ((((0 : Int) = keyOfi (LKi.l x1) (LKi.id x1)) ∧
 ((false = decide (LKi.id x1 ∈ ids (LKi.l x1))) ∧
 (True))) ∧
 (True))))))))))) = Keeps cfg0 Try.f12 rkeyC (scanI 6) by kernel_rfl) (fun x1 => fun h2 => ⟨((0 : Nat)),
 ⟨⟨(by (try dsimp only at *); omega),
 fun j4 => fun h5 => (by (try dsimp only at *); omega)⟩,
 ⟨(by (try dsimp only at *); omega),
 ⟨rfl,
 rfl⟩,
 rfl,
 trivial⟩,
 ⟨⟨Nat.le_refl _⟩,
 RowsEq.rfl'⟩,
 trivial⟩,
 fun x6 => fun h7 => ⟨fun g8 => have h8 := of_decide_eq_true g8; ⟨⟨(by (try dsimp only at *); omega),
 (by (try dsimp only at *); omega)⟩,
 (by (try dsimp only at *); omega),
 fun g9 => have h9 := of_decide_eq_true g9; ⟨⟨(by (try dsimp only at *); omega),
 (by (try dsimp only at *); omega)⟩,
 (by (try dsimp only at *); omega),
 ⟨(by (try dsimp only at *); (simp only [Nat.zero_add, Int.toNat_natCast] at *; first | exact scan_step (by simp_all) (by assumption) | exact (keyOf_at (posOf_first (k := x6) (by omega) (by simp_all) (by assumption))).symm | (exact (decide_eq_true (posOf_first (k := x6) (by omega) (by simp_all) (by assumption)).1).symm))),
 (by (try dsimp only at *); (simp only [Nat.zero_add, Int.toNat_natCast] at *; first | exact scan_step (by simp_all) (by assumption) | exact (keyOf_at (posOf_first (k := x6) (by omega) (by simp_all) (by assumption))).symm | (exact (decide_eq_true (posOf_first (k := x6) (by omega) (by simp_all) (by assumption)).1).symm))),
 trivial⟩,
 trivial⟩,
 fun g10 => have h10 := of_decide_eq_false g10; ⟨⟨(by (try dsimp only at *); omega),
 (by (try dsimp only at *); omega)⟩,
 (x6 + (1 : Nat)),
 (by (try dsimp only at *); omega),
 ⟨(by (try dsimp only at *); omega),
 fun j12 => fun h13 => (by (try dsimp only at *); grind)⟩,
 ⟨(by (try dsimp only at *); omega),
 ⟨rfl,
 rfl⟩,
 rfl,
 trivial⟩,
 ⟨⟨Nat.le_refl _⟩,
 RowsEq.rfl'⟩,
 trivial⟩⟩,
 fun g14 => have h14 := of_decide_eq_false g14; ⟨⟨(by (try dsimp only at *); (obtain rfl : x6 = x1.l.length := (by omega); have hn := not_ids (l := x1.l) (id := x1.id) h7.2; first | exact (keyOf_out hn).symm | exact (decide_eq_false hn).symm)),
 (by (try dsimp only at *); (obtain rfl : x6 = x1.l.length := (by omega); have hn := not_ids (l := x1.l) (id := x1.id) h7.2; first | exact (keyOf_out hn).symm | exact (decide_eq_false hn).symm)),
 trivial⟩,
 trivial⟩⟩⟩)

def encLi (a : Line) : SV := .agg [.i .i64 a.id, .i .i64 a.key]
def aheadC : CT where
  X := Line × Line
  pre := fun _ => True
  args := fun x => [encLi x.1, encLi x.2]
  g0 := fun _ => []
  res := fun x => .b (El.less lti x.1 x.2)
  g1 := fun _ => []
set_option maxRecDepth 100000 in
theorem ahead_keeps : Keeps cfg0 Try.f13 aheadC noIv := Eq.mp (show ((∀ x1 : Line × Line,
 ((True) →
 (((decide (El.key (Prod.fst x1) < El.key (Prod.snd x1)) = false) →
 (((decide (El.key (Prod.fst x1) = El.key (Prod.snd x1)) = true) →
 ((decide (El.id (Prod.fst x1) < El.id (Prod.snd x1)) = El.less lti (Prod.fst x1) (Prod.snd x1)) ∧
 (True))) ∧
 ((decide (El.key (Prod.fst x1) = El.key (Prod.snd x1)) = false) →
 ((false = El.less lti (Prod.fst x1) (Prod.snd x1)) ∧
 (True))))) ∧
 ((decide (El.key (Prod.fst x1) < El.key (Prod.snd x1)) = true) →
 ((true = El.less lti (Prod.fst x1) (Prod.snd x1)) ∧
 (True))))))) = Keeps cfg0 Try.f13 aheadC noIv by kernel_rfl) (fun x1 => fun h2 => ⟨fun g3 => have h3 := of_decide_eq_false g3; ⟨fun g4 => have h4 := of_decide_eq_true g4; ⟨(by (simp only [El.less, lti]; grind)),
 trivial⟩,
 fun g5 => have h5 := of_decide_eq_false g5; ⟨(by (simp only [El.less, lti]; grind)),
 trivial⟩⟩,
 fun g6 => have h6 := of_decide_eq_true g6; ⟨(by (simp only [El.less, lti]; grind)),
 trivial⟩⟩)

theorem ahead_good : Good Try.prog 13 aheadC ∧ FnOk Try.prog 13 := good_of tok con0 (fn := Try.f13) rfl (by decide +kernel) (fun _ => rfl) ahead_keeps
def dropI (l : List Line) (id : Int) : List Line := if id ∈ ids l then l.take (posOf l id) ++ l.drop (posOf l id + 1) else l
def rdropC : CT where
  X := LKi
  pre := fun x => x.l.length ≤ 1000000
  args := fun x => [.sl 100000 0 x.l.length, .i .i64 x.id]
  g0 := fun x => [refB 100000 x.l]
  res := fun x => .tup [.sl 1 0 (dropI x.l x.id).length, .b (decide (x.id ∈ ids x.l))]
  g1 := fun x => [refB 1 (dropI x.l x.id)]
theorem appRows_zero (f g : Nat → Nat → D) : appRows 0 f 0 g = g := by
  funext i j; simp [appRows]
theorem dropI_at {l : List Line} {id : Int} {k : Nat} (h : id ∈ ids l ∧ posOf l id = k) : dropI l id = l.take k ++ l.drop (k + 1) := by
  unfold dropI; rw [if_pos h.1, h.2]
theorem dropI_rows {l : List Line} {k m : Nat} (hk : k < l.length) (hm : m ≤ l.length - 1) : RowsEq kEi m (appRows k (encL encEi l) (k + 1) (encL encEi l)) (encL encEi (l.take k ++ l.drop (k + 1))) := by
  refine ⟨fun r hr => ?_⟩
  unfold appRows encL
  by_cases h : r < k
  · simp only [h, if_true]
    rw [show (l.take k ++ l.drop (k + 1)).getD r default = l.getD r default by simp [List.getD_eq_getElem?_getD, List.getElem?_append, h, Nat.min_eq_left (Nat.le_of_lt hk), List.getElem?_take, show r < l.length by omega]]
    exact rowEq_rfl _ _ _
  · simp only [h, if_false]
    rw [show (l.take k ++ l.drop (k + 1)).getD r default = l.getD (k + 1 + (r - k)) default by simp [List.getD_eq_getElem?_getD, List.getElem?_append, h, Nat.min_eq_left (Nat.le_of_lt hk)]]
    exact rowEq_rfl _ _ _
theorem dropI_len {l : List Line} {id : Int} {k : Nat} (hk : k < l.length) (h : id ∈ ids l ∧ posOf l id = k) : (dropI l id).length = l.length - 1 := by
  rw [dropI_at h]; simp; omega
set_option maxRecDepth 100000 in
theorem rdrop_keeps : Keeps cfg0 Try.f14 rdropC (scanI 6) := Eq.mp (show ((∀ x1 : LKi,
 ((List.length (LKi.l x1) ≤ (1000000 : Nat)) →
 (∃ x3 : Nat,
 ((((x3 ≤ List.length (LKi.l x1)) ∧
 (∀ j4 : Nat,
 ((j4 < x3) →
 (El.id (List.getD (LKi.l x1) j4 default) ≠ LKi.id x1)))) ∧
 ((((0 : Int) = (↑x3 : Int)) ∧
 ((((0 : Nat) = (0 : Nat)) ∧
 (List.length (LKi.l x1) = List.length (LKi.l x1))) ∧
 ((LKi.id x1 = LKi.id x1) ∧
 (True)))) ∧
 (((RLe (List.length (LKi.l x1)) (List.length (LKi.l x1))) ∧
 (RowsEq (Kd.int IntKind.i64 :: Kd.int IntKind.i64 :: @List.nil Kd) (List.length (LKi.l x1)) (encL encEi (LKi.l x1)) (encL encEi (LKi.l x1)))) ∧
 (True)))) ∧
 (∀ x6 : Nat,
 ((x6 ≤ List.length (LKi.l x1) ∧ ∀ (j : Nat), j < x6 → El.id (List.getD (LKi.l x1) j default) ≠ LKi.id x1) →
 (((decide ((↑x6 : Int) < (↑(List.length (LKi.l x1)) : Int)) = true) →
 ((((0 : Int) ≤ (↑x6 : Int)) ∧
 ((↑x6 : Int) < (↑(List.length (LKi.l x1)) : Int))) ∧
 (((0 : Nat) + Int.toNat (↑x6 : Int) < List.length (LKi.l x1)) ∧
 (((decide (El.id (List.getD (LKi.l x1) ((0 : Nat) + Int.toNat (↑x6 : Int)) default) = LKi.id x1) = true) →
 ((True) ∧
 ((((0 : Int) ≤ (0 : Int)) ∧
 (((0 : Int) ≤ (↑x6 : Int)) ∧
 ((↑x6 : Int) ≤ (↑(List.length (LKi.l x1)) : Int)))) ∧
 ((((0 : Nat) = (0 : Nat)) ∧
 (((0 : Nat) ≤ (0 : Nat)) ∧
 (((0 : Nat) + Int.toNat (0 : Int) + (Int.toNat (↑x6 : Int) - Int.toNat (0 : Int)) ≤ List.length (LKi.l x1)) ∧
 ((0 : Nat) + (Int.toNat (↑x6 : Int) - Int.toNat (0 : Int)) ≤ (1073741824 : Nat))))) ∧
 ((((-9223372036854775808 : Int) ≤ (↑x6 : Int) + (1 : Int)) ∧
 ((↑x6 : Int) + (1 : Int) ≤ (9223372036854775807 : Int))) ∧
 ((((0 : Int) ≤ (↑x6 : Int) + (1 : Int)) ∧
 (((↑x6 : Int) + (1 : Int) ≤ (↑(List.length (LKi.l x1)) : Int)) ∧
 ((↑(List.length (LKi.l x1)) : Int) ≤ (↑(List.length (LKi.l x1)) : Int)))) ∧
 ((((0 : Nat) = (0 : Nat)) ∧
 (((0 : Nat) + (Int.toNat (↑x6 : Int) - Int.toNat (0 : Int)) ≤ (0 : Nat) + (Int.toNat (↑x6 : Int) - Int.toNat (0 : Int))) ∧
 (((0 : Nat) + Int.toNat ((↑x6 : Int) + (1 : Int)) + (Int.toNat (↑(List.length (LKi.l x1)) : Int) - Int.toNat ((↑x6 : Int) + (1 : Int))) ≤ List.length (LKi.l x1)) ∧
 ((0 : Nat) + (Int.toNat (↑x6 : Int) - Int.toNat (0 : Int)) + (Int.toNat (↑(List.length (LKi.l x1)) : Int) - Int.toNat ((↑x6 : Int) + (1 : Int))) ≤ (1073741824 : Nat))))) ∧
 (((((0 : Nat) = (0 : Nat)) ∧
 ((0 : Nat) + (Int.toNat (↑x6 : Int) - Int.toNat (0 : Int)) + (Int.toNat (↑(List.length (LKi.l x1)) : Int) - Int.toNat ((↑x6 : Int) + (1 : Int))) = List.length (dropI (LKi.l x1) (LKi.id x1)))) ∧
 ((true = decide (LKi.id x1 ∈ ids (LKi.l x1))) ∧
 (True))) ∧
 (((RLe (List.length (dropI (LKi.l x1) (LKi.id x1))) ((0 : Nat) + (Int.toNat (↑x6 : Int) - Int.toNat (0 : Int)) + (Int.toNat (↑(List.length (LKi.l x1)) : Int) - Int.toNat ((↑x6 : Int) + (1 : Int))))) ∧
 (RowsEq (Kd.int IntKind.i64 :: Kd.int IntKind.i64 :: @List.nil Kd) (List.length (dropI (LKi.l x1) (LKi.id x1))) (appRows ((0 : Nat) + (Int.toNat (↑x6 : Int) - Int.toNat (0 : Int))) (appRows (0 : Nat) (litRows (@List.nil (List D))) ((0 : Nat) + Int.toNat (0 : Int)) (encL encEi (LKi.l x1))) ((0 : Nat) + Int.toNat ((↑x6 : Int) + (1 : Int))) (encL encEi (LKi.l x1))) (encL encEi (dropI (LKi.l x1) (LKi.id x1))))) ∧
 (True)))))))))) ∧
 ((decide (El.id (List.getD (LKi.l x1) ((0 : Nat) + Int.toNat (↑x6 : Int)) default) = LKi.id x1) = false) →
 ((((-9223372036854775808 : Int) ≤ (↑x6 : Int) + (1 : Int)) ∧
 ((↑x6 : Int) + (1 : Int) ≤ (9223372036854775807 : Int))) ∧
 (∃ x11 : Nat,
 ((List.length (LKi.l x1) - x11 < List.length (LKi.l x1) - x6) ∧
 (((x11 ≤ List.length (LKi.l x1)) ∧
 (∀ j12 : Nat,
 ((j12 < x11) →
 (El.id (List.getD (LKi.l x1) j12 default) ≠ LKi.id x1)))) ∧
 ((((↑x6 : Int) + (1 : Int) = (↑x11 : Int)) ∧
 ((((0 : Nat) = (0 : Nat)) ∧
 (List.length (LKi.l x1) = List.length (LKi.l x1))) ∧
 ((LKi.id x1 = LKi.id x1) ∧
 (True)))) ∧
 (((RLe (List.length (LKi.l x1)) (List.length (LKi.l x1))) ∧
 (RowsEq (Kd.int IntKind.i64 :: Kd.int IntKind.i64 :: @List.nil Kd) (List.length (LKi.l x1)) (encL encEi (LKi.l x1)) (encL encEi (LKi.l x1)))) ∧
 (True)))))))))))) ∧
 ((decide ((↑x6 : Int) < (↑(List.length (LKi.l x1)) : Int)) = false) →
 (((((0 : Nat) = (0 : Nat)) ∧
 (List.length (LKi.l x1) = List.length (dropI (LKi.l x1) (LKi.id x1)))) ∧
 ((false = decide (LKi.id x1 ∈ ids (LKi.l x1))) ∧
 (True))) ∧
 (((RLe (List.length (dropI (LKi.l x1) (LKi.id x1))) (List.length (LKi.l x1))) ∧
 (RowsEq (Kd.int IntKind.i64 :: Kd.int IntKind.i64 :: @List.nil Kd) (List.length (dropI (LKi.l x1) (LKi.id x1))) (encL encEi (LKi.l x1)) (encL encEi (dropI (LKi.l x1) (LKi.id x1))))) ∧
 (True)))))))))))) = Keeps cfg0 Try.f14 rdropC (scanI 6) by kernel_rfl) (fun x1 => fun h2 => ⟨((0 : Nat)),
 ⟨⟨(by (try dsimp only at *); omega),
 fun j4 => fun h5 => (by (try dsimp only at *); omega)⟩,
 ⟨(by (try dsimp only at *); omega),
 ⟨rfl,
 rfl⟩,
 rfl,
 trivial⟩,
 ⟨⟨Nat.le_refl _⟩,
 RowsEq.rfl'⟩,
 trivial⟩,
 fun x6 => fun h7 => ⟨fun g8 => have h8 := of_decide_eq_true g8; ⟨⟨(by (try dsimp only at *); omega),
 (by (try dsimp only at *); omega)⟩,
 (by (try dsimp only at *); omega),
 fun g9 => have h9 := of_decide_eq_true g9; ⟨trivial,
 ⟨(by (try dsimp only at *); omega),
 (by (try dsimp only at *); omega),
 (by (try dsimp only at *); omega)⟩,
 ⟨rfl,
 (by (try dsimp only at *); omega),
 (by (try dsimp only at *); omega),
 (by (try dsimp only at *); omega)⟩,
 ⟨(by (try dsimp only at *); omega),
 (by (try dsimp only at *); omega)⟩,
 ⟨(by (try dsimp only at *); omega),
 (by (try dsimp only at *); omega),
 (by (try dsimp only at *); omega)⟩,
 ⟨rfl,
 (by (try dsimp only at *); omega),
 (by (try dsimp only at *); omega),
 (by (try dsimp only at *); omega)⟩,
 ⟨⟨rfl,
 (by (try dsimp only at *); (have hp := posOf_first (k := x6) (by omega) h7.2 (by simpa using h9); have hl := dropI_len (by omega) hp; have e : ((x6 : Int) + 1).toNat = x6 + 1 := (by omega); have z : Int.toNat 0 = 0 := rfl; simp only [z, e, Nat.zero_add, Nat.sub_zero, Int.toNat_natCast, appRows_zero] at *; first | omega | (rw [dropI_at hp]; exact dropI_rows (by omega) (by rw [← dropI_at hp]; omega))))⟩,
 (by (try dsimp only at *); (simp only [Nat.zero_add, Int.toNat_natCast] at *; first | exact scan_step (by simp_all) (by assumption) | (exact (decide_eq_true (posOf_first (k := x6) (by omega) (by simp_all) (by assumption)).1).symm))),
 trivial⟩,
 ⟨⟨(by (try dsimp only at *); (have hp := posOf_first (k := x6) (by omega) h7.2 (by simpa using h9); have hl := dropI_len (by omega) hp; have e : ((x6 : Int) + 1).toNat = x6 + 1 := (by omega); have z : Int.toNat 0 = 0 := rfl; simp only [z, e, Nat.zero_add, Nat.sub_zero, Int.toNat_natCast, appRows_zero] at *; first | omega | (rw [dropI_at hp]; exact dropI_rows (by omega) (by rw [← dropI_at hp]; omega))))⟩,
 (by (try dsimp only at *); (have hp := posOf_first (k := x6) (by omega) h7.2 (by simpa using h9); have hl := dropI_len (by omega) hp; have e : ((x6 : Int) + 1).toNat = x6 + 1 := (by omega); have z : Int.toNat 0 = 0 := rfl; simp only [z, e, Nat.zero_add, Nat.sub_zero, Int.toNat_natCast, appRows_zero] at *; first | omega | (rw [dropI_at hp]; exact dropI_rows (by omega) (by rw [← dropI_at hp]; omega))))⟩,
 trivial⟩,
 fun g10 => have h10 := of_decide_eq_false g10; ⟨⟨(by (try dsimp only at *); omega),
 (by (try dsimp only at *); omega)⟩,
 (x6 + (1 : Nat)),
 (by (try dsimp only at *); omega),
 ⟨(by (try dsimp only at *); omega),
 fun j12 => fun h13 => (by (try dsimp only at *); grind)⟩,
 ⟨(by (try dsimp only at *); omega),
 ⟨rfl,
 rfl⟩,
 rfl,
 trivial⟩,
 ⟨⟨Nat.le_refl _⟩,
 RowsEq.rfl'⟩,
 trivial⟩⟩,
 fun g14 => have h14 := of_decide_eq_false g14; ⟨⟨⟨rfl,
 (by (try dsimp only at *); (obtain rfl : x6 = x1.l.length := (by omega); have hn := not_ids (l := x1.l) (id := x1.id) h7.2; first | exact (decide_eq_false hn).symm | (unfold dropI; rw [if_neg hn]; first | done | exact Nat.le_refl _ | exact RowsEq.rfl')))⟩,
 (by (try dsimp only at *); (obtain rfl : x6 = x1.l.length := (by omega); have hn := not_ids (l := x1.l) (id := x1.id) h7.2; first | exact (decide_eq_false hn).symm | (unfold dropI; rw [if_neg hn]; first | done | exact Nat.le_refl _ | exact RowsEq.rfl'))),
 trivial⟩,
 ⟨⟨(by (try dsimp only at *); (obtain rfl : x6 = x1.l.length := (by omega); have hn := not_ids (l := x1.l) (id := x1.id) h7.2; first | exact (decide_eq_false hn).symm | (unfold dropI; rw [if_neg hn]; first | done | exact Nat.le_refl _ | exact RowsEq.rfl')))⟩,
 (by (try dsimp only at *); (obtain rfl : x6 = x1.l.length := (by omega); have hn := not_ids (l := x1.l) (id := x1.id) h7.2; first | exact (decide_eq_false hn).symm | (unfold dropI; rw [if_neg hn]; first | done | exact Nat.le_refl _ | exact RowsEq.rfl')))⟩,
 trivial⟩⟩⟩)

theorem rkey_good : Good Try.prog 12 rkeyC ∧ FnOk Try.prog 12 := good_of tok con0 (fn := Try.f12) rfl (by decide +kernel) (fun _ => rfl) rkey_keeps
theorem rdrop_good : Good Try.prog 14 rdropC ∧ FnOk Try.prog 14 := good_of tok con0 (fn := Try.f14) rfl (by decide +kernel) (fun _ => rfl) rdrop_keeps
def rputC : CT where
  X := LKi
  pre := fun x => x.l.length ≤ 999999
  args := fun x => [.sl 100000 0 x.l.length, .i .i64 x.id, .i .i64 x.key]
  g0 := fun x => [refB 100000 x.l]
  res := fun x => .sl 1 0 (putBase x.l x.id x.key).length
  g1 := fun x => [refB 1 (putBase x.l x.id x.key)]
set_option maxRecDepth 100000 in
theorem rput_keeps : Keeps cfg0 Try.f20 rputC (scanI 8) := Eq.mp (show ((∀ x1 : LKi,
 ((List.length (LKi.l x1) ≤ (999999 : Nat)) →
 ((True) ∧
 ((((0 : Nat) = (0 : Nat)) ∧
 (((0 : Nat) ≤ (0 : Nat)) ∧
 (((0 : Nat) + List.length (LKi.l x1) ≤ List.length (LKi.l x1)) ∧
 ((0 : Nat) + List.length (LKi.l x1) ≤ (1073741824 : Nat))))) ∧
 (∃ x3 : Nat,
 ((((x3 ≤ List.length (LKi.l x1)) ∧
 (∀ j4 : Nat,
 ((j4 < x3) →
 (El.id (List.getD (LKi.l x1) j4 default) ≠ LKi.id x1)))) ∧
 ((((0 : Int) = (↑x3 : Int)) ∧
 ((((0 : Nat) = (0 : Nat)) ∧
 ((0 : Nat) + List.length (LKi.l x1) = (0 : Nat) + List.length (LKi.l x1))) ∧
 ((LKi.id x1 = LKi.id x1) ∧
 ((LKi.key x1 = LKi.key x1) ∧
 (True))))) ∧
 (((RLe ((0 : Nat) + List.length (LKi.l x1)) ((0 : Nat) + List.length (LKi.l x1))) ∧
 (RowsEq (Kd.int IntKind.i64 :: Kd.int IntKind.i64 :: @List.nil Kd) ((0 : Nat) + List.length (LKi.l x1)) (appRows (0 : Nat) (litRows (@List.nil (List D))) (0 : Nat) (encL encEi (LKi.l x1))) (appRows (0 : Nat) (litRows (@List.nil (List D))) (0 : Nat) (encL encEi (LKi.l x1))))) ∧
 (((RLe (List.length (LKi.l x1)) (List.length (LKi.l x1))) ∧
 (RowsEq (Kd.int IntKind.i64 :: Kd.int IntKind.i64 :: @List.nil Kd) (List.length (LKi.l x1)) (encL encEi (LKi.l x1)) (encL encEi (LKi.l x1)))) ∧
 (True))))) ∧
 (∀ x6 : Nat,
 ((x6 ≤ List.length (LKi.l x1) ∧ ∀ (j : Nat), j < x6 → El.id (List.getD (LKi.l x1) j default) ≠ LKi.id x1) →
 (((decide ((↑x6 : Int) < (↑((0 : Nat) + List.length (LKi.l x1)) : Int)) = true) →
 ((((0 : Int) ≤ (↑x6 : Int)) ∧
 ((↑x6 : Int) < (↑((0 : Nat) + List.length (LKi.l x1)) : Int))) ∧
 (((0 : Nat) + Int.toNat (↑x6 : Int) < (0 : Nat) + List.length (LKi.l x1)) ∧
 (((decide (El.id (List.getD (LKi.l x1) ((0 : Nat) + ((0 : Nat) + Int.toNat (↑x6 : Int) - (0 : Nat))) default) = LKi.id x1) = true) →
 ((((0 : Int) ≤ (↑x6 : Int)) ∧
 ((↑x6 : Int) < (↑((0 : Nat) + List.length (LKi.l x1)) : Int))) ∧
 ((((0 : Nat) + Int.toNat (↑x6 : Int) < (0 : Nat) + List.length (LKi.l x1)) ∧
 ((True) ∧
 (True))) ∧
 ((((0 : Nat) = (0 : Nat)) ∧
 ((0 : Nat) + List.length (LKi.l x1) = List.length (putBase (LKi.l x1) (LKi.id x1) (LKi.key x1)))) ∧
 (((RLe (List.length (putBase (LKi.l x1) (LKi.id x1) (LKi.key x1))) ((0 : Nat) + List.length (LKi.l x1))) ∧
 (RowsEq (Kd.int IntKind.i64 :: Kd.int IntKind.i64 :: @List.nil Kd) (List.length (putBase (LKi.l x1) (LKi.id x1) (LKi.key x1))) (setRow (appRows (0 : Nat) (litRows (@List.nil (List D))) (0 : Nat) (encL encEi (LKi.l x1))) ((0 : Nat) + Int.toNat (↑x6 : Int)) (1 : Nat) (D.i (LKi.key x1) :: @List.nil D)) (encL encEi (putBase (LKi.l x1) (LKi.id x1) (LKi.key x1))))) ∧
 (True)))))) ∧
 ((decide (El.id (List.getD (LKi.l x1) ((0 : Nat) + ((0 : Nat) + Int.toNat (↑x6 : Int) - (0 : Nat))) default) = LKi.id x1) = false) →
 ((((-9223372036854775808 : Int) ≤ (↑x6 : Int) + (1 : Int)) ∧
 ((↑x6 : Int) + (1 : Int) ≤ (9223372036854775807 : Int))) ∧
 (∃ x11 : Nat,
 ((List.length (LKi.l x1) - x11 < List.length (LKi.l x1) - x6) ∧
 (((x11 ≤ List.length (LKi.l x1)) ∧
 (∀ j12 : Nat,
 ((j12 < x11) →
 (El.id (List.getD (LKi.l x1) j12 default) ≠ LKi.id x1)))) ∧
 ((((↑x6 : Int) + (1 : Int) = (↑x11 : Int)) ∧
 ((((0 : Nat) = (0 : Nat)) ∧
 ((0 : Nat) + List.length (LKi.l x1) = (0 : Nat) + List.length (LKi.l x1))) ∧
 ((LKi.id x1 = LKi.id x1) ∧
 ((LKi.key x1 = LKi.key x1) ∧
 (True))))) ∧
 (((RLe ((0 : Nat) + List.length (LKi.l x1)) ((0 : Nat) + List.length (LKi.l x1))) ∧
 (RowsEq (Kd.int IntKind.i64 :: Kd.int IntKind.i64 :: @List.nil Kd) ((0 : Nat) + List.length (LKi.l x1)) (appRows (0 : Nat) (litRows (@List.nil (List D))) (0 : Nat) (encL encEi (LKi.l x1))) (appRows (0 : Nat) (litRows (@List.nil (List D))) (0 : Nat) (encL encEi (LKi.l x1))))) ∧
 (((RLe (List.length (LKi.l x1)) (List.length (LKi.l x1))) ∧
 (RowsEq (Kd.int IntKind.i64 :: Kd.int IntKind.i64 :: @List.nil Kd) (List.length (LKi.l x1)) (encL encEi (LKi.l x1)) (encL encEi (LKi.l x1)))) ∧
 (True))))))))))))) ∧
 ((decide ((↑x6 : Int) < (↑((0 : Nat) + List.length (LKi.l x1)) : Int)) = false) →
 ((((True) ∧
 ((True) ∧
 (True))) ∧
 (True)) ∧
 ((((0 : Nat) = (0 : Nat)) ∧
 (((0 : Nat) + List.length (LKi.l x1) ≤ (0 : Nat) + List.length (LKi.l x1)) ∧
 (((1 : Nat) ≤ (1 : Nat)) ∧
 ((0 : Nat) + List.length (LKi.l x1) + (1 : Nat) ≤ (1073741824 : Nat))))) ∧
 ((((0 : Nat) = (0 : Nat)) ∧
 ((0 : Nat) + List.length (LKi.l x1) + (1 : Nat) = List.length (putBase (LKi.l x1) (LKi.id x1) (LKi.key x1)))) ∧
 (((RLe (List.length (putBase (LKi.l x1) (LKi.id x1) (LKi.key x1))) ((0 : Nat) + List.length (LKi.l x1) + (1 : Nat))) ∧
 (RowsEq (Kd.int IntKind.i64 :: Kd.int IntKind.i64 :: @List.nil Kd) (List.length (putBase (LKi.l x1) (LKi.id x1) (LKi.key x1))) (appRows ((0 : Nat) + List.length (LKi.l x1)) (appRows (0 : Nat) (litRows (@List.nil (List D))) (0 : Nat) (encL encEi (LKi.l x1))) (0 : Nat) (litRows ((D.i (LKi.id x1) :: D.i (LKi.key x1) :: @List.nil D) :: @List.nil (List D)))) (encL encEi (putBase (LKi.l x1) (LKi.id x1) (LKi.key x1))))) ∧
 (True)))))))))))))))) = Keeps cfg0 Try.f20 rputC (scanI 8) by kernel_rfl) (fun x1 => fun h2 => ⟨trivial,
 ⟨rfl,
 (by omega),
 (by omega),
 (by omega)⟩,
 ((0 : Nat)),
 ⟨⟨(by (try dsimp only at *); omega),
 fun j4 => fun h5 => (by (try dsimp only at *); omega)⟩,
 ⟨(by (try dsimp only at *); omega),
 ⟨rfl,
 rfl⟩,
 rfl,
 rfl,
 trivial⟩,
 ⟨⟨Nat.le_refl _⟩,
 RowsEq.rfl'⟩,
 ⟨⟨Nat.le_refl _⟩,
 RowsEq.rfl'⟩,
 trivial⟩,
 fun x6 => fun h7 => ⟨fun g8 => have h8 := of_decide_eq_true g8; ⟨⟨(by (try dsimp only at *); omega),
 (by (try dsimp only at *); omega)⟩,
 (by (try dsimp only at *); omega),
 fun g9 => have h9 := of_decide_eq_true g9; ⟨⟨(by (try dsimp only at *); omega),
 (by (try dsimp only at *); omega)⟩,
 ⟨(by (try dsimp only at *); omega),
 trivial,
 trivial⟩,
 ⟨rfl,
 (by (try dsimp only at *); (have hp := posOf_first (k := x6) (by omega) h7.2 (by simpa using h9); have e5 := (putBase_leni x1.l x1.id x1.key).1 hp.1; have z : Int.toNat 0 = 0 := rfl; simp only [z, Nat.zero_add, Nat.sub_zero, Int.toNat_natCast, appRows_zero] at *; first | omega | (rw [← hp.2]; exact put_rowsOi hp.1)))⟩,
 ⟨⟨(by (try dsimp only at *); (have hp := posOf_first (k := x6) (by omega) h7.2 (by simpa using h9); have e5 := (putBase_leni x1.l x1.id x1.key).1 hp.1; have z : Int.toNat 0 = 0 := rfl; simp only [z, Nat.zero_add, Nat.sub_zero, Int.toNat_natCast, appRows_zero] at *; first | omega | (rw [← hp.2]; exact put_rowsOi hp.1)))⟩,
 (by (try dsimp only at *); (have hp := posOf_first (k := x6) (by omega) h7.2 (by simpa using h9); have e5 := (putBase_leni x1.l x1.id x1.key).1 hp.1; have z : Int.toNat 0 = 0 := rfl; simp only [z, Nat.zero_add, Nat.sub_zero, Int.toNat_natCast, appRows_zero] at *; first | omega | (rw [← hp.2]; exact put_rowsOi hp.1)))⟩,
 trivial⟩,
 fun g10 => have h10 := of_decide_eq_false g10; ⟨⟨(by (try dsimp only at *); omega),
 (by (try dsimp only at *); omega)⟩,
 (x6 + (1 : Nat)),
 (by (try dsimp only at *); omega),
 ⟨(by (try dsimp only at *); omega),
 fun j12 => fun h13 => (by (try dsimp only at *); grind)⟩,
 ⟨(by (try dsimp only at *); omega),
 ⟨rfl,
 rfl⟩,
 rfl,
 rfl,
 trivial⟩,
 ⟨⟨Nat.le_refl _⟩,
 RowsEq.rfl'⟩,
 ⟨⟨Nat.le_refl _⟩,
 RowsEq.rfl'⟩,
 trivial⟩⟩,
 fun g14 => have h14 := of_decide_eq_false g14; ⟨⟨⟨trivial,
 trivial,
 trivial⟩,
 trivial⟩,
 ⟨rfl,
 (by (try dsimp only at *); omega),
 (by (try dsimp only at *); omega),
 (by (try dsimp only at *); omega)⟩,
 ⟨rfl,
 (by (try dsimp only at *); (obtain rfl : x6 = x1.l.length := (by omega); have hn := not_ids (l := x1.l) (id := x1.id) h7.2; have e5 := (putBase_leni x1.l x1.id x1.key).2 hn; simp only [Nat.zero_add, Nat.sub_zero, Int.toNat_natCast, appRows_zero] at *; first | omega | (unfold putBase; rw [if_neg hn]; exact rowsEq_push rfl (by simp) (by simp only [rowEq, Kd.eqv, kEi]; exact ⟨rfl, rfl, trivial⟩))))⟩,
 ⟨⟨(by (try dsimp only at *); (obtain rfl : x6 = x1.l.length := (by omega); have hn := not_ids (l := x1.l) (id := x1.id) h7.2; have e5 := (putBase_leni x1.l x1.id x1.key).2 hn; simp only [Nat.zero_add, Nat.sub_zero, Int.toNat_natCast, appRows_zero] at *; first | omega | (unfold putBase; rw [if_neg hn]; exact rowsEq_push rfl (by simp) (by simp only [rowEq, Kd.eqv, kEi]; exact ⟨rfl, rfl, trivial⟩))))⟩,
 (by (try dsimp only at *); (obtain rfl : x6 = x1.l.length := (by omega); have hn := not_ids (l := x1.l) (id := x1.id) h7.2; have e5 := (putBase_leni x1.l x1.id x1.key).2 hn; simp only [Nat.zero_add, Nat.sub_zero, Int.toNat_natCast, appRows_zero] at *; first | omega | (unfold putBase; rw [if_neg hn]; exact rowsEq_push rfl (by simp) (by simp only [rowEq, Kd.eqv, kEi]; exact ⟨rfl, rfl, trivial⟩))))⟩,
 trivial⟩⟩⟩)

theorem rput_good : Good Try.prog 20 rputC ∧ FnOk Try.prog 20 := good_of tok con0 (fn := Try.f20) rfl (by decide +kernel) (fun _ => rfl) rput_keeps
def topK (l : List Line) (k : Nat) : Line := (l.take k).foldl (fun b e => if El.less lti e b then e else b) (l.getD 0 default)
theorem take_succ_getD {α : Type} {xs : List α} {k : Nat} {d : α} (h : k < xs.length) : xs.take (k + 1) = xs.take k ++ [xs.getD k d] := by
  rw [List.take_succ_eq_append_getElem h]; simp [List.getD_eq_getElem?_getD, h]
theorem topK_succ {l : List Line} {k : Nat} (h : k < l.length) : topK l (k + 1) = if El.less lti (l.getD k default) (topK l k) then l.getD k default else topK l k := by
  unfold topK; rw [take_succ_getD (d := default) h, List.foldl_append]; rfl
def topC : CT where
  X := List Line
  pre := fun l => l.length ≤ 1000000
  args := fun l => [.sl 100000 0 l.length]
  g0 := fun l => [refB 100000 l]
  res := fun l => .tup [encLi (topK l l.length), .b (decide (l.length ≠ 0))]
  g1 := fun _ => []
def topI (l : List Line) (id : Nat) : Option Inv := match id with
  | 0 => some { X := Nat, ok := fun k => k ≤ l.length, fr := fun k => [(5, .i .i64 k)], hp := fun k => [(4, .one .own [.i .i64 (topK l k).id, .i .i64 (topK l k).key])], me := fun k => l.length - k }
  | _ => none
def C13 : List (Nat × Con) := [(13, .one aheadC)]
theorem con13 : ConL Try.prog C13 := .cons (ConL.one ahead_good) .nil
set_option maxRecDepth 100000 in
theorem top_keeps : Keeps ⟨T, [], C13, noInv, 6⟩ Try.f21 topC topI := Eq.mp (show ((∀ x1 : List Line,
 ((List.length x1 ≤ (1000000 : Nat)) →
 (((decide ((↑(List.length x1) : Int) = (0 : Int)) = true) →
 (((((0 : Int) = El.id (topK x1 (List.length x1))) ∧
 (((0 : Int) = El.key (topK x1 (List.length x1))) ∧
 (True))) ∧
 ((false = decide (List.length x1 ≠ (0 : Nat))) ∧
 (True))) ∧
 (True))) ∧
 ((decide ((↑(List.length x1) : Int) = (0 : Int)) = false) →
 ((((0 : Int) ≤ (0 : Int)) ∧
 ((0 : Int) < (↑(List.length x1) : Int))) ∧
 (((0 : Nat) + Int.toNat (0 : Int) < List.length x1) ∧
 (∃ x5 : Nat,
 (((x5 ≤ List.length x1) ∧
 ((((0 : Int) = (↑x5 : Int)) ∧
 ((((0 : Nat) = (0 : Nat)) ∧
 ((0 : Nat) = (0 : Nat))) ∧
 ((false = false) ∧
 ((((0 : Nat) = (0 : Nat)) ∧
 ((0 : Nat) = (0 : Nat))) ∧
 ((((0 : Nat) = (0 : Nat)) ∧
 (List.length x1 = List.length x1)) ∧
 (True)))))) ∧
 (((El.id (List.getD x1 ((0 : Nat) + Int.toNat (0 : Int)) default) = El.id (topK x1 x5)) ∧
 ((El.key (List.getD x1 ((0 : Nat) + Int.toNat (0 : Int)) default) = El.key (topK x1 x5)) ∧
 (True))) ∧
 ((((0 : Int) = (0 : Int)) ∧
 (((0 : Int) = (0 : Int)) ∧
 (True))) ∧
 (((RLe (List.length x1) (List.length x1)) ∧
 (RowsEq (Kd.int IntKind.i64 :: Kd.int IntKind.i64 :: @List.nil Kd) (List.length x1) (encL encEi x1) (encL encEi x1))) ∧
 (True)))))) ∧
 (∀ x6 : Nat,
 ((x6 ≤ List.length x1) →
 (((decide ((↑x6 : Int) < (↑(List.length x1) : Int)) = true) →
 ((((0 : Int) ≤ (↑x6 : Int)) ∧
 ((↑x6 : Int) < (↑(List.length x1) : Int))) ∧
 (((0 : Nat) + Int.toNat (↑x6 : Int) < List.length x1) ∧
 (∃ x9 : Line × Line,
 ((True) ∧
 ((((El.id (List.getD x1 ((0 : Nat) + Int.toNat (↑x6 : Int)) default) = El.id (Prod.fst x9)) ∧
 ((El.key (List.getD x1 ((0 : Nat) + Int.toNat (↑x6 : Int)) default) = El.key (Prod.fst x9)) ∧
 (True))) ∧
 (((El.id (topK x1 x6) = El.id (Prod.snd x9)) ∧
 ((El.key (topK x1 x6) = El.key (Prod.snd x9)) ∧
 (True))) ∧
 (True))) ∧
 ((True) ∧
 (((El.less lti (Prod.fst x9) (Prod.snd x9) = true) →
 ((((0 : Int) ≤ (↑x6 : Int)) ∧
 ((↑x6 : Int) < (↑(List.length x1) : Int))) ∧
 (((0 : Nat) + Int.toNat (↑x6 : Int) < List.length x1) ∧
 ((((-9223372036854775808 : Int) ≤ (↑x6 : Int) + (1 : Int)) ∧
 ((↑x6 : Int) + (1 : Int) ≤ (9223372036854775807 : Int))) ∧
 (∃ x11 : Nat,
 ((List.length x1 - x11 < List.length x1 - x6) ∧
 ((x11 ≤ List.length x1) ∧
 ((((↑x6 : Int) + (1 : Int) = (↑x11 : Int)) ∧
 ((((0 : Nat) = (0 : Nat)) ∧
 ((0 : Nat) = (0 : Nat))) ∧
 ((false = false) ∧
 ((((0 : Nat) = (0 : Nat)) ∧
 ((0 : Nat) = (0 : Nat))) ∧
 ((((0 : Nat) = (0 : Nat)) ∧
 (List.length x1 = List.length x1)) ∧
 (True)))))) ∧
 (((El.id (List.getD x1 ((0 : Nat) + Int.toNat (↑x6 : Int)) default) = El.id (topK x1 x11)) ∧
 ((El.key (List.getD x1 ((0 : Nat) + Int.toNat (↑x6 : Int)) default) = El.key (topK x1 x11)) ∧
 (True))) ∧
 ((((0 : Int) = (0 : Int)) ∧
 (((0 : Int) = (0 : Int)) ∧
 (True))) ∧
 (((RLe (List.length x1) (List.length x1)) ∧
 (RowsEq (Kd.int IntKind.i64 :: Kd.int IntKind.i64 :: @List.nil Kd) (List.length x1) (encL encEi x1) (encL encEi x1))) ∧
 (True)))))))))))) ∧
 ((El.less lti (Prod.fst x9) (Prod.snd x9) = false) →
 ((((-9223372036854775808 : Int) ≤ (↑x6 : Int) + (1 : Int)) ∧
 ((↑x6 : Int) + (1 : Int) ≤ (9223372036854775807 : Int))) ∧
 (∃ x13 : Nat,
 ((List.length x1 - x13 < List.length x1 - x6) ∧
 ((x13 ≤ List.length x1) ∧
 ((((↑x6 : Int) + (1 : Int) = (↑x13 : Int)) ∧
 ((((0 : Nat) = (0 : Nat)) ∧
 ((0 : Nat) = (0 : Nat))) ∧
 ((false = false) ∧
 ((((0 : Nat) = (0 : Nat)) ∧
 ((0 : Nat) = (0 : Nat))) ∧
 ((((0 : Nat) = (0 : Nat)) ∧
 (List.length x1 = List.length x1)) ∧
 (True)))))) ∧
 (((El.id (topK x1 x6) = El.id (topK x1 x13)) ∧
 ((El.key (topK x1 x6) = El.key (topK x1 x13)) ∧
 (True))) ∧
 ((((0 : Int) = (0 : Int)) ∧
 (((0 : Int) = (0 : Int)) ∧
 (True))) ∧
 (((RLe (List.length x1) (List.length x1)) ∧
 (RowsEq (Kd.int IntKind.i64 :: Kd.int IntKind.i64 :: @List.nil Kd) (List.length x1) (encL encEi x1) (encL encEi x1))) ∧
 (True)))))))))))))))))) ∧
 ((decide ((↑x6 : Int) < (↑(List.length x1) : Int)) = false) →
 ((((El.id (topK x1 x6) = El.id (topK x1 (List.length x1))) ∧
 ((El.key (topK x1 x6) = El.key (topK x1 (List.length x1))) ∧
 (True))) ∧
 ((true = decide (List.length x1 ≠ (0 : Nat))) ∧
 (True))) ∧
 (True))))))))))))))) = Keeps ⟨T, [], C13, noInv, 6⟩ Try.f21 topC topI by kernel_rfl) (fun x1 => fun h2 => ⟨fun g3 => have h3 := of_decide_eq_true g3; ⟨⟨⟨(by (have e2 := List.length_eq_zero_iff.1 (show x1.length = 0 by omega); subst e2; rfl)),
 (by (have e2 := List.length_eq_zero_iff.1 (show x1.length = 0 by omega); subst e2; rfl)),
 trivial⟩,
 (by grind),
 trivial⟩,
 trivial⟩,
 fun g4 => have h4 := of_decide_eq_false g4; ⟨⟨(by omega),
 (by omega)⟩,
 (by omega),
 ((0 : Nat)),
 ⟨(by (try dsimp only at *); omega),
 ⟨(by (try dsimp only at *); omega),
 ⟨rfl,
 rfl⟩,
 rfl,
 ⟨rfl,
 rfl⟩,
 ⟨rfl,
 rfl⟩,
 trivial⟩,
 ⟨(by (try dsimp only at *); rfl),
 (by (try dsimp only at *); rfl),
 trivial⟩,
 ⟨rfl,
 rfl,
 trivial⟩,
 ⟨⟨Nat.le_refl _⟩,
 RowsEq.rfl'⟩,
 trivial⟩,
 fun x6 => fun h7 => ⟨fun g8 => have h8 := of_decide_eq_true g8; ⟨⟨(by (try dsimp only at *); omega),
 (by (try dsimp only at *); omega)⟩,
 (by (try dsimp only at *); omega),
 ((List.getD x1 ((0 : Nat) + Int.toNat (↑x6 : Int)) default, topK x1 x6)),
 trivial,
 ⟨⟨rfl,
 rfl,
 trivial⟩,
 ⟨rfl,
 rfl,
 trivial⟩,
 trivial⟩,
 trivial,
 fun h10 => ⟨⟨(by (try dsimp only at *); omega),
 (by (try dsimp only at *); omega)⟩,
 (by (try dsimp only at *); omega),
 ⟨(by (try dsimp only at *); omega),
 (by (try dsimp only at *); omega)⟩,
 (x6 + (1 : Nat)),
 (by (try dsimp only at *); omega),
 (by (try dsimp only at *); omega),
 ⟨(by (try dsimp only at *); omega),
 ⟨rfl,
 rfl⟩,
 rfl,
 ⟨rfl,
 rfl⟩,
 ⟨rfl,
 rfl⟩,
 trivial⟩,
 ⟨(by (try dsimp only at *); (simp only [Nat.zero_add, Int.toNat_natCast] at *; rw [topK_succ (by omega), if_pos (by assumption)])),
 (by (try dsimp only at *); (simp only [Nat.zero_add, Int.toNat_natCast] at *; rw [topK_succ (by omega), if_pos (by assumption)])),
 trivial⟩,
 ⟨rfl,
 rfl,
 trivial⟩,
 ⟨⟨Nat.le_refl _⟩,
 RowsEq.rfl'⟩,
 trivial⟩,
 fun h12 => ⟨⟨(by (try dsimp only at *); omega),
 (by (try dsimp only at *); omega)⟩,
 (x6 + (1 : Nat)),
 (by (try dsimp only at *); omega),
 (by (try dsimp only at *); omega),
 ⟨(by (try dsimp only at *); omega),
 ⟨rfl,
 rfl⟩,
 rfl,
 ⟨rfl,
 rfl⟩,
 ⟨rfl,
 rfl⟩,
 trivial⟩,
 ⟨(by (try dsimp only at *); (simp only [Nat.zero_add, Int.toNat_natCast] at *; rw [topK_succ (by omega), if_neg (by simp_all)])),
 (by (try dsimp only at *); (simp only [Nat.zero_add, Int.toNat_natCast] at *; rw [topK_succ (by omega), if_neg (by simp_all)])),
 trivial⟩,
 ⟨rfl,
 rfl,
 trivial⟩,
 ⟨⟨Nat.le_refl _⟩,
 RowsEq.rfl'⟩,
 trivial⟩⟩,
 fun g14 => have h14 := of_decide_eq_false g14; ⟨⟨⟨(by (try dsimp only at *); grind),
 (by (try dsimp only at *); grind),
 trivial⟩,
 (by (try dsimp only at *); grind),
 trivial⟩,
 trivial⟩⟩⟩⟩)

theorem top_good : Good Try.prog 21 topC ∧ FnOk Try.prog 21 := good_of (c := ⟨T, [], C13, noInv, 6⟩) tok (ConL.ok con13) (fn := Try.f21) rfl (by decide +kernel) (fun _ => rfl) top_keeps
end Go.Sym
