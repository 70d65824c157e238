/- law03: HeapPopOrder, HeapRemoval: the walks. -/
import Derived.Test.YtofigelofojjlaaW2
import Derived.Test.YtofigelofojjlaaXD
namespace Go.Sym
set_option linter.unusedVariables false
set_option linter.unusedSimpArgs false
open Go.Proofs
/-- Popped k times; the list alike. -/
def popN (h x : List Line) : Nat → List Line × List Line
  | 0 => (h, x)
  | k + 1 => (popF lti (popN h x k).1, dropI (popN h x k).2 ((popN h x k).1.getD 0 default).id)
theorem popN_succ (h x : List Line) (k : Nat) : popN h x (k + 1) = (popF lti (popN h x k).1, dropI (popN h x k).2 ((popN h x k).1.getD 0 default).id) := rfl
theorem popN_len {h x : List Line} : ∀ k : Nat, (popN h x k).1.length = h.length - k
  | 0 => rfl
  | k + 1 => by rw [popN_succ]; dsimp only; rw [popF_len, popN_len k]; omega
theorem twinN {h x : List Line} (t : Twin h x) : ∀ k : Nat, k ≤ h.length → Twin (popN h x k).1 (popN h x k).2
  | 0, _ => t
  | k + 1, hk => (twinN t k (by omega)).pop (by rw [popN_len]; omega)
def lastN (h x : List Line) : Nat → Line
  | 0 => default
  | k + 1 => (popN h x k).1.getD 0 default
/-- What comes out next comes behind. -/
theorem popN_next {h x : List Line} (t : Twin h x) {k : Nat} (h0 : 0 < k) (hk : k < h.length) : El.less lti (lastN h x k) ((popN h x k).1.getD 0 default) = true := by
  obtain ⟨j, rfl⟩ : ∃ j, k = j + 1 := ⟨k - 1, by omega⟩
  have t1 := twinN t j (by omega)
  have l1 := popN_len (h := h) (x := x) j
  have t2 := twinN t (j + 1) (by omega)
  have l2 := popN_len (h := h) (x := x) (j + 1)
  show El.less lti ((popN h x j).1.getD 0 default) _ = true
  have hm : (popN h x (j + 1)).1.getD 0 default ∈ wo (popN h x j).1 ((popN h x j).1.getD 0 default).id :=
    (popF_wo t1.n (by omega)).mem_iff.1 (mem_getD (by rw [popF_len]; omega))
  unfold wo at hm
  rw [List.mem_filter] at hm
  obtain ⟨m1, m2⟩ := hm
  have h3 := heap_min_mem lti_ok t1.o m1
  cases h4 : El.less lti ((popN h x j).1.getD 0 default) ((popN h x (j + 1)).1.getD 0 default) with
  | true => rfl
  | false =>
    have := less_tot lti_ok h4 h3
    rw [← this] at m2
    simp at m2
theorem popN_key {h x : List Line} (t : Twin h x) {k : Nat} (hk : k < h.length) : keyOfi (popN h x k).2 ((popN h x k).1.getD 0 default).id = ((popN h x k).1.getD 0 default).key ∧ ((popN h x k).1.getD 0 default).id ∈ ids (popN h x k).2 := by
  have t1 := twinN t k (by omega)
  have l1 := popN_len (h := h) (x := x) k
  have hm := mem_ids (l := (popN h x k).1) (i := 0) (by omega)
  have h1 := t1.key ((popN h x k).1.getD 0 default).id
  have h2 : keyOfi (popN h x k).1 ((popN h x k).1.getD 0 default).id = ((popN h x k).1.getD 0 default).key := by
    unfold keyOfi
    rw [if_pos hm, posOf_get t1.n (by omega)]
  exact ⟨by rw [← h1, h2], (ids_perm t1.p).mem_iff.1 hm⟩
def orderC : CT where
  X := List Act
  pre := fun _ => True
  args := fun l => [.sl 100000 0 l.length]
  g0 := fun l => [(100000, .rows .bor kA l.length (encL encAct l))]
  res := fun _ => .b true
  g1 := fun _ => []
def playN (l : List Act) (k : Nat) : List Line × List Line := popN (hK l l.length) (xK l l.length) k
def lastK (l : List Act) (k : Nat) : Line := lastN (hK l l.length) (xK l l.length) k
def orderI (l : List Act) (id : Nat) : Option Inv := match id with
  | 0 => some { X := Nat, ok := fun k => k ≤ (hK l l.length).length, fr := fun k => [(30, .i .i64 k), (3, .p 1 0 0), (4, .sl 4 0 (playN l k).2.length)], hp := fun k => heapL 1 2 3 (playN l k).1 ++ [refB 4 (playN l k).2, (6, .one .own [.i .i64 (lastK l k).id, .i .i64 (lastK l k).key])], me := fun k => (hK l l.length).length - k }
  | _ => none
theorem playN_ok {l : List Act} {k : Nat} (hl : ¬ 100 < (l.length : Int)) (hk : k ≤ (hK l l.length).length) : Twin (playN l k).1 (playN l k).2 ∧ (playN l k).1.length = (hK l l.length).length - k ∧ (playN l k).2.length = (hK l l.length).length - k ∧ (hK l l.length).length ≤ 100 ∧ (xK l l.length).length = (hK l l.length).length := by
  obtain ⟨t, h1⟩ := twinK l l.length (Nat.le_refl _)
  have t2 := twinN t k hk
  have h2 := popN_len (h := hK l l.length) (x := xK l l.length) k
  refine ⟨t2, h2, ?_, by omega, t.len.symm⟩
  exact t2.len.symm.trans h2
theorem playN_in {l : List Act} {k : Nat} (hk : k < (hK l l.length).length) : keyOfi (playN l k).2 ((playN l k).1.getD 0 default).id = ((playN l k).1.getD 0 default).key ∧ ((playN l k).1.getD 0 default).id ∈ ids (playN l k).2 ∧ (0 < k → El.less lti (lastK l k) ((playN l k).1.getD 0 default) = true) := by
  obtain ⟨t, h1⟩ := twinK l l.length (Nat.le_refl _)
  obtain ⟨a, b⟩ := popN_key t hk
  exact ⟨a, b, fun h0 => popN_next t h0 hk⟩
theorem getD_nil {l : List Line} (h : l.length = 0) : l.getD 0 default = default := by rw [List.length_eq_zero_iff.1 h]; rfl
set_option maxHeartbeats 1000000 in
set_option maxRecDepth 100000 in
theorem order_keeps : Keeps ⟨T, [], Cl, noInv, 16⟩ Try.f3 orderC orderI := Eq.mp (show ((∀ x1 : List Act,
 ((True) →
 (∃ x3 : Unit,
 ((True) ∧
 ((True) ∧
 ((True) ∧
 (((false = true) →
 ((false = true) ∧
 (True))) ∧
 ((false = false) →
 (((decide ((100 : Int) < (↑(List.length x1) : Int)) = true) →
 ((true = true) ∧
 (True))) ∧
 ((decide ((100 : Int) < (↑(List.length x1) : Int)) = false) →
 (∃ x8 : List Act,
 ((List.length x8 ≤ (100 : Nat)) ∧
 (((((0 : Nat) = (0 : Nat)) ∧
 (List.length x1 = List.length x8)) ∧
 (True)) ∧
 ((((RLe (List.length x8) (List.length x1)) ∧
 (RowsEq (Kd.int IntKind.u8 :: Kd.int IntKind.i64 :: Kd.int IntKind.i64 :: @List.nil Kd) (List.length x8) (encL encAct x1) (encL encAct x8))) ∧
 (True)) ∧
 (∃ x9 : Nat,
 (((x9 ≤ List.length (hK x1 (List.length x1))) ∧
 ((((0 : Int) = (↑x9 : Int)) ∧
 ((((0 : Nat) = (0 : Nat)) ∧
 ((0 : Nat) = (0 : Nat))) ∧
 ((((0 : Nat) = (0 : Nat)) ∧
 (List.length (xK x8 (List.length x8)) = List.length (Prod.snd (playN x1 x9)))) ∧
 (((↑(List.length (xK x8 (List.length x8))) : Int) = (↑(List.length (xK x8 (List.length x8))) : Int)) ∧
 ((((0 : Nat) = (0 : Nat)) ∧
 ((0 : Nat) = (0 : Nat))) ∧
 (((↑(List.length (xK x8 (List.length x8))) : Int) = (↑(List.length (xK x8 (List.length x8))) : Int)) ∧
 ((((0 : Nat) = (0 : Nat)) ∧
 (List.length x1 = List.length x1)) ∧
 (True)))))))) ∧
 (((((0 : Nat) = (0 : Nat)) ∧
 (List.length (hK x8 (List.length x8)) = List.length (Prod.fst (playN x1 x9)))) ∧
 ((True) ∧
 (True))) ∧
 (((RLe (List.length (Prod.fst (playN x1 x9))) (List.length (hK x8 (List.length x8)))) ∧
 (RowsEq (Kd.int IntKind.i64 :: Kd.int IntKind.i64 :: @List.nil Kd) (List.length (Prod.fst (playN x1 x9))) (encL encEi (hK x8 (List.length x8))) (encL encEi (Prod.fst (playN x1 x9))))) ∧
 ((MapEq (Kd.int IntKind.i64 :: @List.nil Kd) (ids (hK x8 (List.length x8))) (ids (Prod.fst (playN x1 x9))) (posD (hK x8 (List.length x8))) (posD (Prod.fst (playN x1 x9)))) ∧
 (((RLe (List.length (Prod.snd (playN x1 x9))) (List.length (xK x8 (List.length x8)))) ∧
 (RowsEq (Kd.int IntKind.i64 :: Kd.int IntKind.i64 :: @List.nil Kd) (List.length (Prod.snd (playN x1 x9))) (encL encEi (xK x8 (List.length x8))) (encL encEi (Prod.snd (playN x1 x9))))) ∧
 ((((0 : Int) = El.id (lastK x1 x9)) ∧
 (((0 : Int) = El.key (lastK x1 x9)) ∧
 (True))) ∧
 (((RLe (List.length x1) (List.length x1)) ∧
 (RowsEq (Kd.int IntKind.u8 :: Kd.int IntKind.i64 :: Kd.int IntKind.i64 :: @List.nil Kd) (List.length x1) (encL encAct x1) (encL encAct x1))) ∧
 (True))))))))) ∧
 (∀ x10 : Nat,
 ((x10 ≤ List.length (hK x1 (List.length x1))) →
 (((decide ((↑x10 : Int) < (↑(List.length (xK x8 (List.length x8))) : Int)) = true) →
 (∃ x13 : List (El Int),
 (((List.Nodup (ids x13)) ∧
 (List.length x13 ≤ (1000000 : Nat))) ∧
 (((((0 : Nat) = (0 : Nat)) ∧
 ((0 : Nat) = (0 : Nat))) ∧
 (True)) ∧
 ((((((0 : Nat) = (0 : Nat)) ∧
 (List.length (Prod.fst (playN x1 x10)) = List.length x13)) ∧
 ((True) ∧
 (True))) ∧
 (((RLe (List.length x13) (List.length (Prod.fst (playN x1 x10)))) ∧
 (RowsEq (Kd.int IntKind.i64 :: Kd.int IntKind.i64 :: @List.nil Kd) (List.length x13) (encL encEi (Prod.fst (playN x1 x10))) (encL encEi x13))) ∧
 ((MapEq (Kd.int IntKind.i64 :: @List.nil Kd) (ids (Prod.fst (playN x1 x10))) (ids x13) (posD (Prod.fst (playN x1 x10))) (posD x13)) ∧
 (True)))) ∧
 (∃ x14 : LKi,
 ((List.length (LKi.l x14) ≤ (1000000 : Nat)) ∧
 (((((0 : Nat) = (0 : Nat)) ∧
 (List.length (Prod.snd (playN x1 x10)) = List.length (LKi.l x14))) ∧
 ((El.id (List.getD x13 (0 : Nat) default) = LKi.id x14) ∧
 (True))) ∧
 ((((RLe (List.length (LKi.l x14)) (List.length (Prod.snd (playN x1 x10)))) ∧
 (RowsEq (Kd.int IntKind.i64 :: Kd.int IntKind.i64 :: @List.nil Kd) (List.length (LKi.l x14)) (encL encEi (Prod.snd (playN x1 x10))) (encL encEi (LKi.l x14)))) ∧
 (True)) ∧
 ((((!decide (List.length x13 ≠ (0 : Nat))) = false) →
 ((((!decide (LKi.id x14 ∈ ids (LKi.l x14))) = false) →
 (((decide (keyOfi (LKi.l x14) (LKi.id x14) ≠ El.key (List.getD x13 (0 : Nat) default)) = false) →
 (((decide ((0 : Int) < (↑x10 : Int)) = true) →
 (∃ x19 : Line × Line,
 ((True) ∧
 ((((El.id (lastK x1 x10) = El.id (Prod.fst x19)) ∧
 ((El.key (lastK x1 x10) = El.key (Prod.fst x19)) ∧
 (True))) ∧
 (((El.id (List.getD x13 (0 : Nat) default) = El.id (Prod.snd x19)) ∧
 ((El.key (List.getD x13 (0 : Nat) default) = El.key (Prod.snd x19)) ∧
 (True))) ∧
 (True))) ∧
 ((True) ∧
 ((((!El.less lti (Prod.fst x19) (Prod.snd x19)) = true) →
 ((false = true) ∧
 (True))) ∧
 (((!El.less lti (Prod.fst x19) (Prod.snd x19)) = false) →
 (∃ x22 : LKi,
 ((List.length (LKi.l x22) ≤ (1000000 : Nat)) ∧
 (((((0 : Nat) = (0 : Nat)) ∧
 (List.length (Prod.snd (playN x1 x10)) = List.length (LKi.l x22))) ∧
 ((El.id (List.getD x13 (0 : Nat) default) = LKi.id x22) ∧
 (True))) ∧
 ((((RLe (List.length (LKi.l x22)) (List.length (Prod.snd (playN x1 x10)))) ∧
 (RowsEq (Kd.int IntKind.i64 :: Kd.int IntKind.i64 :: @List.nil Kd) (List.length (LKi.l x22)) (encL encEi (Prod.snd (playN x1 x10))) (encL encEi (LKi.l x22)))) ∧
 (True)) ∧
 ((((-9223372036854775808 : Int) ≤ (↑x10 : Int) + (1 : Int)) ∧
 ((↑x10 : Int) + (1 : Int) ≤ (9223372036854775807 : Int))) ∧
 (∃ x23 : Nat,
 ((List.length (hK x1 (List.length x1)) - x23 < List.length (hK x1 (List.length x1)) - x10) ∧
 ((x23 ≤ List.length (hK x1 (List.length x1))) ∧
 ((((↑x10 : Int) + (1 : Int) = (↑x23 : Int)) ∧
 ((((0 : Nat) = (0 : Nat)) ∧
 ((0 : Nat) = (0 : Nat))) ∧
 ((((0 : Nat) = (0 : Nat)) ∧
 (List.length (dropI (LKi.l x22) (LKi.id x22)) = List.length (Prod.snd (playN x1 x23)))) ∧
 (((↑(List.length (xK x8 (List.length x8))) : Int) = (↑(List.length (xK x8 (List.length x8))) : Int)) ∧
 ((((0 : Nat) = (0 : Nat)) ∧
 ((0 : Nat) = (0 : Nat))) ∧
 (((↑(List.length (xK x8 (List.length x8))) : Int) = (↑(List.length (xK x8 (List.length x8))) : Int)) ∧
 ((((0 : Nat) = (0 : Nat)) ∧
 (List.length x1 = List.length x1)) ∧
 (True)))))))) ∧
 (((((0 : Nat) = (0 : Nat)) ∧
 (List.length (popF lti x13) = List.length (Prod.fst (playN x1 x23)))) ∧
 ((True) ∧
 (True))) ∧
 (((RLe (List.length (Prod.fst (playN x1 x23))) (List.length (popF lti x13))) ∧
 (RowsEq (Kd.int IntKind.i64 :: Kd.int IntKind.i64 :: @List.nil Kd) (List.length (Prod.fst (playN x1 x23))) (encL encEi (popF lti x13)) (encL encEi (Prod.fst (playN x1 x23))))) ∧
 ((MapEq (Kd.int IntKind.i64 :: @List.nil Kd) (ids (popF lti x13)) (ids (Prod.fst (playN x1 x23))) (posD (popF lti x13)) (posD (Prod.fst (playN x1 x23)))) ∧
 (((RLe (List.length (Prod.snd (playN x1 x23))) (List.length (dropI (LKi.l x22) (LKi.id x22)))) ∧
 (RowsEq (Kd.int IntKind.i64 :: Kd.int IntKind.i64 :: @List.nil Kd) (List.length (Prod.snd (playN x1 x23))) (encL encEi (dropI (LKi.l x22) (LKi.id x22))) (encL encEi (Prod.snd (playN x1 x23))))) ∧
 (((El.id (List.getD x13 (0 : Nat) default) = El.id (lastK x1 x23)) ∧
 ((El.key (List.getD x13 (0 : Nat) default) = El.key (lastK x1 x23)) ∧
 (True))) ∧
 (((RLe (List.length x1) (List.length x1)) ∧
 (RowsEq (Kd.int IntKind.u8 :: Kd.int IntKind.i64 :: Kd.int IntKind.i64 :: @List.nil Kd) (List.length x1) (encL encAct x1) (encL encAct x1))) ∧
 (True))))))))))))))))))))))) ∧
 ((decide ((0 : Int) < (↑x10 : Int)) = false) →
 (∃ x25 : LKi,
 ((List.length (LKi.l x25) ≤ (1000000 : Nat)) ∧
 (((((0 : Nat) = (0 : Nat)) ∧
 (List.length (Prod.snd (playN x1 x10)) = List.length (LKi.l x25))) ∧
 ((El.id (List.getD x13 (0 : Nat) default) = LKi.id x25) ∧
 (True))) ∧
 ((((RLe (List.length (LKi.l x25)) (List.length (Prod.snd (playN x1 x10)))) ∧
 (RowsEq (Kd.int IntKind.i64 :: Kd.int IntKind.i64 :: @List.nil Kd) (List.length (LKi.l x25)) (encL encEi (Prod.snd (playN x1 x10))) (encL encEi (LKi.l x25)))) ∧
 (True)) ∧
 ((((-9223372036854775808 : Int) ≤ (↑x10 : Int) + (1 : Int)) ∧
 ((↑x10 : Int) + (1 : Int) ≤ (9223372036854775807 : Int))) ∧
 (∃ x26 : Nat,
 ((List.length (hK x1 (List.length x1)) - x26 < List.length (hK x1 (List.length x1)) - x10) ∧
 ((x26 ≤ List.length (hK x1 (List.length x1))) ∧
 ((((↑x10 : Int) + (1 : Int) = (↑x26 : Int)) ∧
 ((((0 : Nat) = (0 : Nat)) ∧
 ((0 : Nat) = (0 : Nat))) ∧
 ((((0 : Nat) = (0 : Nat)) ∧
 (List.length (dropI (LKi.l x25) (LKi.id x25)) = List.length (Prod.snd (playN x1 x26)))) ∧
 (((↑(List.length (xK x8 (List.length x8))) : Int) = (↑(List.length (xK x8 (List.length x8))) : Int)) ∧
 ((((0 : Nat) = (0 : Nat)) ∧
 ((0 : Nat) = (0 : Nat))) ∧
 (((↑(List.length (xK x8 (List.length x8))) : Int) = (↑(List.length (xK x8 (List.length x8))) : Int)) ∧
 ((((0 : Nat) = (0 : Nat)) ∧
 (List.length x1 = List.length x1)) ∧
 (True)))))))) ∧
 (((((0 : Nat) = (0 : Nat)) ∧
 (List.length (popF lti x13) = List.length (Prod.fst (playN x1 x26)))) ∧
 ((True) ∧
 (True))) ∧
 (((RLe (List.length (Prod.fst (playN x1 x26))) (List.length (popF lti x13))) ∧
 (RowsEq (Kd.int IntKind.i64 :: Kd.int IntKind.i64 :: @List.nil Kd) (List.length (Prod.fst (playN x1 x26))) (encL encEi (popF lti x13)) (encL encEi (Prod.fst (playN x1 x26))))) ∧
 ((MapEq (Kd.int IntKind.i64 :: @List.nil Kd) (ids (popF lti x13)) (ids (Prod.fst (playN x1 x26))) (posD (popF lti x13)) (posD (Prod.fst (playN x1 x26)))) ∧
 (((RLe (List.length (Prod.snd (playN x1 x26))) (List.length (dropI (LKi.l x25) (LKi.id x25)))) ∧
 (RowsEq (Kd.int IntKind.i64 :: Kd.int IntKind.i64 :: @List.nil Kd) (List.length (Prod.snd (playN x1 x26))) (encL encEi (dropI (LKi.l x25) (LKi.id x25))) (encL encEi (Prod.snd (playN x1 x26))))) ∧
 (((El.id (List.getD x13 (0 : Nat) default) = El.id (lastK x1 x26)) ∧
 ((El.key (List.getD x13 (0 : Nat) default) = El.key (lastK x1 x26)) ∧
 (True))) ∧
 (((RLe (List.length x1) (List.length x1)) ∧
 (RowsEq (Kd.int IntKind.u8 :: Kd.int IntKind.i64 :: Kd.int IntKind.i64 :: @List.nil Kd) (List.length x1) (encL encAct x1) (encL encAct x1))) ∧
 (True))))))))))))))))))) ∧
 ((decide (keyOfi (LKi.l x14) (LKi.id x14) ≠ El.key (List.getD x13 (0 : Nat) default)) = true) →
 ((false = true) ∧
 (True))))) ∧
 (((!decide (LKi.id x14 ∈ ids (LKi.l x14))) = true) →
 ((false = true) ∧
 (True))))) ∧
 (((!decide (List.length x13 ≠ (0 : Nat))) = true) →
 ((false = true) ∧
 (True))))))))))))) ∧
 ((decide ((↑x10 : Int) < (↑(List.length (xK x8 (List.length x8))) : Int)) = false) →
 (∃ x31 : List (El Int),
 (((List.Nodup (ids x31)) ∧
 (List.length x31 ≤ (1000000 : Nat))) ∧
 (((((0 : Nat) = (0 : Nat)) ∧
 ((0 : Nat) = (0 : Nat))) ∧
 (True)) ∧
 ((((((0 : Nat) = (0 : Nat)) ∧
 (List.length (Prod.fst (playN x1 x10)) = List.length x31)) ∧
 ((True) ∧
 (True))) ∧
 (((RLe (List.length x31) (List.length (Prod.fst (playN x1 x10)))) ∧
 (RowsEq (Kd.int IntKind.i64 :: Kd.int IntKind.i64 :: @List.nil Kd) (List.length x31) (encL encEi (Prod.fst (playN x1 x10))) (encL encEi x31))) ∧
 ((MapEq (Kd.int IntKind.i64 :: @List.nil Kd) (ids (Prod.fst (playN x1 x10))) (ids x31) (posD (Prod.fst (playN x1 x10))) (posD x31)) ∧
 (True)))) ∧
 (((decide ((↑(List.length (Prod.snd (playN x1 x10))) : Int) = (0 : Int)) = true) →
 (((decide (El.id (List.getD x31 (0 : Nat) default) = (0 : Int)) = true) →
 (((decide (El.key (List.getD x31 (0 : Nat) default) = (0 : Int)) = true) →
 ((((!decide (List.length x31 ≠ (0 : Nat))) = true) →
 (∃ x36 : List (El Int),
 ((True) ∧
 (((((0 : Nat) = (0 : Nat)) ∧
 ((0 : Nat) = (0 : Nat))) ∧
 (True)) ∧
 ((((((0 : Nat) = (0 : Nat)) ∧
 (List.length (popF lti x31) = List.length x36)) ∧
 ((True) ∧
 (True))) ∧
 (((RLe (List.length x36) (List.length (popF lti x31))) ∧
 (RowsEq (Kd.int IntKind.i64 :: Kd.int IntKind.i64 :: @List.nil Kd) (List.length x36) (encL encEi (popF lti x31)) (encL encEi x36))) ∧
 ((MapEq (Kd.int IntKind.i64 :: @List.nil Kd) (ids (popF lti x31)) (ids x36) (posD (popF lti x31)) (posD x36)) ∧
 (True)))) ∧
 ((decide ((↑(List.length x36) : Int) = (0 : Int)) = true) ∧
 (True))))))) ∧
 (((!decide (List.length x31 ≠ (0 : Nat))) = false) →
 ((false = true) ∧
 (True))))) ∧
 ((decide (El.key (List.getD x31 (0 : Nat) default) = (0 : Int)) = false) →
 ((false = true) ∧
 (True))))) ∧
 ((decide (El.id (List.getD x31 (0 : Nat) default) = (0 : Int)) = false) →
 ((false = true) ∧
 (True))))) ∧
 ((decide ((↑(List.length (Prod.snd (playN x1 x10))) : Int) = (0 : Int)) = false) →
 ((false = true) ∧
 (True))))))))))))))))))))))))))))) = Keeps ⟨T, [], Cl, noInv, 16⟩ Try.f3 orderC orderI by kernel_rfl) (fun x1 => fun h2 => ⟨(default),
 trivial,
 trivial,
 trivial,
 fun h4 => ⟨(by (try dsimp only at *); omega),
 trivial⟩,
 fun h5 => ⟨fun g6 => have h6 := of_decide_eq_true g6; ⟨rfl,
 trivial⟩,
 fun g7 => have h7 := of_decide_eq_false g7; ⟨(x1),
 (by (try dsimp only at *); omega),
 ⟨⟨rfl,
 rfl⟩,
 trivial⟩,
 ⟨⟨⟨Nat.le_refl _⟩,
 RowsEq.rfl'⟩,
 trivial⟩,
 ((0 : Nat)),
 ⟨(by (try dsimp only at *); omega),
 ⟨(by (try dsimp only at *); omega),
 ⟨rfl,
 rfl⟩,
 ⟨rfl,
 (by (try dsimp only at *); rfl)⟩,
 rfl,
 ⟨rfl,
 rfl⟩,
 rfl,
 ⟨rfl,
 rfl⟩,
 trivial⟩,
 ⟨⟨rfl,
 (by (try dsimp only at *); rfl)⟩,
 trivial,
 trivial⟩,
 ⟨⟨(by (try dsimp only at *); exact Nat.le_refl _)⟩,
 (by (try dsimp only at *); exact RowsEq.rfl')⟩,
 (by (try dsimp only at *); exact MapEq.rfl'),
 ⟨⟨(by (try dsimp only at *); exact Nat.le_refl _)⟩,
 (by (try dsimp only at *); exact RowsEq.rfl')⟩,
 ⟨(by (try dsimp only at *); rfl),
 (by (try dsimp only at *); rfl),
 trivial⟩,
 ⟨⟨Nat.le_refl _⟩,
 RowsEq.rfl'⟩,
 trivial⟩,
 fun x10 => fun h11 => ⟨fun g12 => have h12 := of_decide_eq_true g12; ⟨(Prod.fst (playN x1 x10)),
 ⟨(by (try dsimp only at *); (obtain ⟨q1, q2, q3, q4, q5⟩ := playN_ok h7 h11; first | omega | exact q1.n)),
 (by (try dsimp only at *); (obtain ⟨q1, q2, q3, q4, q5⟩ := playN_ok h7 h11; first | omega | exact q1.n))⟩,
 ⟨⟨rfl,
 rfl⟩,
 trivial⟩,
 ⟨⟨⟨rfl,
 rfl⟩,
 trivial,
 trivial⟩,
 ⟨⟨Nat.le_refl _⟩,
 RowsEq.rfl'⟩,
 MapEq.rfl',
 trivial⟩,
 ({ l := Prod.snd (playN x1 x10), id := El.id (List.getD (Prod.fst (playN x1 x10)) (0 : Nat) default), key := default : LKi }),
 (by (try dsimp only at *); (obtain ⟨q1, q2, q3, q4, q5⟩ := playN_ok h7 h11; first | omega | exact q1.n)),
 ⟨⟨rfl,
 rfl⟩,
 rfl,
 trivial⟩,
 ⟨⟨⟨Nat.le_refl _⟩,
 RowsEq.rfl'⟩,
 trivial⟩,
 fun h15 => ⟨fun h16 => ⟨fun g17 => have h17 := of_decide_eq_false g17; ⟨fun g18 => have h18 := of_decide_eq_true g18; ⟨((lastK x1 x10, List.getD (Prod.fst (playN x1 x10)) (0 : Nat) default)),
 trivial,
 ⟨⟨rfl,
 rfl,
 trivial⟩,
 ⟨rfl,
 rfl,
 trivial⟩,
 trivial⟩,
 trivial,
 fun h20 => ⟨(by (try dsimp only at *); (obtain ⟨q1, q2, q3, q4, q5⟩ := playN_ok h7 h11; have hk : x10 < (hK x1 x1.length).length := (by omega); obtain ⟨r1, r2, r3⟩ := playN_in hk; exfalso; first | (simp_all; done) | (have r4 := r3 (by omega); simp_all; done) | (have : (playN x1 x10).1.length ≠ 0 := (by omega); simp_all; done))),
 trivial⟩,
 fun h21 => ⟨({ l := Prod.snd (playN x1 x10), id := El.id (List.getD (Prod.fst (playN x1 x10)) (0 : Nat) default), key := default : LKi }),
 (by (try dsimp only at *); (obtain ⟨q1, q2, q3, q4, q5⟩ := playN_ok h7 h11; first | omega | exact q1.n)),
 ⟨⟨rfl,
 rfl⟩,
 rfl,
 trivial⟩,
 ⟨⟨⟨Nat.le_refl _⟩,
 RowsEq.rfl'⟩,
 trivial⟩,
 ⟨(by (try dsimp only at *); omega),
 (by (try dsimp only at *); (obtain ⟨q1, q2, q3, q4, q5⟩ := playN_ok h7 h11; first | omega | exact q1.n))⟩,
 (x10 + (1 : Nat)),
 (by (try dsimp only at *); (obtain ⟨q1, q2, q3, q4, q5⟩ := playN_ok h7 h11; first | omega | exact q1.n)),
 (by (try dsimp only at *); (obtain ⟨q1, q2, q3, q4, q5⟩ := playN_ok h7 h11; first | omega | exact q1.n)),
 ⟨(by (try dsimp only at *); omega),
 ⟨rfl,
 rfl⟩,
 ⟨rfl,
 (by (try dsimp only at *); rfl)⟩,
 rfl,
 ⟨rfl,
 rfl⟩,
 rfl,
 ⟨rfl,
 rfl⟩,
 trivial⟩,
 ⟨⟨rfl,
 (by (try dsimp only at *); rfl)⟩,
 trivial,
 trivial⟩,
 ⟨⟨(by (try dsimp only at *); exact Nat.le_refl _)⟩,
 (by (try dsimp only at *); exact RowsEq.rfl')⟩,
 (by (try dsimp only at *); exact MapEq.rfl'),
 ⟨⟨(by (try dsimp only at *); exact Nat.le_refl _)⟩,
 (by (try dsimp only at *); exact RowsEq.rfl')⟩,
 ⟨(by (try dsimp only at *); rfl),
 (by (try dsimp only at *); rfl),
 trivial⟩,
 ⟨⟨Nat.le_refl _⟩,
 RowsEq.rfl'⟩,
 trivial⟩⟩,
 fun g24 => have h24 := of_decide_eq_false g24; ⟨({ l := Prod.snd (playN x1 x10), id := El.id (List.getD (Prod.fst (playN x1 x10)) (0 : Nat) default), key := default : LKi }),
 (by (try dsimp only at *); (obtain ⟨q1, q2, q3, q4, q5⟩ := playN_ok h7 h11; first | omega | exact q1.n)),
 ⟨⟨rfl,
 rfl⟩,
 rfl,
 trivial⟩,
 ⟨⟨⟨Nat.le_refl _⟩,
 RowsEq.rfl'⟩,
 trivial⟩,
 ⟨(by (try dsimp only at *); omega),
 (by (try dsimp only at *); omega)⟩,
 (x10 + (1 : Nat)),
 (by (try dsimp only at *); (obtain ⟨q1, q2, q3, q4, q5⟩ := playN_ok h7 h11; first | omega | exact q1.n)),
 (by (try dsimp only at *); (obtain ⟨q1, q2, q3, q4, q5⟩ := playN_ok h7 h11; first | omega | exact q1.n)),
 ⟨(by (try dsimp only at *); omega),
 ⟨rfl,
 rfl⟩,
 ⟨rfl,
 (by (try dsimp only at *); rfl)⟩,
 rfl,
 ⟨rfl,
 rfl⟩,
 rfl,
 ⟨rfl,
 rfl⟩,
 trivial⟩,
 ⟨⟨rfl,
 (by (try dsimp only at *); rfl)⟩,
 trivial,
 trivial⟩,
 ⟨⟨(by (try dsimp only at *); exact Nat.le_refl _)⟩,
 (by (try dsimp only at *); exact RowsEq.rfl')⟩,
 (by (try dsimp only at *); exact MapEq.rfl'),
 ⟨⟨(by (try dsimp only at *); exact Nat.le_refl _)⟩,
 (by (try dsimp only at *); exact RowsEq.rfl')⟩,
 ⟨(by (try dsimp only at *); rfl),
 (by (try dsimp only at *); rfl),
 trivial⟩,
 ⟨⟨Nat.le_refl _⟩,
 RowsEq.rfl'⟩,
 trivial⟩⟩,
 fun g27 => have h27 := of_decide_eq_true g27; ⟨(by (try dsimp only at *); (obtain ⟨q1, q2, q3, q4, q5⟩ := playN_ok h7 h11; have hk : x10 < (hK x1 x1.length).length := (by omega); obtain ⟨r1, r2, r3⟩ := playN_in hk; exfalso; first | (simp_all; done) | (have r4 := r3 (by omega); simp_all; done) | (have : (playN x1 x10).1.length ≠ 0 := (by omega); simp_all; done))),
 trivial⟩⟩,
 fun h28 => ⟨(by (try dsimp only at *); (obtain ⟨q1, q2, q3, q4, q5⟩ := playN_ok h7 h11; have hk : x10 < (hK x1 x1.length).length := (by omega); obtain ⟨r1, r2, r3⟩ := playN_in hk; exfalso; first | (simp_all; done) | (have r4 := r3 (by omega); simp_all; done) | (have : (playN x1 x10).1.length ≠ 0 := (by omega); simp_all; done))),
 trivial⟩⟩,
 fun h29 => ⟨(by (try dsimp only at *); (obtain ⟨q1, q2, q3, q4, q5⟩ := playN_ok h7 h11; have hk : x10 < (hK x1 x1.length).length := (by omega); obtain ⟨r1, r2, r3⟩ := playN_in hk; exfalso; first | (simp_all; done) | (have r4 := r3 (by omega); simp_all; done) | (have : (playN x1 x10).1.length ≠ 0 := (by omega); simp_all; done))),
 trivial⟩⟩,
 fun g30 => have h30 := of_decide_eq_false g30; ⟨(Prod.fst (playN x1 x10)),
 ⟨(by (try dsimp only at *); (obtain ⟨q1, q2, q3, q4, q5⟩ := playN_ok h7 h11; first | omega | exact q1.n)),
 (by (try dsimp only at *); (obtain ⟨q1, q2, q3, q4, q5⟩ := playN_ok h7 h11; first | omega | exact q1.n))⟩,
 ⟨⟨rfl,
 rfl⟩,
 trivial⟩,
 ⟨⟨⟨rfl,
 rfl⟩,
 trivial,
 trivial⟩,
 ⟨⟨Nat.le_refl _⟩,
 RowsEq.rfl'⟩,
 MapEq.rfl',
 trivial⟩,
 fun g32 => have h32 := of_decide_eq_true g32; ⟨fun g33 => have h33 := of_decide_eq_true g33; ⟨fun g34 => have h34 := of_decide_eq_true g34; ⟨fun h35 => ⟨(popF lti (Prod.fst (playN x1 x10))),
 trivial,
 ⟨⟨rfl,
 rfl⟩,
 trivial⟩,
 ⟨⟨⟨rfl,
 rfl⟩,
 trivial,
 trivial⟩,
 ⟨⟨Nat.le_refl _⟩,
 RowsEq.rfl'⟩,
 MapEq.rfl',
 trivial⟩,
 (by (try dsimp only at *); (obtain ⟨q1, q2, q3, q4, q5⟩ := playN_ok h7 h11; have e0 : (playN x1 x10).1.length = 0 := (by omega); have e1 := getD_nil e0; have e2 := popF_nili e0; have z : (default : Line) = ⟨0, 0⟩ := rfl; first | (simp_all; done) | (exfalso; simp_all; done))),
 trivial⟩,
 fun h37 => ⟨(by (try dsimp only at *); (obtain ⟨q1, q2, q3, q4, q5⟩ := playN_ok h7 h11; have e0 : (playN x1 x10).1.length = 0 := (by omega); have e1 := getD_nil e0; have e2 := popF_nili e0; have z : (default : Line) = ⟨0, 0⟩ := rfl; first | (simp_all; done) | (exfalso; simp_all; done))),
 trivial⟩⟩,
 fun g38 => have h38 := of_decide_eq_false g38; ⟨(by (try dsimp only at *); (obtain ⟨q1, q2, q3, q4, q5⟩ := playN_ok h7 h11; have e0 : (playN x1 x10).1.length = 0 := (by omega); have e1 := getD_nil e0; have e2 := popF_nili e0; have z : (default : Line) = ⟨0, 0⟩ := rfl; first | (simp_all; done) | (exfalso; simp_all; done))),
 trivial⟩⟩,
 fun g39 => have h39 := of_decide_eq_false g39; ⟨(by (try dsimp only at *); (obtain ⟨q1, q2, q3, q4, q5⟩ := playN_ok h7 h11; have e0 : (playN x1 x10).1.length = 0 := (by omega); have e1 := getD_nil e0; have e2 := popF_nili e0; have z : (default : Line) = ⟨0, 0⟩ := rfl; first | (simp_all; done) | (exfalso; simp_all; done))),
 trivial⟩⟩,
 fun g40 => have h40 := of_decide_eq_false g40; ⟨(by (try dsimp only at *); (obtain ⟨q1, q2, q3, q4, q5⟩ := playN_ok h7 h11; first | omega | exact q1.n)),
 trivial⟩⟩⟩⟩⟩⟩)

theorem order_good : Good Try.prog 3 orderC ∧ FnOk Try.prog 3 := good_of (c := ⟨T, [], Cl, noInv, 16⟩) tok (ConL.ok conl) (fn := Try.f3) rfl (by decide +kernel) (fun _ => rfl) order_keeps
/-! HeapRemoval. -/
structure RemX where
  l : List Act
  id : Int
def RemX.h (x : RemX) : List Line := delFi (hK x.l x.l.length) x.id
def RemX.x (x : RemX) : List Line := dropI (xK x.l x.l.length) x.id
def RemX.at (x : RemX) (k : Nat) : List Line × List Line := popN x.h x.x k
theorem RemX.t (x : RemX) : Twin x.h x.x := (twinK x.l x.l.length (Nat.le_refl _)).1.del x.id
theorem RemX.out (x : RemX) : x.id ∉ ids x.h := by
  intro h
  have h1 := (ids_perm (delF_wo (twinK x.l x.l.length (Nat.le_refl _)).1.n x.id)).mem_iff.1 h
  obtain ⟨e, he, h2⟩ := List.mem_map.1 h1
  unfold wo at he
  rw [List.mem_filter] at he
  simp [h2] at he
theorem RemX.again (x : RemX) : delFi x.h x.id = x.h := delF_outi x.out
theorem RemX.ok (x : RemX) (hl : ¬ 100 < (x.l.length : Int)) {k : Nat} (hk : k ≤ x.h.length) : Twin (x.at k).1 (x.at k).2 ∧ (x.at k).1.length = x.h.length - k ∧ (x.at k).2.length = x.h.length - k ∧ x.h.length ≤ 100 ∧ x.x.length = x.h.length ∧ (hK x.l x.l.length).length ≤ 100 ∧ (xK x.l x.l.length).length ≤ 100 := by
  obtain ⟨t, h1⟩ := twinK x.l x.l.length (Nat.le_refl _)
  have t2 := twinN x.t k hk
  have h2 := popN_len (h := x.h) (x := x.x) k
  have h3 := (delF_wo t.n x.id).length_eq
  have h4 : (wo (hK x.l x.l.length) x.id).length ≤ (hK x.l x.l.length).length := List.length_filter_le _ _
  have h5 : x.h.length = (wo (hK x.l x.l.length) x.id).length := h3
  have h6 := t.len
  refine ⟨t2, h2, ?_, by omega, x.t.len.symm, by omega, by omega⟩
  exact t2.len.symm.trans h2
def remLC : CT where
  X := RemX
  pre := fun _ => True
  args := fun x => [.sl 100000 0 x.l.length, .i .i64 x.id]
  g0 := fun x => [(100000, .rows .bor kA x.l.length (encL encAct x.l))]
  res := fun _ => .b true
  g1 := fun _ => []
def remLI (x : RemX) (id : Nat) : Option Inv := match id with
  | 0 => some { X := Nat, ok := fun k => k ≤ x.h.length, fr := fun k => [(57, .i .i64 k), (5, .p 1 0 0), (6, .sl 4 0 (x.at k).2.length)], hp := fun k => heapL 1 2 3 (x.at k).1 ++ [refB 4 (x.at k).2], me := fun k => x.h.length - k }
  | _ => none
set_option maxHeartbeats 1000000 in
set_option maxRecDepth 100000 in
theorem remL_keeps : Keeps ⟨T, [], Cl, noInv, 16⟩ Try.f8 remLC remLI := Eq.mp (show ((∀ x1 : RemX,
 ((True) →
 (∃ x3 : Unit,
 ((True) ∧
 ((True) ∧
 ((True) ∧
 (((false = true) →
 ((false = true) ∧
 (True))) ∧
 ((false = false) →
 (((decide ((100 : Int) < (↑(List.length (RemX.l x1)) : Int)) = true) →
 ((true = true) ∧
 (True))) ∧
 ((decide ((100 : Int) < (↑(List.length (RemX.l x1)) : Int)) = false) →
 (∃ x8 : List Act,
 ((List.length x8 ≤ (100 : Nat)) ∧
 (((((0 : Nat) = (0 : Nat)) ∧
 (List.length (RemX.l x1) = List.length x8)) ∧
 (True)) ∧
 ((((RLe (List.length x8) (List.length (RemX.l x1))) ∧
 (RowsEq (Kd.int IntKind.u8 :: Kd.int IntKind.i64 :: Kd.int IntKind.i64 :: @List.nil Kd) (List.length x8) (encL encAct (RemX.l x1)) (encL encAct x8))) ∧
 (True)) ∧
 (∃ x9 : LKi,
 ((List.length (LKi.l x9) ≤ (1000000 : Nat)) ∧
 (((((0 : Nat) = (0 : Nat)) ∧
 (List.length (xK x8 (List.length x8)) = List.length (LKi.l x9))) ∧
 ((RemX.id x1 = LKi.id x9) ∧
 (True))) ∧
 ((((RLe (List.length (LKi.l x9)) (List.length (xK x8 (List.length x8)))) ∧
 (RowsEq (Kd.int IntKind.i64 :: Kd.int IntKind.i64 :: @List.nil Kd) (List.length (LKi.l x9)) (encL encEi (xK x8 (List.length x8))) (encL encEi (LKi.l x9)))) ∧
 (True)) ∧
 (∃ x10 : LKi,
 (((List.Nodup (ids (LKi.l x10))) ∧
 (List.length (LKi.l x10) ≤ (1000000 : Nat))) ∧
 (((((0 : Nat) = (0 : Nat)) ∧
 ((0 : Nat) = (0 : Nat))) ∧
 ((RemX.id x1 = LKi.id x10) ∧
 (True))) ∧
 ((((((0 : Nat) = (0 : Nat)) ∧
 (List.length (hK x8 (List.length x8)) = List.length (LKi.l x10))) ∧
 ((True) ∧
 (True))) ∧
 (((RLe (List.length (LKi.l x10)) (List.length (hK x8 (List.length x8)))) ∧
 (RowsEq (Kd.int IntKind.i64 :: Kd.int IntKind.i64 :: @List.nil Kd) (List.length (LKi.l x10)) (encL encEi (hK x8 (List.length x8))) (encL encEi (LKi.l x10)))) ∧
 ((MapEq (Kd.int IntKind.i64 :: @List.nil Kd) (ids (hK x8 (List.length x8))) (ids (LKi.l x10)) (posD (hK x8 (List.length x8))) (posD (LKi.l x10))) ∧
 (True)))) ∧
 ((((decide (LKi.id x10 ∈ ids (LKi.l x10)) != decide (LKi.id x9 ∈ ids (LKi.l x9))) = false) →
 (∃ x12 : LKi,
 (((List.Nodup (ids (LKi.l x12))) ∧
 (List.length (LKi.l x12) ≤ (1000000 : Nat))) ∧
 (((((0 : Nat) = (0 : Nat)) ∧
 ((0 : Nat) = (0 : Nat))) ∧
 ((RemX.id x1 = LKi.id x12) ∧
 (True))) ∧
 ((((((0 : Nat) = (0 : Nat)) ∧
 (List.length (delFi (LKi.l x10) (LKi.id x10)) = List.length (LKi.l x12))) ∧
 ((True) ∧
 (True))) ∧
 (((RLe (List.length (LKi.l x12)) (List.length (delFi (LKi.l x10) (LKi.id x10)))) ∧
 (RowsEq (Kd.int IntKind.i64 :: Kd.int IntKind.i64 :: @List.nil Kd) (List.length (LKi.l x12)) (encL encEi (delFi (LKi.l x10) (LKi.id x10))) (encL encEi (LKi.l x12)))) ∧
 ((MapEq (Kd.int IntKind.i64 :: @List.nil Kd) (ids (delFi (LKi.l x10) (LKi.id x10))) (ids (LKi.l x12)) (posD (delFi (LKi.l x10) (LKi.id x10))) (posD (LKi.l x12))) ∧
 (True)))) ∧
 (((decide (LKi.id x12 ∈ ids (LKi.l x12)) = true) →
 ((false = true) ∧
 (True))) ∧
 ((decide (LKi.id x12 ∈ ids (LKi.l x12)) = false) →
 (∃ x15 : LKi,
 ((True) ∧
 (((((0 : Nat) = (0 : Nat)) ∧
 ((0 : Nat) = (0 : Nat))) ∧
 ((RemX.id x1 = LKi.id x15) ∧
 (True))) ∧
 ((((((0 : Nat) = (0 : Nat)) ∧
 (List.length (delFi (LKi.l x12) (LKi.id x12)) = List.length (LKi.l x15))) ∧
 ((True) ∧
 (True))) ∧
 (((RLe (List.length (LKi.l x15)) (List.length (delFi (LKi.l x12) (LKi.id x12)))) ∧
 (RowsEq (Kd.int IntKind.i64 :: Kd.int IntKind.i64 :: @List.nil Kd) (List.length (LKi.l x15)) (encL encEi (delFi (LKi.l x12) (LKi.id x12))) (encL encEi (LKi.l x15)))) ∧
 ((MapEq (Kd.int IntKind.i64 :: @List.nil Kd) (ids (delFi (LKi.l x12) (LKi.id x12))) (ids (LKi.l x15)) (posD (delFi (LKi.l x12) (LKi.id x12))) (posD (LKi.l x15))) ∧
 (True)))) ∧
 (((decide (LKi.id x15 ∈ ids (LKi.l x15)) = true) →
 ((false = true) ∧
 (True))) ∧
 ((decide (LKi.id x15 ∈ ids (LKi.l x15)) = false) →
 (∃ x18 : LKi,
 ((List.length (LKi.l x18) ≤ (1000000 : Nat)) ∧
 (((((0 : Nat) = (0 : Nat)) ∧
 (List.length (xK x8 (List.length x8)) = List.length (LKi.l x18))) ∧
 ((RemX.id x1 = LKi.id x18) ∧
 (True))) ∧
 ((((RLe (List.length (LKi.l x18)) (List.length (xK x8 (List.length x8)))) ∧
 (RowsEq (Kd.int IntKind.i64 :: Kd.int IntKind.i64 :: @List.nil Kd) (List.length (LKi.l x18)) (encL encEi (xK x8 (List.length x8))) (encL encEi (LKi.l x18)))) ∧
 (True)) ∧
 (∃ x19 : Nat,
 (((x19 ≤ List.length (RemX.h x1)) ∧
 ((((0 : Int) = (↑x19 : Int)) ∧
 ((((0 : Nat) = (0 : Nat)) ∧
 ((0 : Nat) = (0 : Nat))) ∧
 ((((0 : Nat) = (0 : Nat)) ∧
 (List.length (dropI (LKi.l x18) (LKi.id x18)) = List.length (Prod.snd (RemX.at x1 x19)))) ∧
 (((↑(List.length (dropI (LKi.l x18) (LKi.id x18))) : Int) = (↑(List.length (dropI (LKi.l x18) (LKi.id x18))) : Int)) ∧
 ((decide (LKi.id x15 ∈ ids (LKi.l x15)) = decide (LKi.id x15 ∈ ids (LKi.l x15))) ∧
 ((keyOfi (LKi.l x15) (LKi.id x15) = keyOfi (LKi.l x15) (LKi.id x15)) ∧
 ((decide (LKi.id x9 ∈ ids (LKi.l x9)) = decide (LKi.id x9 ∈ ids (LKi.l x9))) ∧
 ((keyOfi (LKi.l x9) (LKi.id x9) = keyOfi (LKi.l x9) (LKi.id x9)) ∧
 ((((0 : Nat) = (0 : Nat)) ∧
 (List.length (RemX.l x1) = List.length (RemX.l x1))) ∧
 ((RemX.id x1 = RemX.id x1) ∧
 (True))))))))))) ∧
 (((((0 : Nat) = (0 : Nat)) ∧
 (List.length (delFi (LKi.l x12) (LKi.id x12)) = List.length (Prod.fst (RemX.at x1 x19)))) ∧
 ((True) ∧
 (True))) ∧
 (((RLe (List.length (Prod.fst (RemX.at x1 x19))) (List.length (delFi (LKi.l x12) (LKi.id x12)))) ∧
 (RowsEq (Kd.int IntKind.i64 :: Kd.int IntKind.i64 :: @List.nil Kd) (List.length (Prod.fst (RemX.at x1 x19))) (encL encEi (delFi (LKi.l x12) (LKi.id x12))) (encL encEi (Prod.fst (RemX.at x1 x19))))) ∧
 ((MapEq (Kd.int IntKind.i64 :: @List.nil Kd) (ids (delFi (LKi.l x12) (LKi.id x12))) (ids (Prod.fst (RemX.at x1 x19))) (posD (delFi (LKi.l x12) (LKi.id x12))) (posD (Prod.fst (RemX.at x1 x19)))) ∧
 (((RLe (List.length (Prod.snd (RemX.at x1 x19))) (List.length (dropI (LKi.l x18) (LKi.id x18)))) ∧
 (RowsEq (Kd.int IntKind.i64 :: Kd.int IntKind.i64 :: @List.nil Kd) (List.length (Prod.snd (RemX.at x1 x19))) (encL encEi (dropI (LKi.l x18) (LKi.id x18))) (encL encEi (Prod.snd (RemX.at x1 x19))))) ∧
 (((RLe (List.length (xK x8 (List.length x8))) (List.length (xK x8 (List.length x8)))) ∧
 (RowsEq (Kd.int IntKind.i64 :: Kd.int IntKind.i64 :: @List.nil Kd) (List.length (xK x8 (List.length x8))) (encL encEi (xK x8 (List.length x8))) (encL encEi (xK x8 (List.length x8))))) ∧
 (((RLe (List.length (RemX.l x1)) (List.length (RemX.l x1))) ∧
 (RowsEq (Kd.int IntKind.u8 :: Kd.int IntKind.i64 :: Kd.int IntKind.i64 :: @List.nil Kd) (List.length (RemX.l x1)) (encL encAct (RemX.l x1)) (encL encAct (RemX.l x1)))) ∧
 (True))))))))) ∧
 (∀ x20 : Nat,
 ((x20 ≤ List.length (RemX.h x1)) →
 (((decide ((↑x20 : Int) < (↑(List.length (dropI (LKi.l x18) (LKi.id x18))) : Int)) = true) →
 (∃ x23 : List Line,
 ((List.length x23 ≤ (1000000 : Nat)) ∧
 (((((0 : Nat) = (0 : Nat)) ∧
 (List.length (Prod.snd (RemX.at x1 x20)) = List.length x23)) ∧
 (True)) ∧
 ((((RLe (List.length x23) (List.length (Prod.snd (RemX.at x1 x20)))) ∧
 (RowsEq (Kd.int IntKind.i64 :: Kd.int IntKind.i64 :: @List.nil Kd) (List.length x23) (encL encEi (Prod.snd (RemX.at x1 x20))) (encL encEi x23))) ∧
 (True)) ∧
 (∃ x24 : List (El Int),
 (((List.Nodup (ids x24)) ∧
 (List.length x24 ≤ (1000000 : Nat))) ∧
 (((((0 : Nat) = (0 : Nat)) ∧
 ((0 : Nat) = (0 : Nat))) ∧
 (True)) ∧
 ((((((0 : Nat) = (0 : Nat)) ∧
 (List.length (Prod.fst (RemX.at x1 x20)) = List.length x24)) ∧
 ((True) ∧
 (True))) ∧
 (((RLe (List.length x24) (List.length (Prod.fst (RemX.at x1 x20)))) ∧
 (RowsEq (Kd.int IntKind.i64 :: Kd.int IntKind.i64 :: @List.nil Kd) (List.length x24) (encL encEi (Prod.fst (RemX.at x1 x20))) (encL encEi x24))) ∧
 ((MapEq (Kd.int IntKind.i64 :: @List.nil Kd) (ids (Prod.fst (RemX.at x1 x20))) (ids x24) (posD (Prod.fst (RemX.at x1 x20))) (posD x24)) ∧
 (True)))) ∧
 (((decide (El.id (List.getD x24 (0 : Nat) default) ≠ El.id (topK x23 (List.length x23))) = false) →
 (((decide (El.key (List.getD x24 (0 : Nat) default) ≠ El.key (topK x23 (List.length x23))) = false) →
 ((((!decide (List.length x24 ≠ (0 : Nat))) = true) →
 ((false = true) ∧
 (True))) ∧
 (((!decide (List.length x24 ≠ (0 : Nat))) = false) →
 (∃ x29 : LKi,
 ((List.length (LKi.l x29) ≤ (1000000 : Nat)) ∧
 (((((0 : Nat) = (0 : Nat)) ∧
 (List.length (Prod.snd (RemX.at x1 x20)) = List.length (LKi.l x29))) ∧
 ((El.id (topK x23 (List.length x23)) = LKi.id x29) ∧
 (True))) ∧
 ((((RLe (List.length (LKi.l x29)) (List.length (Prod.snd (RemX.at x1 x20)))) ∧
 (RowsEq (Kd.int IntKind.i64 :: Kd.int IntKind.i64 :: @List.nil Kd) (List.length (LKi.l x29)) (encL encEi (Prod.snd (RemX.at x1 x20))) (encL encEi (LKi.l x29)))) ∧
 (True)) ∧
 ((((-9223372036854775808 : Int) ≤ (↑x20 : Int) + (1 : Int)) ∧
 ((↑x20 : Int) + (1 : Int) ≤ (9223372036854775807 : Int))) ∧
 (∃ x30 : Nat,
 ((List.length (RemX.h x1) - x30 < List.length (RemX.h x1) - x20) ∧
 ((x30 ≤ List.length (RemX.h x1)) ∧
 ((((↑x20 : Int) + (1 : Int) = (↑x30 : Int)) ∧
 ((((0 : Nat) = (0 : Nat)) ∧
 ((0 : Nat) = (0 : Nat))) ∧
 ((((0 : Nat) = (0 : Nat)) ∧
 (List.length (dropI (LKi.l x29) (LKi.id x29)) = List.length (Prod.snd (RemX.at x1 x30)))) ∧
 (((↑(List.length (dropI (LKi.l x18) (LKi.id x18))) : Int) = (↑(List.length (dropI (LKi.l x18) (LKi.id x18))) : Int)) ∧
 ((decide (LKi.id x15 ∈ ids (LKi.l x15)) = decide (LKi.id x15 ∈ ids (LKi.l x15))) ∧
 ((keyOfi (LKi.l x15) (LKi.id x15) = keyOfi (LKi.l x15) (LKi.id x15)) ∧
 ((decide (LKi.id x9 ∈ ids (LKi.l x9)) = decide (LKi.id x9 ∈ ids (LKi.l x9))) ∧
 ((keyOfi (LKi.l x9) (LKi.id x9) = keyOfi (LKi.l x9) (LKi.id x9)) ∧
 ((((0 : Nat) = (0 : Nat)) ∧
 (List.length (RemX.l x1) = List.length (RemX.l x1))) ∧
 ((RemX.id x1 = RemX.id x1) ∧
 (True))))))))))) ∧
 (((((0 : Nat) = (0 : Nat)) ∧
 (List.length (popF lti x24) = List.length (Prod.fst (RemX.at x1 x30)))) ∧
 ((True) ∧
 (True))) ∧
 (((RLe (List.length (Prod.fst (RemX.at x1 x30))) (List.length (popF lti x24))) ∧
 (RowsEq (Kd.int IntKind.i64 :: Kd.int IntKind.i64 :: @List.nil Kd) (List.length (Prod.fst (RemX.at x1 x30))) (encL encEi (popF lti x24)) (encL encEi (Prod.fst (RemX.at x1 x30))))) ∧
 ((MapEq (Kd.int IntKind.i64 :: @List.nil Kd) (ids (popF lti x24)) (ids (Prod.fst (RemX.at x1 x30))) (posD (popF lti x24)) (posD (Prod.fst (RemX.at x1 x30)))) ∧
 (((RLe (List.length (Prod.snd (RemX.at x1 x30))) (List.length (dropI (LKi.l x29) (LKi.id x29)))) ∧
 (RowsEq (Kd.int IntKind.i64 :: Kd.int IntKind.i64 :: @List.nil Kd) (List.length (Prod.snd (RemX.at x1 x30))) (encL encEi (dropI (LKi.l x29) (LKi.id x29))) (encL encEi (Prod.snd (RemX.at x1 x30))))) ∧
 (((RLe (List.length (xK x8 (List.length x8))) (List.length (xK x8 (List.length x8)))) ∧
 (RowsEq (Kd.int IntKind.i64 :: Kd.int IntKind.i64 :: @List.nil Kd) (List.length (xK x8 (List.length x8))) (encL encEi (xK x8 (List.length x8))) (encL encEi (xK x8 (List.length x8))))) ∧
 (((RLe (List.length (RemX.l x1)) (List.length (RemX.l x1))) ∧
 (RowsEq (Kd.int IntKind.u8 :: Kd.int IntKind.i64 :: Kd.int IntKind.i64 :: @List.nil Kd) (List.length (RemX.l x1)) (encL encAct (RemX.l x1)) (encL encAct (RemX.l x1)))) ∧
 (True))))))))))))))))))) ∧
 ((decide (El.key (List.getD x24 (0 : Nat) default) ≠ El.key (topK x23 (List.length x23))) = true) →
 ((false = true) ∧
 (True))))) ∧
 ((decide (El.id (List.getD x24 (0 : Nat) default) ≠ El.id (topK x23 (List.length x23))) = true) →
 ((false = true) ∧
 (True))))))))))))) ∧
 ((decide ((↑x20 : Int) < (↑(List.length (dropI (LKi.l x18) (LKi.id x18))) : Int)) = false) →
 (∃ x34 : List (El Int),
 ((True) ∧
 (((((0 : Nat) = (0 : Nat)) ∧
 ((0 : Nat) = (0 : Nat))) ∧
 (True)) ∧
 ((((((0 : Nat) = (0 : Nat)) ∧
 (List.length (Prod.fst (RemX.at x1 x20)) = List.length x34)) ∧
 ((True) ∧
 (True))) ∧
 (((RLe (List.length x34) (List.length (Prod.fst (RemX.at x1 x20)))) ∧
 (RowsEq (Kd.int IntKind.i64 :: Kd.int IntKind.i64 :: @List.nil Kd) (List.length x34) (encL encEi (Prod.fst (RemX.at x1 x20))) (encL encEi x34))) ∧
 ((MapEq (Kd.int IntKind.i64 :: @List.nil Kd) (ids (Prod.fst (RemX.at x1 x20))) (ids x34) (posD (Prod.fst (RemX.at x1 x20))) (posD x34)) ∧
 (True)))) ∧
 ((decide ((↑(List.length x34) : Int) = (0 : Int)) = true) ∧
 (True))))))))))))))))))))))))))))) ∧
 (((decide (LKi.id x10 ∈ ids (LKi.l x10)) != decide (LKi.id x9 ∈ ids (LKi.l x9))) = true) →
 ((false = true) ∧
 (True))))))))))))))))))))))))))) = Keeps ⟨T, [], Cl, noInv, 16⟩ Try.f8 remLC remLI by kernel_rfl) (fun x1 => fun h2 => ⟨(default),
 trivial,
 trivial,
 trivial,
 fun h4 => ⟨(by (try dsimp only at *); omega),
 trivial⟩,
 fun h5 => ⟨fun g6 => have h6 := of_decide_eq_true g6; ⟨rfl,
 trivial⟩,
 fun g7 => have h7 := of_decide_eq_false g7; ⟨(RemX.l x1),
 (by (try dsimp only at *); omega),
 ⟨⟨rfl,
 rfl⟩,
 trivial⟩,
 ⟨⟨⟨Nat.le_refl _⟩,
 RowsEq.rfl'⟩,
 trivial⟩,
 ({ l := xK (RemX.l x1) (List.length (RemX.l x1)), id := RemX.id x1, key := default : LKi }),
 (by (try dsimp only at *); (obtain ⟨t, hl⟩ := twinK x1.l x1.l.length (Nat.le_refl _); have t2 := x1.t; obtain ⟨q1,q2,q3,q4,q5,q6,q7⟩ := x1.ok h7 (k := 0) (Nat.zero_le _); have a1 := t.len; have ag := x1.again; have ao := x1.out; have am := t.mem x1.id; simp only [RemX.h] at ag ao t2 q4 q5; first | omega | exact t.n | exact t2.n | (simp only [ag]; first | exact Nat.le_refl _ | exact MapEq.rfl' | exact RowsEq.rfl' | rfl) | (exfalso; simp_all; done))),
 ⟨⟨rfl,
 rfl⟩,
 rfl,
 trivial⟩,
 ⟨⟨⟨Nat.le_refl _⟩,
 RowsEq.rfl'⟩,
 trivial⟩,
 ({ l := hK (RemX.l x1) (List.length (RemX.l x1)), id := RemX.id x1, key := default : LKi }),
 ⟨(by (try dsimp only at *); (obtain ⟨t, hl⟩ := twinK x1.l x1.l.length (Nat.le_refl _); have t2 := x1.t; obtain ⟨q1,q2,q3,q4,q5,q6,q7⟩ := x1.ok h7 (k := 0) (Nat.zero_le _); have a1 := t.len; have ag := x1.again; have ao := x1.out; have am := t.mem x1.id; simp only [RemX.h] at ag ao t2 q4 q5; first | omega | exact t.n | exact t2.n | (simp only [ag]; first | exact Nat.le_refl _ | exact MapEq.rfl' | exact RowsEq.rfl' | rfl) | (exfalso; simp_all; done))),
 (by (try dsimp only at *); (obtain ⟨t, hl⟩ := twinK x1.l x1.l.length (Nat.le_refl _); have t2 := x1.t; obtain ⟨q1,q2,q3,q4,q5,q6,q7⟩ := x1.ok h7 (k := 0) (Nat.zero_le _); have a1 := t.len; have ag := x1.again; have ao := x1.out; have am := t.mem x1.id; simp only [RemX.h] at ag ao t2 q4 q5; first | omega | exact t.n | exact t2.n | (simp only [ag]; first | exact Nat.le_refl _ | exact MapEq.rfl' | exact RowsEq.rfl' | rfl) | (exfalso; simp_all; done)))⟩,
 ⟨⟨rfl,
 rfl⟩,
 rfl,
 trivial⟩,
 ⟨⟨⟨rfl,
 rfl⟩,
 trivial,
 trivial⟩,
 ⟨⟨Nat.le_refl _⟩,
 RowsEq.rfl'⟩,
 (by (try dsimp only at *); exact MapEq.rfl'),
 trivial⟩,
 fun h11 => ⟨({ l := delFi (hK (RemX.l x1) (List.length (RemX.l x1))) (RemX.id x1), id := RemX.id x1, key := default : LKi }),
 ⟨(by (try dsimp only at *); (obtain ⟨t, hl⟩ := twinK x1.l x1.l.length (Nat.le_refl _); have t2 := x1.t; obtain ⟨q1,q2,q3,q4,q5,q6,q7⟩ := x1.ok h7 (k := 0) (Nat.zero_le _); have a1 := t.len; have ag := x1.again; have ao := x1.out; have am := t.mem x1.id; simp only [RemX.h] at ag ao t2 q4 q5; first | omega | exact t.n | exact t2.n | (simp only [ag]; first | exact Nat.le_refl _ | exact MapEq.rfl' | exact RowsEq.rfl' | rfl) | (exfalso; simp_all; done))),
 (by (try dsimp only at *); (obtain ⟨t, hl⟩ := twinK x1.l x1.l.length (Nat.le_refl _); have t2 := x1.t; obtain ⟨q1,q2,q3,q4,q5,q6,q7⟩ := x1.ok h7 (k := 0) (Nat.zero_le _); have a1 := t.len; have ag := x1.again; have ao := x1.out; have am := t.mem x1.id; simp only [RemX.h] at ag ao t2 q4 q5; first | omega | exact t.n | exact t2.n | (simp only [ag]; first | exact Nat.le_refl _ | exact MapEq.rfl' | exact RowsEq.rfl' | rfl) | (exfalso; simp_all; done)))⟩,
 ⟨⟨rfl,
 rfl⟩,
 rfl,
 trivial⟩,
 ⟨⟨⟨rfl,
 rfl⟩,
 trivial,
 trivial⟩,
 ⟨⟨Nat.le_refl _⟩,
 RowsEq.rfl'⟩,
 (by (try dsimp only at *); exact MapEq.rfl'),
 trivial⟩,
 fun g13 => have h13 := of_decide_eq_true g13; ⟨(by (try dsimp only at *); (obtain ⟨t, hl⟩ := twinK x1.l x1.l.length (Nat.le_refl _); have t2 := x1.t; obtain ⟨q1,q2,q3,q4,q5,q6,q7⟩ := x1.ok h7 (k := 0) (Nat.zero_le _); have a1 := t.len; have ag := x1.again; have ao := x1.out; have am := t.mem x1.id; simp only [RemX.h] at ag ao t2 q4 q5; first | omega | exact t.n | exact t2.n | (simp only [ag]; first | exact Nat.le_refl _ | exact MapEq.rfl' | exact RowsEq.rfl' | rfl) | (exfalso; simp_all; done))),
 trivial⟩,
 fun g14 => have h14 := of_decide_eq_false g14; ⟨({ l := delFi (delFi (hK (RemX.l x1) (List.length (RemX.l x1))) (RemX.id x1)) (RemX.id x1), id := RemX.id x1, key := default : LKi }),
 trivial,
 ⟨⟨rfl,
 rfl⟩,
 rfl,
 trivial⟩,
 ⟨⟨⟨rfl,
 rfl⟩,
 trivial,
 trivial⟩,
 ⟨⟨Nat.le_refl _⟩,
 RowsEq.rfl'⟩,
 (by (try dsimp only at *); exact MapEq.rfl'),
 trivial⟩,
 fun g16 => have h16 := of_decide_eq_true g16; ⟨(by (try dsimp only at *); (obtain ⟨t, hl⟩ := twinK x1.l x1.l.length (Nat.le_refl _); have t2 := x1.t; obtain ⟨q1,q2,q3,q4,q5,q6,q7⟩ := x1.ok h7 (k := 0) (Nat.zero_le _); have a1 := t.len; have ag := x1.again; have ao := x1.out; have am := t.mem x1.id; simp only [RemX.h] at ag ao t2 q4 q5; first | omega | exact t.n | exact t2.n | (simp only [ag]; first | exact Nat.le_refl _ | exact MapEq.rfl' | exact RowsEq.rfl' | rfl) | (exfalso; simp_all; done))),
 trivial⟩,
 fun g17 => have h17 := of_decide_eq_false g17; ⟨({ l := xK (RemX.l x1) (List.length (RemX.l x1)), id := RemX.id x1, key := default : LKi }),
 (by (try dsimp only at *); (obtain ⟨t, hl⟩ := twinK x1.l x1.l.length (Nat.le_refl _); have t2 := x1.t; obtain ⟨q1,q2,q3,q4,q5,q6,q7⟩ := x1.ok h7 (k := 0) (Nat.zero_le _); have a1 := t.len; have ag := x1.again; have ao := x1.out; have am := t.mem x1.id; simp only [RemX.h] at ag ao t2 q4 q5; first | omega | exact t.n | exact t2.n | (simp only [ag]; first | exact Nat.le_refl _ | exact MapEq.rfl' | exact RowsEq.rfl' | rfl) | (exfalso; simp_all; done))),
 ⟨⟨rfl,
 rfl⟩,
 rfl,
 trivial⟩,
 ⟨⟨⟨Nat.le_refl _⟩,
 RowsEq.rfl'⟩,
 trivial⟩,
 ((0 : Nat)),
 ⟨(by (try dsimp only at *); omega),
 ⟨(by (try dsimp only at *); omega),
 ⟨rfl,
 rfl⟩,
 ⟨rfl,
 (by (try dsimp only at *); rfl)⟩,
 rfl,
 rfl,
 rfl,
 rfl,
 rfl,
 ⟨rfl,
 rfl⟩,
 rfl,
 trivial⟩,
 ⟨⟨rfl,
 (by (try dsimp only at *); (obtain ⟨t, hl⟩ := twinK x1.l x1.l.length (Nat.le_refl _); have t2 := x1.t; obtain ⟨q1,q2,q3,q4,q5,q6,q7⟩ := x1.ok h7 (k := 0) (Nat.zero_le _); have a1 := t.len; have ag := x1.again; have ao := x1.out; have am := t.mem x1.id; simp only [RemX.h] at ag ao t2 q4 q5; first | omega | exact t.n | exact t2.n | (simp only [ag]; first | exact Nat.le_refl _ | exact MapEq.rfl' | exact RowsEq.rfl' | rfl) | (exfalso; simp_all; done)))⟩,
 trivial,
 trivial⟩,
 ⟨⟨(by (try dsimp only at *); (obtain ⟨t, hl⟩ := twinK x1.l x1.l.length (Nat.le_refl _); have t2 := x1.t; obtain ⟨q1,q2,q3,q4,q5,q6,q7⟩ := x1.ok h7 (k := 0) (Nat.zero_le _); have a1 := t.len; have ag := x1.again; have ao := x1.out; have am := t.mem x1.id; simp only [RemX.h] at ag ao t2 q4 q5; first | omega | exact t.n | exact t2.n | (simp only [ag]; first | exact Nat.le_refl _ | exact MapEq.rfl' | exact RowsEq.rfl' | rfl) | (exfalso; simp_all; done)))⟩,
 (by (try dsimp only at *); (obtain ⟨t, hl⟩ := twinK x1.l x1.l.length (Nat.le_refl _); have t2 := x1.t; obtain ⟨q1,q2,q3,q4,q5,q6,q7⟩ := x1.ok h7 (k := 0) (Nat.zero_le _); have a1 := t.len; have ag := x1.again; have ao := x1.out; have am := t.mem x1.id; simp only [RemX.h] at ag ao t2 q4 q5; first | omega | exact t.n | exact t2.n | (simp only [ag]; first | exact Nat.le_refl _ | exact MapEq.rfl' | exact RowsEq.rfl' | rfl) | (exfalso; simp_all; done)))⟩,
 (by (try dsimp only at *); (obtain ⟨t, hl⟩ := twinK x1.l x1.l.length (Nat.le_refl _); have t2 := x1.t; obtain ⟨q1,q2,q3,q4,q5,q6,q7⟩ := x1.ok h7 (k := 0) (Nat.zero_le _); have a1 := t.len; have ag := x1.again; have ao := x1.out; have am := t.mem x1.id; simp only [RemX.h] at ag ao t2 q4 q5; first | omega | exact t.n | exact t2.n | (simp only [ag]; first | exact Nat.le_refl _ | exact MapEq.rfl' | exact RowsEq.rfl' | rfl) | (exfalso; simp_all; done))),
 ⟨⟨(by (try dsimp only at *); exact Nat.le_refl _)⟩,
 (by (try dsimp only at *); exact RowsEq.rfl')⟩,
 ⟨⟨Nat.le_refl _⟩,
 RowsEq.rfl'⟩,
 ⟨⟨Nat.le_refl _⟩,
 RowsEq.rfl'⟩,
 trivial⟩,
 fun x20 => fun h21 => ⟨fun g22 => have h22 := of_decide_eq_true g22; ⟨(Prod.snd (RemX.at x1 x20)),
 (by (try dsimp only at *); (obtain ⟨q1,q2,q3,q4,q5,q6,q7⟩ := x1.ok h7 h21; have q8 : (dropI (xK x1.l x1.l.length) x1.id).length = x1.h.length := q5; have tp := q1.top; have sc : (x1.at (x20 + 1)).2 = dropI (x1.at x20).2 ((x1.at x20).1.getD 0 default).id := rfl; rw [tp] at sc; first | omega | exact q1.n | (rw [sc]; done) | (rw [sc]; first | rfl | exact Nat.le_refl _ | exact RowsEq.rfl') | (exfalso; have : (x1.at x20).1.length ≠ 0 := (by omega); simp_all; done) | (exfalso; simp_all; done) | (have : (x1.at x20).1.length = 0 := (by omega); simp_all; done))),
 ⟨⟨rfl,
 rfl⟩,
 trivial⟩,
 ⟨⟨⟨Nat.le_refl _⟩,
 RowsEq.rfl'⟩,
 trivial⟩,
 (Prod.fst (RemX.at x1 x20)),
 ⟨(by (try dsimp only at *); (obtain ⟨q1,q2,q3,q4,q5,q6,q7⟩ := x1.ok h7 h21; have q8 : (dropI (xK x1.l x1.l.length) x1.id).length = x1.h.length := q5; have tp := q1.top; have sc : (x1.at (x20 + 1)).2 = dropI (x1.at x20).2 ((x1.at x20).1.getD 0 default).id := rfl; rw [tp] at sc; first | omega | exact q1.n | (rw [sc]; done) | (rw [sc]; first | rfl | exact Nat.le_refl _ | exact RowsEq.rfl') | (exfalso; have : (x1.at x20).1.length ≠ 0 := (by omega); simp_all; done) | (exfalso; simp_all; done) | (have : (x1.at x20).1.length = 0 := (by omega); simp_all; done))),
 (by (try dsimp only at *); (obtain ⟨q1,q2,q3,q4,q5,q6,q7⟩ := x1.ok h7 h21; have q8 : (dropI (xK x1.l x1.l.length) x1.id).length = x1.h.length := q5; have tp := q1.top; have sc : (x1.at (x20 + 1)).2 = dropI (x1.at x20).2 ((x1.at x20).1.getD 0 default).id := rfl; rw [tp] at sc; first | omega | exact q1.n | (rw [sc]; done) | (rw [sc]; first | rfl | exact Nat.le_refl _ | exact RowsEq.rfl') | (exfalso; have : (x1.at x20).1.length ≠ 0 := (by omega); simp_all; done) | (exfalso; simp_all; done) | (have : (x1.at x20).1.length = 0 := (by omega); simp_all; done)))⟩,
 ⟨⟨rfl,
 rfl⟩,
 trivial⟩,
 ⟨⟨⟨rfl,
 rfl⟩,
 trivial,
 trivial⟩,
 ⟨⟨Nat.le_refl _⟩,
 RowsEq.rfl'⟩,
 MapEq.rfl',
 trivial⟩,
 fun g25 => have h25 := of_decide_eq_false g25; ⟨fun g26 => have h26 := of_decide_eq_false g26; ⟨fun h27 => ⟨(by (try dsimp only at *); (obtain ⟨q1,q2,q3,q4,q5,q6,q7⟩ := x1.ok h7 h21; have q8 : (dropI (xK x1.l x1.l.length) x1.id).length = x1.h.length := q5; have tp := q1.top; have sc : (x1.at (x20 + 1)).2 = dropI (x1.at x20).2 ((x1.at x20).1.getD 0 default).id := rfl; rw [tp] at sc; first | omega | exact q1.n | (rw [sc]; done) | (rw [sc]; first | rfl | exact Nat.le_refl _ | exact RowsEq.rfl') | (exfalso; have : (x1.at x20).1.length ≠ 0 := (by omega); simp_all; done) | (exfalso; simp_all; done) | (have : (x1.at x20).1.length = 0 := (by omega); simp_all; done))),
 trivial⟩,
 fun h28 => ⟨({ l := Prod.snd (RemX.at x1 x20), id := El.id (topK (Prod.snd (RemX.at x1 x20)) (List.length (Prod.snd (RemX.at x1 x20)))), key := default : LKi }),
 (by (try dsimp only at *); (obtain ⟨q1,q2,q3,q4,q5,q6,q7⟩ := x1.ok h7 h21; have q8 : (dropI (xK x1.l x1.l.length) x1.id).length = x1.h.length := q5; have tp := q1.top; have sc : (x1.at (x20 + 1)).2 = dropI (x1.at x20).2 ((x1.at x20).1.getD 0 default).id := rfl; rw [tp] at sc; first | omega | exact q1.n | (rw [sc]; done) | (rw [sc]; first | rfl | exact Nat.le_refl _ | exact RowsEq.rfl') | (exfalso; have : (x1.at x20).1.length ≠ 0 := (by omega); simp_all; done) | (exfalso; simp_all; done) | (have : (x1.at x20).1.length = 0 := (by omega); simp_all; done))),
 ⟨⟨rfl,
 rfl⟩,
 rfl,
 trivial⟩,
 ⟨⟨⟨Nat.le_refl _⟩,
 RowsEq.rfl'⟩,
 trivial⟩,
 ⟨(by (try dsimp only at *); omega),
 (by (try dsimp only at *); (obtain ⟨q1,q2,q3,q4,q5,q6,q7⟩ := x1.ok h7 h21; have q8 : (dropI (xK x1.l x1.l.length) x1.id).length = x1.h.length := q5; have tp := q1.top; have sc : (x1.at (x20 + 1)).2 = dropI (x1.at x20).2 ((x1.at x20).1.getD 0 default).id := rfl; rw [tp] at sc; first | omega | exact q1.n | (rw [sc]; done) | (rw [sc]; first | rfl | exact Nat.le_refl _ | exact RowsEq.rfl') | (exfalso; have : (x1.at x20).1.length ≠ 0 := (by omega); simp_all; done) | (exfalso; simp_all; done) | (have : (x1.at x20).1.length = 0 := (by omega); simp_all; done)))⟩,
 (x20 + (1 : Nat)),
 (by (try dsimp only at *); (obtain ⟨q1,q2,q3,q4,q5,q6,q7⟩ := x1.ok h7 h21; have q8 : (dropI (xK x1.l x1.l.length) x1.id).length = x1.h.length := q5; have tp := q1.top; have sc : (x1.at (x20 + 1)).2 = dropI (x1.at x20).2 ((x1.at x20).1.getD 0 default).id := rfl; rw [tp] at sc; first | omega | exact q1.n | (rw [sc]; done) | (rw [sc]; first | rfl | exact Nat.le_refl _ | exact RowsEq.rfl') | (exfalso; have : (x1.at x20).1.length ≠ 0 := (by omega); simp_all; done) | (exfalso; simp_all; done) | (have : (x1.at x20).1.length = 0 := (by omega); simp_all; done))),
 (by (try dsimp only at *); (obtain ⟨q1,q2,q3,q4,q5,q6,q7⟩ := x1.ok h7 h21; have q8 : (dropI (xK x1.l x1.l.length) x1.id).length = x1.h.length := q5; have tp := q1.top; have sc : (x1.at (x20 + 1)).2 = dropI (x1.at x20).2 ((x1.at x20).1.getD 0 default).id := rfl; rw [tp] at sc; first | omega | exact q1.n | (rw [sc]; done) | (rw [sc]; first | rfl | exact Nat.le_refl _ | exact RowsEq.rfl') | (exfalso; have : (x1.at x20).1.length ≠ 0 := (by omega); simp_all; done) | (exfalso; simp_all; done) | (have : (x1.at x20).1.length = 0 := (by omega); simp_all; done))),
 ⟨(by (try dsimp only at *); omega),
 ⟨rfl,
 rfl⟩,
 ⟨rfl,
 (by (try dsimp only at *); (obtain ⟨q1,q2,q3,q4,q5,q6,q7⟩ := x1.ok h7 h21; have q8 : (dropI (xK x1.l x1.l.length) x1.id).length = x1.h.length := q5; have tp := q1.top; have sc : (x1.at (x20 + 1)).2 = dropI (x1.at x20).2 ((x1.at x20).1.getD 0 default).id := rfl; rw [tp] at sc; first | omega | exact q1.n | (rw [sc]; done) | (rw [sc]; first | rfl | exact Nat.le_refl _ | exact RowsEq.rfl') | (exfalso; have : (x1.at x20).1.length ≠ 0 := (by omega); simp_all; done) | (exfalso; simp_all; done) | (have : (x1.at x20).1.length = 0 := (by omega); simp_all; done)))⟩,
 rfl,
 rfl,
 rfl,
 rfl,
 rfl,
 ⟨rfl,
 rfl⟩,
 rfl,
 trivial⟩,
 ⟨⟨rfl,
 (by (try dsimp only at *); rfl)⟩,
 trivial,
 trivial⟩,
 ⟨⟨(by (try dsimp only at *); exact Nat.le_refl _)⟩,
 (by (try dsimp only at *); exact RowsEq.rfl')⟩,
 (by (try dsimp only at *); exact MapEq.rfl'),
 ⟨⟨(by (try dsimp only at *); (obtain ⟨q1,q2,q3,q4,q5,q6,q7⟩ := x1.ok h7 h21; have q8 : (dropI (xK x1.l x1.l.length) x1.id).length = x1.h.length := q5; have tp := q1.top; have sc : (x1.at (x20 + 1)).2 = dropI (x1.at x20).2 ((x1.at x20).1.getD 0 default).id := rfl; rw [tp] at sc; first | omega | exact q1.n | (rw [sc]; done) | (rw [sc]; first | rfl | exact Nat.le_refl _ | exact RowsEq.rfl') | (exfalso; have : (x1.at x20).1.length ≠ 0 := (by omega); simp_all; done) | (exfalso; simp_all; done) | (have : (x1.at x20).1.length = 0 := (by omega); simp_all; done)))⟩,
 (by (try dsimp only at *); (obtain ⟨q1,q2,q3,q4,q5,q6,q7⟩ := x1.ok h7 h21; have q8 : (dropI (xK x1.l x1.l.length) x1.id).length = x1.h.length := q5; have tp := q1.top; have sc : (x1.at (x20 + 1)).2 = dropI (x1.at x20).2 ((x1.at x20).1.getD 0 default).id := rfl; rw [tp] at sc; first | omega | exact q1.n | (rw [sc]; done) | (rw [sc]; first | rfl | exact Nat.le_refl _ | exact RowsEq.rfl') | (exfalso; have : (x1.at x20).1.length ≠ 0 := (by omega); simp_all; done) | (exfalso; simp_all; done) | (have : (x1.at x20).1.length = 0 := (by omega); simp_all; done)))⟩,
 ⟨⟨Nat.le_refl _⟩,
 RowsEq.rfl'⟩,
 ⟨⟨Nat.le_refl _⟩,
 RowsEq.rfl'⟩,
 trivial⟩⟩,
 fun g31 => have h31 := of_decide_eq_true g31; ⟨(by (try dsimp only at *); (obtain ⟨q1,q2,q3,q4,q5,q6,q7⟩ := x1.ok h7 h21; have q8 : (dropI (xK x1.l x1.l.length) x1.id).length = x1.h.length := q5; have tp := q1.top; have sc : (x1.at (x20 + 1)).2 = dropI (x1.at x20).2 ((x1.at x20).1.getD 0 default).id := rfl; rw [tp] at sc; first | omega | exact q1.n | (rw [sc]; done) | (rw [sc]; first | rfl | exact Nat.le_refl _ | exact RowsEq.rfl') | (exfalso; have : (x1.at x20).1.length ≠ 0 := (by omega); simp_all; done) | (exfalso; simp_all; done) | (have : (x1.at x20).1.length = 0 := (by omega); simp_all; done))),
 trivial⟩⟩,
 fun g32 => have h32 := of_decide_eq_true g32; ⟨(by (try dsimp only at *); (obtain ⟨q1,q2,q3,q4,q5,q6,q7⟩ := x1.ok h7 h21; have q8 : (dropI (xK x1.l x1.l.length) x1.id).length = x1.h.length := q5; have tp := q1.top; have sc : (x1.at (x20 + 1)).2 = dropI (x1.at x20).2 ((x1.at x20).1.getD 0 default).id := rfl; rw [tp] at sc; first | omega | exact q1.n | (rw [sc]; done) | (rw [sc]; first | rfl | exact Nat.le_refl _ | exact RowsEq.rfl') | (exfalso; have : (x1.at x20).1.length ≠ 0 := (by omega); simp_all; done) | (exfalso; simp_all; done) | (have : (x1.at x20).1.length = 0 := (by omega); simp_all; done))),
 trivial⟩⟩,
 fun g33 => have h33 := of_decide_eq_false g33; ⟨(Prod.fst (RemX.at x1 x20)),
 trivial,
 ⟨⟨rfl,
 rfl⟩,
 trivial⟩,
 ⟨⟨⟨rfl,
 rfl⟩,
 trivial,
 trivial⟩,
 ⟨⟨Nat.le_refl _⟩,
 RowsEq.rfl'⟩,
 MapEq.rfl',
 trivial⟩,
 (by (try dsimp only at *); (obtain ⟨q1,q2,q3,q4,q5,q6,q7⟩ := x1.ok h7 h21; have q8 : (dropI (xK x1.l x1.l.length) x1.id).length = x1.h.length := q5; have tp := q1.top; have sc : (x1.at (x20 + 1)).2 = dropI (x1.at x20).2 ((x1.at x20).1.getD 0 default).id := rfl; rw [tp] at sc; first | omega | exact q1.n | (rw [sc]; done) | (rw [sc]; first | rfl | exact Nat.le_refl _ | exact RowsEq.rfl') | (exfalso; have : (x1.at x20).1.length ≠ 0 := (by omega); simp_all; done) | (exfalso; simp_all; done) | (have : (x1.at x20).1.length = 0 := (by omega); simp_all; done))),
 trivial⟩⟩⟩⟩⟩,
 fun h35 => ⟨(by (try dsimp only at *); (obtain ⟨t, hl⟩ := twinK x1.l x1.l.length (Nat.le_refl _); have t2 := x1.t; obtain ⟨q1,q2,q3,q4,q5,q6,q7⟩ := x1.ok h7 (k := 0) (Nat.zero_le _); have a1 := t.len; have ag := x1.again; have ao := x1.out; have am := t.mem x1.id; simp only [RemX.h] at ag ao t2 q4 q5; first | omega | exact t.n | exact t2.n | (simp only [ag]; first | exact Nat.le_refl _ | exact MapEq.rfl' | exact RowsEq.rfl' | rfl) | (exfalso; simp_all; done))),
 trivial⟩⟩⟩⟩)

theorem remL_good : Good Try.prog 8 remLC ∧ FnOk Try.prog 8 := good_of (c := ⟨T, [], Cl, noInv, 16⟩) tok (ConL.ok conl) (fn := Try.f8) rfl (by decide +kernel) (fun _ => rfl) remL_keeps
end Go.Sym
