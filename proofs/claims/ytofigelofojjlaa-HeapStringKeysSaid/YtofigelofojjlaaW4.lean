/- law03: HeapInsertionOrder: the walk. -/
import Derived.Test.YtofigelofojjlaaW3
import Derived.Test.YtofigelofojjlaaXD
namespace Go.Sym
set_option linter.unusedVariables false
set_option linter.unusedSimpArgs false
open Go.Proofs
/-- The same lines. -/
def SameEls (a b : List Line) : Prop := ∀ e, e ∈ a ↔ e ∈ b
structure HOk (a : List Line) : Prop where
  n : (ids a).Nodup
  o : HeapOk lti a
theorem HOk.put {a : List Line} (h : HOk a) (id key : Int) : HOk (putF lti a id key) := ⟨putF_nodup lti h.n id key, putF_heap lti_ok h.n h.o id key⟩
theorem HOk.nil : HOk [] := ⟨List.nodup_nil, fun i _ h => by simp at h⟩
theorem HOk.pop {a : List Line} (h : HOk a) : HOk (popF lti a) := by
  unfold popF
  split
  · exact h
  · exact ⟨removeF_nodup lti h.n (by omega), removeF_heap lti_ok h.n h.o (by omega)⟩
theorem put_mem {a : List Line} (h : (ids a).Nodup) (id key : Int) (e : Line) : e ∈ putF lti a id key ↔ e = ⟨id, key⟩ ∨ (e ∈ a ∧ e.id ≠ id) := by
  rw [(putF_perm lti a id key).mem_iff, (putBase_wo h id key).mem_iff]
  simp [wo]
theorem pop_mem {a : List Line} (h : (ids a).Nodup) (h0 : a.length ≠ 0) (e : Line) : e ∈ popF lti a ↔ e ∈ a ∧ e.id ≠ (a.getD 0 default).id := by
  rw [(popF_wo h h0).mem_iff]
  simp [wo]
theorem SameEls.empty {a b : List Line} (s : SameEls a b) : a.length = 0 ↔ b.length = 0 := by
  rw [List.length_eq_zero_iff, List.length_eq_zero_iff, List.eq_nil_iff_forall_not_mem, List.eq_nil_iff_forall_not_mem]
  constructor
  · exact fun h e he => h e ((s e).2 he)
  · exact fun h e he => h e ((s e).1 he)
theorem SameEls.top {a b : List Line} (s : SameEls a b) (ha : HOk a) (hb : HOk b) : a.getD 0 default = b.getD 0 default := by
  by_cases h0 : a.length = 0
  · rw [List.length_eq_zero_iff.1 h0, List.length_eq_zero_iff.1 (s.empty.1 h0)]
  · have h1 : b.length ≠ 0 := fun h => h0 (s.empty.2 h)
    have m1 := mem_getD (l := a) (i := 0) (by omega)
    have m2 := mem_getD (l := b) (i := 0) (by omega)
    exact less_tot lti_ok (heap_min_mem lti_ok hb.o ((s _).1 m1)) (heap_min_mem lti_ok ha.o ((s _).2 m2))
theorem SameEls.pop {a b : List Line} (s : SameEls a b) (ha : HOk a) (hb : HOk b) : SameEls (popF lti a) (popF lti b) := by
  by_cases h0 : a.length = 0
  · unfold popF
    rw [if_pos h0, if_pos (s.empty.1 h0)]
    exact s
  · intro e
    rw [pop_mem ha.n h0, pop_mem hb.n (fun h => h0 (s.empty.2 h)), s.top ha hb, s e]
def insJ (n t i : Nat) : Nat := n - 1 - (i + t) % n
def insA (l : List Int) (k : Nat) : List Line := (List.range k).foldl (fun h (i : Nat) => putF lti h (i : Int) (l.getD i default)) []
def insB (l : List Int) (t : Nat) (k : Nat) : List Line := (List.range k).foldl (fun h (i : Nat) => putF lti h (insJ l.length t i : Int) (l.getD (insJ l.length t i) default)) []
theorem insA_succ (l : List Int) (k : Nat) : insA l (k + 1) = putF lti (insA l k) (k : Int) (l.getD k default) := by
  unfold insA; rw [List.range_succ, List.foldl_append]; rfl
theorem insB_succ (l : List Int) (t k : Nat) : insB l t (k + 1) = putF lti (insB l t k) (insJ l.length t k : Int) (l.getD (insJ l.length t k) default) := by
  unfold insB; rw [List.range_succ, List.foldl_append]; rfl
theorem insA_ok (l : List Int) : ∀ k, HOk (insA l k) ∧ (insA l k).length ≤ k ∧ ∀ e, e ∈ insA l k ↔ ∃ i : Nat, i < k ∧ e = ⟨i, l.getD i default⟩
  | 0 => ⟨HOk.nil, by simp [insA], fun e => by simp [insA]⟩
  | k + 1 => by
    obtain ⟨h1, h2, h3⟩ := insA_ok l k
    rw [insA_succ]
    refine ⟨h1.put _ _, ?_, fun e => ?_⟩
    · have e1 := (putF_perm lti (insA l k) (k : Int) (l.getD k default)).length_eq
      have e2 := putBase_length_le (insA l k) (k : Int) (l.getD k default)
      omega
    · rw [put_mem h1.n, h3]
      constructor
      · rintro (rfl | ⟨⟨i, hi, rfl⟩, _⟩)
        · exact ⟨k, by omega, rfl⟩
        · exact ⟨i, by omega, rfl⟩
      · rintro ⟨i, hi, rfl⟩
        by_cases e : i = k
        · subst e; exact .inl rfl
        · exact .inr ⟨⟨i, by omega, rfl⟩, by simp only; omega⟩
theorem insB_ok (l : List Int) (t : Nat) : ∀ k, HOk (insB l t k) ∧ (insB l t k).length ≤ k ∧ ∀ e, e ∈ insB l t k ↔ ∃ i : Nat, i < k ∧ e = ⟨insJ l.length t i, l.getD (insJ l.length t i) default⟩
  | 0 => ⟨HOk.nil, by simp [insB], fun e => by simp [insB]⟩
  | k + 1 => by
    obtain ⟨h1, h2, h3⟩ := insB_ok l t k
    rw [insB_succ]
    refine ⟨h1.put _ _, ?_, fun e => ?_⟩
    · have e1 := (putF_perm lti (insB l t k) (insJ l.length t k : Int) (l.getD (insJ l.length t k) default)).length_eq
      have e2 := putBase_length_le (insB l t k) (insJ l.length t k : Int) (l.getD (insJ l.length t k) default)
      omega
    · rw [put_mem h1.n, h3]
      constructor
      · rintro (rfl | ⟨⟨i, hi, rfl⟩, _⟩)
        · exact ⟨k, by omega, rfl⟩
        · exact ⟨i, by omega, rfl⟩
      · rintro ⟨i, hi, rfl⟩
        by_cases e : insJ l.length t i = insJ l.length t k
        · rw [e]; exact .inl rfl
        · by_cases e2 : i = k
          · subst e2; exact absurd rfl e
          · exact .inr ⟨⟨i, by omega, rfl⟩, by simp only; omega⟩
theorem insJ_lt {n t i : Nat} (h : 0 < n) : insJ n t i < n := by unfold insJ; omega
theorem insJ_onto {n t m : Nat} (hm : m < n) : ∃ i, i < n ∧ insJ n t i = m := by
  refine ⟨(n - 1 - m + (n - t % n)) % n, Nat.mod_lt _ (by omega), ?_⟩
  unfold insJ
  rw [Nat.mod_add_mod]
  have h1 := Nat.mod_lt t (show 0 < n by omega)
  have h2 := Nat.div_add_mod t n
  have e : n - 1 - m + (n - t % n) + t = (n - 1 - m) + n * (1 + t / n) := by
    rw [Nat.mul_add, Nat.mul_one]; omega
  rw [e, Nat.add_mul_mod_self_left, Nat.mod_eq_of_lt (by omega)]
  omega
theorem ins_same (l : List Int) (t : Nat) : SameEls (insA l l.length) (insB l t l.length) := by
  intro e
  rw [(insA_ok l l.length).2.2, (insB_ok l t l.length).2.2]
  constructor
  · rintro ⟨i, hi, rfl⟩
    obtain ⟨j, hj, rfl⟩ := insJ_onto (t := t) hi
    exact ⟨j, hj, rfl⟩
  · rintro ⟨i, hi, rfl⟩
    exact ⟨insJ l.length t i, insJ_lt (by omega), rfl⟩
structure InsX where
  l : List Int
  t : Int
def popK (a : List Line) : Nat → List Line
  | 0 => a
  | k + 1 => popF lti (popK a k)
def InsX.a (x : InsX) (k : Nat) : List Line := popK (insA x.l x.l.length) k
def InsX.b (x : InsX) (k : Nat) : List Line := popK (insB x.l x.t.toNat x.l.length) k
theorem popK_len (a : List Line) : ∀ k, (popK a k).length = a.length - k
  | 0 => rfl
  | k + 1 => by show (popF lti (popK a k)).length = _; rw [popF_len, popK_len a k]; omega
theorem InsX.ok (x : InsX) : ∀ k, HOk (x.a k) ∧ HOk (x.b k) ∧ SameEls (x.a k) (x.b k)
  | 0 => ⟨(insA_ok x.l x.l.length).1, (insB_ok x.l x.t.toNat x.l.length).1, ins_same x.l x.t.toNat⟩
  | k + 1 => by
    obtain ⟨h1, h2, h3⟩ := x.ok k
    exact ⟨h1.pop, h2.pop, h3.pop h1 h2⟩
theorem InsX.len (x : InsX) (k : Nat) : (x.a k).length ≤ x.l.length ∧ (x.b k).length ≤ x.l.length := by
  have h1 := (insA_ok x.l x.l.length).2.1
  have h2 := (insB_ok x.l x.t.toNat x.l.length).2.1
  unfold InsX.a InsX.b
  rw [popK_len, popK_len]
  omega
def insC : CT where
  X := InsX
  pre := fun x => 0 ≤ x.t ∧ x.t ≤ 255
  args := fun x => [.sl 100000 0 x.l.length, .i .u8 x.t]
  g0 := fun x => [(100000, .rows .bor k1 x.l.length (encL encI x.l))]
  res := fun _ => .b true
  g1 := fun _ => []
def insI (x : InsX) (id : Nat) : Option Inv := match id with
  | 0 => some { X := Nat, ok := fun k => k ≤ x.l.length, fr := fun k => [(28, .i .i64 k), (5, .p 1 0 0), (6, .p 4 0 0)], hp := fun k => heapL 1 2 3 (insA x.l k) ++ heapL 4 5 6 (insB x.l x.t.toNat k), me := fun k => x.l.length - k }
  | 2 => some { X := Nat, ok := fun k => k ≤ x.l.length + 1, fr := fun k => [(56, .i .i64 k), (5, .p 1 0 0), (6, .p 4 0 0)], hp := fun k => heapL 1 2 3 (x.a k) ++ heapL 4 5 6 (x.b k), me := fun k => x.l.length + 1 - k }
  | _ => none
theorem insJ_int {n i : Nat} {t : Int} (h0 : 0 ≤ t) (hi : i < n) : (n : Int) - 1 - ((i : Int) + t) % n = (insJ n t.toNat i : Int) := by
  unfold insJ
  have h1 := Nat.mod_lt (i + t.toNat) (show 0 < n by omega)
  have e : ((i : Int) + t) % n = (((i + t.toNat) % n : Nat) : Int) := by
    have e2 : ((i : Int) + t) = ((i + t.toNat : Nat) : Int) := by omega
    rw [e2]
    exact (Int.natCast_emod _ _).symm
  omega
theorem InsX.a_succ (x : InsX) (k : Nat) : x.a (k + 1) = popF lti (x.a k) := rfl
theorem InsX.b_succ (x : InsX) (k : Nat) : x.b (k + 1) = popF lti (x.b k) := rfl
theorem InsX.a_zero (x : InsX) : x.a 0 = insA x.l x.l.length := rfl
theorem InsX.b_zero (x : InsX) : x.b 0 = insB x.l x.t.toNat x.l.length := rfl
set_option maxHeartbeats 1000000 in
set_option maxRecDepth 100000 in
theorem ins_keeps : Keeps ⟨T, [], Cl, noInv, 17⟩ Try.f4 insC insI := Eq.mp (show ((∀ x1 : InsX,
 (((0 : Int) ≤ InsX.t x1 ∧ InsX.t x1 ≤ (255 : Int)) →
 (∃ x3 : Unit,
 ((True) ∧
 ((True) ∧
 ((True) ∧
 (((false = true) →
 ((false = true) ∧
 (True))) ∧
 ((false = false) →
 (((decide ((60 : Int) < (↑(List.length (InsX.l x1)) : Int)) = true) →
 ((true = true) ∧
 (True))) ∧
 ((decide ((60 : Int) < (↑(List.length (InsX.l x1)) : Int)) = false) →
 (∃ x8 : Unit,
 ((True) ∧
 ((True) ∧
 ((True) ∧
 (∃ x9 : Unit,
 ((True) ∧
 ((True) ∧
 ((True) ∧
 (∃ x10 : Nat,
 (((x10 ≤ List.length (InsX.l x1)) ∧
 ((((0 : Int) = (↑x10 : Int)) ∧
 ((((0 : Nat) = (0 : Nat)) ∧
 ((0 : Nat) = (0 : Nat))) ∧
 ((((0 : Nat) = (0 : Nat)) ∧
 ((0 : Nat) = (0 : Nat))) ∧
 (((↑(List.length (InsX.l x1)) : Int) = (↑(List.length (InsX.l x1)) : Int)) ∧
 ((((0 : Nat) = (0 : Nat)) ∧
 (List.length (InsX.l x1) = List.length (InsX.l x1))) ∧
 (((↑(List.length (InsX.l x1)) : Int) = (↑(List.length (InsX.l x1)) : Int)) ∧
 ((false = false) ∧
 ((((0 : Nat) = (0 : Nat)) ∧
 (List.length (InsX.l x1) = List.length (InsX.l x1))) ∧
 ((InsX.t x1 = InsX.t x1) ∧
 (True)))))))))) ∧
 (((((0 : Nat) = (0 : Nat)) ∧
 ((0 : Nat) = List.length (insA (InsX.l x1) x10))) ∧
 ((True) ∧
 (True))) ∧
 (((RLe (List.length (insA (InsX.l x1) x10)) (0 : Nat)) ∧
 (RowsEq (Kd.int IntKind.i64 :: Kd.int IntKind.i64 :: @List.nil Kd) (List.length (insA (InsX.l x1) x10)) (encL encEi (@List.nil (El Int))) (encL encEi (insA (InsX.l x1) x10)))) ∧
 ((MapEq (Kd.int IntKind.i64 :: @List.nil Kd) (@List.nil Int) (ids (insA (InsX.l x1) x10)) (posD (@List.nil (El Int))) (posD (insA (InsX.l x1) x10))) ∧
 (((((0 : Nat) = (0 : Nat)) ∧
 ((0 : Nat) = List.length (insB (InsX.l x1) (Int.toNat (InsX.t x1)) x10))) ∧
 ((True) ∧
 (True))) ∧
 (((RLe (List.length (insB (InsX.l x1) (Int.toNat (InsX.t x1)) x10)) (0 : Nat)) ∧
 (RowsEq (Kd.int IntKind.i64 :: Kd.int IntKind.i64 :: @List.nil Kd) (List.length (insB (InsX.l x1) (Int.toNat (InsX.t x1)) x10)) (encL encEi (@List.nil (El Int))) (encL encEi (insB (InsX.l x1) (Int.toNat (InsX.t x1)) x10)))) ∧
 ((MapEq (Kd.int IntKind.i64 :: @List.nil Kd) (@List.nil Int) (ids (insB (InsX.l x1) (Int.toNat (InsX.t x1)) x10)) (posD (@List.nil (El Int))) (posD (insB (InsX.l x1) (Int.toNat (InsX.t x1)) x10))) ∧
 (((RLe (List.length (InsX.l x1)) (List.length (InsX.l x1))) ∧
 (RowsEq (Kd.int IntKind.i64 :: @List.nil Kd) (List.length (InsX.l x1)) (encL encI (InsX.l x1)) (encL encI (InsX.l x1)))) ∧
 (True)))))))))) ∧
 (∀ x11 : Nat,
 ((x11 ≤ List.length (InsX.l x1)) →
 (((decide ((↑x11 : Int) < (↑(List.length (InsX.l x1)) : Int)) = true) →
 ((((0 : Int) ≤ (↑x11 : Int)) ∧
 ((↑x11 : Int) < (↑(List.length (InsX.l x1)) : Int))) ∧
 (((0 : Nat) + Int.toNat (↑x11 : Int) < List.length (InsX.l x1)) ∧
 (∃ x14 : LKi,
 (((List.Nodup (ids (LKi.l x14))) ∧
 (List.length (LKi.l x14) ≤ (999999 : Nat))) ∧
 (((((0 : Nat) = (0 : Nat)) ∧
 ((0 : Nat) = (0 : Nat))) ∧
 (((↑x11 : Int) = LKi.id x14) ∧
 ((List.getD (InsX.l x1) ((0 : Nat) + Int.toNat (↑x11 : Int)) default = LKi.key x14) ∧
 (True)))) ∧
 ((((((0 : Nat) = (0 : Nat)) ∧
 (List.length (insA (InsX.l x1) x11) = List.length (LKi.l x14))) ∧
 ((True) ∧
 (True))) ∧
 (((RLe (List.length (LKi.l x14)) (List.length (insA (InsX.l x1) x11))) ∧
 (RowsEq (Kd.int IntKind.i64 :: Kd.int IntKind.i64 :: @List.nil Kd) (List.length (LKi.l x14)) (encL encEi (insA (InsX.l x1) x11)) (encL encEi (LKi.l x14)))) ∧
 ((MapEq (Kd.int IntKind.i64 :: @List.nil Kd) (ids (insA (InsX.l x1) x11)) (ids (LKi.l x14)) (posD (insA (InsX.l x1) x11)) (posD (LKi.l x14))) ∧
 (True)))) ∧
 ((((-9223372036854775808 : Int) ≤ (↑(List.length (InsX.l x1)) : Int) - (1 : Int)) ∧
 ((↑(List.length (InsX.l x1)) : Int) - (1 : Int) ≤ (9223372036854775807 : Int))) ∧
 ((((-9223372036854775808 : Int) ≤ InsX.t x1) ∧
 (InsX.t x1 ≤ (9223372036854775807 : Int))) ∧
 ((((-9223372036854775808 : Int) ≤ (↑x11 : Int) + InsX.t x1) ∧
 ((↑x11 : Int) + InsX.t x1 ≤ (9223372036854775807 : Int))) ∧
 ((((0 : Int) ≤ (↑x11 : Int) + InsX.t x1) ∧
 ((0 : Int) < (↑(List.length (InsX.l x1)) : Int))) ∧
 ((((-9223372036854775808 : Int) ≤ (↑(List.length (InsX.l x1)) : Int) - (1 : Int) - ((↑x11 : Int) + InsX.t x1) % (↑(List.length (InsX.l x1)) : Int)) ∧
 ((↑(List.length (InsX.l x1)) : Int) - (1 : Int) - ((↑x11 : Int) + InsX.t x1) % (↑(List.length (InsX.l x1)) : Int) ≤ (9223372036854775807 : Int))) ∧
 ((((0 : Int) ≤ (↑(List.length (InsX.l x1)) : Int) - (1 : Int) - ((↑x11 : Int) + InsX.t x1) % (↑(List.length (InsX.l x1)) : Int)) ∧
 ((↑(List.length (InsX.l x1)) : Int) - (1 : Int) - ((↑x11 : Int) + InsX.t x1) % (↑(List.length (InsX.l x1)) : Int) < (↑(List.length (InsX.l x1)) : Int))) ∧
 (((0 : Nat) + Int.toNat ((↑(List.length (InsX.l x1)) : Int) - (1 : Int) - ((↑x11 : Int) + InsX.t x1) % (↑(List.length (InsX.l x1)) : Int)) < List.length (InsX.l x1)) ∧
 (∃ x15 : LKi,
 (((List.Nodup (ids (LKi.l x15))) ∧
 (List.length (LKi.l x15) ≤ (999999 : Nat))) ∧
 (((((0 : Nat) = (0 : Nat)) ∧
 ((0 : Nat) = (0 : Nat))) ∧
 (((↑(List.length (InsX.l x1)) : Int) - (1 : Int) - ((↑x11 : Int) + InsX.t x1) % (↑(List.length (InsX.l x1)) : Int) = LKi.id x15) ∧
 ((List.getD (InsX.l x1) ((0 : Nat) + Int.toNat ((↑(List.length (InsX.l x1)) : Int) - (1 : Int) - ((↑x11 : Int) + InsX.t x1) % (↑(List.length (InsX.l x1)) : Int))) default = LKi.key x15) ∧
 (True)))) ∧
 ((((((0 : Nat) = (0 : Nat)) ∧
 (List.length (insB (InsX.l x1) (Int.toNat (InsX.t x1)) x11) = List.length (LKi.l x15))) ∧
 ((True) ∧
 (True))) ∧
 (((RLe (List.length (LKi.l x15)) (List.length (insB (InsX.l x1) (Int.toNat (InsX.t x1)) x11))) ∧
 (RowsEq (Kd.int IntKind.i64 :: Kd.int IntKind.i64 :: @List.nil Kd) (List.length (LKi.l x15)) (encL encEi (insB (InsX.l x1) (Int.toNat (InsX.t x1)) x11)) (encL encEi (LKi.l x15)))) ∧
 ((MapEq (Kd.int IntKind.i64 :: @List.nil Kd) (ids (insB (InsX.l x1) (Int.toNat (InsX.t x1)) x11)) (ids (LKi.l x15)) (posD (insB (InsX.l x1) (Int.toNat (InsX.t x1)) x11)) (posD (LKi.l x15))) ∧
 (True)))) ∧
 ((((-9223372036854775808 : Int) ≤ (↑x11 : Int) + (1 : Int)) ∧
 ((↑x11 : Int) + (1 : Int) ≤ (9223372036854775807 : Int))) ∧
 (∃ x16 : Nat,
 ((List.length (InsX.l x1) - x16 < List.length (InsX.l x1) - x11) ∧
 ((x16 ≤ List.length (InsX.l x1)) ∧
 ((((↑x11 : Int) + (1 : Int) = (↑x16 : Int)) ∧
 ((((0 : Nat) = (0 : Nat)) ∧
 ((0 : Nat) = (0 : Nat))) ∧
 ((((0 : Nat) = (0 : Nat)) ∧
 ((0 : Nat) = (0 : Nat))) ∧
 (((↑(List.length (InsX.l x1)) : Int) = (↑(List.length (InsX.l x1)) : Int)) ∧
 ((((0 : Nat) = (0 : Nat)) ∧
 (List.length (InsX.l x1) = List.length (InsX.l x1))) ∧
 (((↑(List.length (InsX.l x1)) : Int) = (↑(List.length (InsX.l x1)) : Int)) ∧
 ((false = false) ∧
 ((((0 : Nat) = (0 : Nat)) ∧
 (List.length (InsX.l x1) = List.length (InsX.l x1))) ∧
 ((InsX.t x1 = InsX.t x1) ∧
 (True)))))))))) ∧
 (((((0 : Nat) = (0 : Nat)) ∧
 (List.length (putF lti (LKi.l x14) (LKi.id x14) (LKi.key x14)) = List.length (insA (InsX.l x1) x16))) ∧
 ((True) ∧
 (True))) ∧
 (((RLe (List.length (insA (InsX.l x1) x16)) (List.length (putF lti (LKi.l x14) (LKi.id x14) (LKi.key x14)))) ∧
 (RowsEq (Kd.int IntKind.i64 :: Kd.int IntKind.i64 :: @List.nil Kd) (List.length (insA (InsX.l x1) x16)) (encL encEi (putF lti (LKi.l x14) (LKi.id x14) (LKi.key x14))) (encL encEi (insA (InsX.l x1) x16)))) ∧
 ((MapEq (Kd.int IntKind.i64 :: @List.nil Kd) (ids (putF lti (LKi.l x14) (LKi.id x14) (LKi.key x14))) (ids (insA (InsX.l x1) x16)) (posD (putF lti (LKi.l x14) (LKi.id x14) (LKi.key x14))) (posD (insA (InsX.l x1) x16))) ∧
 (((((0 : Nat) = (0 : Nat)) ∧
 (List.length (putF lti (LKi.l x15) (LKi.id x15) (LKi.key x15)) = List.length (insB (InsX.l x1) (Int.toNat (InsX.t x1)) x16))) ∧
 ((True) ∧
 (True))) ∧
 (((RLe (List.length (insB (InsX.l x1) (Int.toNat (InsX.t x1)) x16)) (List.length (putF lti (LKi.l x15) (LKi.id x15) (LKi.key x15)))) ∧
 (RowsEq (Kd.int IntKind.i64 :: Kd.int IntKind.i64 :: @List.nil Kd) (List.length (insB (InsX.l x1) (Int.toNat (InsX.t x1)) x16)) (encL encEi (putF lti (LKi.l x15) (LKi.id x15) (LKi.key x15))) (encL encEi (insB (InsX.l x1) (Int.toNat (InsX.t x1)) x16)))) ∧
 ((MapEq (Kd.int IntKind.i64 :: @List.nil Kd) (ids (putF lti (LKi.l x15) (LKi.id x15) (LKi.key x15))) (ids (insB (InsX.l x1) (Int.toNat (InsX.t x1)) x16)) (posD (putF lti (LKi.l x15) (LKi.id x15) (LKi.key x15))) (posD (insB (InsX.l x1) (Int.toNat (InsX.t x1)) x16))) ∧
 (((RLe (List.length (InsX.l x1)) (List.length (InsX.l x1))) ∧
 (RowsEq (Kd.int IntKind.i64 :: @List.nil Kd) (List.length (InsX.l x1)) (encL encI (InsX.l x1)) (encL encI (InsX.l x1)))) ∧
 (True))))))))))))))))))))))))))))))) ∧
 ((decide ((↑x11 : Int) < (↑(List.length (InsX.l x1)) : Int)) = false) →
 ((((-9223372036854775808 : Int) ≤ (↑(List.length (InsX.l x1)) : Int) + (1 : Int)) ∧
 ((↑(List.length (InsX.l x1)) : Int) + (1 : Int) ≤ (9223372036854775807 : Int))) ∧
 (∃ x18 : Nat,
 (((x18 ≤ List.length (InsX.l x1) + (1 : Nat)) ∧
 ((((0 : Int) = (↑x18 : Int)) ∧
 ((((0 : Nat) = (0 : Nat)) ∧
 ((0 : Nat) = (0 : Nat))) ∧
 ((((0 : Nat) = (0 : Nat)) ∧
 ((0 : Nat) = (0 : Nat))) ∧
 (((↑(List.length (InsX.l x1)) : Int) + (1 : Int) = (↑(List.length (InsX.l x1)) : Int) + (1 : Int)) ∧
 (((↑(List.length (InsX.l x1)) : Int) = (↑(List.length (InsX.l x1)) : Int)) ∧
 ((((0 : Nat) = (0 : Nat)) ∧
 (List.length (InsX.l x1) = List.length (InsX.l x1))) ∧
 ((InsX.t x1 = InsX.t x1) ∧
 (True)))))))) ∧
 (((((0 : Nat) = (0 : Nat)) ∧
 (List.length (insA (InsX.l x1) x11) = List.length (InsX.a x1 x18))) ∧
 ((True) ∧
 (True))) ∧
 (((RLe (List.length (InsX.a x1 x18)) (List.length (insA (InsX.l x1) x11))) ∧
 (RowsEq (Kd.int IntKind.i64 :: Kd.int IntKind.i64 :: @List.nil Kd) (List.length (InsX.a x1 x18)) (encL encEi (insA (InsX.l x1) x11)) (encL encEi (InsX.a x1 x18)))) ∧
 ((MapEq (Kd.int IntKind.i64 :: @List.nil Kd) (ids (insA (InsX.l x1) x11)) (ids (InsX.a x1 x18)) (posD (insA (InsX.l x1) x11)) (posD (InsX.a x1 x18))) ∧
 (((((0 : Nat) = (0 : Nat)) ∧
 (List.length (insB (InsX.l x1) (Int.toNat (InsX.t x1)) x11) = List.length (InsX.b x1 x18))) ∧
 ((True) ∧
 (True))) ∧
 (((RLe (List.length (InsX.b x1 x18)) (List.length (insB (InsX.l x1) (Int.toNat (InsX.t x1)) x11))) ∧
 (RowsEq (Kd.int IntKind.i64 :: Kd.int IntKind.i64 :: @List.nil Kd) (List.length (InsX.b x1 x18)) (encL encEi (insB (InsX.l x1) (Int.toNat (InsX.t x1)) x11)) (encL encEi (InsX.b x1 x18)))) ∧
 ((MapEq (Kd.int IntKind.i64 :: @List.nil Kd) (ids (insB (InsX.l x1) (Int.toNat (InsX.t x1)) x11)) (ids (InsX.b x1 x18)) (posD (insB (InsX.l x1) (Int.toNat (InsX.t x1)) x11)) (posD (InsX.b x1 x18))) ∧
 (((RLe (List.length (InsX.l x1)) (List.length (InsX.l x1))) ∧
 (RowsEq (Kd.int IntKind.i64 :: @List.nil Kd) (List.length (InsX.l x1)) (encL encI (InsX.l x1)) (encL encI (InsX.l x1)))) ∧
 (True)))))))))) ∧
 (∀ x19 : Nat,
 ((x19 ≤ List.length (InsX.l x1) + (1 : Nat)) →
 (((decide ((↑x19 : Int) < (↑(List.length (InsX.l x1)) : Int) + (1 : Int)) = true) →
 (∃ x22 : List (El Int),
 (((List.Nodup (ids x22)) ∧
 (List.length x22 ≤ (1000000 : Nat))) ∧
 (((((0 : Nat) = (0 : Nat)) ∧
 ((0 : Nat) = (0 : Nat))) ∧
 (True)) ∧
 ((((((0 : Nat) = (0 : Nat)) ∧
 (List.length (InsX.a x1 x19) = List.length x22)) ∧
 ((True) ∧
 (True))) ∧
 (((RLe (List.length x22) (List.length (InsX.a x1 x19))) ∧
 (RowsEq (Kd.int IntKind.i64 :: Kd.int IntKind.i64 :: @List.nil Kd) (List.length x22) (encL encEi (InsX.a x1 x19)) (encL encEi x22))) ∧
 ((MapEq (Kd.int IntKind.i64 :: @List.nil Kd) (ids (InsX.a x1 x19)) (ids x22) (posD (InsX.a x1 x19)) (posD x22)) ∧
 (True)))) ∧
 (∃ x23 : List (El Int),
 (((List.Nodup (ids x23)) ∧
 (List.length x23 ≤ (1000000 : Nat))) ∧
 (((((0 : Nat) = (0 : Nat)) ∧
 ((0 : Nat) = (0 : Nat))) ∧
 (True)) ∧
 ((((((0 : Nat) = (0 : Nat)) ∧
 (List.length (InsX.b x1 x19) = List.length x23)) ∧
 ((True) ∧
 (True))) ∧
 (((RLe (List.length x23) (List.length (InsX.b x1 x19))) ∧
 (RowsEq (Kd.int IntKind.i64 :: Kd.int IntKind.i64 :: @List.nil Kd) (List.length x23) (encL encEi (InsX.b x1 x19)) (encL encEi x23))) ∧
 ((MapEq (Kd.int IntKind.i64 :: @List.nil Kd) (ids (InsX.b x1 x19)) (ids x23) (posD (InsX.b x1 x19)) (posD x23)) ∧
 (True)))) ∧
 (((decide (El.id (List.getD x22 (0 : Nat) default) ≠ El.id (List.getD x23 (0 : Nat) default)) = false) →
 (((decide (El.key (List.getD x22 (0 : Nat) default) ≠ El.key (List.getD x23 (0 : Nat) default)) = false) →
 ((((decide (List.length x22 ≠ (0 : Nat)) != decide (List.length x23 ≠ (0 : Nat))) = true) →
 ((false = true) ∧
 (True))) ∧
 (((decide (List.length x22 ≠ (0 : Nat)) != decide (List.length x23 ≠ (0 : Nat))) = false) →
 ((((-9223372036854775808 : Int) ≤ (↑x19 : Int) + (1 : Int)) ∧
 ((↑x19 : Int) + (1 : Int) ≤ (9223372036854775807 : Int))) ∧
 (∃ x28 : Nat,
 ((List.length (InsX.l x1) + (1 : Nat) - x28 < List.length (InsX.l x1) + (1 : Nat) - x19) ∧
 ((x28 ≤ List.length (InsX.l x1) + (1 : Nat)) ∧
 ((((↑x19 : Int) + (1 : Int) = (↑x28 : Int)) ∧
 ((((0 : Nat) = (0 : Nat)) ∧
 ((0 : Nat) = (0 : Nat))) ∧
 ((((0 : Nat) = (0 : Nat)) ∧
 ((0 : Nat) = (0 : Nat))) ∧
 (((↑(List.length (InsX.l x1)) : Int) + (1 : Int) = (↑(List.length (InsX.l x1)) : Int) + (1 : Int)) ∧
 (((↑(List.length (InsX.l x1)) : Int) = (↑(List.length (InsX.l x1)) : Int)) ∧
 ((((0 : Nat) = (0 : Nat)) ∧
 (List.length (InsX.l x1) = List.length (InsX.l x1))) ∧
 ((InsX.t x1 = InsX.t x1) ∧
 (True)))))))) ∧
 (((((0 : Nat) = (0 : Nat)) ∧
 (List.length (popF lti x22) = List.length (InsX.a x1 x28))) ∧
 ((True) ∧
 (True))) ∧
 (((RLe (List.length (InsX.a x1 x28)) (List.length (popF lti x22))) ∧
 (RowsEq (Kd.int IntKind.i64 :: Kd.int IntKind.i64 :: @List.nil Kd) (List.length (InsX.a x1 x28)) (encL encEi (popF lti x22)) (encL encEi (InsX.a x1 x28)))) ∧
 ((MapEq (Kd.int IntKind.i64 :: @List.nil Kd) (ids (popF lti x22)) (ids (InsX.a x1 x28)) (posD (popF lti x22)) (posD (InsX.a x1 x28))) ∧
 (((((0 : Nat) = (0 : Nat)) ∧
 (List.length (popF lti x23) = List.length (InsX.b x1 x28))) ∧
 ((True) ∧
 (True))) ∧
 (((RLe (List.length (InsX.b x1 x28)) (List.length (popF lti x23))) ∧
 (RowsEq (Kd.int IntKind.i64 :: Kd.int IntKind.i64 :: @List.nil Kd) (List.length (InsX.b x1 x28)) (encL encEi (popF lti x23)) (encL encEi (InsX.b x1 x28)))) ∧
 ((MapEq (Kd.int IntKind.i64 :: @List.nil Kd) (ids (popF lti x23)) (ids (InsX.b x1 x28)) (posD (popF lti x23)) (posD (InsX.b x1 x28))) ∧
 (((RLe (List.length (InsX.l x1)) (List.length (InsX.l x1))) ∧
 (RowsEq (Kd.int IntKind.i64 :: @List.nil Kd) (List.length (InsX.l x1)) (encL encI (InsX.l x1)) (encL encI (InsX.l x1)))) ∧
 (True)))))))))))))))) ∧
 ((decide (El.key (List.getD x22 (0 : Nat) default) ≠ El.key (List.getD x23 (0 : Nat) default)) = true) →
 ((false = true) ∧
 (True))))) ∧
 ((decide (El.id (List.getD x22 (0 : Nat) default) ≠ El.id (List.getD x23 (0 : Nat) default)) = true) →
 ((false = true) ∧
 (True))))))))))))) ∧
 ((decide ((↑x19 : Int) < (↑(List.length (InsX.l x1)) : Int) + (1 : Int)) = false) →
 ((true = true) ∧
 (True)))))))))))))))))))))))))))))))))) = Keeps ⟨T, [], Cl, noInv, 17⟩ Try.f4 insC insI by kernel_rfl) (fun x1 => fun h2 => ⟨(default),
 trivial,
 trivial,
 trivial,
 fun h4 => ⟨(by (try dsimp only at *); omega),
 trivial⟩,
 fun h5 => ⟨fun g6 => have h6 := of_decide_eq_true g6; ⟨rfl,
 trivial⟩,
 fun g7 => have h7 := of_decide_eq_false g7; ⟨(default),
 trivial,
 trivial,
 trivial,
 (default),
 trivial,
 trivial,
 trivial,
 ((0 : Nat)),
 ⟨(by (try dsimp only at *); omega),
 ⟨(by (try dsimp only at *); omega),
 ⟨rfl,
 rfl⟩,
 ⟨rfl,
 rfl⟩,
 rfl,
 ⟨rfl,
 rfl⟩,
 rfl,
 rfl,
 ⟨rfl,
 rfl⟩,
 rfl,
 trivial⟩,
 ⟨⟨rfl,
 (by (try dsimp only at *); rfl)⟩,
 trivial,
 trivial⟩,
 ⟨⟨(by (try dsimp only at *); exact Nat.le_refl _)⟩,
 (by (try dsimp only at *); exact RowsEq.rfl')⟩,
 (by (try dsimp only at *); exact MapEq.rfl'),
 ⟨⟨rfl,
 (by (try dsimp only at *); rfl)⟩,
 trivial,
 trivial⟩,
 ⟨⟨(by (try dsimp only at *); exact Nat.le_refl _)⟩,
 (by (try dsimp only at *); exact RowsEq.rfl')⟩,
 (by (try dsimp only at *); exact MapEq.rfl'),
 ⟨⟨Nat.le_refl _⟩,
 RowsEq.rfl'⟩,
 trivial⟩,
 fun x11 => fun h12 => ⟨fun g13 => have h13 := of_decide_eq_true g13; ⟨⟨(by (try dsimp only at *); omega),
 (by (try dsimp only at *); omega)⟩,
 (by (try dsimp only at *); omega),
 ({ l := insA (InsX.l x1) x11, id := (↑x11 : Int), key := List.getD (InsX.l x1) ((0 : Nat) + Int.toNat (↑x11 : Int)) default : LKi }),
 ⟨(by (try dsimp only at *); (have hj := insJ_int (n := x1.l.length) (i := x11) h2.1 (by omega); have hl := insJ_lt (n := x1.l.length) (t := x1.t.toNat) (i := x11) (by omega); have a := insA_ok x1.l x11; have b := insB_ok x1.l x1.t.toNat x11; have a2 := a.2.1; have b2 := b.2.1; (try simp only [hj, Nat.zero_add, Int.toNat_natCast]); first | omega | exact a.1.n | exact b.1.n | ((first | (rw [insA_succ]; done) | rw [insA_succ]); first | done | rfl | exact Nat.le_refl _ | exact MapEq.rfl' | exact RowsEq.rfl') | ((first | (rw [insB_succ]; done) | rw [insB_succ]); first | done | rfl | exact Nat.le_refl _ | exact MapEq.rfl' | exact RowsEq.rfl'))),
 (by (try dsimp only at *); (have hj := insJ_int (n := x1.l.length) (i := x11) h2.1 (by omega); have hl := insJ_lt (n := x1.l.length) (t := x1.t.toNat) (i := x11) (by omega); have a := insA_ok x1.l x11; have b := insB_ok x1.l x1.t.toNat x11; have a2 := a.2.1; have b2 := b.2.1; (try simp only [hj, Nat.zero_add, Int.toNat_natCast]); first | omega | exact a.1.n | exact b.1.n | ((first | (rw [insA_succ]; done) | rw [insA_succ]); first | done | rfl | exact Nat.le_refl _ | exact MapEq.rfl' | exact RowsEq.rfl') | ((first | (rw [insB_succ]; done) | rw [insB_succ]); first | done | rfl | exact Nat.le_refl _ | exact MapEq.rfl' | exact RowsEq.rfl')))⟩,
 ⟨⟨rfl,
 rfl⟩,
 rfl,
 rfl,
 trivial⟩,
 ⟨⟨⟨rfl,
 rfl⟩,
 trivial,
 trivial⟩,
 ⟨⟨Nat.le_refl _⟩,
 RowsEq.rfl'⟩,
 (by (try dsimp only at *); exact MapEq.rfl'),
 trivial⟩,
 ⟨(by (try dsimp only at *); omega),
 (by (try dsimp only at *); omega)⟩,
 ⟨(by (try dsimp only at *); omega),
 (by (try dsimp only at *); omega)⟩,
 ⟨(by (try dsimp only at *); omega),
 (by (try dsimp only at *); omega)⟩,
 ⟨(by (try dsimp only at *); omega),
 (by (try dsimp only at *); omega)⟩,
 ⟨(by (try dsimp only at *); (have hj := insJ_int (n := x1.l.length) (i := x11) h2.1 (by omega); have hl := insJ_lt (n := x1.l.length) (t := x1.t.toNat) (i := x11) (by omega); have a := insA_ok x1.l x11; have b := insB_ok x1.l x1.t.toNat x11; have a2 := a.2.1; have b2 := b.2.1; (try simp only [hj, Nat.zero_add, Int.toNat_natCast]); first | omega | exact a.1.n | exact b.1.n | ((first | (rw [insA_succ]; done) | rw [insA_succ]); first | done | rfl | exact Nat.le_refl _ | exact MapEq.rfl' | exact RowsEq.rfl') | ((first | (rw [insB_succ]; done) | rw [insB_succ]); first | done | rfl | exact Nat.le_refl _ | exact MapEq.rfl' | exact RowsEq.rfl'))),
 (by (try dsimp only at *); (have hj := insJ_int (n := x1.l.length) (i := x11) h2.1 (by omega); have hl := insJ_lt (n := x1.l.length) (t := x1.t.toNat) (i := x11) (by omega); have a := insA_ok x1.l x11; have b := insB_ok x1.l x1.t.toNat x11; have a2 := a.2.1; have b2 := b.2.1; (try simp only [hj, Nat.zero_add, Int.toNat_natCast]); first | omega | exact a.1.n | exact b.1.n | ((first | (rw [insA_succ]; done) | rw [insA_succ]); first | done | rfl | exact Nat.le_refl _ | exact MapEq.rfl' | exact RowsEq.rfl') | ((first | (rw [insB_succ]; done) | rw [insB_succ]); first | done | rfl | exact Nat.le_refl _ | exact MapEq.rfl' | exact RowsEq.rfl')))⟩,
 ⟨(by (try dsimp only at *); (have hj := insJ_int (n := x1.l.length) (i := x11) h2.1 (by omega); have hl := insJ_lt (n := x1.l.length) (t := x1.t.toNat) (i := x11) (by omega); have a := insA_ok x1.l x11; have b := insB_ok x1.l x1.t.toNat x11; have a2 := a.2.1; have b2 := b.2.1; (try simp only [hj, Nat.zero_add, Int.toNat_natCast]); first | omega | exact a.1.n | exact b.1.n | ((first | (rw [insA_succ]; done) | rw [insA_succ]); first | done | rfl | exact Nat.le_refl _ | exact MapEq.rfl' | exact RowsEq.rfl') | ((first | (rw [insB_succ]; done) | rw [insB_succ]); first | done | rfl | exact Nat.le_refl _ | exact MapEq.rfl' | exact RowsEq.rfl'))),
 (by (try dsimp only at *); (have hj := insJ_int (n := x1.l.length) (i := x11) h2.1 (by omega); have hl := insJ_lt (n := x1.l.length) (t := x1.t.toNat) (i := x11) (by omega); have a := insA_ok x1.l x11; have b := insB_ok x1.l x1.t.toNat x11; have a2 := a.2.1; have b2 := b.2.1; (try simp only [hj, Nat.zero_add, Int.toNat_natCast]); first | omega | exact a.1.n | exact b.1.n | ((first | (rw [insA_succ]; done) | rw [insA_succ]); first | done | rfl | exact Nat.le_refl _ | exact MapEq.rfl' | exact RowsEq.rfl') | ((first | (rw [insB_succ]; done) | rw [insB_succ]); first | done | rfl | exact Nat.le_refl _ | exact MapEq.rfl' | exact RowsEq.rfl')))⟩,
 (by (try dsimp only at *); (have hj := insJ_int (n := x1.l.length) (i := x11) h2.1 (by omega); have hl := insJ_lt (n := x1.l.length) (t := x1.t.toNat) (i := x11) (by omega); have a := insA_ok x1.l x11; have b := insB_ok x1.l x1.t.toNat x11; have a2 := a.2.1; have b2 := b.2.1; (try simp only [hj, Nat.zero_add, Int.toNat_natCast]); first | omega | exact a.1.n | exact b.1.n | ((first | (rw [insA_succ]; done) | rw [insA_succ]); first | done | rfl | exact Nat.le_refl _ | exact MapEq.rfl' | exact RowsEq.rfl') | ((first | (rw [insB_succ]; done) | rw [insB_succ]); first | done | rfl | exact Nat.le_refl _ | exact MapEq.rfl' | exact RowsEq.rfl'))),
 ({ l := insB (InsX.l x1) (Int.toNat (InsX.t x1)) x11, id := (↑(List.length (InsX.l x1)) : Int) - (1 : Int) - ((↑x11 : Int) + InsX.t x1) % (↑(List.length (InsX.l x1)) : Int), key := List.getD (InsX.l x1) ((0 : Nat) + Int.toNat ((↑(List.length (InsX.l x1)) : Int) - (1 : Int) - ((↑x11 : Int) + InsX.t x1) % (↑(List.length (InsX.l x1)) : Int))) default : LKi }),
 ⟨(by (try dsimp only at *); (have hj := insJ_int (n := x1.l.length) (i := x11) h2.1 (by omega); have hl := insJ_lt (n := x1.l.length) (t := x1.t.toNat) (i := x11) (by omega); have a := insA_ok x1.l x11; have b := insB_ok x1.l x1.t.toNat x11; have a2 := a.2.1; have b2 := b.2.1; (try simp only [hj, Nat.zero_add, Int.toNat_natCast]); first | omega | exact a.1.n | exact b.1.n | ((first | (rw [insA_succ]; done) | rw [insA_succ]); first | done | rfl | exact Nat.le_refl _ | exact MapEq.rfl' | exact RowsEq.rfl') | ((first | (rw [insB_succ]; done) | rw [insB_succ]); first | done | rfl | exact Nat.le_refl _ | exact MapEq.rfl' | exact RowsEq.rfl'))),
 (by (try dsimp only at *); (have hj := insJ_int (n := x1.l.length) (i := x11) h2.1 (by omega); have hl := insJ_lt (n := x1.l.length) (t := x1.t.toNat) (i := x11) (by omega); have a := insA_ok x1.l x11; have b := insB_ok x1.l x1.t.toNat x11; have a2 := a.2.1; have b2 := b.2.1; (try simp only [hj, Nat.zero_add, Int.toNat_natCast]); first | omega | exact a.1.n | exact b.1.n | ((first | (rw [insA_succ]; done) | rw [insA_succ]); first | done | rfl | exact Nat.le_refl _ | exact MapEq.rfl' | exact RowsEq.rfl') | ((first | (rw [insB_succ]; done) | rw [insB_succ]); first | done | rfl | exact Nat.le_refl _ | exact MapEq.rfl' | exact RowsEq.rfl')))⟩,
 ⟨⟨rfl,
 rfl⟩,
 rfl,
 rfl,
 trivial⟩,
 ⟨⟨⟨rfl,
 rfl⟩,
 trivial,
 trivial⟩,
 ⟨⟨Nat.le_refl _⟩,
 RowsEq.rfl'⟩,
 (by (try dsimp only at *); exact MapEq.rfl'),
 trivial⟩,
 ⟨(by (try dsimp only at *); omega),
 (by (try dsimp only at *); omega)⟩,
 (x11 + (1 : Nat)),
 (by (try dsimp only at *); omega),
 (by (try dsimp only at *); omega),
 ⟨(by (try dsimp only at *); omega),
 ⟨rfl,
 rfl⟩,
 ⟨rfl,
 rfl⟩,
 rfl,
 ⟨rfl,
 rfl⟩,
 rfl,
 rfl,
 ⟨rfl,
 rfl⟩,
 rfl,
 trivial⟩,
 ⟨⟨rfl,
 (by (try dsimp only at *); (have hj := insJ_int (n := x1.l.length) (i := x11) h2.1 (by omega); have hl := insJ_lt (n := x1.l.length) (t := x1.t.toNat) (i := x11) (by omega); have a := insA_ok x1.l x11; have b := insB_ok x1.l x1.t.toNat x11; have a2 := a.2.1; have b2 := b.2.1; (try simp only [hj, Nat.zero_add, Int.toNat_natCast]); first | omega | exact a.1.n | exact b.1.n | ((first | (rw [insA_succ]; done) | rw [insA_succ]); first | done | rfl | exact Nat.le_refl _ | exact MapEq.rfl' | exact RowsEq.rfl') | ((first | (rw [insB_succ]; done) | rw [insB_succ]); first | done | rfl | exact Nat.le_refl _ | exact MapEq.rfl' | exact RowsEq.rfl')))⟩,
 trivial,
 trivial⟩,
 ⟨⟨(by (try dsimp only at *); (have hj := insJ_int (n := x1.l.length) (i := x11) h2.1 (by omega); have hl := insJ_lt (n := x1.l.length) (t := x1.t.toNat) (i := x11) (by omega); have a := insA_ok x1.l x11; have b := insB_ok x1.l x1.t.toNat x11; have a2 := a.2.1; have b2 := b.2.1; (try simp only [hj, Nat.zero_add, Int.toNat_natCast]); first | omega | exact a.1.n | exact b.1.n | ((first | (rw [insA_succ]; done) | rw [insA_succ]); first | done | rfl | exact Nat.le_refl _ | exact MapEq.rfl' | exact RowsEq.rfl') | ((first | (rw [insB_succ]; done) | rw [insB_succ]); first | done | rfl | exact Nat.le_refl _ | exact MapEq.rfl' | exact RowsEq.rfl')))⟩,
 (by (try dsimp only at *); (have hj := insJ_int (n := x1.l.length) (i := x11) h2.1 (by omega); have hl := insJ_lt (n := x1.l.length) (t := x1.t.toNat) (i := x11) (by omega); have a := insA_ok x1.l x11; have b := insB_ok x1.l x1.t.toNat x11; have a2 := a.2.1; have b2 := b.2.1; (try simp only [hj, Nat.zero_add, Int.toNat_natCast]); first | omega | exact a.1.n | exact b.1.n | ((first | (rw [insA_succ]; done) | rw [insA_succ]); first | done | rfl | exact Nat.le_refl _ | exact MapEq.rfl' | exact RowsEq.rfl') | ((first | (rw [insB_succ]; done) | rw [insB_succ]); first | done | rfl | exact Nat.le_refl _ | exact MapEq.rfl' | exact RowsEq.rfl')))⟩,
 (by (try dsimp only at *); (have hj := insJ_int (n := x1.l.length) (i := x11) h2.1 (by omega); have hl := insJ_lt (n := x1.l.length) (t := x1.t.toNat) (i := x11) (by omega); have a := insA_ok x1.l x11; have b := insB_ok x1.l x1.t.toNat x11; have a2 := a.2.1; have b2 := b.2.1; (try simp only [hj, Nat.zero_add, Int.toNat_natCast]); first | omega | exact a.1.n | exact b.1.n | ((first | (rw [insA_succ]; done) | rw [insA_succ]); first | done | rfl | exact Nat.le_refl _ | exact MapEq.rfl' | exact RowsEq.rfl') | ((first | (rw [insB_succ]; done) | rw [insB_succ]); first | done | rfl | exact Nat.le_refl _ | exact MapEq.rfl' | exact RowsEq.rfl'))),
 ⟨⟨rfl,
 (by (try dsimp only at *); (have hj := insJ_int (n := x1.l.length) (i := x11) h2.1 (by omega); have hl := insJ_lt (n := x1.l.length) (t := x1.t.toNat) (i := x11) (by omega); have a := insA_ok x1.l x11; have b := insB_ok x1.l x1.t.toNat x11; have a2 := a.2.1; have b2 := b.2.1; (try simp only [hj, Nat.zero_add, Int.toNat_natCast]); first | omega | exact a.1.n | exact b.1.n | ((first | (rw [insA_succ]; done) | rw [insA_succ]); first | done | rfl | exact Nat.le_refl _ | exact MapEq.rfl' | exact RowsEq.rfl') | ((first | (rw [insB_succ]; done) | rw [insB_succ]); first | done | rfl | exact Nat.le_refl _ | exact MapEq.rfl' | exact RowsEq.rfl')))⟩,
 trivial,
 trivial⟩,
 ⟨⟨(by (try dsimp only at *); (have hj := insJ_int (n := x1.l.length) (i := x11) h2.1 (by omega); have hl := insJ_lt (n := x1.l.length) (t := x1.t.toNat) (i := x11) (by omega); have a := insA_ok x1.l x11; have b := insB_ok x1.l x1.t.toNat x11; have a2 := a.2.1; have b2 := b.2.1; (try simp only [hj, Nat.zero_add, Int.toNat_natCast]); first | omega | exact a.1.n | exact b.1.n | ((first | (rw [insA_succ]; done) | rw [insA_succ]); first | done | rfl | exact Nat.le_refl _ | exact MapEq.rfl' | exact RowsEq.rfl') | ((first | (rw [insB_succ]; done) | rw [insB_succ]); first | done | rfl | exact Nat.le_refl _ | exact MapEq.rfl' | exact RowsEq.rfl')))⟩,
 (by (try dsimp only at *); (have hj := insJ_int (n := x1.l.length) (i := x11) h2.1 (by omega); have hl := insJ_lt (n := x1.l.length) (t := x1.t.toNat) (i := x11) (by omega); have a := insA_ok x1.l x11; have b := insB_ok x1.l x1.t.toNat x11; have a2 := a.2.1; have b2 := b.2.1; (try simp only [hj, Nat.zero_add, Int.toNat_natCast]); first | omega | exact a.1.n | exact b.1.n | ((first | (rw [insA_succ]; done) | rw [insA_succ]); first | done | rfl | exact Nat.le_refl _ | exact MapEq.rfl' | exact RowsEq.rfl') | ((first | (rw [insB_succ]; done) | rw [insB_succ]); first | done | rfl | exact Nat.le_refl _ | exact MapEq.rfl' | exact RowsEq.rfl')))⟩,
 (by (try dsimp only at *); (have hj := insJ_int (n := x1.l.length) (i := x11) h2.1 (by omega); have hl := insJ_lt (n := x1.l.length) (t := x1.t.toNat) (i := x11) (by omega); have a := insA_ok x1.l x11; have b := insB_ok x1.l x1.t.toNat x11; have a2 := a.2.1; have b2 := b.2.1; (try simp only [hj, Nat.zero_add, Int.toNat_natCast]); first | omega | exact a.1.n | exact b.1.n | ((first | (rw [insA_succ]; done) | rw [insA_succ]); first | done | rfl | exact Nat.le_refl _ | exact MapEq.rfl' | exact RowsEq.rfl') | ((first | (rw [insB_succ]; done) | rw [insB_succ]); first | done | rfl | exact Nat.le_refl _ | exact MapEq.rfl' | exact RowsEq.rfl'))),
 ⟨⟨Nat.le_refl _⟩,
 RowsEq.rfl'⟩,
 trivial⟩,
 fun g17 => have h17 := of_decide_eq_false g17; ⟨⟨(by (try dsimp only at *); omega),
 (by (try dsimp only at *); omega)⟩,
 ((0 : Nat)),
 ⟨(by (try dsimp only at *); omega),
 ⟨(by (try dsimp only at *); omega),
 ⟨rfl,
 rfl⟩,
 ⟨rfl,
 rfl⟩,
 rfl,
 rfl,
 ⟨rfl,
 rfl⟩,
 rfl,
 trivial⟩,
 ⟨⟨rfl,
 (by (try dsimp only at *); (obtain rfl : x11 = x1.l.length := (by omega); first | exact MapEq.rfl' | exact RowsEq.rfl' | exact Nat.le_refl _ | rfl))⟩,
 trivial,
 trivial⟩,
 ⟨⟨(by (try dsimp only at *); (obtain rfl : x11 = x1.l.length := (by omega); first | exact MapEq.rfl' | exact RowsEq.rfl' | exact Nat.le_refl _ | rfl))⟩,
 (by (try dsimp only at *); (obtain rfl : x11 = x1.l.length := (by omega); first | exact MapEq.rfl' | exact RowsEq.rfl' | exact Nat.le_refl _ | rfl))⟩,
 (by (try dsimp only at *); (obtain rfl : x11 = x1.l.length := (by omega); first | exact MapEq.rfl' | exact RowsEq.rfl' | exact Nat.le_refl _ | rfl)),
 ⟨⟨rfl,
 (by (try dsimp only at *); (obtain rfl : x11 = x1.l.length := (by omega); first | exact MapEq.rfl' | exact RowsEq.rfl' | exact Nat.le_refl _ | rfl))⟩,
 trivial,
 trivial⟩,
 ⟨⟨(by (try dsimp only at *); (obtain rfl : x11 = x1.l.length := (by omega); first | exact MapEq.rfl' | exact RowsEq.rfl' | exact Nat.le_refl _ | rfl))⟩,
 (by (try dsimp only at *); (obtain rfl : x11 = x1.l.length := (by omega); first | exact MapEq.rfl' | exact RowsEq.rfl' | exact Nat.le_refl _ | rfl))⟩,
 (by (try dsimp only at *); (obtain rfl : x11 = x1.l.length := (by omega); first | exact MapEq.rfl' | exact RowsEq.rfl' | exact Nat.le_refl _ | rfl)),
 ⟨⟨Nat.le_refl _⟩,
 RowsEq.rfl'⟩,
 trivial⟩,
 fun x19 => fun h20 => ⟨fun g21 => have h21 := of_decide_eq_true g21; ⟨(InsX.a x1 x19),
 ⟨(by (try dsimp only at *); (obtain ⟨a1, a2, a3⟩ := x1.ok x19; have al := x1.len x19; have a4 := a3.top a1 a2; have a5 := a3.empty; first | omega | exact a1.n | exact a2.n | (exfalso; simp_all; done))),
 (by (try dsimp only at *); (obtain ⟨a1, a2, a3⟩ := x1.ok x19; have al := x1.len x19; have a4 := a3.top a1 a2; have a5 := a3.empty; first | omega | exact a1.n | exact a2.n | (exfalso; simp_all; done)))⟩,
 ⟨⟨rfl,
 rfl⟩,
 trivial⟩,
 ⟨⟨⟨rfl,
 rfl⟩,
 trivial,
 trivial⟩,
 ⟨⟨Nat.le_refl _⟩,
 RowsEq.rfl'⟩,
 MapEq.rfl',
 trivial⟩,
 (InsX.b x1 x19),
 ⟨(by (try dsimp only at *); (obtain ⟨a1, a2, a3⟩ := x1.ok x19; have al := x1.len x19; have a4 := a3.top a1 a2; have a5 := a3.empty; first | omega | exact a1.n | exact a2.n | (exfalso; simp_all; done))),
 (by (try dsimp only at *); (obtain ⟨a1, a2, a3⟩ := x1.ok x19; have al := x1.len x19; have a4 := a3.top a1 a2; have a5 := a3.empty; first | omega | exact a1.n | exact a2.n | (exfalso; simp_all; done)))⟩,
 ⟨⟨rfl,
 rfl⟩,
 trivial⟩,
 ⟨⟨⟨rfl,
 rfl⟩,
 trivial,
 trivial⟩,
 ⟨⟨Nat.le_refl _⟩,
 RowsEq.rfl'⟩,
 MapEq.rfl',
 trivial⟩,
 fun g24 => have h24 := of_decide_eq_false g24; ⟨fun g25 => have h25 := of_decide_eq_false g25; ⟨fun h26 => ⟨(by (try dsimp only at *); (obtain ⟨a1, a2, a3⟩ := x1.ok x19; have al := x1.len x19; have a4 := a3.top a1 a2; have a5 := a3.empty; first | omega | exact a1.n | exact a2.n | (exfalso; simp_all; done))),
 trivial⟩,
 fun h27 => ⟨⟨(by (try dsimp only at *); omega),
 (by (try dsimp only at *); omega)⟩,
 (x19 + (1 : Nat)),
 (by (try dsimp only at *); omega),
 (by (try dsimp only at *); omega),
 ⟨(by (try dsimp only at *); omega),
 ⟨rfl,
 rfl⟩,
 ⟨rfl,
 rfl⟩,
 rfl,
 rfl,
 ⟨rfl,
 rfl⟩,
 rfl,
 trivial⟩,
 ⟨⟨rfl,
 (by (try dsimp only at *); rfl)⟩,
 trivial,
 trivial⟩,
 ⟨⟨(by (try dsimp only at *); exact Nat.le_refl _)⟩,
 (by (try dsimp only at *); exact RowsEq.rfl')⟩,
 (by (try dsimp only at *); exact MapEq.rfl'),
 ⟨⟨rfl,
 (by (try dsimp only at *); rfl)⟩,
 trivial,
 trivial⟩,
 ⟨⟨(by (try dsimp only at *); exact Nat.le_refl _)⟩,
 (by (try dsimp only at *); exact RowsEq.rfl')⟩,
 (by (try dsimp only at *); exact MapEq.rfl'),
 ⟨⟨Nat.le_refl _⟩,
 RowsEq.rfl'⟩,
 trivial⟩⟩,
 fun g29 => have h29 := of_decide_eq_true g29; ⟨(by (try dsimp only at *); (obtain ⟨a1, a2, a3⟩ := x1.ok x19; have al := x1.len x19; have a4 := a3.top a1 a2; have a5 := a3.empty; first | omega | exact a1.n | exact a2.n | (exfalso; simp_all; done))),
 trivial⟩⟩,
 fun g30 => have h30 := of_decide_eq_true g30; ⟨(by (try dsimp only at *); (obtain ⟨a1, a2, a3⟩ := x1.ok x19; have al := x1.len x19; have a4 := a3.top a1 a2; have a5 := a3.empty; first | omega | exact a1.n | exact a2.n | (exfalso; simp_all; done))),
 trivial⟩⟩,
 fun g31 => have h31 := of_decide_eq_false g31; ⟨rfl,
 trivial⟩⟩⟩⟩⟩⟩⟩)

theorem ins_good : Good Try.prog 4 insC ∧ FnOk Try.prog 4 := good_of (c := ⟨T, [], Cl, noInv, 17⟩) tok (ConL.ok conl) (fn := Try.f4) rfl (by decide +kernel) (fun _ => rfl) ins_keeps
end Go.Sym
