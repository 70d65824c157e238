import Derived.Test.YtplpefihhhcbbaaDoorK1
namespace Go.Sym
set_option linter.unusedVariables false
theorem mem_addOk {ws : List Nat} (h : WOk ws) {a x : Int} : x ∈ elemsZ (addOk ws a) ↔ x ∈ elemsZ ws ∨ (x = a /\ 0 <= a /\ a < 4096) := by
 unfold addOk
 split
 ·rename_i ha
  rw [elemsZ_mem, elemsZ_mem, hasW_add h ha, Bool.or_eq_true, decide_eq_true_eq]
  constructor
  ·rintro ⟨h1, h2, h3 | h3⟩
   ·exact .inl ⟨h1, h2, h3⟩
   ·exact .inr ⟨by omega, ha⟩
  ·rintro (⟨h1, h2, h3⟩ | ⟨h1, h2⟩)
   ·exact ⟨h1, h2, .inl h3⟩
   ·subst h1; exact ⟨h2.1, h2.2, .inr rfl⟩
 ·rename_i ha
  exact ⟨.inl, fun q => q.elim id fun q => absurd q.2 ha⟩
theorem mem_ofW (l : List Int) : ∀ (ws : List Nat), WOk ws -> ∀ x : Int, x ∈ elemsZ (l.foldl addOk ws) ↔ x ∈ elemsZ ws ∨ (x ∈ l /\ 0 <= x /\ x < 4096) := by
 induction l with
 | nil => intro ws h x; simp
 | cons a l ih =>
  intro ws h x
  rw [List.foldl_cons, ih _ (h.addOk a), mem_addOk h, List.mem_cons]
  constructor
  ·rintro ((h1 | ⟨h1, h2⟩) | ⟨h1, h2⟩)
   ·exact .inl h1
   ·exact .inr ⟨.inl h1, h1 ▸ h2⟩
   ·exact .inr ⟨.inr h1, h2⟩
  ·rintro (h1 | ⟨h1 | h1, h2⟩)
   ·exact .inl (.inl h1)
   ·exact .inl (.inr ⟨h1, h1 ▸ h2⟩)
   ·exact .inr ⟨h1, h2⟩
theorem ofW_mem {l : List Int} {x : Int} : x ∈ elemsZ (ofW l l.length) ↔ x ∈ l /\ 0 <= x /\ x < 4096 := by
 unfold ofW
 rw [List.take_length, mem_ofW l _ .nil x]
 have : elemsZ nilW = [] := by unfold elemsZ; rw [nilW_elems]; rfl
 rw [this]; simp
theorem ofW_sorted {l : List Int} (hs : l.Pairwise (· < ·)) (h : ∀ x ∈ l, 0 <= x /\ x < 4096) : elemsZ (ofW l l.length) = l :=
 sorted_ext (elemsZ_sorted _) hs fun x => ofW_mem.trans ⟨fun q => q.1, fun q => ⟨q, h x q⟩⟩
theorem elems_inj {a b : List Nat} (ha : WOk a) (hb : WOk b) (h : elemsZ a = elemsZ b) : a = b := by
 refine words_ext ha hb fun k => ?_
 by_cases hk : k < 4096
 ·have e : (k : Int) ∈ elemsZ a ↔ (k : Int) ∈ elemsZ b := by rw [h]
  rw [elemsZ_mem, elemsZ_mem] at e
  rw [Bool.eq_iff_iff]
  constructor
  ·intro q; exact (e.1 ⟨by omega, by omega, q⟩).2.2
  ·intro q; exact (e.2 ⟨by omega, by omega, q⟩).2.2
 ·rw [hasW_big ha (by omega), hasW_big hb (by omega)]
theorem nodesW_sorted (n : Nat) (ws : List Nat) : (nodesW n ws).Pairwise (· < ·) := (elemsZ_sorted _).filter _
theorem nodesW_mem' {n : Nat} {ws : List Nat} {v : Int} (h : v ∈ nodesW n ws) : 0 <= v /\ v < n /\ v < 4096 := by
 unfold nodesW at h
 rw [List.mem_filter] at h
 exact ⟨(elemsZ_mem.1 h.1).1, of_decide_eq_true h.2, (elemsZ_mem.1 h.1).2.1⟩
end Go.Sym