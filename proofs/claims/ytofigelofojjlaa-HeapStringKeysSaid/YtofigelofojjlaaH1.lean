/- Binary heaps of numbers with keys: what the functions compute, and what it is worth. No program in sight. -/
import Derived.Test.YtofigelofojjlaaXD
namespace Go.Sym
set_option linter.unusedVariables false
set_option linter.unusedSimpArgs false
set_option linter.unusedSectionVars false

structure El (α : Type) where
  id : Int
  key : α
deriving Inhabited, DecidableEq
section
variable {α : Type} [Inhabited α] (lt : α → α → Bool)
/-- A strict total order. -/
structure LtOk (lt : α → α → Bool) : Prop where
  irr : ∀ a, lt a a = false
  trans : ∀ a b c, lt a b = true → lt b c = true → lt a c = true
  tot : ∀ a b, lt a b = false → lt b a = false → a = b
def El.less (a b : El α) : Bool := lt a.key b.key || (!lt b.key a.key && decide (a.id < b.id))
variable {lt}
theorem LtOk.asym (h : LtOk lt) {a b : α} (h1 : lt a b = true) : lt b a = false := by
  cases h2 : lt b a with
  | false => rfl
  | true => have := h.trans _ _ _ h1 h2; rw [h.irr] at this; cases this
theorem less_trans (h : LtOk lt) {a b c : El α} (h1 : El.less lt a b = true) (h2 : El.less lt b c = true) : El.less lt a c = true := by
  simp only [El.less, Bool.or_eq_true, Bool.and_eq_true, Bool.not_eq_true', decide_eq_true_eq] at *
  rcases h1 with h1 | ⟨h1, i1⟩
  · rcases h2 with h2 | ⟨h2, i2⟩
    · exact .inl (h.trans _ _ _ h1 h2)
    · cases e : lt b.key c.key with
      | true => exact .inl (h.trans _ _ _ h1 e)
      | false => rw [← h.tot _ _ e h2]; exact .inl h1
  · rcases h2 with h2 | ⟨h2, i2⟩
    · cases e : lt a.key b.key with
      | true => exact .inl (h.trans _ _ _ e h2)
      | false => rw [h.tot _ _ e h1]; exact .inl h2
    · cases e1 : lt a.key b.key with
      | true =>
        cases e2 : lt b.key c.key with
        | true => exact .inl (h.trans _ _ _ e1 e2)
        | false => rw [← h.tot _ _ e2 h2]; exact .inl e1
      | false =>
        have e3 := h.tot _ _ e1 h1
        rw [e3]
        exact .inr ⟨h2, by omega⟩
theorem less_irr (h : LtOk lt) (a : El α) : El.less lt a a = false := by simp [El.less, h.irr]
theorem less_asym (h : LtOk lt) {a b : El α} (h1 : El.less lt a b = true) : El.less lt b a = false := by
  cases h2 : El.less lt b a with
  | false => rfl
  | true => have := less_trans h h1 h2; rw [less_irr h] at this; cases this
theorem less_tot (h : LtOk lt) {a b : El α} (h1 : El.less lt a b = false) (h2 : El.less lt b a = false) : a = b := by
  simp only [El.less, Bool.or_eq_false_iff, Bool.and_eq_false_iff, Bool.not_eq_false', decide_eq_false_iff_not] at *
  obtain ⟨a1, a2⟩ := h1
  obtain ⟨b1, b2⟩ := h2
  have hk := h.tot _ _ a1 b1
  rw [hk, h.irr] at a2 b2
  simp at a2 b2
  cases a; cases b
  simp only at *
  simp [hk]; omega
/-- Not less, and again not less. -/
theorem nless_trans (h : LtOk lt) {a b c : El α} (h1 : El.less lt b a = false) (h2 : El.less lt c b = false) : El.less lt c a = false := by
  cases e : El.less lt c a with
  | false => rfl
  | true =>
    cases e2 : El.less lt a b with
    | true => have := less_trans h e e2; rw [h2] at this; cases this
    | false => have := less_tot h e2 h1; subst this; rw [h2] at e; cases e

def swp (l : List (El α)) (i j : Nat) : List (El α) := (l.set i (l.getD j default)).set j (l.getD i default)
theorem swp_length (l : List (El α)) (i j : Nat) : (swp l i j).length = l.length := by simp [swp]
theorem swp_get {l : List (El α)} {i j : Nat} (hi : i < l.length) (hj : j < l.length) (k : Nat) : (swp l i j).getD k default = if k = j then l.getD i default else if k = i then l.getD j default else l.getD k default := by
  unfold swp
  by_cases h1 : k = j
  · subst h1; rw [getD_set_self (by simpa using hj)]; simp
  · rw [getD_set_ne (Ne.symm h1), if_neg h1]
    by_cases h2 : k = i
    · subst h2; rw [getD_set_self hi]; simp
    · rw [getD_set_ne (Ne.symm h2), if_neg h2]
theorem swp_perm {l : List (El α)} {i j : Nat} (hi : i < l.length) (hj : j < l.length) : (swp l i j).Perm l := by
  have h := Array.swap_perm (xs := l.toArray) (i := i) (j := j) (by simpa using hi) (by simpa using hj)
  have e : (l.toArray.swap i j (by simpa using hi) (by simpa using hj)).toList = swp l i j := by
    simp [Array.swap, swp, List.getD_eq_getElem?_getD, hi, hj]
  have h2 := Array.perm_iff_toList_perm.1 h
  rw [e] at h2
  simpa using h2
variable (lt)
def upF (l : List (El α)) (i : Nat) : List (El α) :=
  if h : i = 0 then l else
    if El.less lt (l.getD i default) (l.getD ((i - 1) / 2) default) then upF (swp l i ((i - 1) / 2)) ((i - 1) / 2) else l
termination_by i
decreasing_by omega
/-- The lesser child. -/
def kid (l : List (El α)) (i : Nat) : Nat :=
  if 2 * i + 2 < l.length ∧ El.less lt (l.getD (2 * i + 2) default) (l.getD (2 * i + 1) default) = true then 2 * i + 2 else 2 * i + 1
def downF (l : List (El α)) (i : Nat) : List (El α) :=
  if h : 2 * i + 1 < l.length then
    if El.less lt (l.getD (kid lt l i) default) (l.getD i default) then downF (swp l i (kid lt l i)) (kid lt l i) else l
  else l
termination_by l.length - i
decreasing_by
  rw [swp_length]
  unfold kid
  split <;> omega
variable {lt}
theorem kid_lt {l : List (El α)} {i : Nat} (h : 2 * i + 1 < l.length) : kid lt l i < l.length ∧ i < kid lt l i ∧ (kid lt l i - 1) / 2 = i := by
  unfold kid
  split <;> omega
theorem upF_length : ∀ (i : Nat) (l : List (El α)), (upF lt l i).length = l.length := by
  intro i
  induction i using Nat.strongRecOn with
  | ind i ih =>
    intro l
    rw [upF]
    split
    · rfl
    · split
      · rw [ih _ (by omega), swp_length]
      · rfl
theorem upF_perm : ∀ (i : Nat) (l : List (El α)), i < l.length → (upF lt l i).Perm l := by
  intro i
  induction i using Nat.strongRecOn with
  | ind i ih =>
    intro l hi
    rw [upF]
    split
    · exact List.Perm.refl _
    · split
      · exact (ih _ (by omega) _ (by rw [swp_length]; omega)).trans (swp_perm hi (by omega))
      · exact List.Perm.refl _
theorem downF_perm : ∀ (n : Nat) (l : List (El α)) (i : Nat), l.length - i = n → i < l.length → (downF lt l i).Perm l := by
  intro n
  induction n using Nat.strongRecOn with
  | ind n ih =>
    intro l i hn hi
    rw [downF]
    split
    · rename_i h
      obtain ⟨k1, k2, k3⟩ := kid_lt (lt := lt) h
      split
      · exact (ih (l.length - kid lt l i) (by omega) _ _ (by rw [swp_length]) (by rw [swp_length]; omega)).trans (swp_perm hi k1)
      · exact List.Perm.refl _
    · exact List.Perm.refl _
theorem downF_perm' {l : List (El α)} {i : Nat} (hi : i < l.length) : (downF lt l i).Perm l := downF_perm _ l i rfl hi
theorem downF_length {l : List (El α)} {i : Nat} (hi : i < l.length) : (downF lt l i).length = l.length := (downF_perm' hi).length_eq

/-! ### Order -/
def HeapOk (lt : α → α → Bool) (l : List (El α)) : Prop := ∀ i, 0 < i → i < l.length → El.less lt (l.getD i default) (l.getD ((i - 1) / 2) default) = false
structure UpInv (lt : α → α → Bool) (l : List (El α)) (i : Nat) : Prop where
  h : ∀ j, 0 < j → j < l.length → j ≠ i → El.less lt (l.getD j default) (l.getD ((j - 1) / 2) default) = false
  g : ∀ j, 0 < j → j < l.length → (j - 1) / 2 = i → 0 < i → El.less lt (l.getD j default) (l.getD ((i - 1) / 2) default) = false
structure DownInv (lt : α → α → Bool) (l : List (El α)) (i : Nat) : Prop where
  h : ∀ j, 0 < j → j < l.length → (j - 1) / 2 ≠ i → El.less lt (l.getD j default) (l.getD ((j - 1) / 2) default) = false
  g : ∀ j, 0 < j → j < l.length → (j - 1) / 2 = i → 0 < i → El.less lt (l.getD j default) (l.getD ((i - 1) / 2) default) = false
structure FixInv (lt : α → α → Bool) (l : List (El α)) (i : Nat) : Prop where
  h : ∀ j, 0 < j → j < l.length → j ≠ i → (j - 1) / 2 ≠ i → El.less lt (l.getD j default) (l.getD ((j - 1) / 2) default) = false
  g : ∀ j, 0 < j → j < l.length → (j - 1) / 2 = i → 0 < i → El.less lt (l.getD j default) (l.getD ((i - 1) / 2) default) = false
theorem upF_heap (hl : LtOk lt) : ∀ (i : Nat) (l : List (El α)), i < l.length → UpInv lt l i → HeapOk lt (upF lt l i) := by
  intro i
  induction i using Nat.strongRecOn with
  | ind i ih =>
    intro l hi H
    rw [upF]
    split
    · rename_i h0
      intro j h1 h2
      exact H.h j h1 h2 (by omega)
    · rename_i h0
      have hp : (i - 1) / 2 < l.length := by omega
      have hpi : (i - 1) / 2 < i := by omega
      generalize hpp : (i - 1) / 2 = p at *
      split
      · rename_i hs
        have hss := less_asym hl hs
        refine ih p hpi _ (by rw [swp_length]; omega) ⟨fun j h1 h2 h3 => ?_, fun j h1 h2 h3 h4 => ?_⟩
        · rw [swp_length] at h2
          rw [swp_get hi hp, swp_get hi hp, if_neg h3]
          by_cases e1 : j = i
          · subst e1
            rw [if_pos rfl, hpp, if_pos rfl]
            exact hss
          · rw [if_neg e1]
            by_cases e2 : (j - 1) / 2 = p
            · rw [if_pos e2]
              have := H.h j h1 h2 e1
              rw [e2] at this
              exact nless_trans hl hss this
            · rw [if_neg e2]
              by_cases e3 : (j - 1) / 2 = i
              · rw [if_pos e3]
                have hg := H.g j h1 h2 e3 (by omega)
                rw [hpp] at hg
                exact hg
              · rw [if_neg e3]; exact H.h j h1 h2 e1
        · rw [swp_length] at h2
          have hpp' : (p - 1) / 2 < p := by omega
          have h5 := H.h p h4 (by omega) (by omega)
          rw [swp_get hi hp, swp_get hi hp, if_neg (show ¬ j = p by omega), if_neg (show ¬ (p - 1) / 2 = p by omega), if_neg (show ¬ (p - 1) / 2 = i by omega)]
          by_cases e1 : j = i
          · rw [if_pos e1]; exact h5
          · rw [if_neg e1]
            have := H.h j h1 h2 e1
            rw [h3] at this
            exact nless_trans hl h5 this
      · rename_i hs
        intro j h1 h2
        by_cases e : j = i
        · subst e; rw [hpp]; simpa using hs
        · exact H.h j h1 h2 e
theorem kid_least (hl : LtOk lt) {l : List (El α)} {i : Nat} (h : 2 * i + 1 < l.length) {j : Nat} (h0 : 0 < j) (h1 : j < l.length) (h2 : (j - 1) / 2 = i) : El.less lt (l.getD j default) (l.getD (kid lt l i) default) = false := by
  have : j = 2 * i + 1 ∨ j = 2 * i + 2 := by omega
  unfold kid
  split
  · rename_i hk
    rcases this with rfl | rfl
    · exact less_asym hl hk.2
    · exact less_irr hl _
  · rename_i hk
    rcases this with rfl | rfl
    · exact less_irr hl _
    · cases e : El.less lt (l.getD (2 * i + 2) default) (l.getD (2 * i + 1) default) with
      | false => rfl
      | true => exact absurd ⟨h1, e⟩ hk
theorem downF_heap (hl : LtOk lt) : ∀ (n : Nat) (l : List (El α)) (i : Nat), l.length - i = n → i < l.length → DownInv lt l i → HeapOk lt (downF lt l i) := by
  intro n
  induction n using Nat.strongRecOn with
  | ind n ih =>
    intro l i hn hi H
    rw [downF]
    split
    · rename_i h
      obtain ⟨k1, k2, k3⟩ := kid_lt (lt := lt) h
      have hleast := fun j h0 h1 h2 => kid_least hl h (j := j) h0 h1 h2
      generalize kid lt l i = c at *
      split
      · rename_i hs
        have hss := less_asym hl hs
        refine ih (l.length - c) (by omega) _ _ (by rw [swp_length]) (by rw [swp_length]; omega) ⟨fun j h1 h2 h3 => ?_, fun j h1 h2 h3 h4 => ?_⟩
        · rw [swp_length] at h2
          rw [swp_get hi k1, swp_get hi k1, if_neg h3]
          by_cases e1 : j = c
          · subst e1
            rw [if_pos rfl, if_pos k3]
            exact hss
          · rw [if_neg e1]
            by_cases e2 : j = i
            · subst e2
              rw [if_pos rfl, if_neg (show ¬ (j - 1) / 2 = j by omega)]
              exact H.g c (by omega) k1 k3 h1
            · rw [if_neg e2]
              by_cases e3 : (j - 1) / 2 = i
              · rw [if_pos e3]; exact hleast j h1 h2 e3
              · rw [if_neg e3]; exact H.h j h1 h2 e3
        · rw [swp_length] at h2
          rw [swp_get hi k1, swp_get hi k1, if_neg (show ¬ j = c by omega), if_neg (show ¬ j = i by omega), if_neg (show ¬ (c - 1) / 2 = c by omega), if_pos k3]
          have := H.h j h1 h2 (by omega)
          rwa [h3] at this
      · rename_i hs
        intro j h1 h2
        by_cases e : (j - 1) / 2 = i
        · rw [e]
          exact nless_trans hl (by simpa using hs) (hleast j h1 h2 e)
        · exact H.h j h1 h2 e
    · rename_i h
      intro j h1 h2
      exact H.h j h1 h2 (by omega)
theorem downF_same {l : List (El α)} (H : HeapOk lt l) (i : Nat) : downF lt l i = l := by
  rw [downF]
  split
  · rename_i h
    obtain ⟨k1, k2, k3⟩ := kid_lt (lt := lt) h
    have := H (kid lt l i) (by omega) k1
    rw [k3] at this
    rw [this]; rfl
  · rfl
/-- Where a number lies. -/
def posOf (l : List (El α)) (id : Int) : Nat := l.findIdx fun e => decide (e.id = id)
def ids (l : List (El α)) : List Int := l.map El.id
theorem posOf_lt {l : List (El α)} {id : Int} (h : id ∈ ids l) : posOf l id < l.length ∧ (l.getD (posOf l id) default).id = id := by
  obtain ⟨e, he, rfl⟩ := List.mem_map.1 h
  have h1 : posOf l e.id < l.length := List.findIdx_lt_length_of_exists ⟨e, he, by simp⟩
  refine ⟨h1, ?_⟩
  have := List.findIdx_getElem (p := fun x : El α => decide (x.id = e.id)) (xs := l) (w := h1)
  rw [List.getD_eq_getElem?_getD, List.getElem?_eq_getElem h1]
  exact of_decide_eq_true this
theorem ids_get {l : List (El α)} {i : Nat} (hi : i < l.length) : (ids l)[i]'(by simpa [ids] using hi) = (l.getD i default).id := by
  simp [ids, List.getD_eq_getElem?_getD, hi]
theorem mem_ids {l : List (El α)} {i : Nat} (hi : i < l.length) : (l.getD i default).id ∈ ids l := by
  rw [← ids_get hi]; exact List.getElem_mem _
theorem ids_inj {l : List (El α)} (hn : (ids l).Nodup) {i j : Nat} (hi : i < l.length) (hj : j < l.length) (h : (l.getD i default).id = (l.getD j default).id) : i = j := by
  rw [← ids_get hi, ← ids_get hj] at h
  exact (List.getElem_inj hn).1 h
theorem posOf_get {l : List (El α)} (hn : (ids l).Nodup) {i : Nat} (hi : i < l.length) : posOf l (l.getD i default).id = i := by
  obtain ⟨h1, h2⟩ := posOf_lt (mem_ids hi)
  exact ids_inj hn h1 hi h2
theorem ids_perm {l l' : List (El α)} (h : l.Perm l') : (ids l).Perm (ids l') := h.map _
/-- A key turned at i, put right. -/
def fixF (lt : α → α → Bool) (l : List (El α)) (i : Nat) : List (El α) := downF lt (upF lt l i) (posOf (upF lt l i) (l.getD i default).id)
theorem fixF_pos (lt : α → α → Bool) {l : List (El α)} {i : Nat} (hi : i < l.length) : posOf (upF lt l i) (l.getD i default).id < (upF lt l i).length :=
  (posOf_lt ((ids_perm (upF_perm i l hi)).symm.mem_iff.1 (mem_ids hi))).1
theorem fixF_perm {l : List (El α)} {i : Nat} (hi : i < l.length) : (fixF lt l i).Perm l :=
  (downF_perm' (fixF_pos lt hi)).trans (upF_perm i l hi)
theorem fixF_heap (hl : LtOk lt) {l : List (El α)} (hn : (ids l).Nodup) {i : Nat} (hi : i < l.length) (H : FixInv lt l i) : HeapOk lt (fixF lt l i) := by
  unfold fixF
  by_cases hs : 0 < i ∧ El.less lt (l.getD i default) (l.getD ((i - 1) / 2) default) = true
  · have hu : HeapOk lt (upF lt l i) := by
      refine upF_heap hl i l hi ⟨fun j h1 h2 h3 => ?_, H.g⟩
      by_cases e : (j - 1) / 2 = i
      · rw [e]
        have := H.g j h1 h2 e hs.1
        exact nless_trans hl (less_asym hl hs.2) this
      · exact H.h j h1 h2 h3 e
    rw [downF_same hu]
    exact hu
  · have hu : upF lt l i = l := by
      rw [upF]
      split
      · rfl
      · rename_i h0
        split
        · rename_i h1; exact absurd ⟨by omega, h1⟩ hs
        · rfl
    rw [hu, posOf_get hn hi]
    refine downF_heap hl _ l i rfl hi ⟨fun j h1 h2 h3 => ?_, H.g⟩
    by_cases e : j = i
    · subst e
      cases e2 : El.less lt (l.getD j default) (l.getD ((j - 1) / 2) default) with
      | false => rfl
      | true => exact absurd ⟨h1, e2⟩ hs
    · exact H.h j h1 h2 e h3
theorem heap_trans (hl : LtOk lt) {l : List (El α)} (H : HeapOk lt l) {i j : Nat} (h1 : 0 < j) (h2 : j < l.length) (h3 : (j - 1) / 2 = i) (h4 : 0 < i) : El.less lt (l.getD j default) (l.getD ((i - 1) / 2) default) = false := by
  have a := H j h1 h2
  rw [h3] at a
  exact nless_trans hl (H i h4 (by omega)) a
/-- What 'Put' makes of a heap. -/
def putBase (l : List (El α)) (id : Int) (key : α) : List (El α) := if id ∈ ids l then l.set (posOf l id) ⟨id, key⟩ else l ++ [⟨id, key⟩]
def putAt (l : List (El α)) (id : Int) : Nat := if id ∈ ids l then posOf l id else l.length
def putF (lt : α → α → Bool) (l : List (El α)) (id : Int) (key : α) : List (El α) := fixF lt (putBase l id key) (putAt l id)
theorem putAt_lt (l : List (El α)) (id : Int) (key : α) : putAt l id < (putBase l id key).length ∧ (putBase l id key).getD (putAt l id) default = ⟨id, key⟩ := by
  unfold putAt putBase
  by_cases h : id ∈ ids l
  · rw [if_pos h, if_pos h, List.length_set]
    have := (posOf_lt h).1
    exact ⟨this, getD_set_self this⟩
  · rw [if_neg h, if_neg h]
    simp [List.getD_eq_getElem?_getD]
theorem putBase_get {l : List (El α)} {id : Int} {key : α} {j : Nat} (hj : j ≠ putAt l id) (hl : j < (putBase l id key).length) : (putBase l id key).getD j default = l.getD j default ∧ j < l.length := by
  unfold putAt at hj
  unfold putBase at hl ⊢
  by_cases h : id ∈ ids l
  · rw [if_pos h] at hj hl ⊢
    rw [List.length_set] at hl
    exact ⟨getD_set_ne (Ne.symm hj), hl⟩
  · rw [if_neg h] at hj hl ⊢
    have : j < l.length := by simp at hl; omega
    simp [List.getD_eq_getElem?_getD, List.getElem?_append_left this, this]
theorem ids_putBase {l : List (El α)} {id : Int} {key : α} : ids (putBase l id key) = madd1 (ids l) id := by
  unfold putBase madd1
  by_cases h : id ∈ ids l
  · rw [if_pos h, if_pos h]
    apply List.ext_getElem
    · simp [ids]
    · intro j h1 h2
      have hj : j < l.length := by simpa [ids] using h2
      have h3 := ids_get (l := l.set (posOf l id) ⟨id, key⟩) (i := j) (by simpa using hj)
      have h4 := ids_get (l := l) (i := j) hj
      rw [h3, h4]
      by_cases e : j = posOf l id
      · subst e
        rw [getD_set_self hj]
        exact (posOf_lt h).2.symm
      · rw [getD_set_ne (Ne.symm e)]
  · rw [if_neg h, if_neg h]; simp [ids]
theorem nodup_madd1 {l : List Int} (h : l.Nodup) (k : Int) : (madd1 l k).Nodup := by
  unfold madd1
  split
  · exact h
  · rename_i hk
    rw [List.nodup_append]
    exact ⟨h, by simp, fun a ha b hb e => hk (by simp at hb; rw [← hb, ← e]; exact ha)⟩
theorem putF_perm (lt : α → α → Bool) (l : List (El α)) (id : Int) (key : α) : (putF lt l id key).Perm (putBase l id key) := fixF_perm (putAt_lt l id key).1
theorem putF_nodup (lt : α → α → Bool) {l : List (El α)} (hn : (ids l).Nodup) (id : Int) (key : α) : (ids (putF lt l id key)).Nodup :=
  (ids_perm (putF_perm lt l id key)).nodup_iff.2 (by rw [ids_putBase]; exact nodup_madd1 hn id)
theorem putF_heap (hl : LtOk lt) {l : List (El α)} (hn : (ids l).Nodup) (H : HeapOk lt l) (id : Int) (key : α) : HeapOk lt (putF lt l id key) := by
  obtain ⟨p1, p2⟩ := putAt_lt l id key
  refine fixF_heap hl (by rw [ids_putBase]; exact nodup_madd1 hn id) p1 ⟨fun j h1 h2 h3 h4 => ?_, fun j h1 h2 h3 h4 => ?_⟩
  · rw [(putBase_get h3 h2).1, (putBase_get h4 (by omega)).1]
    exact H j h1 (putBase_get h3 h2).2
  · have hj : j ≠ putAt l id := by omega
    rw [(putBase_get hj h2).1, (putBase_get (show (putAt l id - 1) / 2 ≠ putAt l id by omega) (by omega)).1]
    exact heap_trans hl H h1 (putBase_get hj h2).2 h3 h4
/-- What 'removeAt' makes of a heap. -/
def cutF (l : List (El α)) (i : Nat) : List (El α) := (if i < l.length - 1 then swp l i (l.length - 1) else l).take (l.length - 1)
def removeF (lt : α → α → Bool) (l : List (El α)) (i : Nat) : List (El α) := if i < l.length - 1 then fixF lt (cutF l i) i else cutF l i
theorem cutF_length (l : List (El α)) (i : Nat) : (cutF l i).length = l.length - 1 := by
  unfold cutF
  split <;> simp [swp_length]
theorem getD_take {l : List (El α)} {n j : Nat} (h : j < n) : (l.take n).getD j default = l.getD j default := by
  simp [List.getD_eq_getElem?_getD, List.getElem?_take, h]
theorem cutF_get {l : List (El α)} {i j : Nat} (hi : i < l.length) (hj : j < l.length - 1) : (cutF l i).getD j default = if j = i then l.getD (l.length - 1) default else l.getD j default := by
  unfold cutF
  rw [getD_take hj]
  by_cases h : i < l.length - 1
  · rw [if_pos h, swp_get hi (by omega), if_neg (by omega)]
  · rw [if_neg h]
    by_cases e : j = i
    · omega
    · rw [if_neg e]
theorem cutF_perm {l : List (El α)} {i : Nat} (hi : i < l.length) : l.Perm (l.getD i default :: cutF l i) := by
  have key : ∀ (m : List (El α)), m.length = l.length → m.Perm (m.getD (l.length - 1) default :: m.take (l.length - 1)) := by
    intro m hm
    have h1 : m.length - 1 < m.length := by omega
    have e : m = m.take (l.length - 1) ++ [m.getD (l.length - 1) default] := by
      rw [List.getD_eq_getElem?_getD, List.getElem?_eq_getElem (by omega)]
      simp only [Option.getD_some]
      rw [List.take_append_getElem (by omega), show l.length - 1 + 1 = m.length by omega, List.take_length]
    exact (List.Perm.of_eq e).trans (List.perm_append_singleton _ _)
  unfold cutF
  by_cases h : i < l.length - 1
  · rw [if_pos h]
    have h2 := key (swp l i (l.length - 1)) (swp_length _ _ _)
    rw [swp_get hi (by omega), if_pos rfl] at h2
    exact (swp_perm hi (by omega)).symm.trans h2
  · rw [if_neg h]
    have : i = l.length - 1 := by omega
    rw [this]
    exact key l rfl
theorem removeF_perm (lt : α → α → Bool) {l : List (El α)} {i : Nat} (hi : i < l.length) : l.Perm (l.getD i default :: removeF lt l i) := by
  unfold removeF
  split
  · exact (cutF_perm hi).trans ((fixF_perm (by rw [cutF_length]; omega)).symm.cons _)
  · exact cutF_perm hi
theorem removeF_nodup (lt : α → α → Bool) {l : List (El α)} (hn : (ids l).Nodup) {i : Nat} (hi : i < l.length) : (ids (removeF lt l i)).Nodup := by
  have := (ids_perm (removeF_perm lt hi)).nodup_iff.1 hn
  simp only [ids, List.map_cons, List.nodup_cons] at this
  exact this.2
theorem cutF_nodup {l : List (El α)} (hn : (ids l).Nodup) {i : Nat} (hi : i < l.length) : (ids (cutF l i)).Nodup := by
  have := (ids_perm (cutF_perm hi)).nodup_iff.1 hn
  simp only [ids, List.map_cons, List.nodup_cons] at this
  exact this.2
theorem removeF_length (lt : α → α → Bool) {l : List (El α)} {i : Nat} (hi : i < l.length) : (removeF lt l i).length = l.length - 1 := by
  have := (removeF_perm lt hi).length_eq
  simp at this; omega
theorem removeF_heap (hl : LtOk lt) {l : List (El α)} (hn : (ids l).Nodup) (H : HeapOk lt l) {i : Nat} (hi : i < l.length) : HeapOk lt (removeF lt l i) := by
  unfold removeF
  split
  · rename_i h
    refine fixF_heap hl (cutF_nodup hn hi) (by rw [cutF_length]; exact h) ⟨fun j h1 h2 h3 h4 => ?_, fun j h1 h2 h3 h4 => ?_⟩
    · rw [cutF_length] at h2
      rw [cutF_get hi h2, if_neg h3, cutF_get hi (by omega), if_neg h4]
      exact H j h1 (by omega)
    · rw [cutF_length] at h2
      rw [cutF_get hi h2, if_neg (by omega), cutF_get hi (by omega), if_neg (by omega)]
      exact heap_trans hl H h1 (by omega) h3 h4
  · rename_i h
    intro j h1 h2
    rw [cutF_length] at h2
    rw [cutF_get hi h2, if_neg (by omega), cutF_get hi (by omega), if_neg (by omega)]
    exact H j h1 (by omega)
/-- The first is the least. -/
theorem heap_min (hl : LtOk lt) {l : List (El α)} (H : HeapOk lt l) : ∀ i, i < l.length → El.less lt (l.getD i default) (l.getD 0 default) = false := by
  intro i
  induction i using Nat.strongRecOn with
  | ind i ih =>
    intro hi
    by_cases h0 : i = 0
    · subst h0; exact less_irr hl _
    · exact nless_trans hl (ih ((i - 1) / 2) (by omega) (by omega)) (H i (by omega) hi)
theorem heap_min_mem (hl : LtOk lt) {l : List (El α)} (H : HeapOk lt l) {e : El α} (he : e ∈ l) : El.less lt e (l.getD 0 default) = false := by
  obtain ⟨i, hi, rfl⟩ := List.mem_iff_getElem.1 he
  have := heap_min hl H i hi
  simpa [List.getD_eq_getElem?_getD, hi] using this
/-- What 'Pop' leaves. -/
def popF (lt : α → α → Bool) (l : List (El α)) : List (El α) := if l.length = 0 then l else removeF lt l 0
def minF (l : List (El α)) : El α := l.getD 0 ⟨0, default⟩
end
end Go.Sym
