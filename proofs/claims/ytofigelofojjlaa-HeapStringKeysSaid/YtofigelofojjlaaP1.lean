/- law03: the heap and the list of lines say the same. No program in sight. -/
import Derived.Test.YtofigelofojjlaaR1
namespace Go.Sym
set_option linter.unusedVariables false
set_option linter.unusedSimpArgs false
/-- All but one number. -/
def wo (l : List Line) (id : Int) : List Line := l.filter fun e => decide (e.id ≠ id)
theorem wo_perm {l l' : List Line} (h : l.Perm l') (id : Int) : (wo l id).Perm (wo l' id) := h.filter _
theorem wo_out {l : List Line} {id : Int} (h : id ∉ ids l) : wo l id = l := by
  unfold wo
  rw [List.filter_eq_self]
  intro e he
  simp only [decide_eq_true_eq]
  rintro rfl
  exact h (List.mem_map.2 ⟨e, he, rfl⟩)
theorem wo_of_perm {l rest : List Line} {e : Line} (h : l.Perm (e :: rest)) (hn : (ids l).Nodup) : (wo l e.id).Perm rest := by
  have h1 := wo_perm h e.id
  have h2 := (ids_perm h).nodup_iff.1 hn
  simp only [ids, List.map_cons, List.nodup_cons] at h2
  have h3 : wo (e :: rest) e.id = rest := by
    have := wo_out (l := rest) (id := e.id) h2.1
    unfold wo at this ⊢
    rw [List.filter_cons]
    simpa using this
  rw [h3] at h1
  exact h1
theorem take_drop_perm {l : List Line} {i : Nat} (hi : i < l.length) : l.Perm (l.getD i default :: (l.take i ++ l.drop (i + 1))) := by
  have e : l = l.take i ++ l.getD i default :: l.drop (i + 1) := by
    rw [List.getD_eq_getElem?_getD, List.getElem?_eq_getElem hi]
    simp only [Option.getD_some]
    rw [List.getElem_cons_drop, List.take_append_drop]
  exact (List.Perm.of_eq e).trans List.perm_middle
theorem dropI_wo {l : List Line} (hn : (ids l).Nodup) (id : Int) : (dropI l id).Perm (wo l id) := by
  unfold dropI
  by_cases h : id ∈ ids l
  · rw [if_pos h]
    obtain ⟨h1, h2⟩ := posOf_lt h
    have h3 := wo_of_perm (take_drop_perm h1) hn
    rw [h2] at h3
    exact h3.symm
  · rw [if_neg h, wo_out h]
theorem delF_wo {l : List Line} (hn : (ids l).Nodup) (id : Int) : (delFi l id).Perm (wo l id) := by
  unfold delFi
  by_cases h : id ∈ ids l
  · rw [if_pos h]
    obtain ⟨h1, h2⟩ := posOf_lt h
    have h3 := wo_of_perm (removeF_perm lti h1) hn
    rw [h2] at h3
    exact h3.symm
  · rw [if_neg h, wo_out h]
theorem popF_wo {l : List Line} (hn : (ids l).Nodup) (h : l.length ≠ 0) : (popF lti l).Perm (wo l (l.getD 0 default).id) := by
  unfold popF
  rw [if_neg h]
  exact (wo_of_perm (removeF_perm lti (by omega)) hn).symm
theorem putBase_wo {l : List Line} (hn : (ids l).Nodup) (id key : Int) : (putBase l id key).Perm (⟨id, key⟩ :: wo l id) := by
  by_cases h : id ∈ ids l
  · obtain ⟨h1, h2⟩ := posOf_lt h
    have h3 := wo_of_perm (take_drop_perm h1) hn
    rw [h2] at h3
    unfold putBase
    rw [if_pos h, List.set_eq_take_append_cons_drop, if_pos h1]
    exact List.perm_middle.trans (h3.symm.cons _)
  · unfold putBase
    rw [if_neg h, wo_out h]
    exact List.perm_append_singleton _ _
theorem putBase_perm {l l' : List Line} (hn : (ids l).Nodup) (h : l.Perm l') (id key : Int) : (putBase l id key).Perm (putBase l' id key) :=
  ((putBase_wo hn id key).trans ((wo_perm h id).cons _)).trans (putBase_wo ((ids_perm h).nodup_iff.1 hn) id key).symm
theorem mem_getD {l : List Line} {i : Nat} (hi : i < l.length) : l.getD i default ∈ l := by
  rw [List.getD_eq_getElem?_getD, List.getElem?_eq_getElem hi]; exact List.getElem_mem _
theorem eq_of_id {l : List Line} (hn : (ids l).Nodup) {a b : Line} (ha : a ∈ l) (hb : b ∈ l) (h : a.id = b.id) : a = b := by
  obtain ⟨i, hi, rfl⟩ := List.mem_iff_getElem.1 ha
  obtain ⟨j, hj, rfl⟩ := List.mem_iff_getElem.1 hb
  have : i = j := ids_inj hn hi hj (by simpa [List.getD_eq_getElem?_getD, hi, hj] using h)
  subst this; rfl
theorem keyOf_mem {l : List Line} {id : Int} (h : id ∈ ids l) : (⟨id, keyOfi l id⟩ : Line) ∈ l := by
  obtain ⟨h1, h2⟩ := posOf_lt h
  have := mem_getD h1
  unfold keyOfi
  rw [if_pos h]
  have e : l.getD (posOf l id) default = ⟨id, (l.getD (posOf l id) default).key⟩ := by
    rw [show (l.getD (posOf l id) default) = ⟨(l.getD (posOf l id) default).id, (l.getD (posOf l id) default).key⟩ from rfl, h2]
  rw [← e]; exact this
theorem keyOf_perm {l l' : List Line} (hn : (ids l).Nodup) (h : l.Perm l') (id : Int) : keyOfi l id = keyOfi l' id := by
  by_cases hi : id ∈ ids l
  · have hi' := (ids_perm h).mem_iff.1 hi
    have h1 := h.mem_iff.1 (keyOf_mem hi)
    have h2 := keyOf_mem hi'
    have := eq_of_id ((ids_perm h).nodup_iff.1 hn) h1 h2 rfl
    injection this
  · have hi' : id ∉ ids l' := fun h2 => hi ((ids_perm h).mem_iff.2 h2)
    rw [keyOf_out hi, keyOf_out hi']
/-- The least of a list. -/
theorem topK_spec {l : List Line} : ∀ k : Nat, k ≤ l.length → 0 < l.length → topK l k ∈ l ∧ ∀ j, j < k → El.less lti (l.getD j default) (topK l k) = false
  | 0, _, h => ⟨mem_getD h, fun j hj => absurd hj (Nat.not_lt_zero _)⟩
  | k + 1, hk, h => by
    obtain ⟨h1, h2⟩ := topK_spec k (by omega) h
    rw [topK_succ (by omega)]
    split
    · rename_i hs
      refine ⟨mem_getD (by omega), fun j hj => ?_⟩
      by_cases e : j = k
      · subst e; exact less_irr lti_ok _
      · exact nless_trans lti_ok (less_asym lti_ok hs) (h2 j (by omega))
    · rename_i hs
      refine ⟨h1, fun j hj => ?_⟩
      by_cases e : j = k
      · subst e; simpa using hs
      · exact h2 j (by omega)
/-- A heap and a list of lines that say the same. -/
structure Twin (h x : List Line) : Prop where
  p : h.Perm x
  n : (ids h).Nodup
  o : HeapOk lti h
theorem Twin.nil : Twin [] [] := ⟨List.Perm.refl _, List.nodup_nil, fun i _ h => by simp at h⟩
theorem Twin.n' {h x : List Line} (t : Twin h x) : (ids x).Nodup := (ids_perm t.p).nodup_iff.1 t.n
theorem Twin.len {h x : List Line} (t : Twin h x) : h.length = x.length := t.p.length_eq
theorem Twin.mem {h x : List Line} (t : Twin h x) (id : Int) : decide (id ∈ ids h) = decide (id ∈ ids x) := by
  rw [decide_eq_decide]; exact (ids_perm t.p).mem_iff
theorem Twin.key {h x : List Line} (t : Twin h x) (id : Int) : keyOfi h id = keyOfi x id := keyOf_perm t.n t.p id
theorem Twin.put {h x : List Line} (t : Twin h x) (id key : Int) : Twin (putF lti h id key) (putBase x id key) :=
  ⟨(putF_perm lti h id key).trans (putBase_perm t.n t.p id key), putF_nodup lti t.n id key, putF_heap lti_ok t.n t.o id key⟩
theorem Twin.del {h x : List Line} (t : Twin h x) (id : Int) : Twin (delFi h id) (dropI x id) := by
  refine ⟨(delF_wo t.n id).trans ((wo_perm t.p id).trans (dropI_wo t.n' id).symm), ?_, ?_⟩
  · have := (ids_perm (delF_wo t.n id)).nodup_iff.2
    refine this ?_
    unfold ids wo
    exact t.n.sublist (List.filter_sublist.map _)
  · unfold delFi
    split
    · rename_i hi; exact removeF_heap lti_ok t.n t.o (posOf_lt hi).1
    · exact t.o
theorem Twin.top {h x : List Line} (t : Twin h x) : h.getD 0 default = topK x x.length := by
  by_cases h0 : x.length = 0
  · have e1 := List.length_eq_zero_iff.1 h0
    have e2 := List.length_eq_zero_iff.1 (t.len.trans h0)
    subst e1 e2; rfl
  · obtain ⟨h1, h2⟩ := topK_spec (l := x) x.length (Nat.le_refl _) (by omega)
    have hl := t.len
    have m1 : h.getD 0 default ∈ x := t.p.mem_iff.1 (mem_getD (by omega))
    have a := heap_min_mem lti_ok t.o (t.p.mem_iff.2 h1)
    obtain ⟨j, hj, e⟩ := List.mem_iff_getElem.1 m1
    have b := h2 j hj
    have e' : x.getD j default = h.getD 0 default := by rw [← e]; simp [List.getD_eq_getElem?_getD, hj]
    rw [e'] at b
    exact less_tot lti_ok b a
theorem Twin.pop {h x : List Line} (t : Twin h x) (h0 : h.length ≠ 0) : Twin (popF lti h) (dropI x (h.getD 0 default).id) := by
  refine ⟨(popF_wo t.n h0).trans ((wo_perm t.p _).trans (dropI_wo t.n' _).symm), ?_, ?_⟩
  · unfold popF; rw [if_neg h0]; exact removeF_nodup lti t.n (by omega)
  · unfold popF; rw [if_neg h0]; exact removeF_heap lti_ok t.n t.o (by omega)
theorem popF_len {h : List Line} : (popF lti h).length = h.length - 1 := by
  unfold popF
  split
  · omega
  · exact removeF_length lti (by omega)
theorem dropI_mem {x : List Line} (hn : (ids x).Nodup) (id : Int) {e : Line} : e ∈ dropI x id ↔ e ∈ x ∧ e.id ≠ id := by
  rw [(dropI_wo hn id).mem_iff]; simp [wo]
theorem dropI_nodup {x : List Line} (hn : (ids x).Nodup) (id : Int) : (ids (dropI x id)).Nodup := by
  refine (ids_perm (dropI_wo hn id)).nodup_iff.2 ?_
  unfold ids wo
  exact hn.sublist (List.filter_sublist.map _)
end Go.Sym
