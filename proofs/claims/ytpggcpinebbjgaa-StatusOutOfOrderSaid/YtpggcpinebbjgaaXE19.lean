/- A region that draws its order: whatever order is drawn, it comes to the same. (I) What an operation looks at. -/
import Derived.Test.YtpggcpinebbjgaaXE18
namespace Go.Sym
set_option linter.unusedVariables false
set_option linter.unusedSimpArgs false

section
variable {P : Program} {c : Cfg} {F F' : Fr} {G G' : Hp}

theorem opdSlots_mem {l : List Operand} {t : Nat} : t ∈ opdSlots l ↔ Operand.tmp t ∈ l := by
  induction l with
  | nil => simp [opdSlots]
  | cons x r ih => cases x <;> simp [opdSlots, ih]
theorem oa_local (x : Operand) (h : ∀ t, x = .tmp t → F t = F' t) : oa F x = oa F' x := by
  cases x with
  | tmp t => exact h t rfl
  | _ => rfl
theorem oas_local {l : List Operand} (h : ∀ t ∈ opdSlots l, F t = F' t) : ∀ x ∈ l, oa F x = oa F' x :=
  fun x hx => oa_local x fun t e => h t (opdSlots_mem.2 (e ▸ hx))

theorem fillL_local {T : List (Nat × TI)} {place : Nat → Option (Nat × Nat)} : ∀ (ps : List (Nat × Operand)) (cs : List SV), (∀ p ∈ ps, oa F p.2 = oa F' p.2) → fillL T place F cs ps = fillL T place F' cs ps
  | [], cs, _ => rfl
  | (i, x) :: ps, cs, h => by
    have hx := h (i, x) (by simp)
    simp only at hx
    unfold fillL
    rw [hx]
    cases place i with
    | none => rfl
    | some p => cases (oa F' x).cells with
      | none => rfl
      | some vs =>
        simp only
        split
        · exact fillL_local ps _ (fun p hp => h p (by simp [hp]))
        · rfl
theorem rowsOf_local {ks : List Kd} : ∀ (ps : List (Nat × Operand)) (k : Nat), (∀ p ∈ ps, oa F p.2 = oa F' p.2) → rowsOf G ks F ps k = rowsOf G ks F' ps k
  | [], k, _ => rfl
  | (i, x) :: ps, k, h => by
    have hx := h (i, x) (by simp)
    simp only at hx
    unfold rowsOf
    rw [hx, rowsOf_local ps (k + 1) (fun p hp => h p (by simp [hp]))]

theorem labsO_local : ∀ (ps : List (Nat × Operand)), (∀ p ∈ ps, oa F p.2 = oa F' p.2) → labsO F ps = labsO F' ps
  | [], _ => rfl
  | (i, x) :: ps, h => by
    have hx := h (i, x) (by simp)
    simp only at hx
    unfold labsO
    rw [hx, labsO_local ps (fun p hp => h p (by simp [hp]))]
theorem frzP_local {ks : List Kd} : ∀ (ps : List (Nat × Operand)), (∀ p ∈ ps, oa F p.2 = oa F' p.2) → frzP G ks F ps = frzP G ks F' ps
  | [], _ => rfl
  | (i, x) :: ps, h => by
    have hx := h (i, x) (by simp)
    simp only at hx
    unfold frzP
    rw [hx, frzP_local ps (fun p hp => h p (by simp [hp]))]

/-- The frame: an operation looks at its operands. -/
theorem ev_frame {T : List (Nat × TI)} {wraps : List Nat} {o : Oper} (h : ∀ x ∈ o.op.operands.toList, oa F x = oa F' x) : ev T wraps F G o = ev T wraps F' G o := by
  obtain ⟨dst, op, ty, pos, af, gd⟩ := o
  cases op <;> simp only [ev] <;> simp only [Op.operands, Call.operands] at h
  case build t ps =>
    have : ∀ p ∈ ps.toList, oa F p.2 = oa F' p.2 := fun p hp => h p.2 (by simp; exact ⟨p.1, by simpa using hp⟩)
    split
    · rw [fillL_local _ _ this]
    · split
      · split
        · split
          · rfl
          · rw [rowsOf_local _ _ this, labsO_local _ this]
        · rfl
      · rfl
    · rfl
  case buildSlice t n ps =>
    have : ∀ p ∈ ps.toList, oa F p.2 = oa F' p.2 := fun p hp => h p.2 (by simp; exact ⟨p.1, by simpa using hp⟩)
    split
    · split
      · split
        · rw [rowsOf_local _ _ this, labsO_local _ this]
        · rfl
      · rfl
    · rfl
  case slice t x lo hi mx =>
    have hx := h x (by simp)
    have ho : ∀ (d : Int) (y : Option Operand), (∀ z, y = some z → oa F z = oa F' z) → optI F d y = optI F' d y := by
      intro d y hy
      cases y with
      | none => rfl
      | some z => simp only [optI]; rw [hy z rfl]
    rw [hx]
    have e1 := fun d => ho d lo (fun z hz => h z (by subst hz; simp))
    have e2 := fun d => ho d hi (fun z hz => h z (by subst hz; simp))
    simp only [e1, e2]
  case makeFunc fn first caps =>
    have : caps.toList.map (oa F) = caps.toList.map (oa F') := List.map_congr_left fun x hx => h x (by simp; exact .inr (by simpa using hx))
    cases fn <;> simp only [this]
  case call cl =>
    obtain ⟨callee, args, tys⟩ := cl
    have : args.toList.map (oa F) = args.toList.map (oa F') := List.map_congr_left fun x hx => h x (by simp; exact .inr (by simpa using hx))
    cases callee <;> simp only [this]
  all_goals (first | rfl | (simp only [h _ (List.mem_singleton.2 rfl)]; done) | skip)
  all_goals (simp at h)
  all_goals (first | rw [h] | rw [h.1, h.2] | (rw [h.1]; rw [h.2]) | (obtain ⟨h1, h2⟩ := h; simp only [h1, h2]))
theorem frzO_frame {T : List (Nat × TI)} {o : Oper} (h : ∀ x ∈ o.op.operands.toList, oa F x = oa F' x) : frzO T F G o = frzO T F' G o := by
  obtain ⟨dst, op, ty, pos, af, gd⟩ := o
  cases op <;> simp only [frzO] <;> simp only [Op.operands, Call.operands] at h
  case build t ps =>
    have : ∀ p ∈ ps.toList, oa F p.2 = oa F' p.2 := fun p hp => h p.2 (by simp; exact ⟨p.1, by simpa using hp⟩)
    split
    · split
      · rw [frzP_local _ this]
      · rfl
    · rfl
  case buildSlice t n ps =>
    have : ∀ p ∈ ps.toList, oa F p.2 = oa F' p.2 := fun p hp => h p.2 (by simp; exact ⟨p.1, by simpa using hp⟩)
    split
    · split
      · rw [frzP_local _ this]
      · rfl
    · rfl
  case store t x v =>
    simp at h
    rw [h.1, h.2]
  case mapUpdate t x i v =>
    simp at h
    rw [h.1, h.2.2]
theorem frzR_frame {o : Oper} (h : ∀ x ∈ o.op.operands.toList, oa F x = oa F' x) : frzR F o = frzR F' o := by
  obtain ⟨dst, op, ty, pos, af, gd⟩ := o
  cases op <;> simp only [frzR] <;> simp only [Op.operands, Call.operands] at h
  case build t ps => exact labsO_local _ fun p hp => h p.2 (by simp; exact ⟨p.1, by simpa using hp⟩)
  case buildSlice t n ps => exact labsO_local _ fun p hp => h p.2 (by simp; exact ⟨p.1, by simpa using hp⟩)
  case store t x v =>
    simp at h
    rw [h.1, h.2]
  case mapUpdate t x i v =>
    simp at h
    rw [h.1, h.2.2]
theorem evZ_frame {T : List (Nat × TI)} {wraps : List Nat} {o : Oper} (h : ∀ x ∈ o.op.operands.toList, oa F x = oa F' x) : evZ T wraps F G o = evZ T wraps F' G o := by
  unfold evZ
  rw [frzO_frame h, ev_frame h]
  split
  · rfl
  · unfold evW
    rw [ev_frame h, frzR_frame h]
end
end Go.Sym
