/- Each operation does to the machine what the engine says (I): operands, pure operations, loads. -/
import Derived.Test.YtpggcpinebbjgaaXE5
namespace Go.Sym
set_option linter.unusedVariables false
set_option linter.unusedSimpArgs false

structure St (ρi : Env) (E A : Nat → Prop) (w0 : World) (ρ : Env) (F : Fr) (G : Hp) (a : Act) (w : World) : Prop where
  heap : HSat ρ G w
  fr : FSat ρ F a.tmps
  scp : Scp G F
  keep : Keep E w0 w
  mutin : MutIn E A ρi w0.heap.size ρ G
  stab : ∀ l, 100000 ≤ l → G l ≠ none → ρ l = ρi l

theorem cvC_den {ρ : Env} (v : Value) : Den ρ (cvC v) v := by
  unfold cvC
  split <;> simp [Den]
theorem cvC_labs (v : Value) : (cvC v).labs = [] := by
  unfold cvC
  split <;> simp [SV.labs]
theorem cv_den {ρ : Env} (v : Value) : Den ρ (cv v) v := by
  unfold cv
  split
  · rename_i cs
    simp only [Den]
    refine ⟨cs, rfl, ?_⟩
    generalize cs.toList = l
    induction l with
    | nil => simp [DenL]
    | cons x r ih => exact DenL_cons.2 ⟨cvC_den x, ih⟩
  · exact cvC_den v
theorem cv_labs (v : Value) : (cv v).labs = [] := by
  unfold cv
  split
  · rename_i cs
    simp only [SV.labs]
    generalize cs.toList = l
    induction l with
    | nil => simp [labsL]
    | cons x r ih => simp [labsL, cvC_labs, ih]
  · exact cvC_labs v
theorem oa_den {ρ : Env} {F : Fr} {a : Act} (h : FSat ρ F a.tmps) (x : Operand) : Den ρ (oa F x) (a.eval x) := by
  cases x with
  | tmp t => exact h t
  | const v => exact cv_den v
  | global g => simp only [oa, Den]
  | func f =>
    simp only [oa, Den, Act.eval]
    exact ⟨#[], rfl, by simp [DenL]⟩
theorem oa_scp {G : Hp} {F : Fr} (h : Scp G F) (x : Operand) : ∀ l ∈ (oa F x).labs, G l ≠ none := by
  cases x with
  | tmp t => exact h t
  | const v => simp [oa, cv_labs]
  | global g => simp [oa, SV.labs]
  | func f => simp [oa, SV.labs, labsL]

theorem apS_eq (a b : List SV) : apS a b = a ++ b := by induction a with | nil => rfl | cons x r ih => simp [apS, ih]
theorem scaSV_den {ρ : Env} {arr : Array Value} {g : Nat → D} : ∀ {ks : List Kd} {c o : Nat} {cs : List SV}, scaSV ks g c = some cs → DenR ρ.z ks g c arr o → DenL ρ cs ((arr.toList.drop o).take ks.length) ∧ labsL cs = []
  | [], c, o, cs, h, _ => by
    simp only [scaSV, Option.some.injEq] at h
    subst h
    simp [DenL, labsL]
  | k :: ks, c, o, cs, h, hd => by
    simp only [DenR] at hd
    obtain ⟨⟨u, h1, h2⟩, h3⟩ := hd
    obtain ⟨ho, rfl⟩ := Array.getElem?_eq_some_iff.1 h1
    have e : arr.toList.drop o = arr[o] :: arr.toList.drop (o + 1) := by
      rw [← Array.getElem_toList ho, List.drop_eq_getElem_cons (by simpa using ho)]
    rw [e]
    simp only [List.length_cons, List.take_succ_cons]
    cases k <;> simp only [scaSV, reduceCtorEq] at h
    all_goals
      split at h
      · rename_i r hr
        cases h
        obtain ⟨g1, g2⟩ := scaSV_den hr h3
        refine ⟨DenL_cons.2 ⟨?_, g1⟩, by simp [labsL, SV.labs, g2]⟩
        simpa only [Den, DenD] using h2
      · cases h
theorem take_add_drop {α : Type} (l : List α) (o a b : Nat) : (l.drop o).take (a + b) = (l.drop o).take a ++ (l.drop (o + a)).take b := by
  rw [List.take_add, List.drop_drop]
theorem arrCells_den {ρ : Env} {arr : Array Value} {ks : List Kd} {f : Nat → Nat → D} : ∀ {n r : Nat} {cs : List SV}, arrCells ks f n r = some cs → (∀ q, r ≤ q → q < r + n → DenR ρ.z ks (f q) 0 arr (q * ks.length)) →
    DenL ρ cs ((arr.toList.drop (r * ks.length)).take (n * ks.length)) ∧ labsL cs = []
  | 0, r, cs, h, _ => by
    simp only [arrCells, Option.some.injEq] at h
    subst h
    simp [DenL, labsL]
  | n + 1, r, cs, h, hd => by
    simp only [arrCells] at h
    split at h
    · rename_i x y h1 h2
      cases h
      obtain ⟨a1, a2⟩ := scaSV_den h1 (hd r (Nat.le_refl _) (by omega))
      obtain ⟨b1, b2⟩ := arrCells_den h2 (fun q hq hq2 => hd q (by omega) (by omega))
      rw [apS_eq]
      refine ⟨?_, by simp [labsL_append, a2, b2]⟩
      rw [show (n + 1) * ks.length = ks.length + n * ks.length by rw [Nat.add_mul, Nat.one_mul, Nat.add_comm], take_add_drop]
      rw [show (r + 1) * ks.length = r * ks.length + ks.length by rw [Nat.add_mul, Nat.one_mul]] at b1
      exact DenL_append a1 b1
    · cases h
theorem cells_den {ρ : Env} {x : SV} {cs : List SV} {v : Value} (h : x.cells = some cs) (hd : Den ρ x v) : DenL ρ cs v.cells.toList := by
  cases x <;> simp only [SV.cells, Option.some.injEq, reduceCtorEq] at h
  case agg cs' =>
    subst h
    simp only [Den] at hd
    obtain ⟨vs, rfl, hd⟩ := hd
    exact hd
  case arr ks n f =>
    simp only [Den] at hd
    obtain ⟨vs, rfl, hs, hc⟩ := hd
    have := (arrCells_den (ρ := ρ) h (fun q _ hq => hc q (by omega))).1
    rw [Nat.zero_mul, List.drop_zero, ← hs, List.take_of_length_le (by simp)] at this
    exact this
  case sl l a b =>
    subst h
    have hd' := hd
    simp only [Den] at hd'
    rcases hd' with ⟨_, e, _⟩ | ⟨_, _, _, e, _⟩ <;> (rw [e] at hd ⊢; exact DenL_cons.2 ⟨hd, by simp [DenL]⟩)
  case q l n =>
    subst h
    have hd' := hd
    simp only [Den] at hd'
    rcases hd' with ⟨_, e⟩ | ⟨_, _, _, e⟩ <;> (rw [e] at hd ⊢; exact DenL_cons.2 ⟨hd, by simp [DenL]⟩)
  all_goals
    subst h
    have hd' := hd
    simp only [Den] at hd'
    first
      | (rw [hd'] at hd ⊢; exact DenL_cons.2 ⟨hd, by simp [DenL]⟩)
      | (obtain ⟨_, e⟩ := hd'; rw [e.2] at hd ⊢; exact DenL_cons.2 ⟨hd, by simp [DenL]⟩)
      | (obtain ⟨_, e, _⟩ := hd'; rw [e] at hd ⊢; exact DenL_cons.2 ⟨hd, by simp [DenL]⟩)
theorem scaSV_labs {g : Nat → D} : ∀ {ks : List Kd} {c : Nat} {cs : List SV}, scaSV ks g c = some cs → labsL cs = []
  | [], c, cs, h => by simp only [scaSV, Option.some.injEq] at h; subst h; simp [labsL]
  | k :: ks, c, cs, h => by
    cases k <;> simp only [scaSV, reduceCtorEq] at h
    all_goals
      split at h
      · rename_i r hr
        cases h
        simp [labsL, SV.labs, scaSV_labs hr]
      · cases h
theorem arrCells_labs {ks : List Kd} {f : Nat → Nat → D} : ∀ {n r : Nat} {cs : List SV}, arrCells ks f n r = some cs → labsL cs = []
  | 0, r, cs, h => by simp only [arrCells, Option.some.injEq] at h; subst h; simp [labsL]
  | n + 1, r, cs, h => by
    simp only [arrCells] at h
    split at h
    · rename_i x y h1 h2
      cases h
      rw [apS_eq, labsL_append, scaSV_labs h1, arrCells_labs h2]; rfl
    · cases h
theorem cells_labs {x : SV} {cs : List SV} (h : x.cells = some cs) : labsL cs = x.labs := by
  cases x <;> simp only [SV.cells, Option.some.injEq, reduceCtorEq] at h
  case arr ks n f => simp [SV.labs, arrCells_labs h]
  all_goals subst h
  all_goals simp [SV.labs, labsL]
theorem cells_size {ρ : Env} {x : SV} {cs : List SV} {v : Value} (h : x.cells = some cs) (hd : Den ρ x v) : v.cells.size = cs.length := by
  have := (cells_den h hd).length
  simpa using this
theorem isC_cellable {ρ : Env} {x : SV} {v : Value} (h : x.isC = true) (hd : Den ρ x v) : cellable v = true := by
  cases x <;> simp only [SV.isC, Bool.false_eq_true] at h
  case sl l a b =>
    simp only [Den] at hd
    rcases hd with ⟨_, e, _⟩ | ⟨_, _, _, e, _⟩ <;> (rw [e]; rfl)
  case q l n =>
    simp only [Den] at hd
    rcases hd with ⟨_, e⟩ | ⟨_, _, _, e⟩ <;> (rw [e]; rfl)
  all_goals
    simp only [Den] at hd
    first
      | (rw [hd]; rfl)
      | (obtain ⟨_, e⟩ := hd; rw [e.2]; rfl)
      | (obtain ⟨_, e, _⟩ := hd; rw [e]; rfl)
theorem allC_cellable {ρ : Env} : ∀ {xs : List SV} {vs : List Value}, allC xs = true → DenL ρ xs vs → ∀ v ∈ vs, cellable v = true
  | [], vs, _, hd => by rw [DenL_nil] at hd; simp [hd]
  | x :: xs, [], _, hd => by simp [DenL] at hd
  | x :: xs, v :: vs, h, hd => by
    rw [DenL_cons] at hd
    unfold allC at h
    split at h
    · rename_i hx
      intro u hu
      rcases List.mem_cons.1 hu with rfl | hu
      · exact isC_cellable hx hd.1
      · exact allC_cellable h hd.2 u hu
    · cases h
theorem DenD_cellable {z : Nat → Option Obj} {k : Kd} {d : D} {v : Value} (h : DenD z k d v) : cellable v = true := by
  cases k <;> simp only [DenD] at h
  · rw [h]; rfl
  · rw [h]; rfl
  · rw [h]; rfl
  · rcases h with ⟨_, e | ⟨_, _, e, _⟩⟩ | ⟨_, _, _, _, _, _, e, _⟩ <;> (rw [e]; rfl)
  · rcases h with ⟨_, e⟩ | ⟨_, _, _, _, _, e, _⟩ <;> (rw [e]; rfl)

/-- What an operation leaves. -/
def Left (P : Program) (ρi : Env) (E A : Nat → Prop) (w0 : World) (ρ : Env) (G : Hp) (a : Act) (w : World) (o : Oper) (v : SV) (wr : List (Nat × Blk)) : Prop :=
  ∃ nx w' ρ', (execOp a.eval o).run P w = .ok nx w' ∧ ((∃ u, nx = .value u ∧ Den ρ' v u) ∨ (nx = .skip ∧ v = .u)) ∧ HSat ρ' (upds G wr) w' ∧ Keep E w0 w' ∧
    MutIn E A ρi w0.heap.size ρ' (upds G wr) ∧ (∀ l, G l ≠ none → ρ' l = ρ l) ∧ ZLe ρ ρ' ∧ (∀ l ∈ v.labs, upds G wr l ≠ none)

section
variable {ρi : Env} {P : Program} {E A : Nat → Prop} {w0 : World} {ρ : Env} {F : Fr} {G : Hp} {a : Act} {w : World} {o : Oper}

/-- An operation that only computes or reads. -/
theorem Left.pure (S : St ρi E A w0 ρ F G a w) {v : SV} {u : Value} (hr : (execOp a.eval o).run P w = .ok (.value u) w) (hd : Den ρ v u) (hl : ∀ l ∈ v.labs, G l ≠ none) :
    Left P ρi E A w0 ρ G a w o v [] :=
  ⟨_, w, ρ, hr, .inl ⟨u, rfl, hd⟩, S.heap, S.keep, S.mutin, fun _ _ => rfl, ZLe.refl ρ, hl⟩

theorem TI.mk'_den {ti : TI} {cs : List SV} {v : SV} (h : ti.mk' cs = some v) : (ti.isAgg = true ∧ v = .agg cs) ∨ (ti.isAgg = false ∧ cs = [v]) := by
  unfold TI.mk' at h
  split at h
  · rename_i ha
    cases h; exact .inl ⟨ha, rfl⟩
  · rename_i ha
    split at h
    · cases h; exact .inr ⟨ha, rfl⟩
    · cases h
end
end Go.Sym
