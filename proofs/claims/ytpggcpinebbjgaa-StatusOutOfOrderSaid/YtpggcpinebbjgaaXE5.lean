/- The operations on types and memory, as they run: what the engine's laws stand on. -/
import Derived.Test.YtpggcpinebbjgaaXE4
namespace Go.Sym
set_option linter.unusedVariables false
set_option linter.unusedSimpArgs false

/-- The table of types speaks of the program. -/
def tdOk : TD → TypeDesc → Bool
  | .int k, .int k' => IntKind.same k k'
  | .bool, .bool => true
  | .str, .string => true
  | .ptr e, .pointer e' => Nat.beq e e'
  | .slice e, .slice e' => Nat.beq e e'
  | .struct fs, .struct gs => decide (gs.toList.map (fun f => (f.offset, f.type)) = fs)
  | .arr n e, .array n' e' => Nat.beq n n' && Nat.beq e e'
  | .map k v, .map k' v' => Nat.beq k k' && Nat.beq v v'
  | .other, .struct _ => false
  | .other, .array _ _ => false
  | .other, _ => true
  | _, _ => false
def zOk : SV → Value → Bool
  | .i k n, .int k' n' => IntKind.same k k' && decide (n = n')
  | .bt b, .bool b' => b == b'
  | .s x, .string y => decide (x = y)
  | .np, .pointer none => true
  | .ns, .slice none 0 0 => true
  | .nm, .map none => true
  | .nf, .nilFunc => true
  | .u, _ => true
  | _, _ => false
def zsOk : List SV → List Value → Bool
  | [], [] => true
  | x :: xs, y :: ys => zOk x y && zsOk xs ys
  | _, _ => false
/-- A struct of integers alone is compared field by field, and by nothing else. -/
def structOk (P : Program) (t : Nat) : Bool :=
  match P.underlying t with
  | some (.struct gs) => gs.toList.all (fun f => (P.info? f.type).isSome) && (gs.toList.any (fun f => match P.underlying f.type with | some (.int _) => false | _ => true) ||
      (gs.toList.all (fun f => f.name != "_") && !P.eqGuardType P.depth t && !P.stoodInHeld t))
  | _ => true
def tiOk (P : Program) (t : Nat) (ti : TI) : Bool :=
  structOk P t && match P.underlying t, P.info? t with
  | some d, some i => match i.zero with
    | some z => tdOk ti.d d && Nat.beq i.size ti.size && Nat.beq i.bytes ti.bytes && zsOk ti.zero z.cells.toList && Nat.beq z.cells.size ti.size &&
        (match z with | .agg _ => ti.isAgg | _ => !ti.isAgg)
    | none => false
  | _, _ => false
def tokB (P : Program) : List (Nat × TI) → Bool
  | [] => true
  | (t, ti) :: r => tiOk P t ti && tokB P r

structure TiOk (P : Program) (t : Nat) (ti : TI) : Prop where
  d : ∃ d, P.underlying t = some d ∧ tdOk ti.d d = true
  i : ∃ i z, P.info? t = some i ∧ i.zero = some z ∧ i.size = ti.size ∧ i.bytes = ti.bytes ∧ zsOk ti.zero z.cells.toList = true ∧ z.cells.size = ti.size ∧
    (ti.isAgg = true → z = .agg z.cells) ∧ (ti.isAgg = false → z.cells = #[z])
  s : structOk P t = true
def TOk (P : Program) (T : List (Nat × TI)) : Prop := ∀ t ti, tget T t = some ti → TiOk P t ti

theorem tiOk_spec {P : Program} {t : Nat} {ti : TI} (h : tiOk P t ti = true) : TiOk P t ti := by
  unfold tiOk at h
  rw [Bool.and_eq_true] at h
  obtain ⟨hs, h⟩ := h
  split at h
  · rename_i d i hd hi
    split at h
    · rename_i z hz
      simp only [Bool.and_eq_true] at h
      obtain ⟨⟨⟨⟨⟨h1, h2⟩, h3⟩, h4⟩, h5⟩, h6⟩ := h
      refine ⟨⟨d, hd, h1⟩, ⟨i, z, hi, hz, Nat.eq_of_beq_eq_true h2, Nat.eq_of_beq_eq_true h3, h4, Nat.eq_of_beq_eq_true h5, ?_, ?_⟩, hs⟩
      · intro ha
        cases z <;> first | rfl | (rw [ha] at h6; simp at h6)
      · intro ha
        cases z <;> first | rfl | (rw [ha] at h6; simp at h6)
    · cases h
  · cases h
theorem tokB_spec {P : Program} : ∀ {T : List (Nat × TI)}, tokB P T = true → TOk P T
  | [], _, t, ti, e => by simp [tget] at e
  | (k, x) :: r, h, t, ti, e => by
    unfold tokB at h
    rw [Bool.and_eq_true] at h
    unfold tget at e
    split at e
    · rename_i hk
      cases e
      rw [← Nat.eq_of_beq_eq_true hk]
      exact tiOk_spec h.1
    · exact tokB_spec h.2 t ti e

section runs
variable {P : Program} {w : World} {t : Nat}

theorem run_underlying {d : TypeDesc} (h : P.underlying t = some d) : (underlying t).run P w = .ok d w := by
  simp [underlying, program, Sem.run, h]
theorem run_typeInfo {i : TypeInfo} (h : P.info? t = some i) : (typeInfo t).run P w = .ok i w := by
  simp [typeInfo, program, Sem.run, h]
theorem run_sizeOf {ti : TI} (h : TiOk P t ti) : (sizeOf t).run P w = .ok ti.size w := by
  obtain ⟨i, z, hi, _, hs, _⟩ := h.i
  simp [sizeOf, run_typeInfo hi, hs]
theorem run_bytes {ti : TI} (h : TiOk P t ti) : ∃ i, (typeInfo t).run P w = .ok i w ∧ i.bytes = ti.bytes := by
  obtain ⟨i, z, hi, _, hs, hb, _⟩ := h.i
  exact ⟨i, run_typeInfo hi, hb⟩
theorem run_zeroValue {ti : TI} (h : TiOk P t ti) : ∃ z, (zeroValue t).run P w = .ok z w ∧ zsOk ti.zero z.cells.toList = true ∧ z.cells.size = ti.size := by
  obtain ⟨i, z, hi, hz, hs, _, h1, h2, _⟩ := h.i
  exact ⟨z, by simp [zeroValue, run_typeInfo hi, hz], h1, h2⟩
theorem run_isAgg {ti : TI} (h : TiOk P t ti) : (isAgg t).run P w = .ok ti.isAgg w := by
  obtain ⟨d, hd, hk⟩ := h.d
  obtain ⟨td, a, b, c⟩ := ti
  simp only [isAgg, Sem.run_bind, run_underlying hd, Result.andThen_ok]
  cases td <;> cases d <;> simp_all [tdOk, TI.isAgg]
theorem zOk_den {ρ : Env} {x : SV} {y : Value} (h : zOk x y = true) : Den ρ x y := by
  unfold zOk at h
  split at h <;> first | (cases h; done) | skip
  all_goals simp only [Den]
  all_goals try trivial
  · simp only [Bool.and_eq_true, decide_eq_true_eq, IntKind.same_iff] at h
    rw [h.1, h.2]
  · rw [beq_iff_eq] at h
    rw [h]
  · rw [decide_eq_true_eq] at h
    rw [h]
theorem zOk_labs {x : SV} {y : Value} (h : zOk x y = true) : x.labs = [] := by
  unfold zOk at h
  split at h <;> first | (cases h; done) | simp [SV.labs]
theorem zsOk_den {ρ : Env} : ∀ {xs : List SV} {ys : List Value}, zsOk xs ys = true → DenL ρ xs ys
  | [], [], _ => by simp [DenL]
  | [], _ :: _, h => by simp [zsOk] at h
  | _ :: _, [], h => by simp [zsOk] at h
  | x :: xs, y :: ys, h => by
    simp only [zsOk, Bool.and_eq_true] at h
    refine DenL_cons.2 ⟨?_, zsOk_den h.2⟩
    exact zOk_den h.1
theorem zsOk_labs : ∀ {xs : List SV} {ys : List Value}, zsOk xs ys = true → labsL xs = []
  | [], [], _ => rfl
  | [], _ :: _, h => by simp [zsOk] at h
  | _ :: _, [], h => by simp [zsOk] at h
  | x :: xs, y :: ys, h => by
    simp only [zsOk, Bool.and_eq_true] at h
    rw [labsL, zsOk_labs h.2, zOk_labs h.1]
    rfl

variable {arr : Array Value} {ty : TypeId} {fz : Nat × Nat} {b : Nat}

theorem cell_of_block (h : w.heap[b]? = some (.cells arr ty fz)) (o : Nat) : w.cell? ⟨b, o, none⟩ = arr[o]? := by
  simp [World.cell?, h]
theorem run_load1 (h : w.heap[b]? = some (.cells arr ty fz)) {o : Nat} {v : Value} (hv : arr[o]? = some v) : (load ⟨b, o, none⟩).run P w = .ok v w := by
  simp [run_load, cell_of_block h, hv]
theorem add_none (o n : Nat) : Addr.add ⟨b, o, none⟩ n = ⟨b, o + n, none⟩ := by
  unfold Addr.add
  split
  · rename_i h; subst h; rfl
  · rfl
theorem run_loadCellsFrom (h : w.heap[b]? = some (.cells arr ty fz)) (o : Nat) : ∀ (n i : Nat) (acc : Array Value), o + i + n ≤ arr.size →
    ∃ vs : Array Value, (loadCellsFrom ⟨b, o, none⟩ i n acc).run P w = .ok vs w ∧ vs.toList = acc.toList ++ (arr.toList.drop (o + i)).take n := by
  intro n
  induction n with
  | zero => intro i acc _; exact ⟨acc, rfl, by simp⟩
  | succ n ih =>
    intro i acc hn
    have hlt : o + i < arr.size := by omega
    have hv : arr[o + i]? = some arr[o + i] := Array.getElem?_eq_getElem hlt
    obtain ⟨vs, h1, h2⟩ := ih (i + 1) (acc.push arr[o + i]) (by omega)
    refine ⟨vs, ?_, ?_⟩
    · simp only [loadCellsFrom, add_none, Sem.run_bind, run_load1 h hv, Result.andThen_ok]
      exact h1
    · rw [h2]
      have : arr.toList.drop (o + i) = arr[o + i] :: arr.toList.drop (o + (i + 1)) := by
        rw [← Array.getElem_toList hlt, List.drop_eq_getElem_cons (by simpa using hlt)]
        rfl
      rw [this]
      simp
theorem run_loadCells (h : w.heap[b]? = some (.cells arr ty fz)) (o n : Nat) (hn : o + n ≤ arr.size) :
    ∃ vs : Array Value, (loadCells ⟨b, o, none⟩ n).run P w = .ok vs w ∧ vs.toList = (arr.toList.drop o).take n := by
  obtain ⟨vs, h1, h2⟩ := run_loadCellsFrom (P := P) h o n 0 #[] (by omega)
  exact ⟨vs, h1, by simpa using h2⟩

/-- A whole variable, loaded. -/
theorem run_loadVar {ti : TI} (ht : TiOk P t ti) (h : w.heap[b]? = some (.cells arr ty fz)) (o : Nat) (hn : o + ti.size ≤ arr.size) :
    (ti.isAgg = true ∧ ∃ vs : Array Value, (loadVar t ⟨b, o, none⟩).run P w = .ok (.agg vs) w ∧ vs.toList = (arr.toList.drop o).take ti.size) ∨
    (ti.isAgg = false ∧ ∀ v, arr[o]? = some v → (loadVar t ⟨b, o, none⟩).run P w = .ok v w) := by
  cases ha : ti.isAgg with
  | true =>
    obtain ⟨vs, h1, h2⟩ := run_loadCells (P := P) h o ti.size hn
    exact .inl ⟨rfl, vs, by simp [loadVar, run_isAgg ht, ha, run_sizeOf ht, h1], h2⟩
  | false => exact .inr ⟨rfl, fun v hv => by
      simp only [loadVar, Sem.run_bind, run_isAgg ht, ha, Result.andThen_ok, Bool.false_eq_true, if_false]
      exact run_load1 h hv⟩

/-- The value may lie in a cell. -/
def cellable : Value → Bool
  | .agg _ | .tuple _ => false
  | _ => true

theorem setCell_heap (h : w.heap[b]? = some (.cells arr ty fz)) (o : Nat) (v : Value) :
    (w.setCell ⟨b, o, none⟩ v) = { w with heap := w.heap.setIfInBounds b (.cells (arr.setIfInBounds o v) ty fz) } := by
  have hb : b < w.heap.size := by
    rcases Nat.lt_or_ge b w.heap.size with h' | h'
    · exact h'
    · rw [Array.getElem?_eq_none h'] at h; cases h
  simp only [World.setCell]
  congr 1
  apply Array.ext_getElem?
  intro i
  simp only [Array.getElem?_modify, Array.getElem?_setIfInBounds, hb, if_true]
  by_cases hi : b = i
  · subst hi; simp [h]
  · simp [hi]

theorem run_store1 (h : w.heap[b]? = some (.cells arr ty (0, 0))) {o : Nat} {v : Value} (ho : o < arr.size) (hv : cellable v = true) :
    (store ⟨b, o, none⟩ v).run P w = .ok () { w with heap := w.heap.setIfInBounds b (.cells (arr.setIfInBounds o v) ty (0, 0)) } := by
  have hc : w.cell? ⟨b, o, none⟩ = some arr[o] := by rw [cell_of_block h]; exact Array.getElem?_eq_getElem ho
  have hf : w.frozen? ⟨b, o, none⟩ = false := by simp [World.frozen?, h]
  rw [← setCell_heap h]
  cases v <;> first | (simp [cellable] at hv; done) | simp [store, Sem.run, hc, hf]

theorem getElem_set_self (hb : b < w.heap.size) (x : Obj) : ({ w with heap := w.heap.setIfInBounds b x } : World).heap[b]? = some x := by
  simp [hb]

theorem run_storeCells : ∀ (vs : List Value) (w : World) (arr : Array Value) (o i : Nat), w.heap[b]? = some (.cells arr ty (0, 0)) → o + i + vs.length ≤ arr.size →
    (∀ v ∈ vs, cellable v = true) →
    ∃ arr' : Array Value, (storeCells ⟨b, o, none⟩ vs i).run P w = .ok () { w with heap := w.heap.setIfInBounds b (.cells arr' ty (0, 0)) } ∧
      arr'.toList = spliceV arr.toList (o + i) vs
  | [], w, arr, o, i, h, _, _ => by
    refine ⟨arr, ?_, by simp [spliceV]⟩
    have : w.heap.setIfInBounds b (.cells arr ty (0, 0)) = w.heap := by
      apply Array.ext_getElem?
      intro j
      rw [Array.getElem?_setIfInBounds]
      by_cases hj : b = j
      · subst hj
        have hb : b < w.heap.size := by
          rcases Nat.lt_or_ge b w.heap.size with h' | h'
          · exact h'
          · rw [Array.getElem?_eq_none h'] at h; cases h
        rw [if_pos rfl, if_pos hb, h]
      · rw [if_neg hj]
    rw [this]
    rfl
  | v :: vs, w, arr, o, i, h, hn, hc => by
    have hb : b < w.heap.size := by
      rcases Nat.lt_or_ge b w.heap.size with h' | h'
      · exact h'
      · rw [Array.getElem?_eq_none h'] at h; cases h
    have hlt : o + i < arr.size := by simp at hn; omega
    obtain ⟨arr', h1, h2⟩ := run_storeCells vs { w with heap := w.heap.setIfInBounds b (.cells (arr.setIfInBounds (o + i) v) ty (0, 0)) } (arr.setIfInBounds (o + i) v) o (i + 1)
      (by simp [hb]) (by simp at hn ⊢; omega) (fun u hu => hc u (by simp [hu]))
    refine ⟨arr', ?_, ?_⟩
    · simp only [storeCells, add_none, Sem.run_bind, run_store1 h hlt (hc v (by simp)), Result.andThen_ok, h1]
      simp
    · rw [h2]
      unfold spliceV
      simp only [Array.toList_setIfInBounds, List.length_cons]
      have e1 : (arr.toList.set (o + i) v).take (o + (i + 1)) = arr.toList.take (o + i) ++ [v] := by
        have hl : o + i < arr.toList.length := by simpa using hlt
        rw [show o + (i + 1) = o + i + 1 from by omega, List.take_succ_eq_append_getElem (by simpa using hl)]
        rw [List.take_set_of_le (Nat.le_refl _)]
        simp
      have e2 : (arr.toList.set (o + i) v).drop (o + (i + 1) + vs.length) = arr.toList.drop (o + i + (vs.length + 1)) := by
        rw [List.drop_set_of_lt (by omega)]
        congr 1
        omega
      rw [e1, e2]
      simp

/-- A whole variable, stored. -/
theorem run_storeVar {ti : TI} (ht : TiOk P t ti) (h : w.heap[b]? = some (.cells arr ty (0, 0))) (o : Nat) (v : Value) (hs : v.cells.size = ti.size)
    (hn : o + ti.size ≤ arr.size) (hc : ∀ x ∈ v.cells.toList, cellable x = true) :
    ∃ arr' : Array Value, (storeVar t ⟨b, o, none⟩ v).run P w = .ok () { w with heap := w.heap.setIfInBounds b (.cells arr' ty (0, 0)) } ∧
      arr'.toList = spliceV arr.toList o v.cells.toList := by
  obtain ⟨arr', h1, h2⟩ := run_storeCells (P := P) v.cells.toList w arr o 0 h (by simp [hs]; omega) hc
  refine ⟨arr', ?_, by simpa using h2⟩
  simp only [storeVar, Sem.run_bind, run_sizeOf ht, Result.andThen_ok, hs, ne_eq, not_true_eq_false, if_false]
  simpa using h1
end runs
end Go.Sym
