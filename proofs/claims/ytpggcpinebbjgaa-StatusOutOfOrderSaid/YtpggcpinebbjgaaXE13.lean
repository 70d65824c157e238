/- Each operation does to the machine what the engine says: slice literals, and the whole law. -/
import Derived.Test.YtpggcpinebbjgaaXE12
namespace Go.Sym
set_option linter.unusedVariables false
set_option linter.unusedSimpArgs false

theorem lenR_eq (l : List (List D)) : lenR l = l.length := by induction l with | nil => rfl | cons x r ih => simp [lenR, ih]

section
variable {ρi : Env} {P : Program} {E A : Nat → Prop} {w0 : World} {ρ : Env} {F : Fr} {G : Hp} {a : Act} {w : World} {o : Oper}

theorem rowsOf_fill (H : HSat ρ G w) {ks : List Kd} {size : Nat} (hks : ks.length = size) (hF : FSat ρ F a.tmps) : ∀ (ps : List (Nat × Operand)) (k : Nat) (rs : List (List D)) (qs : List Prop) (arr : Array Value), rowsOf G ks F ps k = some (rs, qs) → allP qs →
    (k + rs.length) * size ≤ arr.size →
    ∃ arr', Instr.fill (fun i => some (i * size, size)) arr (ps.map fun p => (p.1, a.eval p.2)) = some arr' ∧ arr'.size = arr.size ∧ (∀ j, j < k * size → arr'[j]? = arr[j]?) ∧
      ∀ q, q < rs.length → DenR ρ.z ks (litRows rs q) 0 arr' ((k + q) * size)
  | [], k, rs, qs, arr, h, _, _ => by
    simp only [rowsOf, Option.some.injEq, Prod.mk.injEq] at h
    obtain ⟨rfl, rfl⟩ := h
    exact ⟨arr, rfl, rfl, fun _ _ => rfl, fun q hq => by simp at hq⟩
  | (i, x) :: ps, k, rs, qs, arr, h, hqs, hsz => by
    unfold rowsOf at h
    split at h
    · rename_i cs h1 h2
      split at h
      · rename_i ds pp rs' qs' h3 h4
        cases h
        have hi := Nat.eq_of_beq_eq_true h1
        subst hi
        have hx := oa_den hF x
        have hvd := cells_den h2 hx
        have hvs := cells_size h2 hx
        obtain ⟨d1, d2, d3⟩ := toDs_den H h3 hqs.1 hvd
        have hcl : cs.length = size := by rw [← hvs, ← hks, ← d2]; simp
        simp only [List.length_cons] at hsz
        have hsz' : (i + 1) * size ≤ arr.size := Nat.le_trans (Nat.mul_le_mul_right _ (by omega)) hsz
        rw [Nat.add_mul, Nat.one_mul] at hsz'
        have hk := foldl_splice (i * size) (a.eval x).cells.toList 0 arr (by simp; omega)
        have hcells : (a.eval x).cells.toList.length = size := by simp; omega
        let arr1 := (a.eval x).cells.zipIdx.foldl (fun cs (p : Value × Nat) => cs.setIfInBounds (i * size + p.2) p.1) arr
        have h1l : arr1.toList = spliceV arr.toList (i * size) (a.eval x).cells.toList := by
          show ((a.eval x).cells.zipIdx.foldl _ arr).toList = _
          rw [← Array.foldl_toList, Array.toList_zipIdx, hk]
          rfl
        have h1s : arr1.size = arr.size := by
          have := congrArg List.length h1l
          unfold spliceV at this
          simp at this
          have e : (a.eval x).cells.size = size := by simpa using hcells
          rw [e] at this
          omega
        obtain ⟨arr', g1, g2, g3, g4⟩ := rowsOf_fill H hks hF ps (i + 1) rs' qs' arr1 h4 hqs.2 (by rw [h1s, show i + 1 + rs'.length = i + (rs'.length + 1) from by omega]; exact hsz)
        have get1 : ∀ j, arr1[j]? = if h : i * size ≤ j ∧ j < i * size + (a.eval x).cells.toList.length then some ((a.eval x).cells.toList[j - i * size]'(by omega)) else arr[j]? := by
          intro j
          rw [← Array.getElem?_toList, h1l, spliceV_get _ _ _ (by simp; omega), Array.getElem?_toList]
        refine ⟨arr', ?_, g2.trans h1s, fun j hj => ?_, fun q hq => ?_⟩
        · simp only [List.map_cons, Instr.fill]
          rw [if_neg (by simp; omega)]
          exact g1
        · rw [g3 j (by rw [Nat.add_mul, Nat.one_mul]; omega), get1, dif_neg (by omega)]
        · cases q with
          | zero =>
            rw [DenR_iff]
            intro c hc
            obtain ⟨uu, q1, q2⟩ := d3 c hc (ds[c]'(by omega)) (List.getElem?_eq_getElem _)
            refine ⟨uu, ?_, ?_⟩
            · rw [Nat.add_zero, g3 _ (by rw [Nat.add_mul, Nat.one_mul]; omega), get1, dif_pos (by omega)]
              simp only [Nat.add_sub_cancel_left]
              rw [← List.getElem?_eq_getElem]
              exact q1
            · rw [Nat.zero_add]
              have : litRows (ds :: rs') 0 c = ds[c]'(by omega) := by
                simp [litRows, List.getElem?_eq_getElem (show c < ds.length by omega)]
              rw [this]; exact q2
          | succ q =>
            have := g4 q (by simpa using hq)
            rw [show i + (q + 1) = i + 1 + q from by omega]
            exact this
      · cases h
    · cases h

theorem Left.slice (S : St ρi E A w0 ρ F G a w) {d : Nat} (hd : G d = none) {ks : List Kd} {n cap : Nat} {f : Nat → Nat → D} {arr : Array Value} {e : TypeId} (hn : n ≤ cap) (hsz : cap * ks.length ≤ arr.size)
    (hc : ∀ r, r < n → DenR ρ.z ks (f r) 0 arr (r * ks.length))
    (hr : (execOp a.eval o).run P w = .ok (.value (.slice (some ⟨w.heap.size, 0, none⟩) n cap)) { w with heap := w.heap.push (.cells arr e) }) :
    Left P ρi E A w0 ρ G a w o (.sl d 0 n) [(d, .rows .own ks n f)] := by
  obtain ⟨k1, k2, k3, k4⟩ := pushed (b := .rows .own ks n f) (w' := { w with heap := w.heap.push (.cells arr e) }) S.heap S.keep S.mutin hd (by simp [Blk.labs]) rfl rfl rfl rfl rfl
    (grown_ok (ρ := ρ) (d := d) (w := w) (N := n) (nc := cap) rfl hn hsz hc)
  refine ⟨_, _, _, hr, .inl ⟨_, rfl, ?_⟩, k1, k2, k3, k4, updE_z _ _ _, ?_⟩
  · simp only [Den]
    exact .inr ⟨_, ⟨w.heap.size, 0, none⟩, updE_same _ _ _, by simp, by simpa using hn, fun _ => by simp [ptr]⟩
  · intro l hl; simp [SV.labs] at hl; subst hl; simp [upds_one_same]

theorem minI_sound : ∀ (r : List SV) (vs : List Value) (k : IntKind) (x m : Int), minI r k x = some m → DenL ρ r vs → (vs.foldlM Builtin.min2 (.int k x)).run P w = .ok (.int k m) w
  | [], vs, k, x, m, h, hd => by
    rw [DenL_nil] at hd
    subst hd
    simp only [minI, Option.some.injEq] at h
    subst h
    rfl
  | c :: r, [], k, x, m, h, hd => by simp [DenL] at hd
  | c :: r, v :: vs, k, x, m, h, hd => by
    rw [DenL_cons] at hd
    cases c <;> simp only [minI, reduceCtorEq] at h
    rename_i k' y
    split at h
    · have h1 := hd.1
      simp only [Den] at h1
      subst h1
      have := minI_sound r vs k (min x y) m h hd.2
      rw [List.foldlM_cons, Sem.run_bind]
      have e : (if y < x then y else x) = min x y := by omega
      simp only [Builtin.min2, Sem.run_pure, Result.andThen_ok, e]
      exact this
    · cases h
theorem maxI_sound : ∀ (r : List SV) (vs : List Value) (k : IntKind) (x m : Int), maxI r k x = some m → DenL ρ r vs → (vs.foldlM Builtin.max2 (.int k x)).run P w = .ok (.int k m) w
  | [], vs, k, x, m, h, hd => by
    rw [DenL_nil] at hd
    subst hd
    simp only [maxI, Option.some.injEq] at h
    subst h
    rfl
  | c :: r, [], k, x, m, h, hd => by simp [DenL] at hd
  | c :: r, v :: vs, k, x, m, h, hd => by
    rw [DenL_cons] at hd
    cases c <;> simp only [maxI, reduceCtorEq] at h
    rename_i k' y
    split at h
    · have h1 := hd.1
      simp only [Den] at h1
      subst h1
      have := maxI_sound r vs k (max x y) m h hd.2
      rw [List.foldlM_cons, Sem.run_bind]
      have e : (if y > x then y else x) = max x y := by omega
      simp only [Builtin.max2, Sem.run_pure, Result.andThen_ok, e]
      exact this
    · cases h
end
end Go.Sym
