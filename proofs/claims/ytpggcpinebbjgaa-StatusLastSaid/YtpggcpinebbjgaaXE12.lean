/- Each operation does to the machine what the engine says: the rest of them, and the whole. -/
import Derived.Test.YtpggcpinebbjgaaXE11
namespace Go.Sym
set_option linter.unusedVariables false
set_option linter.unusedSimpArgs false

theorem foldl_splice (off : Nat) : ∀ (l : List Value) (k : Nat) (cs : Array Value), off + k + l.length ≤ cs.size →
    ((l.zipIdx k).foldl (fun cs (p : Value × Nat) => cs.setIfInBounds (off + p.2) p.1) cs).toList = spliceV cs.toList (off + k) l
  | [], k, cs, _ => by simp [spliceV]
  | v :: l, k, cs, h => by
    have hlt : off + k < cs.size := by simp at h; omega
    rw [List.zipIdx_cons, List.foldl_cons, foldl_splice off l (k + 1) _ (by simp at h ⊢; omega)]
    unfold spliceV
    simp only [Array.toList_setIfInBounds, List.length_cons]
    have hl : off + k < cs.toList.length := by simpa using hlt
    have e1 : (cs.toList.set (off + k) v).take (off + (k + 1)) = cs.toList.take (off + k) ++ [v] := by
      rw [show off + (k + 1) = off + k + 1 from by omega, List.take_succ_eq_append_getElem (by simpa using hl)]
      rw [List.take_set_of_le (Nat.le_refl _)]
      simp
    have e2 : (cs.toList.set (off + k) v).drop (off + (k + 1) + l.length) = cs.toList.drop (off + k + (l.length + 1)) := by
      rw [List.drop_set_of_lt (by omega)]
      congr 1
      omega
    rw [e1, e2]
    simp

section
variable {ρi : Env} {P : Program} {E A : Nat → Prop} {w0 : World} {ρ : Env} {F : Fr} {G : Hp} {a : Act} {w : World} {o : Oper}

theorem run_places : ∀ (gs : List Field), gs.all (fun f => (P.info? f.type).isSome) = true →
    (gs.mapM fun f => (do pure (f.offset, ← sizeOf f.type) : Sem (Nat × Nat))).run P w = .ok (gs.map fun f => (f.offset, P.cellsOf f.type)) w
  | [], _ => by simp
  | f :: gs, h => by
    simp only [List.all_cons, Bool.and_eq_true] at h
    obtain ⟨i, hi⟩ := Option.isSome_iff_exists.1 h.1
    rw [List.mapM_cons]
    simp only [Sem.run_bind, sizeOf, run_typeInfo hi, Result.andThen_ok, Sem.run_pure]
    have := run_places gs h.2
    simp only [sizeOf, Sem.run_bind] at this
    rw [this]
    simp [Program.cellsOf, hi]

theorem fillL_sound {T : List (Nat × TI)} {place place' : Nat → Option (Nat × Nat)} (hpl : ∀ i p, place i = some p → place' i = some p) (hF : FSat ρ F a.tmps) (hS : Scp G F) :
    ∀ (ps : List (Nat × Operand)) (cs cs' : List SV) (arr : Array Value), fillL T place F cs ps = some cs' → DenL ρ cs arr.toList → (∀ l ∈ labsL cs, G l ≠ none) →
      ∃ arr', Instr.fill place' arr (ps.map fun p => (p.1, a.eval p.2)) = some arr' ∧ DenL ρ cs' arr'.toList ∧ (∀ l ∈ labsL cs', G l ≠ none)
  | [], cs, cs', arr, h, hd, hl => by
    simp only [fillL, Option.some.injEq] at h
    subst h
    exact ⟨arr, rfl, hd, hl⟩
  | (i, x) :: ps, cs, cs', arr, h, hd, hl => by
    unfold fillL at h
    split at h
    · rename_i off size vs h1 h2
      split at h
      · rename_i h3 h4
        have h3 := Nat.eq_of_beq_eq_true h3
        have h4 := Nat.le_of_ble_eq_true h4
        rw [lenL_eq] at h3 h4
        have hx := oa_den hF x
        have hvd := cells_den h2 hx
        have hvs := cells_size h2 hx
        have hsz : arr.size = cs.length := by simpa using hd.length
        have hk := foldl_splice off (a.eval x).cells.toList 0 arr (by simp; omega)
        have hd' : DenL ρ (splice cs off vs) ((a.eval x).cells.zipIdx.foldl (fun cs (p : Value × Nat) => cs.setIfInBounds (off + p.2) p.1) arr).toList := by
          rw [← Array.foldl_toList, Array.toList_zipIdx, hk]
          exact DenL_splice hd hvd (by omega)
        have hl' : ∀ l ∈ labsL (splice cs off vs), G l ≠ none := by
          intro l hm
          rcases labsL_splice (xs := cs) (ys := vs) (n := off) (l := l) (by omega) hm with h | h
          · exact hl l h
          · rw [cells_labs h2] at h; exact oa_scp hS x l h
        obtain ⟨arr', g1, g2, g3⟩ := fillL_sound hpl hF hS ps _ cs' _ h hd' hl'
        refine ⟨arr', ?_, g2, g3⟩
        simp only [List.map_cons, Instr.fill, hpl i _ h1]
        rw [if_neg (by simp; omega)]
        exact g1
      · cases h
    · cases h

theorem placeS_real {T : List (Nat × TI)} (hT : TOk P T) {gs : List Field} {fs : List (Nat × Nat)} (hfs : gs.map (fun f => (f.offset, f.type)) = fs) {i : Nat} {p : Nat × Nat} (h : placeS T fs i = some p) :
    (gs.map fun f => (f.offset, P.cellsOf f.type))[i]? = some p ∧ ∃ f ti, gs[i]? = some f ∧ f.offset = p.1 ∧ tget T f.type = some ti ∧ ti.size = p.2 := by
  unfold placeS at h
  rw [nthF_eq] at h
  split at h
  · rename_i off t hn
    split at h
    · rename_i ti hti
      cases h
      rw [← hfs, List.getElem?_map] at hn
      cases hg : gs[i]? with
      | none => rw [hg] at hn; cases hn
      | some f =>
        rw [hg] at hn
        simp only [Option.map_some, Option.some.injEq, Prod.mk.injEq] at hn
        obtain ⟨rfl, rfl⟩ := hn
        obtain ⟨ii, z, h1, _, h3, _⟩ := (hT _ _ hti).i
        refine ⟨?_, f, ti, rfl, rfl, hti, rfl⟩
        rw [List.getElem?_map, hg]
        simp [Program.cellsOf, h1, h3]
    · cases h
  · cases h

theorem struct_shape {T : List (Nat × TI)} (hT : TOk P T) {t : Nat} {fs : List (Nat × Nat)} {s b : Nat} {z : List SV} (h : tget T t = some ⟨.struct fs, s, b, z⟩) :
    ∃ gs : Array Field, P.underlying t = some (.struct gs) ∧ gs.toList.map (fun f => (f.offset, f.type)) = fs ∧ gs.toList.all (fun f => (P.info? f.type).isSome) = true := by
  have hTi := hT _ _ h
  obtain ⟨dd, hd1, hd2⟩ := hTi.d
  have hs := hTi.s
  cases dd <;> simp only [tdOk] at hd2 <;> try cases hd2
  rename_i gs
  refine ⟨gs, hd1, of_decide_eq_true hd2, ?_⟩
  unfold structOk at hs
  rw [hd1] at hs
  simp only [Bool.and_eq_true] at hs
  exact hs.1
theorem slice_shape {T : List (Nat × TI)} (hT : TOk P T) {t e : Nat} {s b : Nat} {z : List SV} (h : tget T t = some ⟨.slice e, s, b, z⟩) : P.underlying t = some (.slice e) := by
  obtain ⟨dd, hd1, hd2⟩ := (hT _ _ h).d
  cases dd <;> simp only [tdOk] at hd2 <;> try cases hd2
  rw [hd1, Nat.eq_of_beq_eq_true hd2]
theorem int_shape {T : List (Nat × TI)} (hT : TOk P T) {t : Nat} {k : IntKind} {s b : Nat} {z : List SV} (h : tget T t = some ⟨.int k, s, b, z⟩) : P.underlying t = some (.int k) := by
  obtain ⟨dd, hd1, hd2⟩ := (hT _ _ h).d
  cases dd <;> simp only [tdOk] at hd2 <;> try cases hd2
  rw [hd1, IntKind.same_iff.1 hd2]
theorem str_shape {T : List (Nat × TI)} (hT : TOk P T) {t : Nat} {s b : Nat} {z : List SV} (h : tget T t = some ⟨.str, s, b, z⟩) : P.underlying t = some .string := by
  obtain ⟨dd, hd1, hd2⟩ := (hT _ _ h).d
  cases dd <;> simp only [tdOk] at hd2 <;> first | exact hd1 | cases hd2
theorem arr_shape {T : List (Nat × TI)} (hT : TOk P T) {t n e : Nat} {s b : Nat} {z : List SV} (h : tget T t = some ⟨.arr n e, s, b, z⟩) : P.underlying t = some (.array n e) := by
  obtain ⟨dd, hd1, hd2⟩ := (hT _ _ h).d
  cases dd <;> simp only [tdOk] at hd2 <;> try cases hd2
  rw [Bool.and_eq_true] at hd2
  rw [hd1, Nat.eq_of_beq_eq_true hd2.1, Nat.eq_of_beq_eq_true hd2.2]

theorem run_build {T : List (Nat × TI)} (hT : TOk P T) (S : St ρi E A w0 ρ F G a w) {t : Nat} {fs : List (Nat × Nat)} {s b : Nat} {z : List SV} (ht : tget T t = some ⟨.struct fs, s, b, z⟩) {ps : Array (Nat × Operand)}
    {cs : List SV} (h : fillL T (placeS T fs) F z ps.toList = some cs) :
    ∃ arr, (Instr.build t (ps.map fun (i, x) => (i, a.eval x))).run P w = .ok (.agg arr) w ∧ DenL ρ cs arr.toList ∧ (∀ l ∈ labsL cs, G l ≠ none) := by
  obtain ⟨gs, hu, hfs, hall⟩ := struct_shape hT ht
  obtain ⟨zv, z1, z2, z3⟩ := run_zeroValue (w := w) (hT _ _ ht)
  obtain ⟨arr', g1, g2, g3⟩ := fillL_sound (a := a) (G := G) (place' := fun i => (gs.toList.map fun f => (f.offset, P.cellsOf f.type))[i]?) (fun i p hp => (placeS_real hT hfs hp).1) S.fr S.scp ps.toList z cs zv.cells h
    (zsOk_den z2) (by rw [zsOk_labs z2]; simp)
  refine ⟨arr', ?_, g2, g3⟩
  unfold Instr.build
  simp only [Sem.run_bind, z1, Result.andThen_ok, run_underlying hu]
  rw [Array.mapM_eq_mapM_toList]
  simp only [Sem.run_bind, Sem.run_map, run_places gs.toList hall, Result.andThen_ok]
  have : (ps.map fun (x : Nat × Operand) => (x.1, a.eval x.2)).toList = ps.toList.map fun p => (p.1, a.eval p.2) := by simp
  simp only [Array.toList_map, List.getElem?_toArray]
  simp only [g1]
  rfl
end
end Go.Sym
