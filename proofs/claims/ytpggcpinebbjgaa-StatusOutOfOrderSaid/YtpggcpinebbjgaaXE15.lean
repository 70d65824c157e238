/- Each operation does to the machine what the engine says: the law. -/
import Derived.Test.YtpggcpinebbjgaaXM8
namespace Go.Sym
set_option linter.unusedVariables false
set_option linter.unusedSimpArgs false

section
variable {ρi : Env} {P : Program} {E A : Nat → Prop} {w0 : World} {ρ : Env} {F : Fr} {G : Hp} {a : Act} {w : World}

theorem newObj_world (w : World) (x : Obj) : ({ w with heap := w.heap.push x } : World) = { w with heap := w.heap.push x } := rfl

theorem apK_eq (a b : List Kd) : apK a b = a ++ b := by induction a with | nil => rfl | cons x r ih => simp [apK, ih]
theorem kdsOk_get : ∀ {ks : List Kd} {xs : List SV}, kdsOk ks xs = true → ∀ j (h : j < ks.length), ∃ x, xs[j]? = some x ∧ kdOk (ks[j]'h) x = true
  | [], _, _, j, h => by simp at h
  | k :: ks, [], h, _, _ => by simp [kdsOk] at h
  | k :: ks, x :: xs, h, j, hj => by
    simp only [kdsOk] at h
    split at h
    · rename_i hk
      cases j with
      | zero => exact ⟨x, rfl, hk⟩
      | succ j => simpa using kdsOk_get h j (by simpa using hj)
    · cases h
theorem zsOk_get : ∀ {xs : List SV} {vs : List Value}, zsOk xs vs = true → ∀ (j : Nat) (x : SV), xs[j]? = some x → ∃ v, vs[j]? = some v ∧ zOk x v = true
  | [], _, _, j, x, h => by simp at h
  | x :: xs, [], h, _, _, _ => by simp [zsOk] at h
  | x :: xs, v :: vs, h, j, y, hj => by
    simp only [zsOk, Bool.and_eq_true] at h
    cases j with
    | zero => simp at hj; subst hj; exact ⟨v, rfl, h.1⟩
    | succ j => simpa using zsOk_get h.2 j y (by simpa using hj)
theorem repK_length (n : Nat) (ks : List Kd) : (repK n ks).length = n * ks.length := by
  induction n with
  | zero => simp [repK]
  | succ n ih => simp [repK, apK_eq, ih, Nat.add_mul, Nat.add_comm]
theorem repK_get (ks : List Kd) : ∀ (n r j : Nat) (hj : j < ks.length) (h : r * ks.length + j < (repK n ks).length), (repK n ks)[r * ks.length + j]'h = ks[j]'hj
  | 0, r, j, hj, h => by simp [repK] at h
  | n + 1, 0, j, hj, h => by simp [repK, apK_eq, List.getElem_append, hj]
  | n + 1, r + 1, j, hj, h => by
    have h' : r * ks.length + j < (repK n ks).length := by
      rw [repK_length] at h ⊢
      rw [Nat.add_mul, Nat.add_mul] at h; omega
    have := repK_get ks n r j hj h'
    simp only [repK, apK_eq]
    rw [List.getElem_append_right (by rw [Nat.add_mul]; omega)]
    rw [← this]
    congr 1
    rw [Nat.add_mul]; omega
/-- The zero value of an array: its element's, again and again. -/
theorem arr_zero {T : List (Nat × TI)} {e n : Nat} {te : TI} {ks : List Kd} {zs : List SV} {z : Array Value} {zf : Nat → Option Obj} (h : kdsZero T e n zs = true) (hk : kdsE T e te = some ks) (hz : zsOk zs z.toList = true) :
    ∀ r, r < n → DenR zf ks (zRow ks) 0 z (r * ks.length) := by
  intro r hr
  have hT : kdsT T 12 e = some ks := by
    unfold kdsE at hk
    split at hk
    · rename_i ks' hks
      split at hk
      · cases hk; exact hks
      · cases hk
    · cases hk
  unfold kdsZero at h
  rw [hT] at h
  simp only at h
  rw [DenR_iff]
  intro j hj
  have hlt : r * ks.length + j < (repK n ks).length := by rw [repK_length]; exact row_bound hr hj
  obtain ⟨x, h1, h2⟩ := kdsOk_get h _ hlt
  obtain ⟨v, h3, h4⟩ := zsOk_get hz _ _ h1
  rw [repK_get ks n r j hj hlt] at h2
  refine ⟨v, by simpa using h3, ?_⟩
  rw [Nat.zero_add, zRow_get ks j hj]
  exact zD_den h2 h4

set_option maxHeartbeats 2000000 in
theorem ev_sound {T : List (Nat × TI)} (hT : TOk P T) (S : St ρi E A w0 ρ F G a w) {wraps : List Nat} {o : Oper} {r : Res} (hr : ev T wraps F G o = some r) (hp : r.Pre) :
    Left P ρi E A w0 ρ G a w o r.v r.wr := by
  obtain ⟨dst, op, ty, pos, af, gd⟩ := o
  unfold ev at hr
  cases op <;> simp only [] at hr <;> try cases hr
  case move x => exact Left.pure S rfl (oa_den S.fr x) (oa_scp S.scp x)
  case assign x => exact Left.pure S rfl (oa_den S.fr x) (oa_scp S.scp x)
  case alloc t =>
    split at hr
    · rename_i ti hti
      obtain ⟨z, z1, z2, z3⟩ := run_zeroValue (w := w) (hT _ _ hti)
      have hrun : (execOp a.eval ⟨dst, .alloc t, ty, pos, af, gd⟩).run P w = .ok (.value (.pointer (some ⟨w.heap.size, 0, none⟩))) { w with heap := w.heap.push (.cells z.cells t) } := by
        simp only [execOp]
        refine run_v ?_
        simp [Instr.alloc, z1, newVar, newRow]
      have plain : newAt G dst (.one .own ti.zero) (fun d => .p d 0 0) [] none = some r → Left P ρi E A w0 ρ G a w ⟨dst, .alloc t, ty, pos, af, gd⟩ r.v r.wr := by
        intro hr
        obtain ⟨d, hd, hGd, rfl⟩ := newAt_spec hr
        exact Left.box S hGd (zsOk_den z2) (by rw [zsOk_labs z2]; simp) (T := t) (vs := z.cells) hrun
      split at hr
      · rename_i n e htd
        split at hr
        · rename_i te hte
          split at hr
          · rename_i ks hks hsz hn hzero
            obtain ⟨d, hd, hGd, rfl⟩ := newAt_spec hr
            have hn := Nat.le_of_ble_eq_true hn
            have hsz := Nat.eq_of_beq_eq_true hsz
            obtain ⟨hkl, hz⟩ := kdsE_spec hks (hT _ _ hte)
            exact Left.boxRows S hGd hn (by rw [z3, hsz, hkl]) (arr_zero hzero hks z2) hrun
          · cases hr
        · cases hr
      · exact plain hr
    · cases hr
  case box t x =>
    have hd := oa_den S.fr x
    have hl := oa_scp S.scp x
    have hrun : (execOp a.eval ⟨dst, .box t x, ty, pos, af, gd⟩).run P w = .ok (.value (.pointer (some ⟨w.heap.size, 0, none⟩))) { w with heap := w.heap.push (.cells (a.eval x).cells t) } := by
      simp only [execOp]
      refine run_v ?_
      simp [Instr.box, newVar, newRow]
    split at hr
    · rename_i ks n f hx
      split at hr
      · rename_i hn
        obtain ⟨d, hdd, hGd, rfl⟩ := newAt_spec hr
        rw [hx] at hd
        simp only [Den] at hd
        obtain ⟨vs, hv, hs, hc⟩ := hd
        rw [hv] at hrun
        exact Left.boxRows S hGd (Nat.le_of_ble_eq_true hn) hs hc hrun
      · cases hr
    · rename_i x' hx
      split at hr
      · rename_i cs hcs
        obtain ⟨d, hdd, hGd, rfl⟩ := newAt_spec hr
        exact Left.box S hGd (cells_den hcs hd) (by rw [cells_labs hcs]; exact hl) (T := t) (vs := (a.eval x).cells) hrun
      · cases hr
  case build t ps =>
    split at hr
    · rename_i fs s b z hti
      split at hr
      · rename_i cs hcs
        cases hr
        obtain ⟨arr, g1, g2, g3⟩ := run_build hT S hti hcs
        refine Left.pure S (u := .agg arr) ?_ (by simp only [Den]; exact ⟨arr, rfl, g2⟩) (by simpa [SV.labs] using g3)
        simp only [execOp]
        exact run_v g1
      · cases hr
    · rename_i n e size b z hti
      split at hr
      · rename_i te hte
        split at hr
        · rename_i ks hks hsz h1 hzero
          have he := hT _ _ hte
          have hu := arr_shape hT hti
          have h1 := Nat.le_of_ble_eq_true h1
          have hsz := Nat.eq_of_beq_eq_true hsz
          obtain ⟨hkl, hz⟩ := kdsE_spec hks he
          obtain ⟨zv, z1, z2, z3⟩ := run_zeroValue (w := w) (hT _ _ hti)
          have hps : (ps.map fun (x : Nat × Operand) => (x.1, a.eval x.2)).toList = ps.toList.map fun p => (p.1, a.eval p.2) := by simp
          have hbuild : ∀ arr', Instr.fill (fun i => some (i * te.size, te.size)) zv.cells (ps.toList.map fun p => (p.1, a.eval p.2)) = some arr' → (Instr.build t (ps.map fun (i, x) => (i, a.eval x))).run P w = .ok (.agg arr') w := by
            intro arr' hf
            unfold Instr.build
            simp only [Sem.run_bind, z1, Result.andThen_ok, run_underlying hu, run_sizeOf he, Sem.run_pure]
            simp only [Array.toList_map]
            rw [hf]
            rfl
          split at hr
          · rename_i hnil
            cases hr
            refine Left.pure S (u := .agg zv.cells) ?_ ?_ (by simp [SV.labs])
            · simp only [execOp]
              refine run_v (hbuild _ ?_)
              rw [hnil]; rfl
            · simp only [Den]
              exact ⟨_, rfl, by rw [z3, hsz, hkl], arr_zero hzero hks z2⟩
          · split at hr
            · rename_i rs qs hrs
              split at hr
              · rename_i hlen
                cases hr
                have hlen := Nat.eq_of_beq_eq_true hlen
                rw [lenR_eq] at hlen
                obtain ⟨arr', g1, g2, g3, g4⟩ := rowsOf_fill (a := a) S.heap hkl S.fr ps.toList 0 rs qs zv.cells hrs hp (by rw [Nat.zero_add, hlen, z3, hsz]; exact Nat.le_refl _)
                refine Left.pure S (u := .agg arr') ?_ ?_ (by simp [SV.labs])
                · simp only [execOp]
                  exact run_v (hbuild _ g1)
                · simp only [Den]
                  refine ⟨_, rfl, by rw [g2, z3, hsz, hkl], fun r hr => ?_⟩
                  have := g4 r (by omega)
                  rw [Nat.zero_add] at this
                  rw [hkl]; exact this
              · cases hr
            · cases hr
        · cases hr
      · cases hr
    · cases hr
  case buildSlice t n ps =>
    split at hr
    · rename_i e s1 s2 s3 hti
      split at hr
      · rename_i ti htie
        split at hr
        · rename_i ks hks
          split at hr
          · rename_i rs qs hrs h1 h2
            split at hr
            · rename_i hlen
              obtain ⟨d, hd, hGd, rfl⟩ := newAt_spec hr
              have he := hT _ _ htie
              have hu := slice_shape hT hti
              have hlen := Nat.eq_of_beq_eq_true hlen
              rw [lenR_eq] at hlen
              have h2 := Nat.le_of_ble_eq_true h2
              have h1 := Nat.le_of_ble_eq_true h1
              obtain ⟨z, z1, z2, z3⟩ := run_zeroValue (w := w) he
              obtain ⟨hkl, _⟩ := kdsE_spec hks he
              obtain ⟨arr', g1, g2, g3, g4⟩ := rowsOf_fill (a := a) S.heap hkl S.fr ps.toList 0 rs qs ((Array.range (n * ti.size)).map ((if n * ti.size = 0 then #[] else z.cells)[· % (if n * ti.size = 0 then #[] else z.cells).size]!)) hrs hp (by simp [hlen])
              have hsz : arr'.size = n * ti.size := by rw [g2]; simp
              refine Left.slice S hGd (arr := arr') (e := e) (cap := n) (Nat.le_refl _) (by rw [hsz, hkl]; exact Nat.le_refl _) (fun r hr => by
                have := g4 r (by omega)
                rw [Nat.zero_add] at this
                rw [hkl]; exact this) ?_
              simp only [execOp]
              refine run_v ?_
              have hps : (ps.map fun (x : Nat × Operand) => (x.1, a.eval x.2)).toList = ps.toList.map fun p => (p.1, a.eval p.2) := by simp
              have hn : ¬ (n * ti.size > 2 ^ 24) := by omega
              simp only [Instr.buildSlice, Sem.run_bind, run_underlying hu, Result.andThen_ok, run_sizeOf he, if_neg hn, Sem.run_pure]
              by_cases h0 : n * ti.size = 0
              · simp only [if_pos h0] at g1
                simp only [if_pos h0, Sem.run_pure, Result.andThen_ok, Array.toList_map, g1, newRow, Sem.run_bind, run_newObj]
              · simp only [if_neg h0] at g1
                simp only [if_neg h0, Sem.run_bind, z1, Sem.run_pure, Result.andThen_ok, Array.toList_map, g1, newRow, run_newObj]
            · cases hr
          · cases hr
        · cases hr
      · cases hr
    · cases hr
  case load t x =>
    split at hr
    · rename_i ti hti
      obtain ⟨u, ρ', g1, g2, g3, g4⟩ := evLoad_sound hT (hT _ _ hti) S.heap S.mutin hr hp (oa_den S.fr x)
      refine ⟨.value u, w, ρ', ?_, .inl ⟨u, rfl, g2⟩, g3.heap, S.keep, g3.mutin, g3.keep, g3.z, g4⟩
      simp only [execOp]
      exact run_v g1
    · cases hr
  case store t x y =>
    split at hr
    · rename_i ti hti
      obtain ⟨w', g1, g2, g3, g4, g5⟩ := evStore_sound hT (hT _ _ hti) S.heap S.keep S.mutin hr hp (oa_den S.fr x) (oa_den S.fr y) (oa_scp S.scp y)
      refine ⟨.skip, w', ρ, ?_, .inr ⟨rfl, g2⟩, g3, g4, g5, fun _ _ => rfl, ZLe.refl _, by rw [g2]; simp [SV.labs]⟩
      simp only [execOp]
      exact run_u g1
    · cases hr
  case nilCheck x =>
    have hd := oa_den S.fr x
    have hl := oa_scp S.scp x
    split at hr
    · rename_i l r' c hx
      cases hr
      rw [hx] at hd hl
      have hd' := hd
      simp only [Den] at hd'
      obtain ⟨pl, _, hv⟩ := hd'
      exact Left.pure S (u := a.eval x) (by simp only [execOp, hv]; rfl) hd hl
    · rename_i f cs hx
      cases hr
      rw [hx] at hd hl
      have hd' := hd
      simp only [Den] at hd'
      obtain ⟨vs, hv, _⟩ := hd'
      exact Left.pure S (u := a.eval x) (by simp only [execOp, hv]; rfl) hd hl
    · rename_i l n hx
      cases hr
      have hn : n ≠ 0 := hp
      rw [hx] at hd hl
      simp only [Den] at hd
      rcases hd with ⟨h0, _⟩ | ⟨pl, _, hpl, hv⟩
      · exact absurd h0 hn
      · exact Left.pure S (u := a.eval x) (by simp only [execOp, hv]; rfl) (by simp only [Den]; exact ⟨pl, hpl, hv⟩) (by simpa [SV.labs] using hl)
    · cases hr
  case binOp op t x y u =>
    have hl := evBin_sound (P := P) (w := w) hT hr hp (oa_den S.fr x) (oa_den S.fr y) x y
    obtain ⟨z, g1, g2, g3, g4⟩ := hl
    rw [g3]
    refine Left.pure S (u := z) ?_ g2 (by rw [g4]; simp)
    simp only [execOp]
    exact run_v g1
  case unOp op t x =>
    have hd := oa_den S.fr x
    split at hr
    · rename_i v hx
      cases hr
      rw [hx] at hd
      simp only [Den] at hd
      exact Left.pure S (u := .bool (!v)) (by simp only [execOp, hd]; rfl) (by simp [Den]) (by simp [SV.labs])
    · rename_i v hx
      cases hr
      rw [hx] at hd
      simp only [Den] at hd
      exact Left.pure S (u := .bool (!v)) (by simp only [execOp, hd]; rfl) (by simp [Den]) (by simp [SV.labs])
    · rename_i k n hx
      cases hr
      rw [hx] at hd
      simp only [Den] at hd
      obtain ⟨g1, g2, g3⟩ := arith_den (ρ := ρ) hp
      rw [g2]
      exact Left.pure S (u := .int k (k.wrap (0 - n))) (by simp only [execOp, hd]; rfl) g1 (by rw [g3]; simp)
    · cases hr
  case convert s t x =>
    have hd := oa_den S.fr x
    split at hr
    · rename_i tis k s1 s2 s3 k' n hts hti hx
      cases hr
      have hu := int_shape hT hti
      obtain ⟨ds, hds, _⟩ := (hT _ _ hts).d
      rw [hx] at hd
      simp only [Den] at hd
      obtain ⟨g1, g2, g3⟩ := arith_den (ρ := ρ) hp
      rw [g2]
      refine Left.pure S (u := .int k (k.wrap n)) ?_ g1 (by rw [g3]; simp)
      simp only [execOp]
      refine run_v ?_
      rw [hd]
      simp only [convert, Sem.run_bind, run_underlying hds, run_underlying hu, Result.andThen_ok]
      rfl
    · cases hr
  case makeFunc fn first caps =>
    cases fn <;> simp only [] at hr <;> try cases hr
    rename_i f
    · split at hr
      · rename_i hfirst
        cases hr
        have hf : first = #[] := by simpa using hfirst
        subst hf
        refine Left.pure S (u := .func (.func f) #[] (caps.map a.eval)) (by simp [execOp, Instr.makeFunc]) ?_ (by simpa [SV.labs] using map_labs S.scp caps.toList)
        simp only [Den]
        refine ⟨caps.map a.eval, rfl, ?_⟩
        have : (caps.map a.eval).toList = caps.toList.map a.eval := by simp
        rw [this]
        exact map_den S.fr caps.toList
      · cases hr
  case makeSlice t x y =>
    have hx := oa_den S.fr x
    have hy := oa_den S.fr y
    split at hr
    · rename_i e s1 s2 s3 k1 n k2 c hti hxx hyy
      split at hr
      · rename_i ti htie
        split at hr
        · rename_i ks hks hb hs1
          obtain ⟨d, hd, hGd, rfl⟩ := newAt_spec hr
          obtain ⟨p1, p2, p3⟩ : 0 ≤ n ∧ n ≤ c ∧ c ≤ maxRows := hp
          have hm : (maxRows : Int) = 1073741824 := rfl
          rw [hxx] at hx
          rw [hyy] at hy
          simp only [Den] at hx hy
          have he := hT _ _ htie
          have hu := slice_shape hT hti
          obtain ⟨i, z, i1, i2, i3, i4, i5, i6, _⟩ := he.i
          have hb := Nat.le_of_ble_eq_true hb
          have hbytes : (i.bytes : Int) * c ≤ 281474976710656 := by
            rw [i4]
            have h1 : (ti.bytes : Int) ≤ 1024 := by omega
            have h2 : (ti.bytes : Int) * c ≤ 1024 * 1073741824 := Int.mul_le_mul h1 (by omega) (by omega) (by omega)
            omega
          have hrun := run_make (P := P) w t e i z hu i1 i2 k1 k2 n c p1 p2 hbytes (by omega)
          obtain ⟨hkl, hz⟩ := kdsE_spec hks he
          refine Left.slice S hGd (cap := c.toNat) (by omega) (arr := madeCells z.cells (c.toNat * i.size)) (e := e) (by rw [size_madeCells, i3, hkl]; exact Nat.le_refl _) (fun r hr => ?_) ?_
          · refine hz z.cells i5 _ _ _ fun j hj => ?_
            rw [i3, ← hkl, madeCells_get (by rw [i6, hkl]) (show r < c.toNat by omega) hj]
          · simp only [execOp, hx, hy]
            exact run_v hrun
        · cases hr
      · cases hr
    · cases hr
  case slice t x lo hi mx =>
    split at hr
    · rename_i e s1 s2 s3 hti
      split at hr
      · rename_i l b len hx
        split at hr
        · rename_i ti m ks n' f hte hG
          split at hr
          · rename_i p q hlo hhi hsz
            cases hr
            obtain ⟨p1, p2, p3⟩ : 0 ≤ p ∧ p ≤ q ∧ q ≤ len := hp
            have hsz := Nat.eq_of_beq_eq_true hsz
            rw [lenK_eq] at hsz
            have hu := slice_shape hT hti
            have hd := oa_den S.fr x
            have hl := oa_scp S.scp x
            rw [hx] at hd hl
            simp only [Den] at hd
            have bnd : ∀ (y : Operand) (v : Int) (bound : Nat) (code : BoundsCode), optI F 0 (some y) = some v → 0 ≤ v → v ≤ bound → (Instr.sliceBound (a.eval y) bound code).run P w = .ok v.toNat w := by
              intro y v bound code h1 h2 h3
              have hdy := oa_den S.fr y
              unfold optI at h1
              simp only at h1
              split at h1
              · rename_i k n hy
                cases h1
                rw [hy] at hdy
                simp only [Den] at hdy
                rw [hdy]
                simp only [Instr.sliceBound, asIntOf, Sem.run_bind, Sem.run_pure, Result.andThen_ok]
                rw [if_pos ⟨h2, h3⟩]
                rfl
              · cases h1
            have bounds : ∀ (cap : Nat), len ≤ cap → (Instr.sliceBounds true len cap (lo.map a.eval) (hi.map a.eval) none).run P w = .ok (p.toNat, q.toNat, cap) w := by
              intro cap hcap
              have hq : (match hi.map a.eval with | some v => Instr.sliceBound v cap .sliceAcap | none => (pure len : Sem Nat)).run P w = .ok q.toNat w := by
                cases hi with
                | none =>
                  simp only [optI, Option.some.injEq] at hhi
                  subst hhi
                  simp
                | some y => exact bnd y q cap _ (by simpa [optI] using hhi) (by omega) (by omega)
              have hp' : (match lo.map a.eval with | some v => Instr.sliceBound v q.toNat .sliceB | none => (pure 0 : Sem Nat)).run P w = .ok p.toNat w := by
                cases lo with
                | none =>
                  simp only [optI, Option.some.injEq] at hlo
                  subst hlo
                  simp
                | some y => exact bnd y p q.toNat _ (by simpa [optI] using hlo) (by omega) (by omega)
              simp only [Instr.sliceBounds, Sem.run_bind, Sem.run_pure, Result.andThen_ok, if_true, Option.isSome_none, Bool.false_eq_true, if_false]
              cases hi with
              | none =>
                simp only [Option.map_none] at hq ⊢
                cases lo with
                | none =>
                  simp only [Option.map_none] at hp' ⊢
                  simp only [Sem.run_pure, Result.ok.injEq] at hq hp'
                  simp [hq.1, ← hp'.1]
                | some y =>
                  simp only [Option.map_some, Option.map_none] at hp' ⊢
                  simp only [Sem.run_pure, Result.ok.injEq] at hq
                  simp only [Sem.run_pure, Result.andThen_ok, hq.1, hp', Sem.run_bind]
              | some z =>
                simp only [Option.map_some] at hq ⊢
                cases lo with
                | none =>
                  simp only [Option.map_none] at hp' ⊢
                  simp only [Sem.run_pure, Result.ok.injEq] at hp'
                  simp only [hq, Result.andThen_ok, Sem.run_pure, Sem.run_bind, ← hp'.1]
                | some y =>
                  simp only [Option.map_some] at hp' ⊢
                  simp only [hq, Result.andThen_ok, hp', Sem.run_bind, Sem.run_pure]
            have run : ∀ (ao : Option Addr) (cap : Nat), len ≤ cap → a.eval x = .slice ao len cap →
                (execOp a.eval ⟨dst, .slice t x lo hi none, ty, pos, af, gd⟩).run P w = .ok (.value (.slice (if cap = p.toNat then ao else ao.map (·.add (p.toNat * ti.size))) (q.toNat - p.toNat) (cap - p.toNat))) w := by
              intro ao cap hcap hv
              simp only [execOp]
              refine run_v ?_
              rw [hv]
              simp only [Instr.sliceAt, Instr.slice, Sem.run_bind, run_underlying hu, Result.andThen_ok, Option.map_none, bounds cap hcap, run_sizeOf (hT _ _ hte), Sem.run_pure]
            have hlab : ∀ l' ∈ (SV.sl l (b + p.toNat) (q.toNat - p.toNat)).labs, G l' ≠ none := by simpa [SV.labs] using hl
            rcases hd with ⟨h1, h2, h3, h4⟩ | ⟨pl, ad, hpl, hv, hcap, had⟩
            · subst h3; subst h4
              refine Left.pure S (run none 0 (by omega) h2) ?_ hlab
              simp only [Den]
              left
              refine ⟨h1, ?_, by omega, by omega⟩
              rw [if_pos (by omega)]
              congr 1 <;> omega
            · refine Left.pure S (run (some ad) (pl.cap - b) (by omega) hv) ?_ hlab
              simp only [Den]
              right
              have hk : pl.k = ti.size := by
                rcases S.heap.blk _ _ hG with ⟨h3, _⟩ | ⟨pl', e1, _, _, e4⟩ | ⟨pl', arr, TT, fz, e1, e2, e3, _, e4, _⟩
                · rw [hpl] at h3; cases h3
                · rw [hpl] at e1; cases e1; omega
                · rw [hpl] at e1; cases e1; omega
              by_cases hc : pl.cap - b = p.toNat
              · rw [if_pos hc]
                exact ⟨pl, ad, hpl, by congr 1; omega, by omega, fun h => by omega⟩
              · rw [if_neg hc]
                refine ⟨pl, ad.add (p.toNat * ti.size), hpl, by simp only [Option.map_some]; congr 1; omega, by omega, fun h => ?_⟩
                rw [had (by omega), ptr, ptr, add_none, ← hk, Nat.add_mul]
                congr 1
                omega
          · cases hr
        · cases hr
      · cases hr
    · exact strSlice_sound hT S (by assumption) hr hp
    · cases hr
  case fieldAddr t x i =>
    split at hr
    · rename_i fs s b z l r' c hti hx
      split at hr
      · rename_i off sz hpl
        cases hr
        obtain ⟨gs, hu, hfs, hall⟩ := struct_shape hT hti
        obtain ⟨_, f, ti, hgi, hoff, htf, hsz⟩ := placeS_real hT hfs hpl
        have hd := oa_den S.fr x
        have hl := oa_scp S.scp x
        rw [hx] at hd hl
        simp only [Den] at hd
        obtain ⟨pl, hpl', hv⟩ := hd
        refine Left.pure S (u := .pointer (some (ptr pl r' (c + off)))) ?_ (by simp only [Den]; exact ⟨pl, hpl', rfl⟩) (by simpa [SV.labs] using hl)
        simp only [execOp]
        refine run_v ?_
        rw [hv]
        have hgi' : gs[i]? = some f := by simpa using hgi
        have hne : ¬ ti.size = 0 := by rw [hsz]; simp
        simp only [Instr.fieldAt, Sem.run_bind, run_underlying hu, Result.andThen_ok, hgi', Instr.sureAddr, Sem.run_pure, fieldPlace, run_sizeOf (hT _ _ htf), if_neg hne, ptr, add_none, hoff]
        rw [Nat.add_assoc]
      · cases hr
    · cases hr
  case field t x i =>
    split at hr
    · rename_i fs s b z cs hti hx
      split at hr
      · rename_i off ft hn
        split at hr
        · rename_i ti htf
          split at hr
          · rename_i v hle hmk
            cases hr
            obtain ⟨gs, hu, hfs, hall⟩ := struct_shape hT hti
            rw [nthF_eq, ← hfs, List.getElem?_map] at hn
            cases hg : gs.toList[i]? with
            | none => rw [hg] at hn; cases hn
            | some f =>
              rw [hg] at hn
              simp only [Option.map_some, Option.some.injEq, Prod.mk.injEq] at hn
              obtain ⟨rfl, rfl⟩ := hn
              have hd := oa_den S.fr x
              have hl := oa_scp S.scp x
              rw [hx] at hd hl
              simp only [Den] at hd
              obtain ⟨us, hv, hus⟩ := hd
              rw [takeL_eq, dropL_eq] at hmk
              have hle := Nat.le_of_ble_eq_true hle
              rw [lenL_eq] at hle
              obtain ⟨u, g1, g2⟩ := TI.mk'_part (hT _ _ htf) hus hle hmk
              refine Left.pure S (u := u) ?_ g2 ?_
              · simp only [execOp]
                refine run_v ?_
                have hg' : gs[i]? = some f := by simpa using hg
                rw [hv]
                simp only [Instr.field, Sem.run_bind, run_underlying hu, Result.andThen_ok, hg', asAgg, Sem.run_pure]
                exact g1
              · intro l hll
                refine hl l ?_
                simp only [SV.labs]
                rcases TI.mk'_den hmk with ⟨_, rfl⟩ | ⟨_, hcs⟩
                · simp only [SV.labs] at hll
                  exact labsL_drop _ (labsL_take _ hll)
                · have : l ∈ labsL ((cs.drop f.offset).take ti.size) := by rw [hcs]; simpa [labsL] using hll
                  exact labsL_drop _ (labsL_take _ this)
          · cases hr
        · cases hr
      · cases hr
    · cases hr
  case indexAddr t x i =>
    split at hr
    · rename_i e s1 s2 s3 l lo len k n hti hx hi
      split at hr
      · rename_i ti m ks n' f hte hG
        split at hr
        · rename_i hsz
          cases hr
          obtain ⟨p1, p2⟩ : 0 ≤ n ∧ n < (len : Int) := hp
          have hsz := Nat.eq_of_beq_eq_true hsz
          rw [lenK_eq] at hsz
          have hu := slice_shape hT hti
          have hd := oa_den S.fr x
          have hl := oa_scp S.scp x
          have hdi := oa_den S.fr i
          rw [hx] at hd hl
          rw [hi] at hdi
          simp only [Den] at hd hdi
          rcases hd with ⟨_, _, h0, _⟩ | ⟨pl, ad, hpl, hv, hcap, had⟩
          · omega
          have had := had (by omega)
          subst had
          have hk : pl.k = ti.size := by
            rcases S.heap.blk _ _ hG with ⟨h3, _⟩ | ⟨pl', e1, _, _, e4⟩ | ⟨pl', arr, TT, fz, e1, e2, e3, _, e4, _⟩
            · rw [hpl] at h3; cases h3
            · rw [hpl] at e1; cases e1; omega
            · rw [hpl] at e1; cases e1; omega
          refine Left.pure S (u := .pointer (some (ptr pl (lo + n.toNat) 0))) ?_ (by simp only [Den]; exact ⟨pl, hpl, rfl⟩) (by simpa [SV.labs] using hl)
          simp only [execOp]
          refine run_v ?_
          rw [hv, hdi]
          simp only [Instr.indexAt, asIntOf, Sem.run_bind, Sem.run_pure, Result.andThen_ok, run_underlying hu]
          rw [if_pos ⟨p1, p2⟩]
          simp only [Sem.run_bind, run_sizeOf (hT _ _ hte), Result.andThen_ok, Sem.run_pure, ptr, add_none, hk]
          rw [Nat.add_mul]
          simp [Nat.add_assoc]
        · cases hr
      · cases hr
    · rename_i m e s1 s2 s3 l r' c k n hti hx hi
      split at hr
      · rename_i ti mm ks n' f hte hG
        split at hr
        · rename_i hsz hc hm
          cases hr
          obtain ⟨p1, p2⟩ : 0 ≤ n ∧ n < (m : Int) := hp
          have hsz := Nat.eq_of_beq_eq_true hsz
          have hc := Nat.eq_of_beq_eq_true hc
          have hm := Nat.le_of_ble_eq_true hm
          subst hc
          rw [lenK_eq] at hsz
          have hu := arr_shape hT hti
          have hd := oa_den S.fr x
          have hl := oa_scp S.scp x
          have hdi := oa_den S.fr i
          rw [hx] at hd hl
          rw [hi] at hdi
          simp only [Den] at hd hdi
          obtain ⟨pl, hpl, hv⟩ := hd
          have hk : pl.k = ti.size := by
            rcases S.heap.blk _ _ hG with ⟨h3, _⟩ | ⟨pl', e1, _, _, e4⟩ | ⟨pl', arr, TT, fz, e1, e2, e3, _, e4, _⟩
            · rw [hpl] at h3; cases h3
            · rw [hpl] at e1; cases e1; omega
            · rw [hpl] at e1; cases e1; omega
          refine Left.pure S (u := .pointer (some (ptr pl (r' + n.toNat) 0))) ?_ (by simp only [Den]; exact ⟨pl, hpl, rfl⟩) (by simpa [SV.labs] using hl)
          simp only [execOp]
          refine run_v ?_
          rw [hv, hdi]
          simp only [Instr.indexAt, asIntOf, Sem.run_bind, Sem.run_pure, Result.andThen_ok, run_underlying hu, Instr.sureAddr]
          rw [if_pos ⟨p1, p2⟩]
          simp only [Sem.run_bind, run_sizeOf (hT _ _ hte), Result.andThen_ok, Sem.run_pure, ptr, add_none, hk]
          rw [Nat.add_mul]
          simp [Nat.add_assoc]
        · cases hr
      · cases hr
    · cases hr
  case index t x i => exact index_sound (wraps := wraps) hT S hr hp
  case makeMap t x => exact makeMap_sound (wraps := wraps) hT S hr
  case lookup t x i b => exact lookup_sound (wraps := wraps) hT S hr
  case mapUpdate t x i v => exact mapUpdate_sound (wraps := wraps) hT S hr hp
  case extract x i =>
    split at hr
    · rename_i cs hx
      split at hr
      · rename_i v hn
        cases hr
        have hd := oa_den S.fr x
        have hl := oa_scp S.scp x
        rw [hx] at hd hl
        simp only [Den] at hd
        obtain ⟨vs, hv, hvs⟩ := hd
        rw [nthL_eq] at hn
        obtain ⟨u, g1, g2⟩ := DenL_get hvs hn
        refine Left.pure S (u := u) ?_ g2 ?_
        · simp only [execOp]
          refine run_v ?_
          rw [hv]
          have : vs[i]? = some u := by simpa using g1
          simp [Instr.extract, this]
        · intro l hll
          refine hl l ?_
          simp only [SV.labs]
          exact labsL_mem.2 ⟨v, List.mem_of_getElem? hn, hll⟩
      · cases hr
    · cases hr
  case call c =>
    obtain ⟨callee, args, argTypes⟩ := c
    cases callee <;> simp only [] at hr <;> try cases hr
    exact builtin_sound hT S hr hp
end
end Go.Sym
