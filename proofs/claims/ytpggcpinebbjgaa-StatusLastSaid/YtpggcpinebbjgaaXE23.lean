/- A function that keeps its contract, in the model. -/
import Derived.Test.YtpggcpinebbjgaaXE22
namespace Go.Sym
set_option linter.unusedVariables false
set_option linter.unusedSimpArgs false

mutual
theorem ren_id : ∀ v : SV, ren id v = v
  | .p l r c => rfl
  | .q l n => rfl
  | .sl l a b => rfl
  | .mp l => rfl
  | .fn f cs => by simp only [ren]; rw [renL_id cs]
  | .agg cs => by simp only [ren]; rw [renL_id cs]
  | .tup cs => by simp only [ren]; rw [renL_id cs]
  | .u => rfl
  | .i k n => rfl
  | .b v => rfl
  | .bt v => rfl
  | .s v => rfl
  | .np => rfl
  | .ns => rfl
  | .nm => rfl
  | .nf => rfl
  | .arr k n f => rfl
theorem renL_id : ∀ l : List SV, renL id l = l
  | [] => rfl
  | c :: cs => by simp only [renL]; rw [ren_id c, renL_id cs]
end
theorem Blk.ren_id (b : Blk) : b.ren id = b := by
  cases b <;> simp only [Blk.ren, renL_id]

section
variable {ρi : Env} {P : Program} {E A : Nat → Prop} {w0 : World} {c : Cfg} {ρ : Env} {F : Fr} {G : Hp} {w : World}

theorem argF_den {rest : List Value} : ∀ {args : List SV} {vals : List Value} {n : Nat}, DenL ρ args vals → ∀ t, n ≤ t → Den ρ (fget (argF n args) t) ((vals ++ rest)[t - n]?.getD undef)
  | [], vals, n, h, t, ht => by simp [argF, fget, Den]
  | a :: as, vals, n, h, t, ht => by
    simp only [DenL] at h
    obtain ⟨v, r, rfl, h1, h2⟩ := h
    simp only [argF, fget]
    cases hb : Nat.beq n t with
    | true =>
      have := Nat.eq_of_beq_eq_true hb
      subst this
      simpa using h1
    | false =>
      have hne : n ≠ t := fun e => by subst e; simp at hb
      have h3 : t - n = t - (n + 1) + 1 := by omega
      have := argF_den (rest := rest) (n := n + 1) h2 t (by omega)
      rw [h3]
      simpa using this
theorem argF_labs : ∀ {args : List SV} {n t l : Nat}, l ∈ (fget (argF n args) t).labs → l ∈ labsL args
  | [], n, t, l, h => by simp [argF, fget, SV.labs] at h
  | a :: as, n, t, l, h => by
    simp only [argF, fget] at h
    cases hb : Nat.beq n t with
    | true => rw [hb] at h; simp [labsL]; exact .inl h
    | false => rw [hb] at h; simp [labsL]; exact .inr (argF_labs h)

def resSem (tmps : Array Value) : ResultVar → Sem Value
  | .tmp t => pure (tmps.getD t undef)
  | .cell a t => do loadVar t (← asAddr (tmps.getD a undef))
theorem res1_sound (hT : TOk P c.T) (H : HSat ρ G w) {tmps : Array Value} (hF : FSat ρ F tmps) {r : ResultVar} {v : SV} (h : res1 c.T F G r = some v) :
    ∃ u, (resSem tmps r).run P w = .ok u w ∧ Den ρ v u := by
  cases r with
  | tmp t =>
    simp only [res1, Option.some.injEq] at h
    subst h
    exact ⟨_, by simp only [resSem, Sem.run_pure], hF t⟩
  | cell a t =>
    simp only [res1] at h
    split at h
    · rename_i ti hti
      split at h
      · rename_i r hr
        split at h
        · rename_i hpre hwr
          cases h
          have hd := hF a
          unfold evLoad at hr
          split at hr
          · rename_i l rr c hp
            rw [hp] at hd
            simp only [Den] at hd
            obtain ⟨pl, hpl, e⟩ := hd
            split at hr
            · rename_i m cs hG
              split at hr
              · rename_i vv h1 h2 h3
                cases hr
                have ht := hT _ _ hti
                obtain ⟨pl', arr, TT, fz, e1, e2, _, _, e3, e4⟩ := H.blk _ _ hG
                rw [hpl] at e1; cases e1
                have hr0 := Nat.eq_of_beq_eq_true h1
                subst hr0
                have hle := Nat.le_of_ble_eq_true h2
                rw [lenL_eq] at hle
                rw [takeL_eq, dropL_eq] at h3
                simp only [ptr, Nat.zero_mul, Nat.add_zero] at e
                have hD : DenL ρ ((cs.drop c).take ti.size) ((arr.toList.drop (pl.off + c)).take ti.size) := by
                  have := DenL_take ti.size (DenL_drop c e4)
                  rw [List.drop_take, List.drop_drop] at this
                  rwa [List.take_take, Nat.min_eq_left (by omega)] at this
                have hrun := run_loadVar (P := P) ht e2 (pl.off + c) (by omega)
                rcases TI.mk'_den h3 with ⟨ha, rfl⟩ | ⟨ha, hcs⟩
                · rcases hrun with ⟨_, vs, h5, h6⟩ | ⟨hb, _⟩
                  · refine ⟨.agg vs, ?_, ?_⟩
                    · simp only [resSem, e, asAddr, Sem.run_bind, Sem.run_pure, Result.andThen_ok]; exact h5
                    · simp only [Den]
                      exact ⟨vs, rfl, by rw [h6]; exact hD⟩
                  · rw [ha] at hb; cases hb
                · rcases hrun with ⟨hb, _⟩ | ⟨_, h5⟩
                  · rw [ha] at hb; cases hb
                  · rw [hcs] at hD
                    cases hx : (arr.toList.drop (pl.off + c)).take ti.size with
                    | nil => rw [hx] at hD; simp [DenL] at hD
                    | cons y ys =>
                      rw [hx, DenL_cons] at hD
                      have hys : ys = [] := DenL_nil.1 hD.2
                      subst hys
                      refine ⟨y, ?_, hD.1⟩
                      simp only [resSem, e, asAddr, Sem.run_bind, Sem.run_pure, Result.andThen_ok]; exact h5 y (arr_of_take hx)
              · cases hr
            · split at hr
              · cases hr
              · split at hr
                · split at hr
                  · split at hr
                    · cases hr; cases hpre
                    · cases hr
                  · cases hr
                · cases hr
            · cases hr
          · cases hr
        · cases h
      · cases h
    · cases h
theorem resL_sound (hT : TOk P c.T) (H : HSat ρ G w) {tmps : Array Value} (hF : FSat ρ F tmps) : ∀ {l : List ResultVar} {vs : List SV}, resL c.T F G l = some vs →
    ∃ us, (l.mapM (resSem tmps)).run P w = .ok us w ∧ DenL ρ vs us
  | [], vs, h => by
    simp only [resL, Option.some.injEq] at h
    subst h
    exact ⟨[], by simp [Sem.run_pure], by simp [DenL]⟩
  | x :: r, vs, h => by
    simp only [resL] at h
    split at h
    · rename_i v vs' h1 h2
      cases h
      obtain ⟨u, e1, d1⟩ := res1_sound hT H hF h1
      obtain ⟨us, e2, d2⟩ := resL_sound hT H hF h2
      refine ⟨u :: us, ?_, DenL_cons.2 ⟨d1, d2⟩⟩
      rw [List.mapM_cons]
      simp only [Sem.run_bind, e1, Result.andThen_ok, e2, Sem.run_pure]
    · cases h
theorem DenL_len : ∀ {cs : List SV} {vs : List Value}, DenL ρ cs vs → cs.length = vs.length
  | [], vs, h => by simp only [DenL] at h; subst h; rfl
  | c :: cs, vs, h => by
    simp only [DenL] at h
    obtain ⟨v, r, rfl, _, h2⟩ := h
    simp [DenL_len h2]
theorem resV_sound (hT : TOk P c.T) (H : HSat ρ G w) {tmps : Array Value} (hF : FSat ρ F tmps) {fn : Func} {v : SV} (h : resV c.T F G fn.results.toList = some v) :
    ∃ u, (results fn tmps).run P w = .ok u w ∧ Den ρ v u := by
  have run : ∀ us, (fn.results.toList.mapM (resSem tmps)).run P w = .ok us w →
      (results fn tmps).run P w = .ok (if h : us.toArray.size = 1 then us.toArray[0] else .tuple us.toArray) w := by
    intro us hu
    have e : results fn tmps = (do
        let vs ← fn.results.mapM (resSem tmps)
        pure (if h : vs.size = 1 then vs[0] else .tuple vs)) := by
      unfold results
      congr 1
    rw [e, Array.mapM_eq_mapM_toList]
    simp only [Sem.run_bind, hu, Result.andThen_ok, Sem.run_pure, map_eq_pure_bind]
  unfold resV at h
  split at h
  · rename_i v' hr
    cases h
    obtain ⟨us, e, d⟩ := resL_sound hT H hF hr
    simp only [DenL] at d
    obtain ⟨u, r, rfl, d1, rfl⟩ := d
    exact ⟨u, by rw [run _ e]; simp, d1⟩
  · rename_i vs hne hr
    cases h
    obtain ⟨us, e, d⟩ := resL_sound hT H hF hr
    refine ⟨.tuple us.toArray, ?_, ?_⟩
    · rw [run _ e]
      have : ¬ us.length = 1 := by
        intro hl
        rw [← DenL_len d] at hl
        obtain ⟨v, rfl⟩ := List.length_eq_one_iff.1 hl
        exact hne v rfl
      simp [this]
    · simp only [Den]
      exact ⟨us.toArray, rfl, d⟩
  · cases h
theorem finK_spec {ct : CT} {x : ct.X} {v : SV} {ml : ML} (h : finK ct x v G ml) : diffF (mfl (mget ml) (appH (ct.g1 x) (ct.g0 x)) (apL (keys (ct.g0 x)) (newLs (keys (ct.g0 x)) (keys (ct.g1 x)))) []) = true ∧ smallK ml = true ∧ greatIn G (keys (ct.g0 x)) = true ∧
    Ent G v (ren (mget ml) (ct.res x)) ∧ EntH G (renH (mget ml) (ct.g1 x)) := by
  unfold finK at h
  split at h
  · rename_i h1 h2 h3
    exact ⟨h1, h2, h3, h.1, h.2⟩
  · exact h.elim
/-- ████ A function that keeps its contract keeps it in the model. ████ -/
theorem good_of_keeps (hT : TOk P c.T) (hC : ConOk P c) {f : Nat} {fn : Func} {code : Code} {ct : CT} {iv : ct.X → Nat → Option Inv} (hf : P.funcs[f]? = some fn) (hn : (fn.name == "runtime.NumGoroutine") = false) (hb : fn.body = some code)
    (hd : dstOk fn.ntmps code = true) (hN : fn.ntmps ≤ 100000) (hA : ∀ x, ct.pre x → (ct.args x).length ≤ 100000) (hk : Keeps c fn ct iv) : Good P f ct ∧ FnOk P f := by
  refine ⟨fun x hx => ?_, fn, hf, hn, by rw [hb]; rfl⟩
  have h := hk x hx
  cases hst : ctSt ct x with
  | false => rw [hst] at h; exact h.elim
  | true =>
  rw [hst] at h
  dsimp only at h
  refine ⟨rfl, fun ρ w vals hvals H => ?_⟩
  have C := ctSt_spec hst
  rw [hb] at h
  simp only [fL_eq, fF_eq, fH_eq, List.append_nil] at h
  have hlen := DenL_len hvals
  have hsize : fn.ntmps ≤ (vals.toArray ++ Array.replicate (fn.ntmps - vals.toArray.size) undef).size ∧ (vals.toArray ++ Array.replicate (fn.ntmps - vals.toArray.size) undef).size ≤ 100000 := by
    have := hA x hx
    simp only [Array.size_append, List.size_toArray, Array.size_replicate]
    omega
  have S : St ρ (CE ρ (ct.g0 x)) (CA ρ (ct.g0 x)) w ρ (fget (argF 0 (ct.args x))) (hget (ct.g0 x)) { tmps := vals.toArray ++ Array.replicate (fn.ntmps - vals.toArray.size) undef, defers := [] } w := by
    refine ⟨H, fun t => ?_, fun t l hl => C.args l (argF_labs hl), ⟨rfl, rfl, rfl, Nat.le_refl _, fun _ _ _ => rfl⟩, ⟨fun l b pl h1 h2 h3 => .inl ⟨l, b, pl, h1, h2, h3, rfl⟩, fun l b pl h1 h2 h3 => .inl (.inl ⟨l, b, pl, h1, h2, h3, rfl⟩), fun _ _ h => h, fun _ h => .inl h, fun b h => h.elim .inr (fun ⟨l, blk, pl, h1, h2, h3, h4⟩ => .inl ⟨l, blk, pl, h1, Blk.real_of_mut h2, h3, h4⟩)⟩, fun _ _ _ => rfl⟩
    have := argF_den (rest := List.replicate (fn.ntmps - vals.length) undef) hvals t (Nat.zero_le t)
    have e : vals.toArray ++ Array.replicate (fn.ntmps - vals.toArray.size) undef = (vals ++ List.replicate (fn.ntmps - vals.length) undef).toArray := by
      apply Array.ext'; simp
    show Den ρ _ ((vals.toArray ++ Array.replicate (fn.ntmps - vals.toArray.size) undef).getD t undef)
    rw [e]
    simpa [Array.getD_eq_getD_getElem?] using this
  refine calls_of_wp hf hb (wp_mono (((exec_sound code).1 (c.at (iv x)) hT hC) _ _ _ ρ _ w h hd S hsize rfl) ?_)
  rintro e a' w' ⟨ex, fr', hp', ρ', hk', he, S', hsz, hdef⟩
  have fin : (match resV c.T (fget fr') (hget hp') fn.results.toList with
        | none => Stuck 16 0
        | some v => finK ct x v (hget hp') (mEnd ct x v (hget hp'))) →
      ∃ v, (results fn a'.tmps).run P w' = .ok v w' ∧ ∃ v' ρ', Ending.returned v = .returned v' ∧ Den ρ' (ct.res x) v' ∧ HSat ρ' (hget (appH (ct.g1 x) (ct.g0 x))) w' ∧ Keep (CE ρ (ct.g0 x)) w w' ∧
      MutIn (CE ρ (ct.g0 x)) (CA ρ (ct.g0 x)) ρ w.heap.size ρ' (hget (appH (ct.g1 x) (ct.g0 x))) ∧ ∀ l, hget (ct.g0 x) l ≠ none → ρ' l = ρ l := by
    intro hres
    cases hr : resV c.T (fget fr') (hget hp') fn.results.toList with
    | none => rw [hr] at hres; exact hres.elim
    | some sv =>
      rw [hr] at hres
      dsimp only at hres
      obtain ⟨hdiff, hsmallk, hgr, hent, hhp⟩ := finK_spec hres
      have hsmall := smallK_spec hsmallk
      generalize hm : mget (mEnd ct x sv (hget hp')) = m at *
      rw [apL_eq] at hdiff
      obtain ⟨u, hu, hden⟩ := resV_sound (P := P) hT S'.heap S'.fr hr
      refine ⟨u, hu, u, ?_⟩
      clear hr
      generalize hg0 : ct.g0 x = g0 at *
      generalize hg1 : ct.g1 x = g1 at *
      have C0 := C.d0; have C1 := C.d1; have Cl := C.live; have Cm := C.mutok; have Cc := C.chg; have Cs := C.scp0; have Ca := C.args; have Cs1 := C.scp1; have Cr := C.res; have Cg := C.great
      rw [hg0] at C0 Cl Cm Cc Cs Ca Cs1 Cr Cg
      rw [hg1] at C1 Cm Cc Cs1 Cr
      let ρn : Env := ⟨fun l => match hget g0 l with | some _ => ρ l | none => match hget g1 l with | some _ => ρ' (m l) | none => none, ρ'.z⟩
      have hzn : ZLe (ρ'.ren m) ρn := fun _ _ h => h
      have ρn0 : ∀ {l : Nat}, hget g0 l ≠ none → ρn l = ρ l := by
        intro l hl
        show (match hget g0 l with | some _ => ρ l | none => match hget g1 l with | some _ => ρ' (m l) | none => none) = _
        cases h : hget g0 l with
        | none => exact absurd h hl
        | some _ => rfl
      have st0 : ∀ {l : Nat}, hget g0 l ≠ none → ρ' l = ρ l := by
        intro l hl
        have hk := hget_some_mem hl
        exact S'.stab l (Cg l hk) (greatIn_spec hgr l hk (Cg l hk))
      have app : ∀ l, hget (appH g1 g0) l = match hget g1 l with | some b => some b | none => hget g0 l := by
        intro l
        rw [appH_eq, hget_append, upds_eq]
        cases hget g1 l <;> rfl
      have fix0 : ∀ {l : Nat}, hget g0 l ≠ none → m l = l := fun h => hsmall _ (Cg _ (hget_some_mem h))
      have memA : ∀ {y : Nat}, hget (appH g1 g0) y ≠ none → y ∈ keys g0 ++ newLs (keys g0) (keys g1) := by
        intro y h
        have h1 := hget_some_mem h
        rw [appH_eq, keys_eq, List.map_append, ← keys_eq, ← keys_eq, List.mem_append] at h1
        by_cases hy : y ∈ keys g0
        · exact List.mem_append.2 (.inl hy)
        · exact List.mem_append.2 (.inr ((newLs_mem _ _).2 ⟨h1.resolve_right hy, hy⟩))
      have hinj : ∀ {y z : Nat} {b : Blk}, hget (appH g1 g0) y = some b → y ∈ keys g0 ++ newLs (keys g0) (keys g1) → z ∈ keys g0 ++ newLs (keys g0) (keys g1) → b.mut = true → m y = m z → y = z := by
        intro y z b hb hy hz hm e
        rcases (diffF_mfl hdiff hy).1 z hz e with h | ⟨h, _⟩
        · exact h
        · rw [mflag_of hb, hm] at h; cases h
      have agree : ∀ {l : Nat}, hget (appH g1 g0) l ≠ none → ρn l = ρ' (m l) := by
        intro l hl
        cases h0 : hget g0 l with
        | some b => rw [ρn0 (by rw [h0]; simp), fix0 (by rw [h0]; simp), st0 (by rw [h0]; simp)]
        | none =>
          show (match hget g0 l with | some _ => ρ l | none => match hget g1 l with | some _ => ρ' (m l) | none => none) = _
          rw [h0]
          cases h1 : hget g1 l with
          | some b => rfl
          | none => rw [app, h1] at hl; exact absurd h0 hl
      have use : ∀ {l : Nat} {b : Blk}, hget g1 l = some b → b.live = true → BlkOk ρn w' l b ∧ (∀ pl, ρ' (m l) = some pl → ∃ b', hget hp' (m l) = some b' ∧ (b.real → b'.real) ∧ (b.mut = true → b'.mut = true)) := by
        intro l b hb hlive
        have hm := hget_mem hb
        have h1 := EntH_mem hhp (renH_mem (m := m) hm)
        exact EntB_use (m := m) S'.heap h1 hlive (agree (by rw [app, hb]; simp)) rfl (fun y hy => agree (Cs1 _ _ hm y hy))
      have only0 : ∀ {l : Nat} {b : Blk}, hget (appH g1 g0) l = some b → hget g1 l = none → hget g0 l = some b ∧ b.mut = false := by
        intro l b h h1
        rw [app, h1] at h
        refine ⟨h, ?_⟩
        cases hm : b.mut with
        | false => rfl
        | true => exact absurd h1 (hget_not_none (Cm _ _ (hget_mem h) hm))
      have lt0 : ∀ {l : Nat} {b : Blk}, hget g0 l = some b → b.real → ∀ pl, ρ l = some pl → pl.b < w.heap.size := fun h hr pl hpl => (H.blk _ _ h).lt hr hpl
      have notCE : ∀ {l : Nat} {b : Blk}, hget g0 l = some b → b.real → b.mut = false → ∀ pl, ρ l = some pl → ¬ CE ρ g0 pl.b := by
        rintro l b h hr hm pl hpl ⟨l3, b3, pl3, h3, hm3, hpl3, e⟩
        refine H.inj l3 l b3 b pl3 pl ?_ h3 h hm3 hr hpl3 hpl e
        rintro rfl
        rw [h3] at h; cases h
        rw [hm] at hm3; cases hm3
      have same : ∀ {l : Nat} {b : Blk}, hget g0 l = some b → b.real → b.mut = false → ∀ pl, ρ l = some pl → w'.heap[pl.b]? = w.heap[pl.b]? := fun h hr hm pl hpl => S'.keep.block _ (lt0 h hr pl hpl) (notCE h hr hm pl hpl)
      refine ⟨ρn, rfl, ?_, ⟨fun l b hb => ?_, ?_, fun l b hb y hy => ?_, ?_, S'.heap.zok, ?_⟩, S'.keep, ⟨?_, ?_, S'.mutin.zx, S'.mutin.zi, S'.mutin.za⟩, fun l hl => ρn0 hl⟩
      · have hd2 := Ent.den S'.heap.tight _ _ _ hent hden
        rw [Den_ren] at hd2
        exact Den.congr hzn _ _ (fun y hy => (agree (Cr y hy)).symm) hd2
      · cases h1 : hget g1 l with
        | some b1 =>
          rw [app, h1] at hb; cases hb
          cases hv : b.live with
          | false => cases b <;> first | trivial | cases hv
          | true => exact (use h1 hv).1
        | none =>
          obtain ⟨h0, hm⟩ := only0 hb h1
          have hB := H.blk l b h0
          have hl0 : ρn l = ρ l := ρn0 (by rw [h0]; simp)
          by_cases hr : b.real
          · exact hB.mono hl0 (fun y hy => ρn0 (Cs _ _ (hget_mem h0) y hy)) S'.mutin.zx (fun pl hpl => same h0 hr hm pl hpl)
          · exact hB.unreal hr hl0
      · intro l1 l2 b1 b2 p1 p2 hne h1 h2 hm hv e1 e2
        cases k1 : hget g1 l1 with
        | none =>
          have := (only0 h1 k1).2
          rw [hm] at this; cases this
        | some c1 =>
          have hq := h1
          rw [app, k1] at hq; cases hq
          rw [agree (by rw [h1]; simp)] at e1
          obtain ⟨c1', g1', v1', m1'⟩ := (use k1 (Blk.live_of_real (Blk.real_of_mut hm))).2 p1 e1
          cases k2 : hget g1 l2 with
          | some c2 =>
            have hq2 := h2
            rw [app, k2] at hq2; cases hq2
            rw [agree (by rw [h2]; simp)] at e2
            obtain ⟨c2', g2', v2', m2'⟩ := (use k2 (Blk.live_of_real hv)).2 p2 e2
            exact S'.heap.inj (m l1) (m l2) c1' c2' p1 p2 (fun e => hne (hinj h1 (memA (by rw [h1]; simp)) (memA (by rw [h2]; simp)) hm e)) g1' g2' (m1' hm) (v2' hv) e1 e2
          | none =>
            obtain ⟨h0, hm0⟩ := only0 h2 k2
            rw [ρn0 (by rw [h0]; simp)] at e2
            intro e
            rcases S'.mutin.m (m l1) c1' p1 g1' (m1' hm) e1 with h | h
            · exact notCE h0 hv hm0 p2 e2 (e ▸ h)
            · have := lt0 h0 hv p2 e2
              rw [e] at h
              omega
      · cases h1 : hget g1 l with
        | some b1 =>
          rw [app, h1] at hb; cases hb
          exact Cs1 _ _ (hget_mem h1) y hy
        | none =>
          have h0 := (only0 hb h1).1
          have := Cs _ _ (hget_mem h0) y hy
          rw [app]
          cases hget g1 y with
          | some _ => simp
          | none => exact this
      · intro l hl
        rw [app] at hl
        show (match hget g0 l with | some _ => ρ l | none => match hget g1 l with | some _ => ρ' (m l) | none => none) = _
        cases h1 : hget g1 l with
        | some _ => rw [h1] at hl; cases hl
        | none =>
          rw [h1] at hl
          simp only at hl
          rw [hl]
      · intro l b pl hb hm hpl
        cases k1 : hget g1 l with
        | none =>
          have := (only0 hb k1).2
          rw [hm] at this; cases this
        | some c1 =>
          have hq := hb
          rw [app, k1] at hq; cases hq
          rw [agree (by rw [hb]; simp)] at hpl
          obtain ⟨c1', g1', v1', m1'⟩ := (use k1 (Blk.live_of_real (Blk.real_of_mut hm))).2 pl hpl
          exact S'.heap.zap (m l) c1' pl g1' (m1' hm) hpl
      · intro l b pl hb hm hpl
        cases k1 : hget g1 l with
        | none =>
          have := (only0 hb k1).2
          rw [hm] at this; cases this
        | some c1 =>
          have hq := hb
          rw [app, k1] at hq; cases hq
          rw [agree (by rw [hb]; simp)] at hpl
          obtain ⟨c1', g1', v1', m1'⟩ := (use k1 (Blk.live_of_real (Blk.real_of_mut hm))).2 pl hpl
          exact S'.mutin.m (m l) c1' pl g1' (m1' hm) hpl
      · intro l b pl hb hr hpl
        cases k1 : hget g1 l with
        | none =>
          have h0 := (only0 hb k1).1
          rw [ρn0 (by rw [h0]; simp)] at hpl
          exact .inl (.inl ⟨l, b, pl, h0, hr, hpl, rfl⟩)
        | some c1 =>
          have hq := hb
          rw [app, k1] at hq; cases hq
          rw [agree (by rw [hb]; simp)] at hpl
          obtain ⟨c1', g1', v1', m1'⟩ := (use k1 (Blk.live_of_real hr)).2 pl hpl
          exact S'.mutin.a (m l) c1' pl g1' (v1' hr) hpl
  cases ex with
  | exit i => exact hk'.elim
  | normal => subst he; exact ⟨hdef, fin hk'⟩
  | ret => subst he; exact ⟨hdef, fin hk'⟩
end
end Go.Sym
