/- Loads and stores do to the machine what the engine says. -/
import Derived.Test.YtpggcpinebbjgaaXE8
namespace Go.Sym
set_option linter.unusedVariables false
set_option linter.unusedSimpArgs false

section
variable {ρi : Env} {P : Program} {E A : Nat → Prop} {w0 : World} {ρ : Env} {F : Fr} {G : Hp} {a : Act} {w : World} {o : Oper}

theorem DenR_sub {z : Nat → Option Obj} {ks : List Kd} {g : Nat → D} {arr : Array Value} {o c m : Nat} (h : DenR z ks g 0 arr o) : DenR z ((ks.drop c).take m) g c arr (o + c) := by
  rw [DenR_iff] at h ⊢
  intro j hj
  have hj' : c + j < ks.length := by simp at hj; omega
  obtain ⟨u, h1, h2⟩ := h (c + j) hj'
  refine ⟨u, by rw [← h1]; congr 1; omega, ?_⟩
  simpa using h2

/-- What a step leaves, but for the value. -/
structure Leaves (ρi : Env) (E A : Nat → Prop) (w0 : World) (ρ : Env) (G G' : Hp) (w' : World) (ρ' : Env) : Prop where
  heap : HSat ρ' G' w'
  mutin : MutIn E A ρi w0.heap.size ρ' G'
  keep : ∀ l, G l ≠ none → ρ' l = ρ l
  z : ZLe ρ ρ'

theorem rowW_nil_labs (d : Nat) : ∀ (ks : List Kd) (g : Nat → D) (c j : Nat), labsL (rowSV d ks g c j) = keysB (rowW d ks g c j)
  | [], _, _, _ => rfl
  | k :: ks, g, c, j => by cases k <;> simp [rowSV, rowW, labsL, SV.labs, keysB, rowW_nil_labs d ks]

theorem evRow_sound {ti : TI} {ks : List Kd} {g : Nat → D} {c o : Nat} {arr : Array Value} {d : Option Nat} {rd : List Nat} {pre : Option Prop} {r : Res} (H : HSat ρ G w) (M : MutIn E A ρi w0.heap.size ρ G)
    (hr : evRow G d ti ks g c rd pre = some r) (hd : DenR ρ.z ks g c arr o) :
    ∃ ρ', Leaves ρi E A w0 ρ G (upds G r.wr) w ρ' ∧ (∀ l ∈ r.v.labs, upds G r.wr l ≠ none) ∧ r.pre = pre ∧
      ((ti.isAgg = true ∧ ∃ cs, r.v = .agg cs ∧ DenL ρ' cs ((arr.toList.drop o).take ks.length)) ∨ (ti.isAgg = false ∧ ∃ y, (arr.toList.drop o).take ks.length = [y] ∧ Den ρ' r.v y)) := by
  unfold evRow at hr
  split at hr
  · rename_i d
    split at hr
    · rename_i v h1 h2 h3
      cases hr
      obtain ⟨ρ', a1, a2, a3, a4, a5, a6⟩ := row_den H M hd h2 h3
      refine ⟨ρ', ⟨a1, a2, a3, fun b o h => by rw [a4]; exact h⟩, ?_, rfl, ?_⟩
      · have hl : ∀ l ∈ keysB (rowW d ks g c 0), upds G (rowW d ks g c 0) l ≠ none := by
          intro l hl
          rw [upds_eq]
          cases hq : hget (rowW d ks g c 0) l with
          | some b => simp
          | none => rw [hget_none_iff, ← keysB_eq] at hq; exact absurd hl hq
        intro l hll
        apply hl
        apply a6
        rcases TI.mk'_den h1 with ⟨_, e⟩ | ⟨_, e⟩
        · rw [e] at hll; simpa [SV.labs] using hll
        · rw [e]; simpa [labsL] using hll
      · rcases TI.mk'_den h1 with ⟨ha, e⟩ | ⟨ha, e⟩
        · exact .inl ⟨ha, _, e, a5⟩
        · right
          rw [e] at a5
          cases hx : (arr.toList.drop o).take ks.length with
          | nil => rw [hx] at a5; simp [DenL] at a5
          | cons y ys =>
            rw [hx, DenL_cons, DenL_nil] at a5
            exact ⟨ha, y, by rw [a5.2], a5.1⟩
    · cases hr
  · cases hr

theorem arr_of_take {arr : Array Value} {o m : Nat} {y : Value} (h : (arr.toList.drop o).take m = [y]) : arr[o]? = some y := by
  have h0 : ((arr.toList.drop o).take m)[0]? = some y := by rw [h]; rfl
  rw [List.getElem?_take] at h0
  split at h0
  · simpa using h0
  · cases h0

theorem evLoad_sound {T : List (Nat × TI)} (hT : TOk P T) {ti : TI} {t : Nat} (ht : TiOk P t ti) {d : Option Nat} (H : HSat ρ G w) (M : MutIn E A ρi w0.heap.size ρ G) {x : SV} {r : Res} (hr : evLoad T G d ti x = some r) (hp : r.Pre) {v : Value} (hd : Den ρ x v) :
    ∃ u ρ', (Instr.loadAt t v).run P w = .ok u w ∧ Den ρ' r.v u ∧ Leaves ρi E A w0 ρ G (upds G r.wr) w ρ' ∧ (∀ l ∈ r.v.labs, upds G r.wr l ≠ none) := by
  unfold evLoad at hr
  split at hr
  · rename_i l rr c
    split at hr
    · rename_i m cs hG
      split at hr
      · rename_i vv h1 h2 h3
        cases hr
        simp only [Den] at hd
        obtain ⟨pl, hpl, rfl⟩ := hd
        obtain ⟨pl', arr, TT, fz, e1, e2, _, _, e3, e4⟩ := H.blk _ _ hG
        rw [hpl] at e1; cases e1
        have hr0 := Nat.eq_of_beq_eq_true h1
        subst hr0
        have hle := Nat.le_of_ble_eq_true h2
        rw [lenL_eq] at hle
        rw [takeL_eq, dropL_eq] at h3
        simp only [ptr, Nat.zero_mul, Nat.add_zero]
        have hD : DenL ρ ((cs.drop c).take ti.size) ((arr.toList.drop (pl.off + c)).take ti.size) := by
          have := DenL_take ti.size (DenL_drop c e4)
          rw [List.drop_take, List.drop_drop] at this
          rwa [List.take_take, Nat.min_eq_left (by omega)] at this
        have hrun := run_loadVar (P := P) ht e2 (pl.off + c) (by omega)
        have hl : ∀ l ∈ labsL ((cs.drop c).take ti.size), G l ≠ none := fun l hl => H.scp _ _ hG l (labsL_drop _ (labsL_take _ hl))
        have hL : Leaves ρi E A w0 ρ G (upds G []) w ρ := ⟨H, M, fun _ _ => rfl, ZLe.refl _⟩
        rcases TI.mk'_den h3 with ⟨ha, rfl⟩ | ⟨ha, hcs⟩
        · rcases hrun with ⟨_, vs, h5, h6⟩ | ⟨hb, _⟩
          · refine ⟨.agg vs, ρ, by simp [Instr.loadAt, Instr.sureAddr, h5], ?_, hL, by simpa [SV.labs, upds] using hl⟩
            simp only [Den]
            exact ⟨vs, rfl, by rw [h6]; exact hD⟩
          · rw [ha] at hb; cases hb
        · rcases hrun with ⟨hb, _⟩ | ⟨_, h5⟩
          · rw [ha] at hb; cases hb
          · rw [hcs] at hD
            cases hx : (arr.toList.drop (pl.off + c)).take ti.size with
            | nil => rw [hx] at hD; simp [DenL] at hD
            | cons y ys =>
              rw [hx, DenL_cons] at hD
              have hys : ys = [] := DenL_nil.1 hD.2
              subst hys
              refine ⟨y, ρ, by simp [Instr.loadAt, Instr.sureAddr, h5 y (arr_of_take hx)], hD.1, hL, ?_⟩
              rw [hcs] at hl
              simpa [labsL, upds] using hl
      · cases hr
    · rename_i m ks n f hG
      simp only [Den] at hd
      obtain ⟨pl, hpl, rfl⟩ := hd
      split at hr
      · rename_i h2
        have hle := Nat.le_of_ble_eq_true h2
        rw [lenK_eq] at hle
        rw [takeK_eq, dropK_eq] at hr
        have hpre : r.pre = some (rr < n) := by
          unfold evRow at hr
          split at hr
          · split at hr
            · cases hr; rfl
            · cases hr
          · cases hr
        have hrn : rr < n := by simpa [Res.Pre, hpre] using hp
        rcases H.blk _ _ hG with ⟨_, rfl⟩ | ⟨pl', e1, e2, _⟩ | ⟨pl', arr, TT, fz, e1, e2, _, _, e3, e4, e5, e6⟩
        · omega
        · omega
        rw [hpl] at e1; cases e1
        have hin : pl.off + rr * pl.k + c + ti.size ≤ arr.size := by
          have : (rr + 1) * pl.k ≤ pl.cap * pl.k := Nat.mul_le_mul_right _ (by omega)
          rw [Nat.add_mul, Nat.one_mul] at this
          omega
        have hlen : ((ks.drop c).take ti.size).length = ti.size := by simp; omega
        obtain ⟨ρ', hL, hl, _, hv⟩ := evRow_sound H M hr (DenR_sub (c := c) (m := ti.size) (e6 rr hrn))
        rw [hlen] at hv
        have hrun := run_loadVar (P := P) ht e2 (pl.off + rr * pl.k + c) hin
        rcases hv with ⟨ha, cs, hcs, hD⟩ | ⟨ha, y, hy, hD⟩
        · rcases hrun with ⟨_, vs, h5, h6⟩ | ⟨hb, _⟩
          · refine ⟨.agg vs, ρ', by simp [Instr.loadAt, Instr.sureAddr, ptr, h5], ?_, hL, hl⟩
            rw [hcs]
            simp only [Den]
            exact ⟨vs, rfl, by rw [h6]; exact hD⟩
          · rw [ha] at hb; cases hb
        · rcases hrun with ⟨hb, _⟩ | ⟨_, h5⟩
          · rw [ha] at hb; cases hb
          · exact ⟨y, ρ', by simp [Instr.loadAt, Instr.sureAddr, ptr, h5 y (arr_of_take hy)], hD, hL, hl⟩
      · rename_i hble
        split at hr
        · rename_i m' e hti
          split at hr
          · rename_i te hte
            split at hr
            · rename_i h1 h2 h3
              cases hr
              obtain ⟨rfl, hmn⟩ : rr = 0 ∧ m' ≤ n := hp
              have h1 := Nat.eq_of_beq_eq_true h1
              have h2 := Nat.eq_of_beq_eq_true h2
              have h3 := Nat.eq_of_beq_eq_true h3
              subst h3
              rw [lenK_eq] at h1
              have ha : ti.isAgg = true := by unfold TI.isAgg; rw [hti]
              have hL : Leaves ρi E A w0 ρ G (upds G []) w ρ := ⟨H, M, fun _ _ => rfl, ZLe.refl _⟩
              have hm0 : m' ≠ 0 := by
                intro h0; subst h0
                simp at h2
                rw [h2] at hble
                have := Nat.ble_eq_true_of_le (show 0 + 0 ≤ lenK ks by omega)
                rw [this] at hble; cases hble
              rcases H.blk _ _ hG with ⟨_, rfl⟩ | ⟨pl', e1, e2, _⟩ | ⟨pl', arr, TT, fz, e1, e2, _, _, e3, e4, e5, e6⟩
              · omega
              · omega
              rw [hpl] at e1; cases e1
              have hin : pl.off + ti.size ≤ arr.size := by
                have : m' * pl.k ≤ pl.cap * pl.k := Nat.mul_le_mul_right _ (by omega)
                rw [h2, h1, ← e3]; omega
              have hrun := run_loadVar (P := P) ht e2 pl.off hin
              rcases hrun with ⟨_, vs, h5, h6⟩ | ⟨hb, _⟩
              · refine ⟨.agg vs, ρ, by simp [Instr.loadAt, Instr.sureAddr, ptr, h5], ?_, hL, by simp [SV.labs]⟩
                simp only [Den]
                have hvs : vs.size = m' * ks.length := by
                  have := congrArg List.length h6
                  simp at this
                  rw [← h1, ← h2]; omega
                refine ⟨vs, rfl, hvs, fun q hq => ?_⟩
                refine DenR_congr (e6 q (by omega)) fun j hj => ?_
                have hb := row_bound (k := ks.length) hq hj
                rw [← Array.getElem?_toList, h6, List.getElem?_take, if_pos (by rw [h2, h1]; exact hb), List.getElem?_drop, Array.getElem?_toList, e3]
                congr 1; omega
              · rw [ha] at hb; cases hb
            · cases hr
          · cases hr
        · cases hr
    · cases hr
  · cases hr

theorem evStore_sound {T : List (Nat × TI)} (hT : TOk P T) {ti : TI} {t : Nat} (ht : TiOk P t ti) (H : HSat ρ G w) (K : Keep E w0 w) (M : MutIn E A ρi w0.heap.size ρ G) {x y : SV} {r : Res} (hr : evStore T G ti x y = some r) (hp : r.Pre)
    {v u : Value} (hd : Den ρ x v) (hy : Den ρ y u) (hyl : ∀ l ∈ y.labs, G l ≠ none) :
    ∃ w', (Instr.storeAt t v u).run P w = .ok () w' ∧ r.v = .u ∧ HSat ρ (upds G r.wr) w' ∧ Keep E w0 w' ∧ MutIn E A ρi w0.heap.size ρ (upds G r.wr) := by
  unfold evStore at hr
  split at hr
  · rename_i l rr c
    simp only [Den] at hd
    obtain ⟨pl, hpl, rfl⟩ := hd
    split at hr
    · -- a variable
      rename_i cs hG
      split at hr
      · rename_i vs hvs
        split at hr
        · rename_i hsz hall h1 h2
          cases hr
          have hsz' := Nat.eq_of_beq_eq_true hsz
          rw [lenL_eq] at hsz'
          have hcd := cells_den hvs hy
          have hcs := cells_size hvs hy
          have hcell := allC_cellable hall hcd
          obtain ⟨pl', arr, TT, fz, e1, e2, e3, _, e4, e5⟩ := H.blk _ _ hG
          rw [hpl] at e1; cases e1
          have hf := e3 rfl
          subst hf
          have hr0 := Nat.eq_of_beq_eq_true h1
          subst hr0
          have hle := Nat.le_of_ble_eq_true h2
          rw [lenL_eq] at hle
          obtain ⟨arr', g1, g2⟩ := run_storeVar (P := P) ht e2 (pl.off + c) u (by omega) (by omega) hcell
          have hsize : arr'.size = arr.size := by
            have := congrArg List.length g2
            unfold spliceV at this
            simp at this
            omega
          have hb : pl.b < w.heap.size := heap_lt e2
          have hlb : ∀ z ∈ (Blk.one .own (splice cs c vs)).labs, G z ≠ none := by
            intro z hz
            rcases labsL_splice (xs := cs) (ys := vs) (n := c) (l := z) (by rw [hsz']; exact hle) (by simpa [Blk.labs] using hz) with h | h
            · exact H.scp _ _ hG z h
            · rw [cells_labs hvs] at h
              exact hyl z h
          have hbo : BlkOk ρ { w with heap := w.heap.setIfInBounds pl.b (.cells arr' TT (0, 0)) } l (.one .own (splice cs c vs)) := by
            have hlen : (splice cs c vs).length = cs.length := splice_length _ _ _ (by rw [hsz']; exact hle)
            refine ⟨pl, arr', TT, (0, 0), hpl, getElem_set_self hb _, fun _ => rfl, fun h => (by cases h), by omega, ?_⟩
            rw [hlen, g2]
            have hvl : vs.length = ti.size := hsz'
            have e6 := DenL_splice (n := c) e5 hcd (by rw [hvl]; exact hle)
            have : ((spliceV arr.toList (pl.off + c) u.cells.toList).drop pl.off).take cs.length = spliceV ((arr.toList.drop pl.off).take cs.length) c u.cells.toList := by
              apply List.ext_getElem?
              intro i
              have hu : u.cells.toList.length = ti.size := by simp; omega
              rw [List.getElem?_take, List.getElem?_drop, spliceV_get _ _ _ (by simp; omega), spliceV_get _ _ _ (by simp; omega)]
              by_cases hi : i < cs.length
              · rw [if_pos hi]
                by_cases hin : c ≤ i ∧ i < c + u.cells.toList.length
                · rw [dif_pos hin, dif_pos (by omega)]
                  congr 2
                  omega
                · rw [dif_neg hin, dif_neg (by omega), List.getElem?_take, if_pos hi, List.getElem?_drop]
              · rw [if_neg hi, dif_neg (by omega), List.getElem?_take, if_neg hi]
            rw [this]
            exact e6
          obtain ⟨k1, k2, k3⟩ := stored H K M (b' := .one .own (splice cs c vs)) (obj := .cells arr' TT (0, 0)) hG rfl rfl hpl hlb hbo
          refine ⟨_, ?_, rfl, k1, k2, k3⟩
          simp only [ptr, Nat.zero_mul, Nat.add_zero]
          simp [Instr.storeAt, Instr.sureAddr, g1]
        · cases hr
      · cases hr
    · rename_i ks n f hG
      split at hr
      · -- into a row
        rename_i h1
        split at hr
        · rename_i vs hvs
          split at hr
          · rename_i ds ps hsz hall h2
            cases hr
            obtain ⟨hrn, hps⟩ : rr < n ∧ allP ps := hp
            have hsz' := Nat.eq_of_beq_eq_true hsz
            rw [lenL_eq] at hsz'
            have hcd := cells_den hvs hy
            have hcs := cells_size hvs hy
            have hcell := allC_cellable hall hcd
            rcases H.blk _ _ hG with ⟨_, rfl⟩ | ⟨pl', e1, e2, e3, _⟩ | ⟨pl', arr, TT, fz, e1, e2, e3, _, e4, e5, e6, e7⟩
            · omega
            · cases e3
            rw [hpl] at e1; cases e1
            have hf := e3 rfl
            subst hf
            have hle := Nat.le_of_ble_eq_true h1
            rw [lenK_eq] at hle
            rw [takeK_eq, dropK_eq] at h2
            obtain ⟨d1, d2, d3⟩ := toDs_den H h2 hps hcd
            have hkl : ((ks.drop c).take ti.size).length = ti.size := by simp; omega
            rw [hkl] at d1 d2
            have hin : pl.off + rr * pl.k + c + ti.size ≤ arr.size := by
              have : (rr + 1) * pl.k ≤ pl.cap * pl.k := Nat.mul_le_mul_right _ (by omega)
              rw [Nat.add_mul, Nat.one_mul] at this
              omega
            obtain ⟨arr', g1, g2⟩ := run_storeVar (P := P) ht e2 (pl.off + rr * pl.k + c) u (by omega) (by omega) hcell
            have hsize : arr'.size = arr.size := by
              have := congrArg List.length g2
              unfold spliceV at this
              simp at this
              omega
            have hb : pl.b < w.heap.size := heap_lt e2
            have hbo : BlkOk ρ { w with heap := w.heap.setIfInBounds pl.b (.cells arr' TT (0, 0)) } l (.rows .own ks n (setRow f rr c ds)) := by
              refine .inr (.inr ⟨pl, arr', TT, (0, 0), hpl, getElem_set_self hb _, fun _ => rfl, fun h => (by cases h), e4, e5, by omega, fun q hq => ?_⟩)
              have hold0 := e7 q hq
              rw [DenR_iff] at hold0 ⊢
              intro j hj
              obtain ⟨uo, hold, hden⟩ := hold0 j hj
              rw [← Array.getElem?_toList] at hold ⊢
              rw [g2, spliceV_get _ _ _ (by simp; omega)]
              unfold setRow
              simp only [Nat.zero_add] at hden ⊢
              by_cases hqr : q = rr
              · subst hqr
                simp only [if_true]
                rw [putD_get]
                by_cases hj2 : c ≤ j ∧ j < c + ds.length
                · rw [dif_pos hj2, dif_pos (by rw [d2]; omega)]
                  have hj3 : j - c < ((ks.drop c).take ti.size).length := by omega
                  obtain ⟨uu, q1, q2⟩ := d3 (j - c) hj3 (ds[j - c]'(by omega)) (List.getElem?_eq_getElem _)
                  have hj4 : j - c < u.cells.toList.length := by omega
                  rw [List.getElem?_eq_getElem hj4] at q1
                  have hk : ((ks.drop c).take ti.size)[j - c]'hj3 = ks[j]'hj := by
                    simp only [List.getElem_take, List.getElem_drop]
                    congr 1
                    omega
                  rw [hk] at q2
                  refine ⟨uu, ?_, q2⟩
                  rw [← q1]
                  congr 2
                  omega
                · rw [dif_neg hj2, dif_neg (by rw [d2]; omega)]
                  exact ⟨uo, hold, hden⟩
              · simp only [hqr, if_false]
                have hk : pl.k = ks.length := e4
                have hne : ¬ (pl.off + rr * pl.k + c ≤ pl.off + q * pl.k + j ∧ pl.off + q * pl.k + j < pl.off + rr * pl.k + c + u.cells.toList.length) := by
                  rw [d2]
                  intro ⟨h3, h4⟩
                  rcases Nat.lt_or_gt_of_ne hqr with h5 | h5
                  · have := row_bound (n := rr) (k := pl.k) (c := j) h5 (by omega)
                    omega
                  · have : rr * pl.k + pl.k ≤ q * pl.k := by
                      have := Nat.mul_le_mul_right pl.k (show rr + 1 ≤ q from h5)
                      rwa [Nat.add_mul, Nat.one_mul] at this
                    omega
                rw [dif_neg hne]
                exact ⟨uo, hold, hden⟩
            obtain ⟨k1, k2, k3⟩ := stored H K M (b' := .rows .own ks n (setRow f rr c ds)) (obj := .cells arr' TT (0, 0)) hG rfl rfl hpl (by simp [Blk.labs]) hbo
            refine ⟨_, ?_, rfl, k1, k2, k3⟩
            simp [Instr.storeAt, Instr.sureAddr, ptr, g1]
          · cases hr
        · cases hr
      · -- a whole array
        rename_i hble
        split at hr
        · rename_i ks' m g m' e hti
          split at hr
          · rename_i te hte
            split at hr
            · rename_i h1 h2 h3 h4
              cases hr
              obtain ⟨rfl, rfl⟩ : rr = 0 ∧ m = n := hp
              have h1 := kdsSame_iff.1 h1
              subst h1
              have h2 := Nat.eq_of_beq_eq_true h2
              have h3 := Nat.eq_of_beq_eq_true h3
              have h4 := Nat.eq_of_beq_eq_true h4
              subst h4
              rw [lenK_eq] at h2
              simp only [Den] at hy
              obtain ⟨us, rfl, hus, huc⟩ := hy
              have hm0 : m ≠ 0 := by
                intro h0; subst h0
                simp at h3
                rw [h3] at hble
                have := Nat.ble_eq_true_of_le (show 0 + 0 ≤ lenK ks by omega)
                rw [this] at hble; cases hble
              have hcell : ∀ x ∈ us.toList, cellable x = true := by
                intro z hz
                obtain ⟨i, hi, rfl⟩ := List.mem_iff_getElem.1 hz
                have hi' : i < m * ks.length := by simpa [hus] using hi
                have hk0 : 0 < ks.length := by
                  rcases Nat.eq_zero_or_pos ks.length with h | h
                  · rw [h] at hi'; omega
                  · exact h
                have h8 := huc (i / ks.length) (by rw [Nat.div_lt_iff_lt_mul hk0]; exact hi')
                rw [DenR_iff] at h8
                obtain ⟨uu, q1, q2⟩ := h8 (i % ks.length) (Nat.mod_lt _ hk0)
                rw [Nat.mul_comm, Nat.div_add_mod, ← Array.getElem?_toList, List.getElem?_eq_getElem hi] at q1
                cases q1
                exact DenD_cellable q2
              rcases H.blk _ _ hG with ⟨_, rfl⟩ | ⟨pl', e1, e2, e3, _⟩ | ⟨pl', arr, TT, fz, e1, e2, e3, _, e4, e5, e6, e7⟩
              · omega
              · cases e3
              rw [hpl] at e1; cases e1
              have hf := e3 rfl
              subst hf
              have hin : pl.off + ti.size ≤ arr.size := by
                have : m * pl.k ≤ pl.cap * pl.k := Nat.mul_le_mul_right _ (by omega)
                rw [h3, h2, ← e4]; omega
              obtain ⟨arr', g1, g2⟩ := run_storeVar (P := P) ht e2 pl.off (.agg us) (by simp [Value.cells, hus, h3, h2]) hin hcell
              have hul : us.toList.length = m * ks.length := by simpa using hus
              have hsize : arr'.size = arr.size := by
                have := congrArg List.length g2
                unfold spliceV at this
                simp [Value.cells] at this
                rw [hus] at this
                rw [h3, h2] at hin
                omega
              have hb : pl.b < w.heap.size := heap_lt e2
              have hbo : BlkOk ρ { w with heap := w.heap.setIfInBounds pl.b (.cells arr' TT (0, 0)) } l (.rows .own ks m g) := by
                refine .inr (.inr ⟨pl, arr', TT, (0, 0), hpl, getElem_set_self hb _, fun _ => rfl, fun h => (by cases h), e4, e5, by omega, fun q hq => ?_⟩)
                refine DenR_congr (huc q hq) fun j hj => ?_
                have hbd := row_bound (k := ks.length) hq hj
                rw [h3, h2] at hin
                rw [← Array.getElem?_toList, g2, spliceV_get _ _ _ (by simp [Value.cells]; omega), dif_pos (by simp only [Value.cells]; rw [hul, e4]; omega), ← Array.getElem?_toList, ← List.getElem?_eq_getElem]
                simp only [Value.cells]
                congr 1
                rw [e4]; omega
              obtain ⟨k1, k2, k3⟩ := stored H K M (b' := .rows .own ks m g) (obj := .cells arr' TT (0, 0)) hG rfl rfl hpl (by simp [Blk.labs]) hbo
              refine ⟨_, ?_, rfl, k1, k2, k3⟩
              simp [Instr.storeAt, Instr.sureAddr, ptr, g1]
            · cases hr
          · cases hr
        · cases hr
    · cases hr
  · cases hr
end
end Go.Sym
