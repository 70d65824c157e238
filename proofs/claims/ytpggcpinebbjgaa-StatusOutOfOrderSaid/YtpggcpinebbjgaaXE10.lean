/- Appends, the whole law. -/
import Derived.Test.YtpggcpinebbjgaaXE9
namespace Go.Sym
set_option linter.unusedVariables false
set_option linter.unusedSimpArgs false

section
variable {ρi : Env} {P : Program} {E A : Nat → Prop} {w0 : World} {ρ : Env} {F : Fr} {G : Hp} {a : Act} {w : World} {o : Oper}

/-- A label whose contents are forgotten. -/
theorem HSat.kill (H : HSat ρ G w) (l : Nat) (hl : G l ≠ none) : HSat ρ (upds G [(l, .dead)]) w := by
  have key : ∀ {x : Nat} {b : Blk}, upds G [(l, .dead)] x = some b → b = .dead ∨ (l ≠ x ∧ G x = some b) := by
    intro x b h
    by_cases e : l = x
    · subst e; rw [upds_one_same] at h; cases h; exact .inl rfl
    · rw [upds_one_other _ _ e] at h; exact .inr ⟨e, h⟩
  refine ⟨fun x b h => ?_, ?_, ?_, ?_, H.zok, fun x b q h hm hq => ?_⟩
  · rcases key h with rfl | ⟨_, h⟩
    · trivial
    · exact H.blk x b h
  · intro l1 l2 b1 b2 p1 p2 hn h1 h2 hm hv e1 e2
    rcases key h1 with rfl | ⟨_, h1⟩
    · cases hm
    rcases key h2 with rfl | ⟨_, h2⟩
    · exact hv.elim
    exact H.inj l1 l2 b1 b2 p1 p2 hn h1 h2 hm hv e1 e2
  · intro x b h y hy
    rcases key h with rfl | ⟨_, h⟩
    · simp [Blk.labs] at hy
    by_cases e : l = y
    · subst e; rw [upds_one_same]; simp
    · rw [upds_one_other _ _ e]; exact H.scp x b h y hy
  · intro x hx
    by_cases e : l = x
    · subst e; rw [upds_one_same] at hx; cases hx
    · rw [upds_one_other _ _ e] at hx; exact H.tight x hx
  · rcases key h with rfl | ⟨_, h⟩
    · cases hm
    · exact H.zap x b q h hm hq
theorem MutIn.kill {n : Nat} (M : MutIn E A ρi n ρ G) (l : Nat) : MutIn E A ρi n ρ (upds G [(l, .dead)]) := by
  refine ⟨fun x b pl h hm hp => ?_, fun x b pl h hm hp => ?_, M.zx, M.zi, M.za⟩
  · by_cases e : l = x
    · subst e; rw [upds_one_same] at h; cases h; cases hm
    · rw [upds_one_other _ _ e] at h; exact M.m x b pl h hm hp
  · by_cases e : l = x
    · subst e; rw [upds_one_same] at h; cases h; exact hm.elim
    · rw [upds_one_other _ _ e] at h; exact M.a x b pl h hm hp

theorem getElem_append3 {old new rest : Array Value} {i : Nat} :
    (old ++ new ++ rest)[i]? = if i < old.size then old[i]? else if i < old.size + new.size then new[i - old.size]? else rest[i - old.size - new.size]? := by
  by_cases h1 : i < old.size
  · rw [if_pos h1, Array.append_assoc, Array.getElem?_append_left h1]
  · rw [if_neg h1]
    by_cases h2 : i < old.size + new.size
    · rw [if_pos h2, Array.getElem?_append_left (by simp; omega), Array.getElem?_append_right (by omega)]
    · rw [if_neg h2, Array.getElem?_append_right (by simp; omega)]
      congr 1
      simp
      omega

/-- The rows of an append, laid end to end. -/
theorem appRows_cells {z : Nat → Option Obj} {ks : List Kd} {n m lo2 : Nat} {f g : Nat → Nat → D} {old new rest : Array Value} (h1 : old.size = n * ks.length) (h2 : new.size = m * ks.length)
    (ho : ∀ r, r < n → DenR z ks (f r) 0 old (r * ks.length))
    (hn : ∀ r, r < m → DenR z ks (g (lo2 + r)) 0 new (r * ks.length)) :
    ∀ r, r < n + m → DenR z ks (appRows n f lo2 g r) 0 (old ++ new ++ rest) (r * ks.length) := by
  intro r hr
  by_cases hrn : r < n
  · have e : appRows n f lo2 g r = f r := by funext c; simp [appRows, hrn]
    rw [e]
    refine DenR_congr (ho r hrn) fun c hc => ?_
    have := row_bound (k := ks.length) hrn hc
    rw [getElem_append3, if_pos (by omega)]
  · have e : appRows n f lo2 g r = g (lo2 + (r - n)) := by funext c; simp [appRows, hrn]
    rw [e]
    refine DenR_congr (hn (r - n) (by omega)) fun c hc => ?_
    have h3 : n * ks.length ≤ r * ks.length := Nat.mul_le_mul_right _ (by omega)
    have h4 := row_bound (k := ks.length) hr hc
    rw [Nat.add_mul] at h4
    rw [getElem_append3, if_neg (by omega), if_pos (by omega), h1]
    congr 1
    rw [Nat.sub_mul]
    omega

/-- A row of a call's own at the heap's end, out of an append that grew. -/
theorem grown_ok {ks : List Kd} {N nc : Nat} {fn : Nat → Nat → D} {arr : Array Value} {e : TypeId} {d : Nat} {w' : World} (hw : w'.heap = w.heap.push (.cells arr e)) (hN : N ≤ nc)
    (hsz : nc * ks.length ≤ arr.size) (hc : ∀ r, r < N → DenR ρ.z ks (fn r) 0 arr (r * ks.length)) :
    BlkOk (updE ρ d (some ⟨w.heap.size, 0, ks.length, nc⟩)) w' d (.rows .own ks N fn) := by
  refine .inr (.inr ⟨⟨w.heap.size, 0, ks.length, nc⟩, arr, e, (0, 0), updE_same _ _ _, by rw [hw]; simp, fun _ => rfl, fun h => (by cases h), rfl, hN, by simpa using hsz, fun r hr => ?_⟩)
  show DenR ρ.z _ _ _ _ _
  simpa using hc r hr

/-- In place: the store, and what it leaves. -/
theorem append_inplace (H : HSat ρ G w) (K : Keep E w0 w) (M : MutIn E A ρi w0.heap.size ρ G) {l d' n m cap lo2 : Nat} {ks : List Kd} {f g : Nat → Nat → D} {base b2 : Option Addr} {c2 : Nat} {vs : Array Value}
    (hG : G l = some (.rows .own ks n f)) (hGd : G d' = none) (hd : Den ρ (.sl l 0 n) (.slice base n cap)) (hv : Reads P ρ.z w ks m (.slice b2 m c2) g lo2 vs) (hc : n + m ≤ cap) :
    ∃ w', ∃ ρ' : Env, ρ'.z = ρ.z ∧ putNew P w base (n * ks.length) vs.toList = .ok () w' ∧ Den ρ' (.sl d' 0 (n + m)) (.slice base (n + m) cap) ∧
      HSat ρ' (upds G [(d', .rows .own ks (n + m) (appRows n f lo2 g)), (l, .dead)]) w' ∧ Keep E w0 w' ∧ MutIn E A ρi w0.heap.size ρ' (upds G [(d', .rows .own ks (n + m) (appRows n f lo2 g)), (l, .dead)]) ∧
      (∀ x, G x ≠ none → ρ' x = ρ x) := by
  have hld : d' ≠ l := fun e => by rw [e] at hGd; rw [hGd] at hG; cases hG
  have hGl : G l ≠ none := by rw [hG]; simp
  have H1 := H.kill l hGl
  have M1 := M.kill l
  have hGd1 : upds G [(l, .dead)] d' = none := by rw [upds_one_other _ _ (Ne.symm hld)]; exact hGd
  have hkeep : ∀ {p : Option Place} (x : Nat), G x ≠ none → updE ρ d' p x = ρ x := fun x hx => updE_keep hGd x hx
  rw [upds_two]
  simp only [Den] at hd
  rcases hd with ⟨hn, hvv, hn0, _⟩ | ⟨pl, ad, hpl, hvv, hcap, had⟩
  · -- nil
    simp only [Value.slice.injEq] at hvv
    obtain ⟨rfl, _, rfl⟩ := hvv
    have hm0 : m = 0 := by omega
    subst hm0
    refine ⟨w, updE ρ d' none, rfl, rfl, ?_, ?_, K, M1.add (fun q e _ => by cases e) (fun q e _ => by cases e), hkeep⟩
    · simp only [Den]
      exact .inl ⟨updE_same _ _ _, by simp [hn0]⟩
    · exact H1.add hGd1 (by simp [Blk.labs]) (fun _ _ _ _ _ _ => rfl) H1.zok (fun _ _ _ _ _ _ _ e => by cases e) (fun _ e => by cases e) (.inl ⟨updE_same _ _ _, by omega⟩)
  · simp only [Value.slice.injEq, true_and] at hvv
    obtain ⟨rfl, rfl⟩ := hvv
    rcases H.blk _ _ hG with ⟨h5, _⟩ | ⟨pl', _, _, e3, _⟩ | ⟨pl', arr, TT, fz, e1, e2', e3, _, e4, e5, e6, e7⟩
    · rw [hpl] at h5; cases h5
    · cases e3
    rw [hpl] at e1; cases e1
    have hf := e3 rfl
    subst hf
    have hzn := H.zap l _ pl hG rfl hpl
    have happ : ∀ (x : Nat) (b : Blk) (q q' : Place), upds G [(l, .dead)] x = some b → b.real → ρ x = some q → some pl = some q' → q.b ≠ q'.b := by
      intro x b q q' hx hv' hq e
      cases e
      by_cases exl : l = x
      · subst exl; rw [upds_one_same] at hx; cases hx; exact hv'.elim
      · rw [upds_one_other _ _ exl] at hx
        exact (H.inj l x _ b pl q exl hG hx rfl hv' hpl hq).symm
    have hden : Den (updE ρ d' (some pl)) (.sl d' 0 (n + m)) (.slice (some ad) (n + m) (pl.cap - 0)) := by
      simp only [Den]
      exact .inr ⟨pl, ad, updE_same _ _ _, rfl, by omega, had⟩
    have hmut : MutIn E A ρi w0.heap.size (updE ρ d' (some pl)) (upds (upds G [(l, .dead)]) [(d', .rows .own ks (n + m) (appRows n f lo2 g))]) :=
      M1.add (fun q e _ => by cases e; exact M.m l _ pl hG rfl hpl) (fun q e _ => by cases e; exact M.a l _ pl hG (.inl rfl) hpl)
    by_cases hm0 : m = 0
    · subst hm0
      have hvs : vs.toList = [] := by
        have := hv.2.1
        simp at this
        simp [this]
      refine ⟨w, updE ρ d' (some pl), rfl, by rw [hvs]; rfl, hden, ?_, K, hmut, hkeep⟩
      refine H1.add hGd1 (by simp [Blk.labs]) (fun _ _ _ _ _ _ => rfl) H1.zok (fun x b q q' h1 h2 h3 h4 _ => happ x b q q' h1 h2 h3 h4) (fun q hq _ => by cases hq; exact hzn) (.inr (.inr ⟨pl, arr, TT, (0, 0), updE_same _ _ _, e2', fun _ => rfl, fun h => (by cases h), e4, by omega, e6, fun r hr => ?_⟩))
      have e : appRows n f lo2 g r = f r := by funext c; simp [appRows, show r < n by omega]
      rw [e]
      exact e7 r (by omega)
    · have had' := had (by omega)
      subst had'
      have hk : pl.k = ks.length := e4
      have hcm : (n + m) * pl.k ≤ pl.cap * pl.k := Nat.mul_le_mul_right _ (by omega)
      rw [Nat.add_mul] at hcm
      have hvs := hv.2.1
      have hcellable : ∀ v ∈ vs.toList, cellable v = true := by
        intro z hz
        obtain ⟨i, hi, rfl⟩ := List.mem_iff_getElem.1 hz
        have hi' : i < m * ks.length := by simpa [hvs] using hi
        have hk0 : 0 < ks.length := by
          rcases Nat.eq_zero_or_pos ks.length with h | h
          · rw [h] at hi'; omega
          · exact h
        have h8 := hv.2.2 (i / ks.length) (by rw [Nat.div_lt_iff_lt_mul hk0]; exact hi')
        rw [DenR_iff] at h8
        obtain ⟨uu, q1, q2⟩ := h8 (i % ks.length) (Nat.mod_lt _ hk0)
        rw [Nat.mul_comm, Nat.div_add_mod, ← Array.getElem?_toList, List.getElem?_eq_getElem hi] at q1
        cases q1
        exact DenD_cellable q2
      obtain ⟨arr', g1, g2⟩ := run_storeCells (P := P) vs.toList w arr (pl.off + n * pl.k) 0 e2' (by simp; rw [hvs, ← hk]; omega) hcellable
      have hsize : arr'.size = arr.size := by
        have := congrArg List.length g2
        unfold spliceV at this
        simp at this
        rw [hvs] at this
        rw [← hk] at this
        omega
      have hb : pl.b < w.heap.size := heap_lt e2'
      refine ⟨{ w with heap := w.heap.setIfInBounds pl.b (.cells arr' TT (0, 0)) }, updE ρ d' (some pl), rfl, ?_, hden, ?_, K.set _ (M.m l _ pl hG rfl hpl), hmut, hkeep⟩
      · simp only [putNew, ptr, Nat.zero_mul, Nat.add_zero, add_none]
        rw [← hk]
        exact g1
      refine H1.add hGd1 (by simp [Blk.labs]) (fun x b q hx hv' hq => ?_) (fun b o hz => ?_) (fun x b q q' h1 h2 h3 h4 _ => happ x b q q' h1 h2 h3 h4) (fun q hq _ => by cases hq; exact hzn)
        (.inr (.inr ⟨pl, arr', TT, (0, 0), updE_same _ _ _, getElem_set_self hb _, fun _ => rfl, fun h => (by cases h), e4, by omega, by omega, fun r hr => ?_⟩))
      · show (w.heap.setIfInBounds pl.b _)[q.b]? = _
        rw [Array.getElem?_setIfInBounds, if_neg (Ne.symm (happ x b q pl hx hv' hq rfl))]
      · show (w.heap.setIfInBounds pl.b _)[b]? = _
        rw [Array.getElem?_setIfInBounds, if_neg (fun e => by rw [← e, hzn] at hz; cases hz)]
        exact H.zok b o hz
      · show DenR ρ.z _ _ _ _ _
        by_cases hrn : r < n
        · have e : appRows n f lo2 g r = f r := by funext c; simp [appRows, hrn]
          rw [e]
          refine DenR_congr (e7 r hrn) fun c hc => ?_
          have h9 := row_bound (k := pl.k) (c := c) hrn (by omega)
          rw [← Array.getElem?_toList, g2, Nat.add_zero, spliceV_get _ _ _ (by simp; rw [hvs, ← hk]; omega), dif_neg (by omega), Array.getElem?_toList]
        · have e : appRows n f lo2 g r = g (lo2 + (r - n)) := by funext c; simp [appRows, hrn]
          rw [e]
          refine DenR_congr (hv.2.2 (r - n) (by omega)) fun c hc => ?_
          have h10 : n * pl.k ≤ r * pl.k := Nat.mul_le_mul_right _ (by omega)
          have h11 := row_bound (k := pl.k) (c := c) hr (by omega)
          rw [Nat.add_mul] at h11
          have h12 : vs.toList.length = m * pl.k := by simp [hvs, hk]
          rw [← Array.getElem?_toList, g2, Nat.add_zero, spliceV_get _ _ _ (by simp; rw [hvs, ← hk]; omega), dif_pos ⟨by omega, by omega⟩, ← Array.getElem?_toList, ← List.getElem?_eq_getElem]
          congr 1
          rw [Nat.sub_mul, ← hk]
          omega

set_option maxHeartbeats 400000 in
theorem append_sound {T : List (Nat × TI)} (hT : TOk P T) {t t2 : Nat} {ty : TypeId} {d : Option Nat} (H : HSat ρ G w) (K : Keep E w0 w) (M : MutIn E A ρi w0.heap.size ρ G) {x y : SV} {r : Res}
    (hr : evBuiltin T G d .append [t, t2] [x, y] = some r) (hp : r.Pre) {v u : Value} (hd : Den ρ x v) (hy : Den ρ y u) :
    ∃ z w' ρ', (Builtin.append_ #[t, t2] ty #[v, u]).run P w = .ok z w' ∧ Den ρ' r.v z ∧ HSat ρ' (upds G r.wr) w' ∧ Keep E w0 w' ∧ MutIn E A ρi w0.heap.size ρ' (upds G r.wr) ∧
      (∀ l, G l ≠ none → ρ' l = ρ l) ∧ ZLe ρ ρ' ∧ (∀ l ∈ r.v.labs, upds G r.wr l ≠ none) := by
  simp only [evBuiltin] at hr
  split at hr
  · rename_i e s1 s2 s3 e2 q1 q2 q3 hT1 hT2
    split at hr
    · rename_i ti hTe
      split at hr
      · rename_i ks hks hby hsz
        have he := hT _ _ hTe
        obtain ⟨dd, hd1, hd2⟩ := (hT _ _ hT1).d
        have hu1 : P.underlying t = some (.slice e) := by
          cases dd <;> simp only [tdOk] at hd2 <;> try cases hd2
          rw [hd1, Nat.eq_of_beq_eq_true hd2]
        obtain ⟨dd2, hd3, hd4⟩ := (hT _ _ hT2).d
        have hu2 : ∃ e2, P.underlying t2 = some (.slice e2) := by
          cases dd2 <;> simp only [tdOk] at hd4 <;> try cases hd4
          exact ⟨_, hd3⟩
        have hbytes := Nat.le_of_ble_eq_true hby
        obtain ⟨hkl, _⟩ := kdsE_spec hks he
        -- the source
        have src : ∀ {rd : List Nat} {lo2 m n2 : Nat} {g : Nat → Nat → D}, appSrc G ks y = some (rd, lo2, m, n2, g) → lo2 + m ≤ n2 → ∃ b2 c2, u = .slice b2 m c2 ∧ ∃ vs, Reads P ρ.z w ks m u g lo2 vs := by
          intro rd lo2 m n2 g h1 h2
          unfold appSrc at h1
          split at h1
          · rename_i l lo len
            split at h1
            · rename_i mm ks' n f hG
              split at h1
              · rename_i hsame
                cases h1
                rw [← kdsSame_iff.1 hsame] at hG
                exact Reads.sl H hG h2 hy
              · cases h1
            · cases h1
          · cases h1
            simp only [Den] at hy
            subst hy
            exact ⟨_, _, rfl, #[], Reads.none⟩
          · cases h1
        split at hr
        · cases hr
        · rename_i rd lo2 m n2 g hsrc
          split at hr
          · -- onto nil
            obtain ⟨d', rfl, hGd, rfl⟩ := newAt_spec hr
            obtain ⟨p1, p2⟩ : lo2 + m ≤ n2 ∧ m ≤ maxRows := hp
            obtain ⟨b2, c2, rfl, vs, hv⟩ := src hsrc p1
            simp only [Den] at hd
            subst hd
            rcases run_append (P := P) (w := w) (ty := ty) (base := none) (n := 0) (cap := 0) (b2 := b2) (m := m) (c2 := c2) (old := #[]) (new := vs) hu1 hu2 he hbytes (by omega)
              (fun w' _ => by simp [Builtin.firstCells]) (fun w' hw' => by have := hv.1 w' hw'; rwa [hkl] at this) with ⟨h1, h2⟩ | ⟨h1, nc, rest, h2, h3, h4⟩
            · have hm0 : m = 0 := by omega
              subst hm0
              refine ⟨_, w, updE ρ d' none, h2, ?_, ?_, K, M.add (fun q e _ => by cases e) (fun q e _ => by cases e), updE_keep hGd, updE_z _ _ _, ?_⟩
              · simp only [Den]
                exact .inl ⟨updE_same _ _ _, by simp⟩
              · exact H.add hGd (by simp [Blk.labs]) (fun _ _ _ _ _ _ => rfl) H.zok (fun _ _ _ _ _ _ _ e => by cases e) (fun _ e => by cases e) (.inl ⟨updE_same _ _ _, rfl⟩)
              · intro l hl; simp [SV.labs] at hl; subst hl; simp [upds_one_same]
            · have hcells := appRows_cells (ks := ks) (n := 0) (m := m) (lo2 := lo2) (f := fun _ _ => .i 0) (g := g) (old := #[]) (new := vs) (rest := rest) (by simp) hv.2.1 (fun r hr => by omega) hv.2.2
              have hsz2 : nc * ks.length ≤ (#[] ++ vs ++ rest).size := by
                have := hv.2.1
                have h5 : (nc - (0 + m)) * ti.size + m * ti.size = nc * ti.size := by rw [← Nat.add_mul]; congr 1; omega
                simp; rw [hkl] at this ⊢; omega
              obtain ⟨k1, k2, k3, k4⟩ := pushed (b := .rows .own ks m (appRows 0 (fun _ _ => .i 0) lo2 g)) (w' := { w.drew with heap := w.heap.push (.cells (#[] ++ vs ++ rest) e) }) H K M hGd (by simp [Blk.labs]) rfl rfl rfl rfl rfl
                (grown_ok (ρ := ρ) (d := d') (w := w) (nc := nc) rfl (by omega) hsz2 (by simpa using hcells))
              refine ⟨_, _, _, h4, ?_, k1, k2, k3, k4, updE_z _ _ _, ?_⟩
              · simp only [Den]
                exact .inr ⟨_, ⟨w.heap.size, 0, none⟩, updE_same _ _ _, by simp, by simpa using h2, fun _ => by simp [ptr]⟩
              · intro l hl; simp [SV.labs] at hl; subst hl; simp [upds_one_same]
          · -- onto a slice
            rename_i l lo n
            split at hr
            · rename_i ks' n' f d' hG
              split at hr
              · rename_i hsame hGd
                cases hr
                rw [← kdsSame_iff.1 hsame] at hG
                obtain ⟨rfl, hnn, p1, p2⟩ : lo = 0 ∧ n = n' ∧ lo2 + m ≤ n2 ∧ n + m ≤ maxRows := hp
                rw [← hnn] at hG
                obtain ⟨b2, c2, rfl, vs, hv⟩ := src hsrc p1
                obtain ⟨base, cap, rfl, vo, hvo⟩ := Reads.sl (P := P) H hG (by omega) hd
                have hld : d' ≠ l := fun e => by rw [e] at hGd; rw [hGd] at hG; cases hG
                have hGl : G l ≠ none := by rw [hG]; simp
                have H1 := H.kill l hGl
                have M1 := M.kill l
                have hGd1 : upds G [(l, .dead)] d' = none := by rw [upds_one_other _ _ (Ne.symm hld)]; exact hGd
                have hkeep : ∀ {p : Option Place} (x : Nat), G x ≠ none → updE ρ d' p x = ρ x := fun x hx => updE_keep hGd x hx
                have hlab : ∀ x ∈ (SV.sl d' 0 (n + m)).labs, upds G [(d', Blk.rows .own ks (n + m) (appRows n f lo2 g)), (l, .dead)] x ≠ none := by
                  intro x hx; simp [SV.labs] at hx; subst hx; rw [upds_two, upds_one_same]; simp
                rcases run_append (P := P) (w := w) (ty := ty) (base := base) (n := n) (cap := cap) (b2 := b2) (m := m) (c2 := c2) (old := vo) (new := vs) hu1 hu2 he hbytes p2
                  (fun w' hw' => by have := hvo.1 w' hw'; rwa [hkl] at this) (fun w' hw' => by have := hv.1 w' hw'; rwa [hkl] at this) with ⟨h1, h2⟩ | ⟨h1, nc, rest, h2, h3, h4⟩
                · -- in place
                  obtain ⟨w', ρ', kz, k1, k2, k3, k4, k5, k6⟩ := append_inplace (P := P) H K M hG hGd hd hv h1
                  rw [← hkl] at h2
                  refine ⟨_, w', ρ', h2.trans ?_, k2, k3, k4, k5, k6, fun b o h => by rw [kz]; exact h, hlab⟩
                  rw [k1]
                  rfl
                · -- a new row
                  have hcells := appRows_cells (ks := ks) (n := n) (m := m) (lo2 := lo2) (f := f) (g := g) (old := vo) (new := vs) (rest := rest) hvo.2.1 hv.2.1 (fun r hr => by have := hvo.2.2 r hr; rwa [Nat.zero_add] at this) hv.2.2
                  have hsz2 : nc * ks.length ≤ (vo ++ vs ++ rest).size := by
                    have a1 := hv.2.1
                    have a2 := hvo.2.1
                    have h5 : (nc - (n + m)) * ti.size + (n + m) * ti.size = nc * ti.size := by rw [← Nat.add_mul]; congr 1; omega
                    rw [Nat.add_mul] at h5
                    simp; rw [hkl] at a1 a2 ⊢; omega
                  obtain ⟨k1, k2, k3, k4⟩ := pushed (b := .rows .own ks (n + m) (appRows n f lo2 g)) (w' := { w.drew with heap := w.heap.push (.cells (vo ++ vs ++ rest) e) }) H1 K M1 hGd1 (by simp [Blk.labs]) rfl rfl rfl rfl rfl
                    (grown_ok (ρ := ρ) (d := d') (w := w) (nc := nc) rfl h2 hsz2 hcells)
                  refine ⟨_, _, _, h4, ?_, by rw [upds_two]; exact k1, k2, by rw [upds_two]; exact k3, hkeep, updE_z _ _ _, hlab⟩
                  simp only [Den]
                  exact .inr ⟨_, ⟨w.heap.size, 0, none⟩, updE_same _ _ _, by simp, by simpa using h2, fun _ => by simp [ptr]⟩
              · cases hr
            · cases hr
          · cases hr
      · cases hr
    · cases hr
  · cases hr
end
end Go.Sym
