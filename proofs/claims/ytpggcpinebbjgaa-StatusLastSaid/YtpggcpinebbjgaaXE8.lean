/- What lies in cells: read out of rows, written into them. -/
import Derived.Test.YtpggcpinebbjgaaXE7
namespace Go.Sym
set_option linter.unusedVariables false
set_option linter.unusedSimpArgs false

section
variable {ρi : Env} {P : Program} {E A : Nat → Prop} {w0 : World} {ρ : Env} {F : Fr} {G : Hp} {a : Act} {w : World} {o : Oper}

theorem row_bound {r n c k : Nat} (h : r < n) (hc : c < k) : r * k + c < n * k := by
  have : (r + 1) * k ≤ n * k := Nat.mul_le_mul_right _ h
  rw [Nat.add_mul, Nat.one_mul] at this
  omega

/-- A symbolic value as a datum. -/
theorem toD_den (H : HSat ρ G w) {k : Kd} {c : SV} {d : D} {p : Prop} {v : Value} (h : toD G k c = some (d, p)) (hp : p) (hd : Den ρ c v) : DenD ρ.z k d v := by
  unfold toD at h
  split at h
  · split at h
    · rename_i hk
      cases h
      simp only [Den] at hd
      simp only [DenD]
      rw [hd, ← IntKind.same_iff.1 hk]; rfl
    · cases h
  · cases h; simp only [Den] at hd; simp only [DenD]; rw [hd]; rfl
  · cases h; simp only [Den] at hd; simp only [DenD]; rw [hd]; rfl
  · cases h; simp only [Den] at hd; simp only [DenD]; rw [hd]; rfl
  · cases h; simp only [Den] at hd; simp only [DenD, D.toN]; exact .inl ⟨trivial, .inl hd⟩
  · rename_i ks l lo len
    split at h
    · rename_i ks' n f hG
      split at h
      · rename_i hk
        have := kdsSame_iff.1 hk
        subst this
        cases h
        simp only [Den] at hd
        simp only [DenD, D.toN, D.toF]
        rcases hd with ⟨_, rfl, h1, _⟩ | ⟨pl, a, hpl, rfl, h1, h2⟩
        · exact .inl ⟨h1, .inl rfl⟩
        · by_cases hl : len = 0
          · subst hl
            refine .inl ⟨rfl, .inr ⟨a, _, rfl, fun hc => ?_⟩⟩
            rw [h2 (by omega)]; rfl
          · rcases H.blk _ _ hG with ⟨e1, _⟩ | ⟨pl', e1, e2, _⟩ | ⟨pl', arr, T, fz, e1, e2, _, e3, e4, e5, e6, e7⟩
            · rw [hpl] at e1; cases e1
            · omega
            · rw [hpl] at e1; cases e1
              refine .inr ⟨pl.b, pl.off + lo * pl.k, pl.cap - lo, arr, T, fz, ?_, by omega, e3 rfl, ?_, fun r hr => ?_⟩
              · rw [h2 (by omega)]; rfl
              · rw [← e4, Nat.add_assoc, ← Nat.add_mul, Nat.add_sub_cancel' (by omega)]; exact e6
              · have := e7 (lo + r) (by omega)
                rw [← e4]
                rwa [Nat.add_mul, ← Nat.add_assoc] at this
      · cases h
    · rename_i hG
      cases h
      simp only [Den] at hd
      simp only [DenD, D.toN]
      rcases hd with ⟨_, rfl, h1, _⟩ | ⟨pl, a, hpl, rfl, h1, h2⟩
      · exact .inl ⟨trivial, .inl rfl⟩
      · rw [H.tight _ hG] at hpl; cases hpl
    · cases h
  · cases h; simp only [Den] at hd; simp only [DenD, D.toN]; exact .inl ⟨trivial, hd⟩
  · rename_i n ks l m
    split at h
    · rename_i ks' m' f hG
      split at h
      · rename_i hk
        have := kdsSame_iff.1 hk
        subst this
        cases h
        simp only [Den] at hd
        simp only [DenD, D.toN, D.toF]
        rcases hd with ⟨h1, rfl⟩ | ⟨pl, h1, hpl, rfl⟩
        · exact .inl ⟨h1, rfl⟩
        · obtain ⟨rfl, rfl⟩ := hp.resolve_left h1
          rcases H.blk _ _ hG with ⟨e1, _⟩ | ⟨pl', e1, e2, _⟩ | ⟨pl', arr, T, fz, e1, e2, _, e3, e4, e5, e6, e7⟩
          · rw [hpl] at e1; cases e1
          · omega
          · rw [hpl] at e1; cases e1
            refine .inr ⟨pl.b, pl.off, arr, T, fz, by simp [ptr], rfl, h1, e3 rfl, ?_, fun r hr => ?_⟩
            · rw [← e4]; have := Nat.mul_le_mul_right pl.k e5; omega
            · rw [← e4]; exact e7 r hr
      · cases h
    · cases h
  · rename_i n ks l r c
    split at h
    · rename_i ks' m f hG
      split at h
      · rename_i hk hc
        have := kdsSame_iff.1 hk
        subst this
        have hc := Nat.eq_of_beq_eq_true hc
        subst hc
        cases h
        obtain ⟨rfl, rfl, h1⟩ := hp
        simp only [Den] at hd
        simp only [DenD, D.toN, D.toF]
        obtain ⟨pl, hpl, rfl⟩ := hd
        rcases H.blk _ _ hG with ⟨e1, _⟩ | ⟨pl', e1, e2, _⟩ | ⟨pl', arr, T, fz, e1, e2, _, e3, e4, e5, e6, e7⟩
        · rw [hpl] at e1; cases e1
        · omega
        · rw [hpl] at e1; cases e1
          refine .inr ⟨pl.b, pl.off, arr, T, fz, by simp [ptr], trivial, h1, e3 rfl, ?_, fun r hr => ?_⟩
          · rw [← e4]; have := Nat.mul_le_mul_right pl.k e5; omega
          · rw [← e4]; exact e7 r hr
      · cases h
    · cases h
  · cases h
theorem toDs_den (H : HSat ρ G w) : ∀ {ks : List Kd} {cs : List SV} {ds : List D} {ps : List Prop} {vs : List Value}, toDs G ks cs = some (ds, ps) → allP ps → DenL ρ cs vs → ds.length = ks.length ∧ vs.length = ks.length ∧
    ∀ j (hj : j < ks.length) d, ds[j]? = some d → ∃ v, vs[j]? = some v ∧ DenD ρ.z (ks[j]'hj) d v
  | [], [], ds, ps, vs, h, _, hd => by
    simp only [toDs, Option.some.injEq, Prod.mk.injEq] at h
    obtain ⟨rfl, rfl⟩ := h
    rw [DenL_nil] at hd
    subst hd
    exact ⟨rfl, rfl, fun j hj => by simp at hj⟩
  | [], _ :: _, ds, ps, vs, h, _, _ => by simp [toDs] at h
  | _ :: _, [], ds, ps, vs, h, _, _ => by simp [toDs] at h
  | k :: ks, c :: cs, ds, ps, [], h, _, hd => by simp [DenL] at hd
  | k :: ks, c :: cs, ds, ps, v :: vs, h, hp, hd => by
    unfold toDs at h
    rw [DenL_cons] at hd
    split at h
    · rename_i d p ds' ps' h1 h2
      cases h
      obtain ⟨a1, a2, a3⟩ := toDs_den H h2 hp.2 hd.2
      refine ⟨by simp [a1], by simp [a2], fun j hj d' hd' => ?_⟩
      cases j with
      | zero =>
        simp at hd'
        subst hd'
        exact ⟨v, rfl, toD_den H h1 hp.1 hd.1⟩
      | succ j => simpa using a3 j (by simpa using hj) d' (by simpa using hd')
    · cases h

theorem memB_iff (l : List Nat) (x : Nat) : memB l x = true ↔ x ∈ l := by
  induction l with
  | nil => simp [memB]
  | cons y r ih =>
    unfold memB
    cases h : Nat.beq y x with
    | true => have := Nat.eq_of_beq_eq_true h; simp [this]
    | false => have : y ≠ x := fun e => by subst e; simp at h
               simp [ih, Ne.symm this]
theorem newOk_spec {wr : List (Nat × Blk)} (h : newOk G wr = true) : ∀ l ∈ keysB wr, G l = none ∧ l < 100000 := by
  induction wr with
  | nil => intro l hl; simp [keysB] at hl
  | cons x r ih =>
    obtain ⟨k, b⟩ := x
    unfold newOk at h
    split at h
    · rename_i h1 h2 h3
      intro l hl
      simp only [keysB, List.mem_cons] at hl
      rcases hl with rfl | hl
      · exact ⟨h1, Nat.le_of_ble_eq_true (show Nat.ble (l + 1) 100000 = true from h2)⟩
      · exact ih h3 l hl
    · cases h
theorem keysB_eq (wr : List (Nat × Blk)) : keysB wr = keys wr := by induction wr with | nil => rfl | cons x r ih => simp [keysB, keys, ih]
theorem diffB_cons {x : Nat} {r : List Nat} (h : diffB (x :: r) = true) : x ∉ r ∧ diffB r = true := by
  unfold diffB at h
  split at h
  · cases h
  · rename_i hm
    refine ⟨fun hx => ?_, h⟩
    rw [(memB_iff r x).2 hx] at hm; cases hm

/-- A row read: what is nested in it is laid down under labels of its own. -/
theorem row_den {d : Nat} {arr : Array Value} {g : Nat → D} : ∀ {ks : List Kd} {c o j : Nat}, HSat ρ G w → MutIn E A ρi w0.heap.size ρ G → DenR ρ.z ks g c arr o → newOk G (rowW d ks g c j) = true → diffB (keysB (rowW d ks g c j)) = true →
    ∃ ρ', HSat ρ' (upds G (rowW d ks g c j)) w ∧ MutIn E A ρi w0.heap.size ρ' (upds G (rowW d ks g c j)) ∧ (∀ l, G l ≠ none → ρ' l = ρ l) ∧ ρ'.z = ρ.z ∧
      DenL ρ' (rowSV d ks g c j) ((arr.toList.drop o).take ks.length) ∧ (∀ l ∈ labsL (rowSV d ks g c j), l ∈ keysB (rowW d ks g c j))
  | [], c, o, j, H, M, _, _, _ => ⟨ρ, H, M, fun _ _ => rfl, rfl, by simp [rowSV, DenL], by simp [rowSV, labsL]⟩
  | k :: ks, c, o, j, H, M, hd, hn, hf => by
    simp only [DenR] at hd
    obtain ⟨⟨u, h1, h2⟩, h3⟩ := hd
    obtain ⟨ho, rfl⟩ := Array.getElem?_eq_some_iff.1 h1
    have e : arr.toList.drop o = arr[o] :: arr.toList.drop (o + 1) := by
      rw [← Array.getElem_toList ho, List.drop_eq_getElem_cons (by simpa using ho)]
    rw [e]
    simp only [List.length_cons, List.take_succ_cons]
    -- what is nested
    have nest : ∀ (L : Nat) (b : Blk) (sv : SV) (rest : List (Nat × Blk)) (rsv : List SV), b.mut = false → b.labs = [] →
        newOk G ((L, b) :: rest) = true → diffB (keysB ((L, b) :: rest)) = true →
        (∃ ρ1, HSat ρ1 (upds G rest) w ∧ MutIn E A ρi w0.heap.size ρ1 (upds G rest) ∧ (∀ l, G l ≠ none → ρ1 l = ρ l) ∧ ρ1.z = ρ.z ∧ DenL ρ1 rsv ((arr.toList.drop (o + 1)).take ks.length) ∧ (∀ l ∈ labsL rsv, l ∈ keysB rest)) →
        (∃ p : Option Place, (∀ ρ1 : Env, ρ1.z = ρ.z → Den (updE ρ1 L p) sv arr[o] ∧ BlkOk (updE ρ1 L p) w L b) ∧ ∀ q, p = some q → b.real → ρ.z q.b ≠ none) → (∀ l ∈ sv.labs, l = L) →
        ∃ ρ', HSat ρ' (upds G ((L, b) :: rest)) w ∧ MutIn E A ρi w0.heap.size ρ' (upds G ((L, b) :: rest)) ∧ (∀ l, G l ≠ none → ρ' l = ρ l) ∧ ρ'.z = ρ.z ∧
          DenL ρ' (sv :: rsv) (arr[o] :: ((arr.toList.drop (o + 1)).take ks.length)) ∧ (∀ l ∈ labsL (sv :: rsv), l ∈ keysB ((L, b) :: rest)) := by
      intro L b sv rest rsv hbm hbl hn hf ⟨ρ1, H1, M1, k1, z1, D1, L1⟩ ⟨p, hp, hr⟩ hsv
      have hnL := (newOk_spec hn L (by simp [keysB])).1
      obtain ⟨hLr, hf'⟩ := diffB_cons (show diffB (L :: keysB rest) = true from hf)
      have hG1 : upds G rest L = none := by
        rw [upds_eq]
        have : hget rest L = none := (hget_none_iff rest L).2 (by rw [← keysB_eq]; exact hLr)
        rw [this]; exact hnL
      have hups : upds G ((L, b) :: rest) = upds (upds G rest) [(L, b)] := by funext x; simp only [upds]
      obtain ⟨hden, hblk⟩ := hp ρ1 z1
      refine ⟨updE ρ1 L p, ?_, ?_, fun l hl => ?_, z1, DenL_cons.2 ⟨hden, ?_⟩, ?_⟩
      · rw [hups]
        refine H1.add hG1 (by rw [hbl]; simp) (fun _ _ _ _ _ _ => rfl) H1.zok (fun l b' pl q hl hv hpl hq hor => ?_) (fun q _ hm => by rw [hbm] at hm; cases hm) hblk
        rcases hor with hm | ⟨hm, hreal⟩
        · rw [hbm] at hm; cases hm
        · have h4 := H1.zap l b' pl hl hm hpl
          have h5 := hr q hq hreal
          intro e
          rw [e, z1] at h4
          exact h5 h4
      · rw [hups]
        refine M1.add (fun q _ hm => by rw [hbm] at hm; cases hm) (fun q hq hreal => ?_)
        have h5 := hr q hq hreal
        rw [← z1] at h5
        rcases M1.zi q.b h5 with h | h | h
        · exact .inl (M1.za _ (.inl h))
        · exact .inl (M1.za _ (.inr h))
        · exact .inr h
      · have hne : L ≠ l := fun e => hl (e ▸ hnL)
        rw [updE_other _ _ hne]; exact k1 l hl
      · refine DenL_all D1 (updE_z _ _ _) fun l hl => updE_other _ _ (fun e => ?_)
        exact hLr (e ▸ L1 l hl)
      · intro l hl
        simp only [labsL, List.mem_append] at hl
        simp only [keysB, List.mem_cons]
        rcases hl with hl | hl
        · exact .inl (hsv l hl)
        · exact .inr (L1 l hl)
    cases k with
    | int kk =>
      simp only [rowW] at hn hf ⊢
      obtain ⟨ρ1, H1, M1, k1, z1, D1, L1⟩ := row_den H M h3 hn hf
      refine ⟨ρ1, H1, M1, k1, z1, ?_, by simpa [rowSV, labsL, SV.labs] using L1⟩
      simp only [rowSV]
      refine DenL_cons.2 ⟨?_, D1⟩
      simp only [DenD] at h2
      simp only [Den]; exact h2
    | bool =>
      simp only [rowW] at hn hf ⊢
      obtain ⟨ρ1, H1, M1, k1, z1, D1, L1⟩ := row_den H M h3 hn hf
      refine ⟨ρ1, H1, M1, k1, z1, ?_, by simpa [rowSV, labsL, SV.labs] using L1⟩
      simp only [rowSV]
      refine DenL_cons.2 ⟨?_, D1⟩
      simp only [DenD] at h2
      simp only [Den]; exact h2
    | str =>
      simp only [rowW] at hn hf ⊢
      obtain ⟨ρ1, H1, M1, k1, z1, D1, L1⟩ := row_den H M h3 hn hf
      refine ⟨ρ1, H1, M1, k1, z1, ?_, by simpa [rowSV, labsL, SV.labs] using L1⟩
      simp only [rowSV]
      refine DenL_cons.2 ⟨?_, D1⟩
      simp only [DenD] at h2
      simp only [Den]; exact h2
    | sl ks' =>
      simp only [rowW] at hn hf ⊢
      simp only [rowSV]
      have hn' : newOk G (rowW d ks g (c + 1) (j + 1)) = true := by
        unfold newOk at hn
        split at hn
        · rename_i q; exact q
        · cases hn
      refine nest _ _ _ _ _ rfl rfl hn hf (row_den H M h3 hn' (diffB_cons hf).2) ?_ (by simp [SV.labs])
      simp only [DenD] at h2
      rcases h2 with ⟨h4, h5 | ⟨ad, cap, h5, h6⟩⟩ | ⟨b, off, cap, ar, T, fz, h4, h5, h6, h7, h8⟩
      · refine ⟨none, fun ρ1 _ => ⟨?_, .inl ⟨updE_same _ _ _, h4⟩⟩, fun q hq => by cases hq⟩
        simp only [Den]; exact .inl ⟨updE_same _ _ _, h5, h4, trivial⟩
      · refine ⟨some ⟨ad.block, ad.off, ks'.length, cap⟩, fun ρ1 _ => ⟨?_, .inr (.inl ⟨_, updE_same _ _ _, h4, rfl, rfl⟩)⟩, fun q _ hre => ?_⟩
        · simp only [Den]
          refine .inr ⟨_, ad, updE_same _ _ _, by rw [h5, h4]; rfl, by simp [h4], fun hc => ?_⟩
          have := h6 (by simpa using hc)
          cases ad; simp only at this; subst this; simp [ptr]
        · simp only [Blk.real] at hre
          rcases hre with h | h
          · cases h
          · exact absurd h4 h
      · refine ⟨some ⟨b, off, ks'.length, cap⟩, fun ρ1 hz1 => ⟨?_, .inr (.inr ⟨_, ar, T, fz, updE_same _ _ _, H.zok _ _ h6, (fun h => by cases h), (fun _ => by show ρ1.z b = _; rw [hz1]; exact h6), rfl, h5, h7, fun r hr => by show DenR ρ1.z _ _ _ _ _; rw [hz1]; exact h8 r hr⟩)⟩, fun q hq _ => ?_⟩
        · simp only [Den]
          exact .inr ⟨_, _, updE_same _ _ _, by simpa using h4, by simpa using h5, fun _ => by simp [ptr]⟩
        · cases hq; simp only; rw [h6]; simp
    | pt n ks' =>
      simp only [rowW] at hn hf ⊢
      simp only [rowSV]
      have hn' : newOk G (rowW d ks g (c + 1) (j + 1)) = true := by
        unfold newOk at hn
        split at hn
        · rename_i q; exact q
        · cases hn
      refine nest _ _ _ _ _ rfl rfl hn hf (row_den H M h3 hn' (diffB_cons hf).2) ?_ (by simp [SV.labs])
      simp only [DenD] at h2
      rcases h2 with ⟨h4, h5⟩ | ⟨b, off, ar, T, fz, h4, h5, h5', h6, h7, h8⟩
      · refine ⟨none, fun ρ1 _ => ⟨?_, .inl ⟨updE_same _ _ _, h4⟩⟩, fun q hq => by cases hq⟩
        simp only [Den]; exact .inl ⟨h4, h5⟩
      · refine ⟨some ⟨b, off, ks'.length, n⟩, fun ρ1 hz1 => ⟨?_, .inr (.inr ⟨_, ar, T, fz, updE_same _ _ _, H.zok _ _ h6, (fun h => by cases h), (fun _ => by show ρ1.z b = _; rw [hz1]; exact h6), rfl, by simp [h5], h7, fun r hr => by show DenR ρ1.z _ _ _ _ _; rw [hz1]; exact h8 r (by omega)⟩)⟩, fun q hq _ => ?_⟩
        · simp only [Den]
          exact .inr ⟨_, by omega, updE_same _ _ _, by simp [h4, ptr]⟩
        · cases hq; simp only; rw [h6]; simp
end
end Go.Sym
