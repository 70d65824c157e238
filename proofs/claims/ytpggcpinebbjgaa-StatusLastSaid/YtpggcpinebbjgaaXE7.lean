/- What becomes of a heap: a new block, a store, an append. -/
import Derived.Test.YtpggcpinebbjgaaXE6
namespace Go.Sym
set_option linter.unusedVariables false
set_option linter.unusedSimpArgs false

theorem BlkOk.mono {ρ ρ' : Env} {w w' : World} {l : Nat} {b : Blk} (h : BlkOk ρ w l b) (hl : ρ' l = ρ l) (hlabs : ∀ x ∈ b.labs, ρ' x = ρ x) (hz : ZLe ρ ρ')
    (hw : ∀ pl, ρ l = some pl → w'.heap[pl.b]? = w.heap[pl.b]?) : BlkOk ρ' w' l b := by
  cases b with
  | dead => trivial
  | one m cs =>
    obtain ⟨pl, arr, T, fz, e1, e2, e3, e3', e4, e5⟩ := h
    exact ⟨pl, arr, T, fz, hl.trans e1, (hw _ e1).trans e2, e3, fun hm => hz _ _ (e3' hm), e4, DenL.congr hz cs _ (fun x hx => (hlabs x (by simpa [Blk.labs] using hx)).symm) e5⟩
  | rows m ks n f =>
    rcases h with ⟨h1, h2⟩ | ⟨pl, h1, h2⟩ | ⟨pl, arr, T, fz, e1, e2, e3, e3', e4, e5, e6, e7⟩
    · exact .inl ⟨hl.trans h1, h2⟩
    · exact .inr (.inl ⟨pl, hl.trans h1, h2⟩)
    · exact .inr (.inr ⟨pl, arr, T, fz, hl.trans e1, (hw _ e1).trans e2, e3, fun hm => hz _ _ (e3' hm), e4, e5, e6, fun r hr => DenR.mono hz (e7 r hr)⟩)
  | map m kk ks a keys f =>
    obtain ⟨pl, es, clk, e1, e2, h1, h2, h3, h4⟩ := h
    exact ⟨pl, es, clk, hl.trans e1, (hw _ e1).trans e2, h1, h2, fun e he k hk => ⟨(h3 e he k hk).1, (h3 e he k hk).2.1, DenR.mono hz (h3 e he k hk).2.2⟩, h4⟩
theorem heap_lt {w : World} {b : Nat} {x : Obj} (hx : w.heap[b]? = some x) : b < w.heap.size := by
  rcases Nat.lt_or_ge b w.heap.size with h' | h'
  · exact h'
  · rw [Array.getElem?_eq_none h'] at hx; cases hx
theorem Blk.mut_real {b : Blk} (h : b.mut = true) : b.real := by
  cases b <;> simp only [Blk.mut, Blk.real, Bool.false_eq_true] at h ⊢
  exact .inl h
/-- A label's place lies in the heap. -/
theorem BlkOk.lt {ρ : Env} {w : World} {l : Nat} {b : Blk} {pl : Place} (h : BlkOk ρ w l b) (hb : b.real) (hp : ρ l = some pl) : pl.b < w.heap.size := by
  cases b with
  | dead => exact hb.elim
  | one m cs =>
    obtain ⟨pl', arr, T, fz, e1, e2, _⟩ := h
    rw [hp] at e1; cases e1
    exact heap_lt e2
  | rows m ks n f =>
    rcases h with ⟨h1, h2⟩ | ⟨pl', h1, h2, h3, _⟩ | ⟨pl', arr, T, fz, e1, e2, e3⟩
    · rw [hp] at h1; cases h1
    · simp only [Blk.real] at hb; rw [h3] at hb; rcases hb with hb | hb
      · cases hb
      · exact absurd h2 hb
    · rw [hp] at e1; cases e1
      exact heap_lt e2
  | map m kk ks a keys f =>
    obtain ⟨pl', es, clk, e1, e2, _⟩ := h
    rw [hp] at e1; cases e1
    exact heap_lt e2
/-- What holds no cell stays as it is. -/
theorem BlkOk.unreal {ρ ρ' : Env} {w w' : World} {l : Nat} {b : Blk} (h : BlkOk ρ w l b) (hb : ¬ b.real) (hl : ρ' l = ρ l) : BlkOk ρ' w' l b := by
  cases b with
  | dead => trivial
  | one m cs => exact absurd trivial hb
  | rows m ks n f =>
    simp only [Blk.real, not_or] at hb
    have hn : n = 0 := Classical.not_not.1 hb.2
    have hm : m.isOwn = false := by simpa using hb.1
    rcases h with ⟨h1, h2⟩ | ⟨pl, h1, h2⟩ | ⟨pl, arr, T, fz, e1, e2, e3, e3', e4, e5, e6, e7⟩
    · exact .inl ⟨hl.trans h1, h2⟩
    · exact .inr (.inl ⟨pl, hl.trans h1, h2⟩)
    · exact .inr (.inl ⟨pl, hl.trans e1, hn, hm, e4⟩)
  | map m kk ks a keys f => exact absurd trivial hb

/-- A label's place laid anew. -/
def updE (ρ : Env) (d : Nat) (p : Option Place) : Env := ⟨fun l => match Nat.beq d l with | true => p | false => ρ l, ρ.z⟩
theorem updE_same (ρ : Env) (d : Nat) (p : Option Place) : updE ρ d p d = p := by simp [updE]
theorem updE_other (ρ : Env) {d l : Nat} (p : Option Place) (h : d ≠ l) : updE ρ d p l = ρ l := by
  simp only [updE]
  cases hb : Nat.beq d l with
  | true => exact absurd (Nat.eq_of_beq_eq_true hb) h
  | false => rfl
theorem updE_z (ρ : Env) (d : Nat) (p : Option Place) : ZLe ρ (updE ρ d p) := fun _ _ h => h
theorem upds_one_same (G : Hp) (d : Nat) (b : Blk) : upds G [(d, b)] d = some b := by simp [upds]
theorem upds_one_other (G : Hp) {d l : Nat} (b : Blk) (h : d ≠ l) : upds G [(d, b)] l = G l := by
  unfold upds
  cases hb : Nat.beq d l with
  | true => exact absurd (Nat.eq_of_beq_eq_true hb) h
  | false => rfl
theorem beq_ne {a b : Nat} (h : a ≠ b) : Nat.beq a b = false := by
  cases hb : Nat.beq a b with
  | true => exact absurd (Nat.eq_of_beq_eq_true hb) h
  | false => rfl
theorem upds_two (G : Hp) (d l : Nat) (b c : Blk) : upds G [(d, b), (l, c)] = upds (upds G [(l, c)]) [(d, b)] := by
  funext x
  simp only [upds]

section
variable {ρi : Env} {P : Program} {E A : Nat → Prop} {w0 : World} {ρ : Env} {F : Fr} {G : Hp} {a : Act} {w : World} {o : Oper}

/-- A new label: at a place that is not among the others', or nowhere. -/
theorem HSat.add (H : HSat ρ G w) {d : Nat} (hd : G d = none) {b : Blk} (hb : ∀ l ∈ b.labs, G l ≠ none) {w' : World} {p : Option Place}
    (hsame : ∀ l b pl, G l = some b → b.real → ρ l = some pl → w'.heap[pl.b]? = w.heap[pl.b]?)
    (hzs : ∀ b o, ρ.z b = some o → w'.heap[b]? = some o)
    (happ : ∀ l b' pl q, G l = some b' → b'.real → ρ l = some pl → p = some q → b.mut = true ∨ (b'.mut = true ∧ b.real) → pl.b ≠ q.b)
    (hzap : ∀ q, p = some q → b.mut = true → ρ.z q.b = none)
    (hok : BlkOk (updE ρ d p) w' d b) : HSat (updE ρ d p) (upds G [(d, b)]) w' := by
  have hne : ∀ {l : Nat}, G l ≠ none → d ≠ l := fun h e => h (e ▸ hd)
  refine ⟨fun l c hc => ?_, ?_, ?_, ?_, hzs, ?_⟩
  · by_cases e : d = l
    · subst e
      rw [upds_one_same] at hc; cases hc
      exact hok
    · rw [upds_one_other _ _ e] at hc
      have hB := H.blk l c hc
      by_cases hlive : c.real
      · exact hB.mono (updE_other _ _ e) (fun x hx => updE_other _ _ (hne (H.scp l c hc x hx))) (updE_z _ _ _) (fun pl hpl => hsame l c pl hc hlive hpl)
      · exact hB.unreal hlive (updE_other _ _ e)
  · intro l1 l2 b1 b2 p1 p2 hn h1 h2 hm hv e1 e2
    by_cases d1 : d = l1
    · subst d1
      rw [upds_one_other _ _ hn] at h2
      rw [upds_one_same] at h1; cases h1
      rw [updE_same] at e1
      rw [updE_other _ _ hn] at e2
      exact (happ l2 b2 p2 p1 h2 hv e2 e1 (.inl hm)).symm
    · rw [upds_one_other _ _ d1] at h1
      rw [updE_other _ _ d1] at e1
      by_cases d2 : d = l2
      · subst d2
        rw [updE_same] at e2
        rw [upds_one_same] at h2; cases h2
        exact happ l1 b1 p1 p2 h1 (Blk.mut_real hm) e1 e2 (.inr ⟨hm, hv⟩)
      · rw [upds_one_other _ _ d2] at h2
        rw [updE_other _ _ d2] at e2
        exact H.inj l1 l2 b1 b2 p1 p2 hn h1 h2 hm hv e1 e2
  · intro l c hc x hx
    by_cases e : d = x
    · subst e; rw [upds_one_same]; simp
    · rw [upds_one_other _ _ e]
      by_cases e' : d = l
      · subst e'
        rw [upds_one_same] at hc; cases hc
        exact hb x hx
      · rw [upds_one_other _ _ e'] at hc
        exact H.scp l c hc x hx
  · intro l hl
    by_cases e : d = l
    · subst e; rw [upds_one_same] at hl; cases hl
    · rw [upds_one_other _ _ e] at hl
      rw [updE_other _ _ e]
      exact H.tight l hl
  · intro l c q hc hm hq
    by_cases e : d = l
    · subst e
      rw [upds_one_same] at hc; cases hc
      rw [updE_same] at hq
      exact hzap q hq hm
    · rw [upds_one_other _ _ e] at hc
      rw [updE_other _ _ e] at hq
      exact H.zap l c q hc hm hq

theorem Keep.push (K : Keep E w0 w) {w' : World} (obj : Obj) (h : w'.heap = w.heap.push obj) (ho : w'.os = w.os) (ht : w'.tape = w.tape) (hp : w'.output = w.output) : Keep E w0 w' := by
  refine ⟨ho.trans K.os, ht.trans K.tape, hp.trans K.output, by rw [h]; simp; have := K.size; omega, fun k hk hE => ?_⟩
  rw [h, Array.getElem?_push, if_neg (by have := K.size; omega)]
  exact K.block k hk hE
theorem Keep.set (K : Keep E w0 w) {b : Nat} (obj : Obj) (hb : E b ∨ w0.heap.size ≤ b) : Keep E w0 { w with heap := w.heap.setIfInBounds b obj } := by
  refine ⟨K.os, K.tape, K.output, by simpa using K.size, fun k hk hE => ?_⟩
  have hne : b ≠ k := fun e => by subst e; rcases hb with h | h; exact hE h; omega
  show (w.heap.setIfInBounds b obj)[k]? = _
  rw [Array.getElem?_setIfInBounds, if_neg hne]
  exact K.block k hk hE
theorem MutIn.add {n : Nat} (M : MutIn E A ρi n ρ G) {d : Nat} {b : Blk} {p : Option Place} (hp : ∀ q, p = some q → b.mut = true → E q.b ∨ n ≤ q.b) (ha : ∀ q, p = some q → b.real → A q.b ∨ n ≤ q.b) :
    MutIn E A ρi n (updE ρ d p) (upds G [(d, b)]) := by
  refine ⟨fun l c pl hc hm hpl => ?_, fun l c pl hc hm hpl => ?_, M.zx, M.zi, M.za⟩
  · by_cases e : d = l
    · subst e
      rw [upds_one_same] at hc; cases hc
      rw [updE_same] at hpl
      exact hp pl hpl hm
    · rw [upds_one_other _ _ e] at hc
      rw [updE_other _ _ e] at hpl
      exact M.m l c pl hc hm hpl
  · by_cases e : d = l
    · subst e
      rw [upds_one_same] at hc; cases hc
      rw [updE_same] at hpl
      exact ha pl hpl hm
    · rw [upds_one_other _ _ e] at hc
      rw [updE_other _ _ e] at hpl
      exact M.a l c pl hc hm hpl
theorem updE_keep {d : Nat} {p : Option Place} (hd : G d = none) : ∀ l, G l ≠ none → updE ρ d p l = ρ l :=
  fun l hl => updE_other _ _ (fun e => hl (e ▸ hd))
theorem HSat.zlt (H : HSat ρ G w) {b : Nat} {o : Obj} (h : ρ.z b = some o) : b < w.heap.size := heap_lt (H.zok b o h)

/-- A block of the call's own, laid at the heap's end. -/
theorem pushed (H : HSat ρ G w) (K : Keep E w0 w) (M : MutIn E A ρi w0.heap.size ρ G) {d : Nat} (hd : G d = none) {b : Blk} (hb : ∀ l ∈ b.labs, G l ≠ none) {w' : World} {obj : Obj}
    (hw : w'.heap = w.heap.push obj) (ho : w'.os = w.os) (ht : w'.tape = w.tape) (hp : w'.output = w.output) {pl : Place} (hpl : pl.b = w.heap.size)
    (hok : BlkOk (updE ρ d (some pl)) w' d b) :
    HSat (updE ρ d (some pl)) (upds G [(d, b)]) w' ∧ Keep E w0 w' ∧ MutIn E A ρi w0.heap.size (updE ρ d (some pl)) (upds G [(d, b)]) ∧ (∀ l, G l ≠ none → updE ρ d (some pl) l = ρ l) := by
  refine ⟨H.add hd hb (fun l c q hc hv hq => ?_) (fun b o hz => ?_) (fun l c q q' hc hv hq e _ => ?_) (fun q e _ => ?_) hok, K.push obj hw ho ht hp, M.add (fun q e _ => ?_) (fun q e _ => ?_), updE_keep hd⟩
  · have := (H.blk l c hc).lt hv hq
    rw [hw, Array.getElem?_push, if_neg (by omega)]
  · have := H.zlt hz
    rw [hw, Array.getElem?_push, if_neg (by omega)]
    exact H.zok b o hz
  · cases e
    have := (H.blk l c hc).lt hv hq
    omega
  · cases e
    cases hz : ρ.z pl.b with
    | none => rfl
    | some o => have := H.zlt hz; omega
  · cases e
    right
    rw [hpl]
    exact K.size
  · cases e
    right
    rw [hpl]
    exact K.size

theorem newAt_spec {d : Option Nat} {b : Blk} {v : Nat → SV} {rd : List Nat} {pre : Option Prop} {r : Res} (h : newAt G d b v rd pre = some r) :
    ∃ d', d = some d' ∧ G d' = none ∧ r = { v := v d', wr := [(d', b)], rd := d' :: rd, pre := pre } := by
  unfold newAt at h
  split at h
  · cases h
  · rename_i d'
    split at h
    · cases h
    · rename_i hG
      cases h
      exact ⟨d', rfl, hG, rfl⟩

theorem DenL_all {ρ ρ' : Env} {cs : List SV} {vs : List Value} (h : DenL ρ cs vs) (hz : ZLe ρ ρ') (hl : ∀ l ∈ labsL cs, ρ' l = ρ l) : DenL ρ' cs vs :=
  DenL.congr hz cs vs (fun l hh => (hl l hh).symm) h

/-- A variable of its own: 'alloc', 'box'. -/
theorem Left.box (S : St ρi E A w0 ρ F G a w) {d : Nat} (hd : G d = none) {cs : List SV} {vs : Array Value} {T : TypeId} (hcs : DenL ρ cs vs.toList) (hl : ∀ l ∈ labsL cs, G l ≠ none)
    (hr : (execOp a.eval o).run P w = .ok (.value (.pointer (some ⟨w.heap.size, 0, none⟩))) { w with heap := w.heap.push (.cells vs T) }) :
    Left P ρi E A w0 ρ G a w o (.p d 0 0) [(d, .one .own cs)] := by
  obtain ⟨h1, h2, h3, h4⟩ := pushed (w' := { w with heap := w.heap.push (.cells vs T) }) (pl := ⟨w.heap.size, 0, 1, 1⟩) (b := .one .own cs) S.heap S.keep S.mutin hd (by simpa [Blk.labs] using hl) rfl rfl rfl rfl rfl (by
    refine ⟨⟨w.heap.size, 0, 1, 1⟩, vs, T, (0, 0), updE_same _ _ _, by simp, fun _ => rfl, fun h => (by cases h), ?_, ?_⟩
    · have := hcs.length; simp at this ⊢; omega
    · have e := hcs.length
      have : ((vs.toList.drop 0).take cs.length) = vs.toList := by rw [List.drop_zero, ← e, List.take_length]
      rw [this]
      exact DenL_all hcs (updE_z _ _ _) fun l hh => updE_keep hd l (hl l hh))
  refine ⟨_, _, _, hr, .inl ⟨_, rfl, ?_⟩, h1, h2, h3, h4, updE_z _ _ _, ?_⟩
  · simp only [Den]
    exact ⟨_, updE_same _ _ _, by simp [ptr]⟩
  · intro l hh
    simp [SV.labs] at hh
    subst hh
    simp [upds_one_same]
/-- Rows of its own at the heap's end: behind a pointer. -/
theorem Left.boxRows (S : St ρi E A w0 ρ F G a w) {d : Nat} (hd : G d = none) {ks : List Kd} {n : Nat} {f : Nat → Nat → D} {vs : Array Value} {T : TypeId} (hn : 1 ≤ n) (hs : vs.size = n * ks.length) (hc : ∀ r, r < n → DenR ρ.z ks (f r) 0 vs (r * ks.length))
    (hr : (execOp a.eval o).run P w = .ok (.value (.pointer (some ⟨w.heap.size, 0, none⟩))) { w with heap := w.heap.push (.cells vs T) }) :
    Left P ρi E A w0 ρ G a w o (.p d 0 0) [(d, .rows .own ks n f)] := by
  obtain ⟨h1, h2, h3, h4⟩ := pushed (w' := { w with heap := w.heap.push (.cells vs T) }) (pl := ⟨w.heap.size, 0, ks.length, n⟩) (b := .rows .own ks n f) S.heap S.keep S.mutin hd (by simp [Blk.labs]) rfl rfl rfl rfl rfl (by
    refine .inr (.inr ⟨⟨w.heap.size, 0, ks.length, n⟩, vs, T, (0, 0), updE_same _ _ _, by simp, fun _ => rfl, fun h => (by cases h), rfl, Nat.le_refl _, by simp [hs], fun r hr => ?_⟩)
    simpa [updE] using hc r hr)
  refine ⟨_, _, _, hr, .inl ⟨_, rfl, ?_⟩, h1, h2, h3, h4, updE_z _ _ _, ?_⟩
  · simp only [Den]
    exact ⟨_, updE_same _ _ _, by simp [ptr]⟩
  · intro l hh
    simp [SV.labs] at hh
    subst hh
    simp [upds_one_same]

/-- A store into a block of a mutable label. -/
theorem stored (H : HSat ρ G w) (K : Keep E w0 w) (M : MutIn E A ρi w0.heap.size ρ G) {l : Nat} {b b' : Blk} {pl : Place} {obj : Obj} (hG : G l = some b) (hm : b.mut = true) (hm' : b'.mut = true)
    (hpl : ρ l = some pl) (hlabs : ∀ x ∈ b'.labs, G x ≠ none)
    (hok : BlkOk ρ { w with heap := w.heap.setIfInBounds pl.b obj } l b') :
    HSat ρ (upds G [(l, b')]) { w with heap := w.heap.setIfInBounds pl.b obj } ∧ Keep E w0 { w with heap := w.heap.setIfInBounds pl.b obj } ∧
      MutIn E A ρi w0.heap.size ρ (upds G [(l, b')]) := by
  have hzn := H.zap l b pl hG hm hpl
  refine ⟨⟨fun x c hc => ?_, ?_, ?_, ?_, ?_, ?_⟩, K.set _ (M.m l b pl hG hm hpl), ⟨?_, ?_, M.zx, M.zi, M.za⟩⟩
  · by_cases e : l = x
    · subst e; rw [upds_one_same] at hc; cases hc; exact hok
    · rw [upds_one_other _ _ e] at hc
      by_cases hv : c.real
      · refine (H.blk x c hc).mono rfl (fun _ _ => rfl) (ZLe.refl _) fun q hq => ?_
        show (w.heap.setIfInBounds pl.b _)[q.b]? = _
        rw [Array.getElem?_setIfInBounds, if_neg (H.inj l x b c pl q e hG hc hm hv hpl hq)]
      · exact (H.blk x c hc).unreal hv rfl
  · intro l1 l2 b1 b2 p1 p2 hn h1 h2 hm1 hv e1 e2
    by_cases d1 : l = l1
    · subst d1
      rw [upds_one_other _ _ hn] at h2
      exact H.inj l l2 b b2 p1 p2 hn hG h2 hm hv e1 e2
    · rw [upds_one_other _ _ d1] at h1
      by_cases d2 : l = l2
      · subst d2
        exact H.inj l1 l b1 b p1 p2 hn h1 hG hm1 (Blk.mut_real hm) e1 e2
      · rw [upds_one_other _ _ d2] at h2
        exact H.inj l1 l2 b1 b2 p1 p2 hn h1 h2 hm1 hv e1 e2
  · intro x c hc y hy
    by_cases e : l = y
    · subst e; rw [upds_one_same]; simp
    · rw [upds_one_other _ _ e]
      by_cases e' : l = x
      · subst e'; rw [upds_one_same] at hc; cases hc; exact hlabs y hy
      · rw [upds_one_other _ _ e'] at hc; exact H.scp x c hc y hy
  · intro x hx
    by_cases e : l = x
    · subst e; rw [upds_one_same] at hx; cases hx
    · rw [upds_one_other _ _ e] at hx; exact H.tight x hx
  · intro b2 o2 hz
    show (w.heap.setIfInBounds pl.b _)[b2]? = _
    rw [Array.getElem?_setIfInBounds, if_neg (fun e => by rw [← e, hzn] at hz; cases hz)]
    exact H.zok b2 o2 hz
  · intro x c q hc hmx hq
    by_cases e : l = x
    · subst e; rw [hpl] at hq; cases hq; exact hzn
    · rw [upds_one_other _ _ e] at hc; exact H.zap x c q hc hmx hq
  · intro x c q hc hmx hq
    by_cases e : l = x
    · subst e; exact M.m l b q hG hm hq
    · rw [upds_one_other _ _ e] at hc; exact M.m x c q hc hmx hq
  · intro x c q hc hmx hq
    by_cases e : l = x
    · subst e; exact M.a l b q hG (Blk.mut_real hm) hq
    · rw [upds_one_other _ _ e] at hc; exact M.a x c q hc hmx hq

/-- Freezing: what is our own and holds rows is never written again. -/
theorem frozen (H : HSat ρ G w) (M : MutIn E A ρi w0.heap.size ρ G) {l : Nat} {ks : List Kd} {n : Nat} {f : Nat → Nat → D} (hG : G l = some (.rows .own ks n f)) :
    ∃ ρ', HSat ρ' (upds G [(l, .rows .fz ks n f)]) w ∧ MutIn E A ρi w0.heap.size ρ' (upds G [(l, .rows .fz ks n f)]) ∧ (∀ x, ρ' x = ρ x) ∧ ZLe ρ ρ' := by
  rcases H.blk l _ hG with ⟨h1, h2⟩ | ⟨pl, h1, h2, h3, _⟩ | ⟨pl, arr, T, fz, e1, e2, e3, e3', e4, e5, e6, e7⟩
  · -- nowhere
    refine ⟨ρ, ⟨fun x c hc => ?_, ?_, ?_, ?_, H.zok, ?_⟩, ⟨?_, ?_, M.zx, M.zi, M.za⟩, fun _ => rfl, ZLe.refl _⟩
    · by_cases e : l = x
      · subst e; rw [upds_one_same] at hc; cases hc; exact .inl ⟨h1, h2⟩
      · rw [upds_one_other _ _ e] at hc; exact H.blk x c hc
    · intro l1 l2 b1 b2 p1 p2 hn g1 g2 hm hv q1 q2
      by_cases d1 : l = l1
      · subst d1; rw [h1] at q1; cases q1
      · rw [upds_one_other _ _ d1] at g1
        by_cases d2 : l = l2
        · subst d2; rw [h1] at q2; cases q2
        · rw [upds_one_other _ _ d2] at g2
          exact H.inj l1 l2 b1 b2 p1 p2 hn g1 g2 hm hv q1 q2
    · intro x c hc y hy
      by_cases e : l = y
      · subst e; rw [upds_one_same]; simp
      · rw [upds_one_other _ _ e]
        by_cases e' : l = x
        · subst e'; rw [upds_one_same] at hc; cases hc; simp [Blk.labs] at hy
        · rw [upds_one_other _ _ e'] at hc; exact H.scp x c hc y hy
    · intro x hx
      by_cases e : l = x
      · subst e; rw [upds_one_same] at hx; cases hx
      · rw [upds_one_other _ _ e] at hx; exact H.tight x hx
    · intro x c q hc hmx hq
      by_cases e : l = x
      · subst e; rw [h1] at hq; cases hq
      · rw [upds_one_other _ _ e] at hc; exact H.zap x c q hc hmx hq
    · intro x c q hc hmx hq
      by_cases e : l = x
      · subst e; rw [h1] at hq; cases hq
      · rw [upds_one_other _ _ e] at hc; exact M.m x c q hc hmx hq
    · intro x c q hc hmx hq
      by_cases e : l = x
      · subst e; rw [h1] at hq; cases hq
      · rw [upds_one_other _ _ e] at hc; exact M.a x c q hc hmx hq
  · cases h3
  · let ρ' : Env := ⟨ρ.at_, fun b => if b = pl.b then some (.cells arr T fz) else ρ.z b⟩
    have hzn := H.zap l _ pl hG rfl e1
    have hz : ZLe ρ ρ' := by
      intro b o h
      show (if b = pl.b then _ else ρ.z b) = some o
      rw [if_neg (fun e => by rw [e, hzn] at h; cases h)]
      exact h
    have hz2 : ∀ b, b ≠ pl.b → ρ'.z b = ρ.z b := fun b hb => if_neg hb
    refine ⟨ρ', ⟨fun x c hc => ?_, ?_, ?_, ?_, ?_, ?_⟩, ⟨?_, ?_, fun b o h => hz _ _ (M.zx b o h), ?_, M.za⟩, fun _ => rfl, hz⟩
    · by_cases e : l = x
      · subst e; rw [upds_one_same] at hc; cases hc
        exact .inr (.inr ⟨pl, arr, T, fz, e1, e2, fun h => (by cases h), fun _ => if_pos rfl, e4, e5, e6, fun r hr => DenR.mono hz (e7 r hr)⟩)
      · rw [upds_one_other _ _ e] at hc; exact (H.blk x c hc).mono rfl (fun _ _ => rfl) hz (fun _ _ => rfl)
    · intro l1 l2 b1 b2 p1 p2 hn g1 g2 hm hv q1 q2
      by_cases d1 : l = l1
      · subst d1; rw [upds_one_same] at g1; cases g1; cases hm
      · rw [upds_one_other _ _ d1] at g1
        by_cases d2 : l = l2
        · subst d2
          exact H.inj l1 l b1 _ p1 p2 hn g1 hG hm (.inl rfl) q1 q2
        · rw [upds_one_other _ _ d2] at g2
          exact H.inj l1 l2 b1 b2 p1 p2 hn g1 g2 hm hv q1 q2
    · intro x c hc y hy
      by_cases e : l = y
      · subst e; rw [upds_one_same]; simp
      · rw [upds_one_other _ _ e]
        by_cases e' : l = x
        · subst e'; rw [upds_one_same] at hc; cases hc; simp [Blk.labs] at hy
        · rw [upds_one_other _ _ e'] at hc; exact H.scp x c hc y hy
    · intro x hx
      by_cases e : l = x
      · subst e; rw [upds_one_same] at hx; cases hx
      · rw [upds_one_other _ _ e] at hx; exact H.tight x hx
    · intro b o h
      by_cases e : b = pl.b
      · subst e
        have h' : (if pl.b = pl.b then some (Obj.cells arr T fz) else ρ.z pl.b) = some o := h
        rw [if_pos rfl] at h'; cases h'
        exact e2
      · rw [hz2 b e] at h
        exact H.zok b o h
    · intro x c q hc hmx hq
      by_cases e : l = x
      · subst e; rw [upds_one_same] at hc; cases hc; cases hmx
      · rw [upds_one_other _ _ e] at hc
        have hne := H.inj x l c _ q pl (Ne.symm e) hc hG hmx (.inl rfl) hq e1
        rw [hz2 _ hne]
        exact H.zap x c q hc hmx hq
    · intro x c q hc hmx hq
      by_cases e : l = x
      · subst e; rw [upds_one_same] at hc; cases hc; cases hmx
      · rw [upds_one_other _ _ e] at hc; exact M.m x c q hc hmx hq
    · intro x c q hc hmx hq
      by_cases e : l = x
      · subst e; exact M.a l _ q hG (.inl rfl) hq
      · rw [upds_one_other _ _ e] at hc; exact M.a x c q hc hmx hq
    · intro b hb
      by_cases e : b = pl.b
      · subst e; exact .inr (M.m l _ pl hG rfl e1)
      · rw [hz2 b e] at hb; exact M.zi b hb

theorem putD_get (g : Nat → D) : ∀ (ds : List D) (c j : Nat), putD g c ds j = if h : c ≤ j ∧ j < c + ds.length then ds[j - c]'(by omega) else g j
  | [], c, j => by
    unfold putD
    rw [dif_neg (by simp)]
  | d :: ds, c, j => by
    unfold putD
    cases hb : Nat.beq j c with
    | true =>
      have := Nat.eq_of_beq_eq_true hb
      subst this
      rw [dif_pos (by simp)]
      simp
    | false =>
      have hne : j ≠ c := fun e => by subst e; simp at hb
      simp only
      rw [putD_get g ds (c + 1) j]
      by_cases h : c + 1 ≤ j ∧ j < c + 1 + ds.length
      · rw [dif_pos h, dif_pos (by simp; omega)]
        have : j - c = (j - (c + 1)) + 1 := by omega
        simp [this]
      · rw [dif_neg h, dif_neg (by simp; omega)]

theorem spliceV_get (xs : List Value) (n : Nat) (ys : List Value) (hn : n + ys.length ≤ xs.length) (i : Nat) :
    (spliceV xs n ys)[i]? = if h : n ≤ i ∧ i < n + ys.length then some (ys[i - n]'(by omega)) else xs[i]? := by
  unfold spliceV
  by_cases h1 : i < n
  · rw [dif_neg (by omega), List.append_assoc, List.getElem?_append_left (by simp; omega), List.getElem?_take, if_pos h1]
  · by_cases h2 : i < n + ys.length
    · rw [dif_pos ⟨by omega, h2⟩, List.append_assoc, List.getElem?_append_right (by simp; omega), List.getElem?_append_left (by simp; omega)]
      simp only [List.length_take, Nat.min_eq_left (show n ≤ xs.length by omega)]
      exact List.getElem?_eq_getElem _
    · rw [dif_neg (by omega), List.getElem?_append_right (by simp; omega)]
      simp only [List.length_append, List.length_take, Nat.min_eq_left (show n ≤ xs.length by omega), List.getElem?_drop]
      congr 1
      omega
end
end Go.Sym
