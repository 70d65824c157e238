/- A region that draws its order: whatever order is drawn, it comes to the same. -/
import Derived.Test.YtpggcpinebbjgaaXE20
namespace Go.Sym
set_option linter.unusedVariables false
set_option linter.unusedSimpArgs false

/-- Bits of 'befs'. -/
theorem foldl_bits (B : Nat → Nat) (ok : Edge → Bool) : ∀ (es : List Edge) (s : Nat) (k : Nat), (es.foldl (fun s e => if ok e then s ||| (1 <<< e.on) ||| B e.on else s) s).testBit k = true →
    s.testBit k = true ∨ ∃ e ∈ es, ok e = true ∧ (k = e.on ∨ (B e.on).testBit k = true)
  | [], s, k, h => .inl h
  | e :: es, s, k, h => by
    rw [List.foldl_cons] at h
    rcases foldl_bits B ok es _ k h with h1 | ⟨e', h1, h2⟩
    · split at h1
      · rename_i hok
        rw [Nat.testBit_or, Nat.testBit_or, Bool.or_eq_true, Bool.or_eq_true] at h1
        rcases h1 with (h1 | h1) | h1
        · exact .inl h1
        · refine .inr ⟨e, by simp, hok, .inl ?_⟩
          rw [Nat.one_shiftLeft, Nat.testBit_two_pow] at h1
          exact (of_decide_eq_true h1).symm
        · exact .inr ⟨e, by simp, hok, .inr h1⟩
      · exact .inl h1
    · exact .inr ⟨e', by simp [h1], h2⟩

theorem befs_spec (ops : List Oper) : ∀ (acc : List Nat) (done : List Oper), acc.length = done.length →
    (∀ i o, done[i]? = some o → ∀ k, (acc.getD i 0).testBit k = true → ∃ e ∈ o.after.toList, Region.binds .any e = true ∧ (k = e.on ∨ (e.on < i ∧ (acc.getD e.on 0).testBit k = true))) →
    (befs ops acc).length = acc.length + ops.length ∧
    ∀ i o, (done ++ ops)[i]? = some o → ∀ k, ((befs ops acc).getD i 0).testBit k = true → ∃ e ∈ o.after.toList, Region.binds .any e = true ∧ (k = e.on ∨ (e.on < i ∧ ((befs ops acc).getD e.on 0).testBit k = true)) := by
  induction ops with
  | nil => intro acc done hl h; simpa [befs] using h
  | cons o ops ih =>
    intro acc done hl h
    have hstep : befs (o :: ops) acc = befs ops (acc ++ [o.after.toList.foldl (fun s e => if Region.binds .any e then s ||| (1 <<< e.on) ||| (acc.getD e.on 0) else s) 0]) := by
      simp [befs]
    rw [hstep]
    have := ih (acc ++ [o.after.toList.foldl (fun s e => if Region.binds .any e then s ||| (1 <<< e.on) ||| (acc.getD e.on 0) else s) 0]) (done ++ [o]) (by simp [hl]) ?_
    · rw [List.append_assoc] at this
      refine ⟨by rw [this.1]; simp; omega, this.2⟩
    · intro i o' hi k hk
      rcases Nat.lt_trichotomy i done.length with h1 | h1 | h1
      · rw [List.getElem?_append_left h1] at hi
        have hg : ∀ j, j < done.length → (acc ++ [o.after.toList.foldl (fun s e => if Region.binds .any e then s ||| (1 <<< e.on) ||| (acc.getD e.on 0) else s) 0]).getD j 0 = acc.getD j 0 := by
          intro j hj
          simp [List.getD_eq_getElem?_getD, List.getElem?_append_left (show j < acc.length by omega)]
        rw [hg i h1] at hk
        obtain ⟨e, he1, he2, he3⟩ := h i o' hi k hk
        refine ⟨e, he1, he2, he3.imp id fun ⟨q1, q2⟩ => ⟨q1, ?_⟩⟩
        rw [hg e.on (by omega)]
        exact q2
      · subst h1
        rw [List.getElem?_append_right (Nat.le_refl _)] at hi
        simp at hi
        subst hi
        have hg : (acc ++ [o.after.toList.foldl (fun s e => if Region.binds .any e then s ||| (1 <<< e.on) ||| (acc.getD e.on 0) else s) 0]).getD done.length 0 =
            o.after.toList.foldl (fun s e => if Region.binds .any e then s ||| (1 <<< e.on) ||| (acc.getD e.on 0) else s) 0 := by
          simp [List.getD_eq_getElem?_getD, ← hl]
        rw [hg] at hk
        rcases foldl_bits (fun j => acc.getD j 0) (Region.binds .any) _ 0 k hk with h2 | ⟨e, h2, h3, h4⟩
        · simp at h2
        · refine ⟨e, h2, h3, ?_⟩
          rcases h4 with h4 | h4
          · exact .inl h4
          · right
            have : e.on < acc.length := by
              rcases Nat.lt_or_ge e.on acc.length with h' | h'
              · exact h'
              · simp [List.getD_eq_getElem?_getD, List.getElem?_eq_none h'] at h4
            refine ⟨by omega, ?_⟩
            simpa [List.getD_eq_getElem?_getD, List.getElem?_append_left this] using h4
      · rw [List.getElem?_append_right (by omega)] at hi
        have : i - done.length ≠ 0 := by omega
        cases hq : i - done.length with
        | zero => omega
        | succ n => rw [hq] at hi; simp at hi

theorem edgesBack_spec : ∀ {ops : List Oper} {n : Nat}, edgesBack ops n = true → ∀ i o, ops[i]? = some o → ∀ e ∈ o.after.toList, Region.binds .any e = true → e.on < n + i
  | [], n, _, i, o, hi, _, _, _ => by simp at hi
  | q :: r, n, h, i, o, hi, e, he, hb => by
    unfold edgesBack at h
    simp only [Bool.and_eq_true] at h
    cases i with
    | zero =>
      simp at hi
      subst hi
      have := List.all_eq_true.1 h.1 e he
      rw [hb] at this
      simp only [Bool.not_true, Bool.false_or] at this
      have h3 := Nat.le_of_ble_eq_true (show Nat.ble (e.on + 1) n = true from this)
      omega
    | succ i =>
      have := edgesBack_spec h.2 i o (by simpa using hi) e he hb
      omega

theorem topo1_spec {md : Region.Mode} {ops : List Oper} : ∀ {l seen : List Nat}, topo1 md ops l seen = true → ∀ (A : List Nat) (i : Nat) (B : List Nat), l = A ++ i :: B →
    ∃ o, ops[i]? = some o ∧ ∀ e ∈ o.after.toList, Region.binds md e = true → e.on ∈ A ∨ e.on ∈ seen
  | l, seen, h, [], i, B, hl => by
    subst hl
    simp only [List.nil_append, topo1, Bool.and_eq_true] at h
    have h1 := h.1
    split at h1
    · rename_i o ho
      rw [nthO_eq] at ho
      refine ⟨o, ho, fun e he hb => .inr ?_⟩
      have := List.all_eq_true.1 h1 e he
      rw [hb] at this
      simpa [memN_iff] using this
    · cases h1
  | l, seen, h, a :: A, i, B, hl => by
    subst hl
    simp only [List.cons_append, topo1, Bool.and_eq_true] at h
    obtain ⟨o, ho, h2⟩ := topo1_spec h.2 A i B rfl
    refine ⟨o, ho, fun e he hb => ?_⟩
    rcases h2 e he hb with h3 | h3
    · exact .inl (List.mem_cons_of_mem _ h3)
    · rcases List.mem_cons.1 h3 with h3 | h3
      · exact .inl (by simp [h3])
      · exact .inr h3

theorem binds_any {md : Region.Mode} {e : Edge} (h : Region.binds .any e = true) : Region.binds md e = true := by
  unfold Region.binds at h ⊢
  split at h <;> first | (cases md <;> simp_all) | rfl | trivial

/-- The operations with their numbers. -/
def tag : List (Oper × FP) → Nat → List (Nat × Oper × FP)
  | [], _ => []
  | (o, f) :: r, n => (n, o, f) :: tag r (n + 1)

section
variable {ρi : Env} {P : Program} {E A : Nat → Prop} {w0 : World} {c : Cfg} {Q : Exit → Act → World → Prop}

theorem tag_get : ∀ {l : List (Oper × FP)} {n i : Nat} {o : Oper} {f : FP}, (i, o, f) ∈ tag l n ↔ ∃ k, i = n + k ∧ l[k]? = some (o, f)
  | [], n, i, o, f => by simp [tag]
  | (p, g) :: r, n, i, o, f => by
    simp only [tag, List.mem_cons, Prod.mk.injEq, tag_get (l := r)]
    constructor
    · rintro (⟨rfl, rfl, rfl⟩ | ⟨k, rfl, hk⟩)
      · exact ⟨0, by simp, by simp⟩
      · exact ⟨k + 1, by omega, by simpa using hk⟩
    · rintro ⟨k, rfl, hk⟩
      cases k with
      | zero => left; simp at hk; simp [hk]
      | succ k => right; exact ⟨k, by omega, by simpa using hk⟩
theorem tag_lt : ∀ {l : List (Oper × FP)} {n : Nat}, (tag l n).Pairwise (fun a b => a.1 < b.1)
  | [], n => by simp [tag]
  | (p, g) :: r, n => by
    simp only [tag, List.pairwise_cons]
    refine ⟨fun q hq => ?_, tag_lt⟩
    obtain ⟨i, o, f⟩ := q
    obtain ⟨k, rfl, _⟩ := tag_get.1 hq
    show n < n + 1 + k
    omega
theorem tag_map : ∀ (l : List (Oper × FP)) (n : Nat), (tag l n).map (fun x => (x.2.1, x.2.2)) = l
  | [], n => rfl
  | (p, g) :: r, n => by simp [tag, tag_map r]

theorem apart1_spec {all : List Oper} {o : Oper} {fp : FP} {bj : Nat} : ∀ {l : List (Nat × Oper × FP)}, apart1 all o fp bj l = true → ∀ p ∈ l, bj.testBit p.1 = true ∨ (slotsApart all p.2.1 o = true ∧ fpApart p.2.2 fp = true)
  | [], _, p, hp => by simp at hp
  | (i, q, fq) :: r, h, p, hp => by
    simp only [apart1, Bool.and_eq_true, Bool.or_eq_true] at h
    rcases List.mem_cons.1 hp with rfl | hp
    · exact h.1
    · exact apart1_spec h.2 p hp
theorem apartAll_spec {all : List Oper} : ∀ {l : List (Nat × Oper × FP × Nat)} {seen : List (Nat × Oper × FP)}, apartAll all l seen = true → ∀ (A : List (Nat × Oper × FP × Nat)) (q : Nat × Oper × FP × Nat) (B : List (Nat × Oper × FP × Nat)), l = A ++ q :: B →
    ∀ p, (p ∈ seen ∨ ∃ b, (p.1, p.2.1, p.2.2, b) ∈ A) → q.2.2.2.testBit p.1 = true ∨ (slotsApart all p.2.1 q.2.1 = true ∧ fpApart p.2.2 q.2.2.1 = true)
  | l, seen, h, [], q, B, hl, p, hp => by
    subst hl
    obtain ⟨i, o, f, b⟩ := q
    simp only [List.nil_append, apartAll, Bool.and_eq_true] at h
    exact apart1_spec h.1 p (hp.resolve_right (by simp))
  | l, seen, h, (i, o, f, b) :: A, q, B, hl, p, hp => by
    subst hl
    simp only [List.cons_append, apartAll, Bool.and_eq_true] at h
    refine apartAll_spec h.2 A q B rfl p ?_
    rcases hp with hp | ⟨b', hp⟩
    · exact .inl (List.mem_append.2 (.inl hp))
    · rcases List.mem_cons.1 hp with hp | hp
      · left
        rw [List.mem_append]
        right
        obtain ⟨p1, p2, p3⟩ := p
        simp only [Prod.mk.injEq] at hp
        simp [hp.1, hp.2.1, hp.2.2.1]
      · exact .inr ⟨b', hp⟩
theorem mk4_get : ∀ {os : List Oper} {fs : List FP} {bs : List Nat} {n : Nat}, os.length = fs.length → os.length = bs.length → ∀ k, (mk4 os fs bs n)[k]? = (match (os[k]? : Option Oper), (fs[k]? : Option FP), (bs[k]? : Option Nat) with | some o, some f, some b => some (n + k, o, f, b) | _, _, _ => none)
  | [], fs, bs, n, h1, h2, k => by simp [mk4]
  | o :: os, [], bs, n, h1, h2, k => by simp at h1
  | o :: os, f :: fs, [], n, h1, h2, k => by simp at h2
  | o :: os, f :: fs, b :: bs, n, h1, h2, k => by
    cases k with
    | zero => simp [mk4]
    | succ k =>
      simp only [mk4, List.getElem?_cons_succ]
      rw [mk4_get (by simpa using h1) (by simpa using h2) k]
      cases os[k]? <;> cases fs[k]? <;> cases bs[k]? <;> simp
      omega

/-- What 'indep' says of two operations. -/
theorem indep_pair {all : List Oper} {fps : List FP} (h : indep all fps = true) {i j : Nat} {oi oj : Oper} {fi fj : FP} (hij : i < j) (hi : all[i]? = some oi) (hj : all[j]? = some oj) (gi : fps[i]? = some fi) (gj : fps[j]? = some fj) :
    ((befs all []).getD j 0).testBit i = true ∨ (slotsApart all oi oj = true ∧ fpApart fi fj = true) := by
  unfold indep at h
  simp only [Bool.and_eq_true] at h
  obtain ⟨⟨⟨⟨⟨h1, h2⟩, h3⟩, h4⟩, h5⟩, h6⟩ := h
  have hlen := Nat.eq_of_beq_eq_true h1
  have hb := (befs_spec all [] [] rfl (by simp)).1
  simp at hb
  have hg := mk4_get (n := 0) hlen hb.symm
  have hjb : (befs all [])[j]? = some ((befs all []).getD j 0) := by
    have : j < (befs all []).length := by
      rw [hb]
      rcases Nat.lt_or_ge j all.length with h' | h'
      · exact h'
      · rw [List.getElem?_eq_none h'] at hj; cases hj
    rw [List.getD_eq_getElem?_getD, List.getElem?_eq_getElem this]; rfl
  have hib : ∃ b, (befs all [])[i]? = some b := by
    have : i < (befs all []).length := by
      rw [hb]
      rcases Nat.lt_or_ge i all.length with h' | h'
      · exact h'
      · rw [List.getElem?_eq_none h'] at hi; cases hi
    exact ⟨_, List.getElem?_eq_getElem this⟩
  obtain ⟨b, hib⟩ := hib
  have ej : (mk4 all fps (befs all []) 0)[j]? = some (j, oj, fj, (befs all []).getD j 0) := by rw [hg, hj, gj, hjb]; simp
  have ei : (mk4 all fps (befs all []) 0)[i]? = some (i, oi, fi, b) := by rw [hg, hi, gi, hib]; simp
  have hsplit : mk4 all fps (befs all []) 0 = (mk4 all fps (befs all []) 0).take j ++ (j, oj, fj, (befs all []).getD j 0) :: (mk4 all fps (befs all []) 0).drop (j + 1) := by
    have hlt : j < (mk4 all fps (befs all []) 0).length := by
      rcases Nat.lt_or_ge j (mk4 all fps (befs all []) 0).length with h' | h'
      · exact h'
      · rw [List.getElem?_eq_none h'] at ej; cases ej
    rw [List.getElem?_eq_getElem hlt] at ej
    simp only [Option.some.injEq] at ej
    rw [← ej, ← List.drop_eq_getElem_cons hlt, List.take_append_drop]
  refine apartAll_spec h6 _ _ _ hsplit (i, oi, fi) (.inr ⟨b, ?_⟩)
  refine List.mem_of_getElem? (i := i) ?_
  rw [List.getElem?_take, if_pos hij]
  exact ei

/-- The whole of it: from any point on, in any order. -/
theorem drawn_any (hT : TOk P c.T) (hC : ConOk P c) {ops : Array Oper} {fps : List FP} (hind : indep ops.toList fps = true) {md : Region.Mode} (htopo : topoOk md ops.toList = true) {N : Nat} (hN1 : N ≤ 100000)
    (hdst : ∀ o ∈ ops.toList, ∀ d, o.dst = some d → d < N) {F' : Fr} {G' : Hp} {D : List Deferred}
    (hQ : ∀ a' w' ρ', a'.tmps.size = N → a'.defers = D → St ρi E A w0 ρ' F' G' a' w' → Q .normal a' w') :
    ∀ (fuel : Nat) (listed : Array Bool) (R : List (Nat × Oper × FP)) (F : Fr) (G : Hp) (ρ : Env) (a : Act) (w : World), R.length = fuel → listed.size = ops.size →
      (∀ i o f, (i, o, f) ∈ R ↔ (ops[i]? = some o ∧ fps[i]? = some f ∧ listed[i]? = some false)) → R.Pairwise (fun a b => a.1 < b.1) →
      (∀ i k, listed[i]? = some true → ((befs ops.toList []).getD i 0).testBit k = true → listed[k]? = some true) →
      a.tmps.size = N → a.defers = D → Chain c ops.toList (R.map fun x => (x.2.1, x.2.2)) F G F' G' → St ρi E A w0 ρ F G a w → wpAny P md ops Q fuel listed a w := by
  have hind' := hind
  unfold indep at hind'
  simp only [Bool.and_eq_true] at hind'
  obtain ⟨⟨⟨⟨⟨hl1, hback⟩, _⟩, _⟩, _⟩, _⟩ := hind'
  have hlen := Nat.eq_of_beq_eq_true hl1
  have hbefs := befs_spec ops.toList [] [] rfl (by simp)
  have hmem : ∀ {listed : Array Bool} {i : Nat}, i ∈ Region.ready md ops listed → ∃ o, ops[i]? = some o ∧ listed.getD i true = false ∧ ∀ e ∈ o.after.toList, Region.binds md e = true → listed.getD e.on false = true := by
    intro listed i hi
    unfold Region.ready at hi
    rw [List.mem_filter] at hi
    simp only [Bool.and_eq_true, Bool.not_eq_true'] at hi
    obtain ⟨_, h1, h2⟩ := hi
    cases ho : ops[i]? with
    | none => rw [ho] at h2; cases h2
    | some o =>
      rw [ho] at h2
      refine ⟨o, rfl, h1, fun e he hb => ?_⟩
      simp only [Option.map_some, Option.getD_some] at h2
      rw [← Array.all_toList] at h2
      have := List.all_eq_true.1 h2 e he
      rw [hb] at this
      simpa using this
  intro fuel
  induction fuel with
  | zero =>
    intro listed R F G ρ a w hR hsz hRm hRp hdown hN hD hch S
    have : R = [] := List.length_eq_zero_iff.1 hR
    subst this
    cases hch
    refine ⟨?_, hQ a w ρ hN hD S⟩
    rw [List.eq_nil_iff_forall_not_mem]
    intro i hi
    obtain ⟨o, ho, h1, _⟩ := hmem hi
    have hil : i < ops.size := by
      rcases Nat.lt_or_ge i ops.size with h' | h'
      · exact h'
      · rw [Array.getElem?_eq_none h'] at ho; cases ho
    have hf : ∃ f, fps[i]? = some f := ⟨_, List.getElem?_eq_getElem (by rw [← hlen]; simpa using hil)⟩
    obtain ⟨f, hf⟩ := hf
    have hli : listed[i]? = some false := by
      rw [Array.getElem?_eq_getElem (by omega)]
      rw [Array.getD_eq_getD_getElem?, Array.getElem?_eq_getElem (by omega)] at h1
      simpa using h1
    have := (hRm i o f).2 ⟨ho, hf, hli⟩
    simp at this
  | succ fuel ih =>
    intro listed R F G ρ a w hR hsz hRm hRp hdown hN hD hch S
    refine ⟨fun hnil => ?_, fun i hi => ?_⟩
    · -- something is always ready
      exfalso
      unfold topoOk at htopo
      simp only [Bool.and_eq_true] at htopo
      obtain ⟨ht1, ht2⟩ := htopo
      generalize Region.linearise md ops.toList.toArray 0 = L at ht1 ht2
      have hne : ∃ x, x ∈ R := by
        cases R with
        | nil => simp at hR
        | cons x r => exact ⟨x, by simp⟩
      obtain ⟨⟨i0, o0, f0⟩, hx⟩ := hne
      obtain ⟨ho0, _, hl0⟩ := (hRm i0 o0 f0).1 hx
      have hi0 : i0 < ops.size := by
        rcases Nat.lt_or_ge i0 ops.size with h' | h'
        · exact h'
        · rw [Array.getElem?_eq_none h'] at ho0; cases ho0
      have hi0L : i0 ∈ L := (memN_iff L i0).1 (List.all_eq_true.1 ht2 i0 (by simpa using hi0))
      -- the first of L that is not listed
      have first : ∀ (l : List Nat), (∃ i ∈ l, listed[i]? = some false) → ∃ A i B, l = A ++ i :: B ∧ listed[i]? = some false ∧ ∀ k ∈ A, listed[k]? ≠ some false := by
        intro l
        induction l with
        | nil => rintro ⟨i, hi, _⟩; simp at hi
        | cons x l ihl =>
          rintro ⟨i, hi, h⟩
          by_cases hx : listed[x]? = some false
          · exact ⟨[], x, l, rfl, hx, by simp⟩
          · rcases List.mem_cons.1 hi with rfl | hi
            · exact absurd h hx
            · obtain ⟨A, j, B, e1, e2, e3⟩ := ihl ⟨i, hi, h⟩
              exact ⟨x :: A, j, B, by rw [e1]; rfl, e2, fun k hk => by rcases List.mem_cons.1 hk with rfl | hk; exact hx; exact e3 k hk⟩
      obtain ⟨A, i, B, e1, e2, e3⟩ := first L ⟨i0, hi0L, hl0⟩
      obtain ⟨o, ho, hdeps⟩ := topo1_spec ht1 A i B e1
      have hio : i < ops.size := by
        rcases Nat.lt_or_ge i ops.size with h' | h'
        · exact h'
        · rw [List.getElem?_eq_none (by simpa using h')] at ho; cases ho
      have : i ∈ Region.ready md ops listed := by
        unfold Region.ready
        rw [List.mem_filter]
        refine ⟨by simpa using hio, ?_⟩
        have ho' : ops[i]? = some o := by simpa using ho
        simp only [ho', Option.map_some, Option.getD_some, Bool.and_eq_true, Bool.not_eq_true']
        refine ⟨by rw [Array.getD_eq_getD_getElem?, e2]; rfl, ?_⟩
        rw [← Array.all_toList, List.all_eq_true]
        intro e he
        cases hb : Region.binds md e with
        | false => simp
        | true =>
          simp only [Bool.not_true, Bool.false_or]
          have hA := (hdeps e he hb).resolve_right (by simp)
          have h4 := e3 e.on hA
          have hin : e.on < ops.size := by
            -- it stands in L ahead of i: it is an operation
            obtain ⟨A1, B1, hA1⟩ := List.append_of_mem hA
            obtain ⟨o2, ho2, _⟩ := topo1_spec ht1 A1 e.on (B1 ++ i :: B) (by rw [e1, hA1]; simp)
            rcases Nat.lt_or_ge e.on ops.size with h' | h'
            · exact h'
            · rw [List.getElem?_eq_none (by simpa using h')] at ho2; cases ho2
          rw [Array.getD_eq_getD_getElem?]
          rw [Array.getElem?_eq_getElem (by omega)] at h4 ⊢
          cases hq : listed[e.on]'(by omega) with
          | true => rfl
          | false => rw [hq] at h4; exact absurd rfl h4
      rw [hnil] at this
      simp at this
    · obtain ⟨o, ho, h1, hdeps⟩ := hmem hi
      have hil : i < ops.size := by
        rcases Nat.lt_or_ge i ops.size with h' | h'
        · exact h'
        · rw [Array.getElem?_eq_none h'] at ho; cases ho
      have hli : listed[i]? = some false := by
        rw [Array.getElem?_eq_getElem (by omega)]
        rw [Array.getD_eq_getD_getElem?, Array.getElem?_eq_getElem (by omega)] at h1
        simpa using h1
      obtain ⟨f, hf⟩ : ∃ f, fps[i]? = some f := ⟨_, List.getElem?_eq_getElem (by rw [← hlen]; simpa using hil)⟩
      have hin : (i, o, f) ∈ R := (hRm i o f).2 ⟨ho, hf, hli⟩
      obtain ⟨A, B, hAB⟩ := List.append_of_mem hin
      have hpw := hRp
      rw [hAB, List.pairwise_append] at hpw
      obtain ⟨pA, pB, pAB⟩ := hpw
      rw [List.pairwise_cons] at pB
      -- all that i waits for is listed
      have hwait : ∀ k, ((befs ops.toList []).getD i 0).testBit k = true → listed[k]? = some true := by
        intro k hk
        obtain ⟨e, he, hb, hk'⟩ := hbefs.2 i o (by simpa using ho) k hk
        have h2 := hdeps e he (binds_any hb)
        have h3 : listed[e.on]? = some true := by
          rw [Array.getD_eq_getD_getElem?] at h2
          cases hq : listed[e.on]? with
          | none => rw [hq] at h2; cases h2
          | some b => rw [hq] at h2; simp at h2; rw [h2]
        rcases hk' with rfl | ⟨_, hk'⟩
        · exact h3
        · exact hdown e.on k h3 hk'
      have hapart : ∀ p ∈ A.map (fun x => (x.2.1, x.2.2)), slotsApart ops.toList p.1 o = true ∧ fpApart p.2 f = true := by
        intro p hp
        obtain ⟨⟨j, q, g⟩, hq, rfl⟩ := List.mem_map.1 hp
        have hjR : (j, q, g) ∈ R := by rw [hAB]; exact List.mem_append.2 (.inl hq)
        obtain ⟨j1, j2, j3⟩ := (hRm j q g).1 hjR
        have hji : j < i := pAB (j, q, g) hq (i, o, f) (by simp)
        rcases indep_pair hind hji (by simpa using j1) (by simpa using ho) j2 hf with h3 | h3
        · rw [hwait j h3] at j3; cases j3
        · exact h3
      rw [hAB, List.map_append, List.map_cons] at hch
      obtain ⟨v, wr, e1, hch'⟩ := Chain.front hC hapart hch
      unfold wpOp
      rw [ho]
      simp only
      have hd : ∀ d, o.dst = some d → d < a.tmps.size := fun d hd => by
        rw [hN]; exact hdst o (by have := Array.mem_of_getElem? ho; simpa using this) d hd
      have hw := e1.wp (Q := Q) (K := wpAny P md ops Q fuel (listed.setIfInBounds i true)) hT hC rfl S hd (by omega) fun uu w' ρ' S' => ?_
      · by_cases hwant : Region.wanted o (yielded ops a.tmps) = true
        · rw [if_pos hwant] at hw ⊢
          exact .inl hw
        · rw [if_neg hwant] at hw ⊢
          exact hw
      · have hsplit : (A ++ B).map (fun x => (x.2.1, x.2.2)) = A.map (fun x : Nat × Oper × FP => (x.2.1, x.2.2)) ++ B.map (fun x => (x.2.1, x.2.2)) := List.map_append
        have hset : ∀ k, (listed.setIfInBounds i true)[k]? = if i = k then some true else listed[k]? := by
          intro k
          rw [Array.getElem?_setIfInBounds]
          by_cases hk : i = k
          · rw [if_pos hk, if_pos hk, if_pos (by omega)]
          · rw [if_neg hk, if_neg hk]
        refine ih _ (A ++ B) _ _ ρ' _ _ ?_ (by simpa using hsz) ?_ ?_ ?_ ((put_size a o.dst uu).trans hN) ?_ (by rw [hsplit]; exact hch') S'
        · have := congrArg List.length hAB
          simp at this ⊢
          omega
        · intro k q g
          rw [hset]
          have hR' := hRm k q g
          rw [hAB] at hR'
          constructor
          · intro hk
            have hk' : (k, q, g) ∈ A ++ (i, o, f) :: B := by
              rcases List.mem_append.1 hk with h | h
              · exact List.mem_append.2 (.inl h)
              · exact List.mem_append.2 (.inr (List.mem_cons_of_mem _ h))
            obtain ⟨k1, k2, k3⟩ := hR'.1 hk'
            refine ⟨k1, k2, ?_⟩
            rw [if_neg ?_]
            · exact k3
            · intro e
              subst e
              rcases List.mem_append.1 hk with h | h
              · have := pAB _ h (i, o, f) (by simp); simp at this
              · have := pB.1 _ h; simp at this
          · rintro ⟨k1, k2, k3⟩
            by_cases e : i = k
            · rw [if_pos e] at k3; cases k3
            · rw [if_neg e] at k3
              rcases List.mem_append.1 (hR'.2 ⟨k1, k2, k3⟩) with h | h
              · exact List.mem_append.2 (.inl h)
              · rcases List.mem_cons.1 h with h | h
                · simp only [Prod.mk.injEq] at h
                  exact absurd h.1.symm e
                · exact List.mem_append.2 (.inr h)
        · rw [List.pairwise_append]
          exact ⟨pA, pB.2, fun x hx y hy => pAB x hx y (List.mem_cons_of_mem _ hy)⟩
        · intro j k hj hk
          rw [hset] at hj ⊢
          by_cases e2 : i = k
          · rw [if_pos e2]
          · rw [if_neg e2]
            by_cases e : i = j
            · subst e; exact hwait k hk
            · rw [if_neg e] at hj; exact hdown j k hj hk
        · rw [← hD]; cases o.dst <;> rfl

/-- A region that draws. -/
theorem drawn_wp (hT : TOk P c.T) (hC : ConOk P c) {ops : Array Oper} {fps : List FP} (hind : indep ops.toList fps = true) (hlen : fps.length = ops.toList.length) {F : Fr} {G : Hp} {F' : Fr} {G' : Hp} {ρ : Env} {a : Act} {w : World} {id : Nat}
    (hch : Chain c ops.toList (ops.toList.zip fps) F G F' G') (hd : ∀ o ∈ ops.toList, ∀ d, o.dst = some d → d < a.tmps.size) (hN1 : a.tmps.size ≤ 100000) (S : St ρi E A w0 ρ F G a w)
    (hQ : ∀ a' w' ρ', a'.tmps.size = a.tmps.size → a'.defers = a.defers → St ρi E A w0 ρ' F' G' a' w' → Q .normal a' w') : (Code.region id ops true).wp P Q a w := by
  refine wp_region_draw fun t => ?_
  have S1 : St ρi E A w0 ρ F G a { w with drawn := w.drawn + 1 } :=
    ⟨⟨fun l b h => (S.heap.blk l b h).mono rfl (fun _ _ => rfl) (ZLe.refl _) (fun _ _ => rfl), S.heap.inj, S.heap.scp, S.heap.tight, S.heap.zok, S.heap.zap⟩, S.fr, S.scp,
      ⟨S.keep.os, S.keep.tape, S.keep.output, S.keep.size, S.keep.block⟩, S.mutin, S.stab⟩
  have hany : ∀ (md : Region.Mode) (t : Nat), topoOk md ops.toList = true → wpOps P ops Q (Region.linearise md ops t) a { w with drawn := w.drawn + 1 } := by
    intro md t htopo
    refine wpAny_sound ops.size t _ a _ ?_
    refine drawn_any hT hC hind htopo hN1 hd hQ ops.size _ (tag (ops.toList.zip fps) 0) F G ρ a _ ?_ (by simp) ?_ tag_lt ?_ rfl rfl (by rw [tag_map]; exact hch) S1
    · have : (tag (ops.toList.zip fps) 0).length = (ops.toList.zip fps).length := by
        rw [← List.length_map (f := fun x : Nat × Oper × FP => (x.2.1, x.2.2)), tag_map]
      rw [this, List.length_zip, hlen]; simp
    · intro i o f
      rw [tag_get]
      constructor
      · rintro ⟨k, rfl, hk⟩
        rw [Nat.zero_add]
        rw [List.getElem?_zip_eq_some] at hk
        refine ⟨by simpa using hk.1, hk.2, ?_⟩
        have : k < ops.size := by
          rcases Nat.lt_or_ge k ops.size with h' | h'
          · exact h'
          · have := hk.1; rw [List.getElem?_eq_none (by simpa using h')] at this; cases this
        simp [this]
      · rintro ⟨h1, h2, _⟩
        refine ⟨i, by simp, ?_⟩
        rw [List.getElem?_zip_eq_some]
        exact ⟨by simpa using h1, h2⟩
    · intro i k hi
      rw [Array.getElem?_replicate] at hi
      split at hi <;> cases hi
  have hi := hind
  unfold indep at hi
  simp only [Bool.and_eq_true] at hi
  obtain ⟨⟨⟨⟨⟨_, _⟩, t1⟩, t2⟩, t3⟩, _⟩ := hi
  unfold Region.schedule
  split
  · exact hany .any t t1
  · split
    · exact hany .text _ t2
    · exact hany .gc _ t3
end
end Go.Sym
