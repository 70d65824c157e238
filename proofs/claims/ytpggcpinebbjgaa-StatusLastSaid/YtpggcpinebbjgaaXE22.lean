/- The walk over code, and a function's contract. -/
import Derived.Test.YtpggcpinebbjgaaXE21
import Derived.Deep.LoopGhost
import Derived.Scope
namespace Go.Sym
set_option linter.unusedVariables false
set_option linter.unusedSimpArgs false

def exOf : Ex → Exit
  | .normal => .normal
  | .exit i => .exit i
  | .ret => .ret

/-- Where a walk has come to. -/
def PostK (ρi : Env) (E A : Nat → Prop) (w0 : World) (N : Nat) (K : Ex → List (Nat × SV) → List (Nat × Blk) → Prop) : Exit → Act → World → Prop := fun ex a w =>
  ∃ e fr hp ρ, K e fr hp ∧ exOf e = ex ∧ St ρi E A w0 ρ (fget fr) (hget hp) a w ∧ a.tmps.size = N ∧ a.defers = []

section
variable {ρi : Env} {P : Program} {E A : Nat → Prop} {w0 : World} {c : Cfg} {N : Nat}

theorem EntF_mem {F : Fr} {G : Hp} : ∀ {l : List (Nat × SV)}, EntF F G l → ∀ t v, (t, v) ∈ l → Ent G (F t) v
  | [], _, t, v, h => by cases h
  | (k, x) :: r, h, t, v, hm => by
    rcases List.mem_cons.1 hm with h' | h'
    · cases h'; exact h.1
    · exact EntF_mem h.2 t v h'
theorem renF_mem {m : Nat → Nat} : ∀ {l : List (Nat × SV)} {t : Nat} {v : SV}, (t, v) ∈ l → (t, ren m v) ∈ renF m l
  | [], _, _, h => by cases h
  | (k, x) :: r, t, v, h => by
    rcases List.mem_cons.1 h with h' | h'
    · cases h'; simp [renF]
    · exact List.mem_cons_of_mem _ (renF_mem h')
theorem fget_mem : ∀ {l : List (Nat × SV)} {t : Nat}, fget l t = .u ∨ (t, fget l t) ∈ l
  | [], t => .inl rfl
  | (k, x) :: r, t => by
    unfold fget
    cases hb : Nat.beq k t with
    | true => right; have := Nat.eq_of_beq_eq_true hb; subst this; simp
    | false => exact (fget_mem (l := r) (t := t)).imp id (fun h => List.mem_cons_of_mem _ h)
theorem scopeF_spec {hp : List (Nat × Blk)} : ∀ {l : List (Nat × SV)}, scopeF hp l = true → ∀ t v, (t, v) ∈ l → ∀ y ∈ v.labs, hget hp y ≠ none
  | [], _, t, v, h => by cases h
  | (k, x) :: r, h, t, v, hm => by
    unfold scopeF at h
    split at h
    · rename_i hv
      rcases List.mem_cons.1 hm with h' | h'
      · cases h'; exact defd_spec hv
      · exact scopeF_spec h t v h'
    · cases h

theorem smallK_spec : ∀ {ml : List (Nat × Nat)}, smallK ml = true → ∀ l, 100000 ≤ l → mget ml l = l
  | [], _, l, _ => rfl
  | (k, v) :: r, h, l, hl => by
    unfold smallK at h
    split at h
    · rename_i hk
      have hk : k < 100000 := Nat.le_of_ble_eq_true (show Nat.ble (k + 1) 100000 = true from hk)
      unfold mget
      rw [beq_ne (by omega)]
      exact smallK_spec h l hl
    · cases h
theorem greatIn_spec {G : Hp} : ∀ {ls : List Nat}, greatIn G ls = true → ∀ l ∈ ls, 100000 ≤ l → G l ≠ none
  | [], _, l, hm, _ => by cases hm
  | y :: r, h, l, hm, hl => by
    unfold greatIn at h
    rcases List.mem_cons.1 hm with e | hm'
    · subst e
      rw [Nat.ble_eq_true_of_le hl] at h
      intro hG
      rw [hG] at h
      cases h
    · refine greatIn_spec (ls := r) ?_ l hm' hl
      split at h
      · split at h
        · exact h
        · cases h
      · exact h
theorem atK_at {v : Inv} {F : Fr} {G : Hp} {x : v.X} {ml : ML} (h : atK v F G x ml) : At v F G x ml := by
  unfold atK at h
  split at h
  · rename_i h1 h2 h3 h4 h5
    exact ⟨h.1, h1, h2, h3, h4, h5, h.2.1, h.2.2⟩
  · exact h.elim
/-- To the states of a loop. -/
theorem At.st {v : Inv} {F : Fr} {G : Hp} {x : v.X} {ml : List (Nat × Nat)} {ρ : Env} {a : Act} {w : World} (hA : At v F G x ml) (S : St ρi E A w0 ρ F G a w) : ∃ ρ', St ρi E A w0 ρ' (fget (v.fr x)) (hget (v.hp x)) a w := by
  obtain ⟨_, hlab, hext, hgr, hscf, hsch, hfr, hhp⟩ := hA
  have hsmall := smallK_spec hext
  generalize hm : mget ml = m at *
  rw [mapN_eq] at hlab
  have hinj := (diff_iff _).1 hlab
  let ρ' : Env := ⟨fun l => match hget (v.hp x) l with | some _ => ρ (m l) | none => none, ρ.z⟩
  have hz : ZLe (ρ.ren m) ρ' := fun _ _ h => h
  have ρ'_of : ∀ {y : Nat}, hget (v.hp x) y ≠ none → ρ' y = ρ (m y) := by
    intro y hy
    show (match hget (v.hp x) y with | some _ => ρ (m y) | none => none) = _
    cases h : hget (v.hp x) y with
    | none => exact absurd h hy
    | some _ => rfl
  have use : ∀ {l : Nat} {b : Blk}, hget (v.hp x) l = some b → b.live = true → BlkOk ρ' w l b ∧ (∀ pl, ρ (m l) = some pl → ∃ b', G (m l) = some b' ∧ (b.real → b'.real) ∧ (b.mut = true → b'.mut = true)) := by
    intro l b hb hlive
    have hmem := hget_mem hb
    exact EntB_use S.heap (EntH_mem hhp (renH_mem hmem)) hlive (ρ'_of (by rw [hb]; simp)) rfl (fun y hy => ρ'_of (scopeH_spec hsch _ _ hmem y hy))
  refine ⟨ρ', ⟨fun l b hb => ?_, ?_, fun l b hb y hy => scopeH_spec hsch _ _ (hget_mem hb) y hy, ?_, S.heap.zok, ?_⟩, fun t => ?_, fun t l hl => ?_, S.keep, ⟨?_, ?_, S.mutin.zx, S.mutin.zi, S.mutin.za⟩, fun l hl hn => ?_⟩
  · cases hv : b.live with
    | false => cases b <;> first | trivial | cases hv
    | true => exact (use hb hv).1
  · intro l1 l2 b1 b2 p1 p2 hn h1 h2 hmut hv e1 e2
    have n1 : hget (v.hp x) l1 ≠ none := by rw [h1]; simp
    have n2 : hget (v.hp x) l2 ≠ none := by rw [h2]; simp
    rw [ρ'_of n1] at e1
    rw [ρ'_of n2] at e2
    obtain ⟨c1, g1, _, k1⟩ := (use h1 (Blk.live_of_real (Blk.real_of_mut hmut))).2 p1 e1
    obtain ⟨c2, g2, v2, _⟩ := (use h2 (Blk.live_of_real hv)).2 p2 e2
    exact S.heap.inj (m l1) (m l2) c1 c2 p1 p2 (fun e => hn (inj_of_nodup_map hinj (hget_some_mem n1) (hget_some_mem n2) e)) g1 g2 (k1 hmut) (v2 hv) e1 e2
  · intro l hl
    show (match hget (v.hp x) l with | some _ => ρ (m l) | none => none) = none
    rw [hl]
  · intro l b p hb hmut hp
    have n1 : hget (v.hp x) l ≠ none := by rw [hb]; simp
    rw [ρ'_of n1] at hp
    obtain ⟨c1, g1, _, k1⟩ := (use hb (Blk.live_of_real (Blk.real_of_mut hmut))).2 p hp
    exact S.heap.zap (m l) c1 p g1 (k1 hmut) hp
  · rcases fget_mem (l := v.fr x) (t := t) with h | h
    · rw [h]; simp [Den]
    · have h1 := EntF_mem hfr t _ (renF_mem (m := m) h)
      have h2 := Ent.den S.heap.tight _ _ _ h1 (S.fr t)
      rw [Den_ren] at h2
      exact Den.congr hz _ _ (fun y hy => (ρ'_of (scopeF_spec hscf t _ h y hy)).symm) h2
  · rcases fget_mem (l := v.fr x) (t := t) with h | h
    · rw [h] at hl; simp [SV.labs] at hl
    · exact scopeF_spec hscf t _ h l hl
  · intro l b pl hb hmut hpl
    have hn : hget (v.hp x) l ≠ none := by rw [hb]; simp
    rw [ρ'_of hn] at hpl
    obtain ⟨c', hc, hcl, hcm⟩ := (use hb (Blk.live_of_real (Blk.real_of_mut hmut))).2 pl hpl
    exact S.mutin.m (m l) c' pl hc (hcm hmut) hpl
  · intro l b pl hb hr hpl
    have hn : hget (v.hp x) l ≠ none := by rw [hb]; simp
    rw [ρ'_of hn] at hpl
    obtain ⟨c', hc, hcl, hcm⟩ := (use hb (Blk.live_of_real hr)).2 pl hpl
    exact S.mutin.a (m l) c' pl hc (hcl hr) hpl
  · rw [ρ'_of hn, hsmall l hl]
    exact S.stab l hl (greatIn_spec hgr l (hget_some_mem hn) hl)

theorem goOn_mono {c : Cfg} {o : Oper} {kn : List (Nat × Bool)} {fr : List (Nat × SV)} {hp : List (Nat × Blk)} {k k' : FP → List (Nat × SV) → List (Nat × Blk) → Prop} (h : ∀ fp fr hp, k fp fr hp → k' fp fr hp)
    (g : goOn c o kn fr hp k) : goOn c o kn fr hp k' := by
  have key : ∀ {k1 k2 : SV → List (Nat × Blk) → FP → Prop}, (∀ v wr fp, k1 v wr fp → k2 v wr fp) → stepK c o kn (fget fr) (hget hp) k1 → stepK c o kn (fget fr) (hget hp) k2 := by
    intro k1 k2 hk hs
    have plain : ∀ {k1 k2 : SV → List (Nat × Blk) → FP → Prop}, (∀ v wr fp, k1 v wr fp → k2 v wr fp) → (match evZ c.T c.wraps (fget fr) (hget hp) o with | none => Stuck 6 (dN o.dst) | some r => match r.pre with | none => k1 r.v r.wr ⟨r.rd, keys r.wr⟩ | some p => ob (dN o.dst) p ∧ k1 r.v r.wr ⟨r.rd, keys r.wr⟩) →
        (match evZ c.T c.wraps (fget fr) (hget hp) o with | none => Stuck 6 (dN o.dst) | some r => match r.pre with | none => k2 r.v r.wr ⟨r.rd, keys r.wr⟩ | some p => ob (dN o.dst) p ∧ k2 r.v r.wr ⟨r.rd, keys r.wr⟩) := by
      intro k1 k2 hk hs
      generalize evZ c.T c.wraps (fget fr) (hget hp) o = rr at hs ⊢
      cases rr with
      | none => exact hs
      | some r => cases hpr : r.pre with
        | none => simp only [hpr] at hs ⊢; exact hk _ _ _ hs
        | some p => simp only [hpr] at hs ⊢; exact ⟨hs.1, hk _ _ _ hs.2⟩
    obtain ⟨dst, op, ty, pos, af, gd⟩ := o
    unfold stepK at hs ⊢
    cases op <;> simp only [] at hs ⊢ <;> try exact plain hk hs
    case pick x a b =>
      split
      · rename_i hx; rw [hx] at hs; exact hk _ _ _ hs
      · rename_i hx; rw [hx] at hs; exact hk _ _ _ hs
      · rename_i v hx
        rw [hx] at hs
        simp only at hs
        split
        · rename_i hkn; rw [hkn] at hs; exact hk _ _ _ hs
        · rename_i hkn; rw [hkn] at hs; exact hk _ _ _ hs
        · rename_i hkn; rw [hkn] at hs; exact ⟨fun e => hk _ _ _ (hs.1 e), fun e => hk _ _ _ (hs.2 e)⟩
      · rename_i h1 h2 h3
        cases hx : oa (fget fr) x <;> rw [hx] at hs <;> first | exact hs.elim | skip
        · exact absurd hx (h3 _)
        · rename_i v; cases v
          · exact absurd hx h2
          · exact absurd hx h1
    case call cl =>
      obtain ⟨callee, args, tys⟩ := cl
      cases callee <;> simp only [] at hs ⊢ <;> try exact plain hk hs
      split at hs
      · rename_i f g caps hf
        unfold callK at hs ⊢
        split at hs
        · rename_i con d hcon
          have kk : ∀ (con' : Con), callC (args.toList.map (oa (fget fr)) ++ caps) d (hget hp) k1 con' → callC (args.toList.map (oa (fget fr)) ++ caps) d (hget hp) k2 con' := by
            intro con'
            induction con' with
            | one ct =>
              rintro ⟨x, hs⟩
              refine ⟨x, ?_⟩
              unfold callX at hs ⊢
              split at hs
              · rename_i hst
                exact ⟨hs.1, hs.2.1, hs.2.2.1, hk _ _ _ hs.2.2.2⟩
              · exact hs.elim
            | two sel a b iha ihb => exact fun hs => ⟨fun e => iha (hs.1 e), fun e => ihb (hs.2 e)⟩
          rw [fL_eq] at hs ⊢
          exact kk con hs
        · exact hs.elim
        · exact hs.elim
      · exact hs.elim
  unfold goOn at g ⊢
  refine key ?_ g
  intro v wr fp hh
  rw [fV_eq, fH_eq] at hh ⊢
  have fFP_mono : ∀ {cs : List Nat} {k1 k2 : FP → Prop}, (∀ fp, k1 fp → k2 fp) → fFP cs fp k1 → fFP cs fp k2 := by
    intro cs k1 k2 hk hf
    have fN_mono : ∀ {l : List Nat} {k1 k2 : List Nat → Prop}, (∀ l, k1 l → k2 l) → fN cs l k1 → fN cs l k2 := by
      intro l
      induction l with
      | nil => intro k1 k2 hk hf; exact hk _ hf
      | cons n r ih =>
        intro k1 k2 hk hf
        unfold fN at hf ⊢
        split at hf
        · exact ih (fun l => hk _) hf
        · exact hf.elim
    unfold fFP at hf ⊢
    exact fN_mono (fun rd h => fN_mono (fun wr h => hk _ h) h) hf
  refine fFP_mono ?_ hh
  intro fp hh
  split at hh
  · exact h _ _ _ hh
  · exact h _ _ _ hh
theorem runOps_mono {c : Cfg} {all : List Oper} {dr : Bool} {K K' : List (Nat × SV) → List (Nat × Blk) → Prop} (hK : ∀ fr hp, K fr hp → K' fr hp) : ∀ (l : List Oper) (lg : List FP) (kn : List (Nat × Bool)) (fr : List (Nat × SV)) (hp : List (Nat × Blk)),
    runOps c all dr l lg kn fr hp K → runOps c all dr l lg kn fr hp K'
  | [], lg, kn, fr, hp, h => by
    unfold runOps at h ⊢
    cases dr with
    | false => exact hK _ _ h
    | true =>
      dsimp only at h ⊢
      split at h
      · exact hK _ _ h
      · exact h.elim
  | o :: os, lg, kn, fr, hp, h => by
    unfold runOps at h ⊢
    split at h
    · exact h.elim
    · refine goOn_mono (fun fp fr hp hh => ?_) h
      cases dr <;> exact runOps_mono hK os _ _ _ _ hh
    · cases dr <;> exact runOps_mono hK os _ _ _ _ h
    · refine ⟨fun e => goOn_mono (fun fp fr hp hh => ?_) (h.1 e), fun e => ?_⟩
      · cases dr <;> exact runOps_mono hK os _ _ _ _ hh
      · have := h.2 e
        cases dr <;> exact runOps_mono hK os _ _ _ _ this
theorem exec_mono : ∀ (code : Code) (c : Cfg) (fr : List (Nat × SV)) (hp : List (Nat × Blk)) (K : Ex → List (Nat × SV) → List (Nat × Blk) → Prop) {K' : Ex → List (Nat × SV) → List (Nat × Blk) → Prop}, (∀ e fr hp, K e fr hp → K' e fr hp) → exec code c fr hp K → exec code c fr hp K' := by
  intro code
  have key : ∀ code : Code, (∀ (c : Cfg) (fr : List (Nat × SV)) (hp : List (Nat × Blk)) (K K' : Ex → List (Nat × SV) → List (Nat × Blk) → Prop), (∀ e fr hp, K e fr hp → K' e fr hp) → exec code c fr hp K → exec code c fr hp K') ∧
      ∀ body, code = .loop body → (∀ (c : Cfg) (fr : List (Nat × SV)) (hp : List (Nat × Blk)) (K K' : Ex → List (Nat × SV) → List (Nat × Blk) → Prop), (∀ e fr hp, K e fr hp → K' e fr hp) → exec body c fr hp K → exec body c fr hp K') := by
    intro code
    induction code with
    | skip => exact ⟨fun c fr hp K K' hK h => hK _ _ _ h, fun body hb => by cases hb⟩
    | label l => exact ⟨fun c fr hp K K' hK h => hK _ _ _ h, fun body hb => by cases hb⟩
    | ret => exact ⟨fun c fr hp K K' hK h => hK _ _ _ h, fun body hb => by cases hb⟩
    | exit id => exact ⟨fun c fr hp K K' hK h => hK _ _ _ h, fun body hb => by cases hb⟩
    | goto l => exact ⟨fun c fr hp K K' hK h => h.elim, fun body hb => by cases hb⟩
    | refuse s => exact ⟨fun c fr hp K K' hK h => h.elim, fun body hb => by cases hb⟩
    | rangeFunc f ps x y => exact ⟨fun c fr hp K K' hK h => h.elim, fun body hb => by cases hb⟩
    | region id ops dr => exact ⟨fun c fr hp K K' hK h => runOps_mono (fun fr hp => hK _ _ _) _ _ _ _ _ h, fun body hb => by cases hb⟩
    | loop b ih => exact ⟨fun c fr hp K K' hK h => h.elim, fun body hb => by cases hb; exact ih.1⟩
    | seq x y ihx ihy =>
      refine ⟨fun c fr hp K K' hK h => ?_, fun body hb => by cases hb⟩
      simp only [exec] at h ⊢
      refine ihx.1 _ _ _ _ _ ?_ h
      intro e fr hp hk
      cases e with
      | normal => exact ihy.1 _ _ _ _ _ hK hk
      | exit i => exact hK _ _ _ hk
      | ret => exact hK _ _ _ hk
    | cond x y z ihy ihz =>
      refine ⟨fun c fr hp K K' hK h => ?_, fun body hb => by cases hb⟩
      simp only [exec] at h ⊢
      split
      · rename_i hv; rw [hv] at h; exact ihy.1 _ _ _ _ _ hK h
      · rename_i hv; rw [hv] at h; exact ihz.1 _ _ _ _ _ hK h
      · rename_i b hv
        rw [hv] at h
        exact ⟨fun e => ihy.1 _ _ _ _ _ hK (h.1 e), fun e => ihz.1 _ _ _ _ _ hK (h.2 e)⟩
      · rename_i h1 h2 h3
        cases hx : oa (fget fr) x <;> rw [hx] at h <;> first | exact h.elim | skip
        · exact absurd hx (h3 _)
        · rename_i v; cases v
          · exact absurd hx h2
          · exact absurd hx h1
    | scope b ih =>
      refine ⟨fun c fr hp K K' hK h => ?_, fun body hb => by cases hb⟩
      simp only [exec] at h ⊢
      exact ih.1 _ _ _ _ _ hK h
    | block id b ih =>
      refine ⟨fun c fr hp K K' hK h => ?_, fun body hb => by cases hb⟩
      have plain : exec b c fr hp (outK id K) → exec b c fr hp (outK id K') := by
        refine ih.1 _ _ _ _ _ ?_
        intro e fr hp hk
        cases e with
        | normal => exact hK _ _ _ hk
        | ret => exact hK _ _ _ hk
        | exit i =>
          simp only [outK] at hk ⊢
          cases hb : Nat.beq i id with
          | true => rw [hb] at hk; exact hK _ _ _ hk
          | false => rw [hb] at hk; exact hK _ _ _ hk
      cases b with
      | loop body =>
        simp only [exec] at h ⊢
        split at h
        · exact h.elim
        · obtain ⟨x0, h⟩ := h
          refine ⟨x0, ?_⟩
          rw [fH_eq, fF_eq] at h ⊢
          refine ⟨h.1, fun x hx => ?_⟩
          have := h.2 x hx
          rw [fF_eq, fH_eq] at this ⊢
          refine (ih.2 body rfl) _ _ _ _ _ ?_ this
          intro e fr hp hk
          cases e with
          | normal => exact hk
          | ret => exact hK _ _ _ hk
          | exit i =>
            cases hb : Nat.beq i id with
            | true => simp only [hb] at hk ⊢; exact hK _ _ _ hk
            | false => simp only [hb] at hk ⊢; exact hK _ _ _ hk
      | _ => exact plain h
  intro c fr hp K K' hK h
  exact (key code).1 c fr hp K K' hK h

/-- What the walk says of a piece of code. -/
def Main (ρi : Env) (P : Program) (E A : Nat → Prop) (w0 : World) (c : Cfg) (N : Nat) (code : Code) : Prop :=
  ∀ (fr : List (Nat × SV)) (hp : List (Nat × Blk)) (K : Ex → List (Nat × SV) → List (Nat × Blk) → Prop) (ρ : Env) (a : Act) (w : World), exec code c fr hp K → dstOk N code = true →
    St ρi E A w0 ρ (fget fr) (hget hp) a w → N ≤ a.tmps.size ∧ a.tmps.size ≤ 100000 → a.defers = [] → code.wp P (PostK ρi E A w0 a.tmps.size K) a w

theorem region_main (hT : TOk P c.T) (hC : ConOk P c) {id : Nat} {ops : Array Oper} {dr : Bool} : Main ρi P E A w0 c N (.region id ops dr) := by
  intro fr hp K ρ a w h hd S hN hdef
  simp only [exec] at h
  obtain ⟨fps, fr', hp', g1, g2, g3, g4⟩ := runOps_chain ops.toList [] [] fr hp (fun s v hs => by simp [kfind] at hs) h
  have hdst : ∀ o ∈ ops.toList, ∀ d, o.dst = some d → d < a.tmps.size := by
    intro o ho d hod
    simp only [dstOk] at hd
    have := List.all_eq_true.1 hd o ho
    rw [hod] at this
    have h3 : d < N := Nat.le_of_ble_eq_true (show Nat.ble (d + 1) N = true from this)
    exact Nat.lt_of_lt_of_le h3 hN.1
  have fin : ∀ a' w' ρ', a'.tmps.size = a.tmps.size → a'.defers = a.defers → St ρi E A w0 ρ' (fget fr') (hget hp') a' w' → PostK ρi E A w0 a.tmps.size K .normal a' w' :=
    fun a' w' ρ' h1 h2 h3 => ⟨.normal, fr', hp', ρ', g3, rfl, h3, h1, h2.trans hdef⟩
  cases dr with
  | false =>
    refine wp_region_list ?_
    have := chain_wp (Q := PostK ρi E A w0 a.tmps.size K) hT hC (ops := ops) rfl g2 (fun o ho d hod => hdst o.1 (List.of_mem_zip ho).1 d hod) hN.2 S fin
    rwa [List.map_fst_zip (by omega)] at this
  | true => exact drawn_wp hT hC (by simpa using g4 rfl) g1 g2 hdst hN.2 S fin

theorem exec_sound : ∀ (code : Code), (∀ c, TOk P c.T → ConOk P c → Main ρi P E A w0 c N code) ∧ ∀ body, code = .loop body → ∀ c, TOk P c.T → ConOk P c → Main ρi P E A w0 c N body := by
  intro code
  induction code with
  | skip => exact ⟨fun c hT hC fr hp K ρ a w h _ S hN hdef => wp_skip ⟨.normal, fr, hp, ρ, h, rfl, S, rfl, hdef⟩, fun body hb => by cases hb⟩
  | label l => exact ⟨fun c hT hC fr hp K ρ a w h _ S hN hdef => wp_label ⟨.normal, fr, hp, ρ, h, rfl, S, rfl, hdef⟩, fun body hb => by cases hb⟩
  | ret => exact ⟨fun c hT hC fr hp K ρ a w h _ S hN hdef => wp_ret ⟨.ret, fr, hp, ρ, h, rfl, S, rfl, hdef⟩, fun body hb => by cases hb⟩
  | exit id => exact ⟨fun c hT hC fr hp K ρ a w h _ S hN hdef => wp_exit ⟨.exit id, fr, hp, ρ, h, rfl, S, rfl, hdef⟩, fun body hb => by cases hb⟩
  | goto l => exact ⟨fun c hT hC fr hp K ρ a w h _ S hN hdef => h.elim, fun body hb => by cases hb⟩
  | refuse s => exact ⟨fun c hT hC fr hp K ρ a w h _ S hN hdef => h.elim, fun body hb => by cases hb⟩
  | rangeFunc f ps x y => exact ⟨fun c hT hC fr hp K ρ a w h _ S hN hdef => h.elim, fun body hb => by cases hb⟩
  | region id ops dr => exact ⟨fun c hT hC => region_main hT hC, fun body hb => by cases hb⟩
  | loop b ih => exact ⟨fun c hT hC fr hp K ρ a w h _ S hN hdef => h.elim, fun body hb => by cases hb; exact ih.1⟩
  | seq x y ihx ihy =>
    refine ⟨fun c hT hC fr hp K ρ a w h hd S hN hdef => ?_, fun body hb => by cases hb⟩
    simp only [dstOk, Bool.and_eq_true] at hd
    simp only [exec] at h
    refine wp_seq (wp_mono (ihx.1 _ hT hC _ _ _ ρ a w h hd.1 S hN hdef) ?_)
    rintro e a' w' ⟨ex, fr', hp', ρ', hk, he, S', hsz, hdef'⟩
    cases ex with
    | normal =>
      subst he
      have := ihy.1 _ hT hC _ _ _ ρ' a' w' hk hd.2 S' (by omega) hdef'
      rw [hsz] at this
      exact this
    | exit i =>
      subst he
      exact ⟨.exit i, fr', hp', ρ', hk, rfl, S', hsz, hdef'⟩
    | ret =>
      subst he
      exact ⟨.ret, fr', hp', ρ', hk, rfl, S', hsz, hdef'⟩
  | cond x y z ihy ihz =>
    refine ⟨fun c hT hC fr hp K ρ a w h hd S hN hdef => ?_, fun body hb => by cases hb⟩
    simp only [dstOk, Bool.and_eq_true] at hd
    simp only [exec] at h
    have hx := oa_den S.fr x
    split at h
    · rename_i hv
      rw [hv] at hx
      simp only [Den] at hx
      exact wp_cond hx (by simpa using ihy.1 _ hT hC _ _ _ ρ a w h hd.1 S hN hdef)
    · rename_i hv
      rw [hv] at hx
      simp only [Den] at hx
      exact wp_cond hx (by simpa using ihz.1 _ hT hC _ _ _ ρ a w h hd.2 S hN hdef)
    · rename_i b hv
      rw [hv] at hx
      simp only [Den] at hx
      cases b with
      | true => exact wp_cond hx (by simpa using ihy.1 _ hT hC _ _ _ ρ a w (h.1 rfl) hd.1 S hN hdef)
      | false => exact wp_cond hx (by simpa using ihz.1 _ hT hC _ _ _ ρ a w (h.2 rfl) hd.2 S hN hdef)
    · exact h.elim
  | scope b ih =>
    refine ⟨fun c hT hC fr hp K ρ a w h hd S hN hdef => ?_, fun body hb => by cases hb⟩
    simp only [exec] at h
    refine wp_scope_straight (wp_mono (ih.1 _ hT hC _ _ _ ρ a w h (by simpa [dstOk] using hd) S hN hdef) ?_)
    rintro e a' w' ⟨ex, fr', hp', ρ', hk, he, S', hsz, hdef'⟩
    subst he
    cases ex <;> exact ⟨_, fr', hp', ρ', hk, rfl, S', hsz, hdef'⟩
  | block id b ih =>
    refine ⟨fun c hT hC fr hp K ρ a w h hd S hN hdef => ?_, fun body hb => by cases hb⟩
    simp only [dstOk] at hd
    have plain : exec b c fr hp (outK id K) → (Code.block id b).wp P (PostK ρi E A w0 a.tmps.size K) a w := by
      intro h
      refine wp_block (wp_mono (ih.1 _ hT hC _ _ _ ρ a w h hd S hN hdef) ?_)
      rintro e a' w' ⟨ex, fr', hp', ρ', hk, he, S', hsz, hdef'⟩
      subst he
      cases ex with
      | normal => exact ⟨.normal, fr', hp', ρ', hk, rfl, S', hsz, hdef'⟩
      | ret => exact ⟨.ret, fr', hp', ρ', hk, rfl, S', hsz, hdef'⟩
      | exit i =>
        simp only [outK] at hk
        show Exit.inBlock id (PostK ρi E A w0 a.tmps.size K) (.exit i) a' w'
        simp only [Exit.inBlock]
        cases hb : Nat.beq i id with
        | true =>
          rw [hb] at hk
          rw [if_pos (Nat.eq_of_beq_eq_true hb)]
          exact ⟨.normal, fr', hp', ρ', hk, rfl, S', hsz, hdef'⟩
        | false =>
          rw [hb] at hk
          rw [if_neg (fun e => by subst e; simp at hb)]
          exact ⟨.exit i, fr', hp', ρ', hk, rfl, S', hsz, hdef'⟩
    cases b with
    | loop body =>
      simp only [exec] at h
      split at h
      · exact h.elim
      · rename_i v0 hv
        obtain ⟨x0, h⟩ := h
        rw [fH_eq, List.append_nil, fF_eq] at h
        generalize keptH v0 hp x0 (mAt v0 (fget fr) (hget hp) x0) = hp0 at h
        generalize keptF c body v0 fr x0 hp0 = fr0 at h
        obtain ⟨A0, hround⟩ := h
        replace A0 := atK_at A0
        obtain ⟨v, hvX⟩ : ∃ v, v = v0.ext fr0 hp0 := ⟨_, rfl⟩
        replace hround : ∀ x : v.X, v.ok x → exec body (c.at (v.inn x)) (v.fr x) (v.hp x) fun e fr' hp' => match e with
          | .normal => ∃ x' : v.X, ∃ ml, v.me x' < v.me x ∧ At v (fget fr') (hget hp') x' ml
          | .exit i => (match Nat.beq i id with | true => K .normal fr' hp' | false => K (.exit i) fr' hp')
          | .ret => K .ret fr' hp' := by
          subst hvX
          intro x hx
          have := hround x hx
          rw [fF_eq, fH_eq, List.append_nil] at this
          refine exec_mono _ _ _ _ _ ?_ this
          intro e fr' hp' hk
          cases e with
          | normal =>
            obtain ⟨x', h1, h2⟩ := hk
            exact ⟨x', _, h1, atK_at h2⟩
          | exit i => exact hk
          | ret => exact hk
        obtain ⟨x0', A0⟩ : ∃ (x0' : v.X), At v (fget fr) (hget hp) x0' (mAt v0 (fget fr) (hget hp) x0) := by subst hvX; exact ⟨x0, A0⟩
        obtain ⟨ρ0, S0⟩ := A0.st S
        refine wp_block ?_
        refine wp_loop_ghost (fun n a' w' => ∃ x ρ', v.ok x ∧ v.me x = n ∧ St ρi E A w0 ρ' (fget (v.fr x)) (hget (v.hp x)) a' w' ∧ a'.tmps.size = a.tmps.size ∧ a'.defers = []) (v.me x0')
          ⟨x0', ρ0, A0.ok, rfl, S0, rfl, hdef⟩ ?_
        rintro n a1 w1 ⟨x, ρ1, hok, hme, S1, hsz1, hdef1⟩
        have hr := hround x hok
        refine wp_mono ((ih.2 body rfl (c.at (v.inn x)) hT hC) _ _ _ ρ1 a1 w1 hr (by simpa [dstOk] using hd) S1 (by omega) hdef1) ?_
        rintro e a' w' ⟨ex, fr', hp', ρ', hk, he, S', hsz, hdef'⟩
        subst he
        cases ex with
        | normal =>
          obtain ⟨x', ml, hlt, hA⟩ := hk
          obtain ⟨ρ2, S2⟩ := hA.st S'
          exact ⟨v.me x', by omega, x', ρ2, hA.ok, rfl, S2, hsz.trans hsz1, hdef'⟩
        | ret => exact ⟨.ret, fr', hp', ρ', hk, rfl, S', hsz.trans hsz1, hdef'⟩
        | exit i =>
          simp only at hk
          show Exit.inBlock id (PostK ρi E A w0 a.tmps.size K) (.exit i) a' w'
          simp only [Exit.inBlock]
          cases hb : Nat.beq i id with
          | true =>
            rw [hb] at hk
            rw [if_pos (Nat.eq_of_beq_eq_true hb)]
            exact ⟨.normal, fr', hp', ρ', hk, rfl, S', hsz.trans hsz1, hdef'⟩
          | false =>
            rw [hb] at hk
            rw [if_neg (fun e => by subst e; simp at hb)]
            exact ⟨.exit i, fr', hp', ρ', hk, rfl, S', hsz.trans hsz1, hdef'⟩
    | _ => exact plain h
end
end Go.Sym
