/- A region's operations, one behind the other. -/
import Derived.Test.YtpggcpinebbjgaaXE16
namespace Go.Sym
set_option linter.unusedVariables false
set_option linter.unusedSimpArgs false

/-- What an operation comes to, in a state. -/
inductive Ev (c : Cfg) : Oper → Fr → Hp → SV → List (Nat × Blk) → FP → Prop where
  | pick {dst ty pos af gd x a b F G} (t : Bool) (h : oa F x = .b t ∨ oa F x = .bt t) :
    Ev c ⟨dst, .pick x a b, ty, pos, af, gd⟩ F G (if t then oa F a else oa F b) [] ⟨[], []⟩
  | call {dst ty pos af gd f args tys F G g caps} (ct : CT) (x : ct.X) (m : Nat → Nat) (d : Nat) (h1 : oa F f = .fn g caps) (h2 : CMem c g ct) (h3 : dst = some d)
    (h4 : callSt ct G x m = true) (h5 : CallOk ct (args.toList.map (oa F) ++ caps) G x m) :
    Ev c ⟨dst, .call ⟨.value f, args, tys⟩, ty, pos, af, gd⟩ F G (ren m (ct.res x)) (appH (renH m (ct.g1 x)) (absL G m (ct.g0 x)))
      ⟨mapN m (apL (keys (ct.g0 x)) (keys (ct.g1 x))), keys (appH (renH m (ct.g1 x)) (absL G m (ct.g0 x)))⟩
  | plain {o F G} (r : Res) (h1 : evZ c.T c.wraps F G o = some r) (h2 : r.Pre) : Ev c o F G r.v r.wr ⟨r.rd, keys r.wr⟩

def KnOk (kn : List (Nat × Bool)) (F : Fr) : Prop := ∀ s v, kfind kn s = some v → ∀ t, F s = .b t → t = v

theorem callK_ev {c : Cfg} {F : Fr} {G : Hp} {dst : Option Nat} {ty : TypeId} {pos : String} {af : Array Edge} {gd : Option (Nat × Bool)} {f : Operand} {args : Array Operand} {tys : Array TypeId} {g : Nat} {caps : List SV}
    {k : SV → List (Nat × Blk) → FP → Prop} (hf : oa F f = .fn g caps) (h : callK c g (args.toList.map (oa F) ++ caps) dst G k) :
    ∃ v wr fp, Ev c ⟨dst, .call ⟨.value f, args, tys⟩, ty, pos, af, gd⟩ F G v wr fp ∧ k v wr fp := by
  unfold callK at h
  split at h
  · rename_i con d hct
    rw [fL_eq] at h
    have key : ∀ (con' : Con), (∀ ct, con'.Has ct → con.Has ct) → callC (args.toList.map (oa F) ++ caps) d G k con' → ∃ v wr fp, Ev c ⟨some d, .call ⟨.value f, args, tys⟩, ty, pos, af, gd⟩ F G v wr fp ∧ k v wr fp := by
      intro con'
      induction con' with
      | one ct =>
        intro hsub h
        obtain ⟨x, h⟩ := h
        unfold callX at h
        split at h
        · rename_i hst
          obtain ⟨h1, h2, h3, h4⟩ := h
          exact ⟨_, _, _, .call ct x (mget (mcall d ct _ G x)) d hf ⟨con, hct, hsub ct rfl⟩ rfl hst ⟨h1, h2, h3⟩, h4⟩
        · exact h.elim
      | two sel a b iha ihb =>
        intro hsub h
        cases hs : sel (args.toList.map (oa F) ++ caps) G with
        | true => exact iha (fun ct hc => hsub ct (.inl hc)) (h.1 hs)
        | false => exact ihb (fun ct hc => hsub ct (.inr hc)) (h.2 hs)
    exact key con (fun _ h => h) h
  · exact h.elim
  · exact h.elim

theorem plain_ev {c : Cfg} {o : Oper} {F : Fr} {G : Hp} {k : SV → List (Nat × Blk) → FP → Prop}
    (h : match evZ c.T c.wraps F G o with | none => Stuck 6 (dN o.dst) | some r => match r.pre with | none => k r.v r.wr ⟨r.rd, keys r.wr⟩ | some p => ob (dN o.dst) p ∧ k r.v r.wr ⟨r.rd, keys r.wr⟩) :
    ∃ v wr fp, Ev c o F G v wr fp ∧ k v wr fp := by
  split at h
  · exact h.elim
  · rename_i r hr
    split at h
    · rename_i hp
      exact ⟨_, _, _, .plain r hr (by simp [Res.Pre, hp]), h⟩
    · rename_i p hp
      exact ⟨_, _, _, .plain r hr (by simp [Res.Pre, hp]; exact h.1), h.2⟩

theorem stepK_ev {c : Cfg} {o : Oper} {kn : List (Nat × Bool)} {F : Fr} {G : Hp} {k : SV → List (Nat × Blk) → FP → Prop} (hk : KnOk kn F) (h : stepK c o kn F G k) :
    ∃ v wr fp, Ev c o F G v wr fp ∧ k v wr fp := by
  obtain ⟨dst, op, ty, pos, af, gd⟩ := o
  unfold stepK at h
  cases op <;> simp only [] at h <;> try exact plain_ev h
  case pick x a b =>
    split at h
    · rename_i hx
      exact ⟨_, _, _, .pick true (.inr hx), by simpa using h⟩
    · rename_i hx
      exact ⟨_, _, _, .pick false (.inr hx), by simpa using h⟩
    · rename_i v hx
      split at h
      · rename_i hkn
        have : v = true := by
          cases x <;> simp only [kfindO] at hkn <;> try cases hkn
          exact hk _ _ hkn v hx
        subst this
        exact ⟨_, _, _, .pick true (.inl hx), by simpa using h⟩
      · rename_i hkn
        have : v = false := by
          cases x <;> simp only [kfindO] at hkn <;> try cases hkn
          exact hk _ _ hkn v hx
        subst this
        exact ⟨_, _, _, .pick false (.inl hx), by simpa using h⟩
      · cases v with
        | true => exact ⟨_, _, _, .pick true (.inl hx), by simpa using h.1 rfl⟩
        | false => exact ⟨_, _, _, .pick false (.inl hx), by simpa using h.2 rfl⟩
    · exact h.elim
  case call cl =>
    obtain ⟨callee, args, tys⟩ := cl
    cases callee <;> simp only [] at h <;> try exact plain_ev h
    split at h
    · rename_i g caps hf
      exact callK_ev hf h
    · exact h.elim

/-- With its guard. -/
inductive Ev1 (c : Cfg) (all : List Oper) : Oper → Fr → Hp → SV → List (Nat × Blk) → FP → Prop where
  | go {o F G v wr fp} (h : o.guard = none) (e : Ev c o F G v wr fp) : Ev1 c all o F G v wr fp
  | yes {o F G v wr fp} (j : Nat) (want : Bool) (s : Nat) (h : o.guard = some (j, want)) (hs : slotOf all j = some s) (ht : F s = .b want ∨ F s = .bt want) (e : Ev c o F G v wr fp) : Ev1 c all o F G v wr fp
  | no {o F G} (j : Nat) (want : Bool) (s : Nat) (h : o.guard = some (j, want)) (hs : slotOf all j = some s) (ht : F s = .b (!want) ∨ F s = .bt (!want)) : Ev1 c all o F G .u [] ⟨[], []⟩

inductive Chain (c : Cfg) (all : List Oper) : List (Oper × FP) → Fr → Hp → Fr → Hp → Prop where
  | nil {F G} : Chain c all [] F G F G
  | cons {o fp l F G F' G'} (v : SV) (wr : List (Nat × Blk)) (e : Ev1 c all o F G v wr fp) (t : Chain c all l (updO F o.dst v) (upds G wr) F' G') : Chain c all ((o, fp) :: l) F G F' G'

theorem fget_consO (d : Option Nat) (v : SV) (fr : List (Nat × SV)) : fget (consO d v fr) = updO (fget fr) d v := by
  cases d with
  | none => rfl
  | some d => exact fget_cons d v fr

theorem kdrop_find {d : Option Nat} {kn : List (Nat × Bool)} {s : Nat} {v : Bool} (h : kfind (kdrop d kn) s = some v) : (∀ d', d = some d' → d' ≠ s) ∧ kfind kn s = some v := by
  induction kn with
  | nil => simp [kdrop, kfind] at h
  | cons x r ih =>
    obtain ⟨k, b⟩ := x
    unfold kdrop at h
    cases d with
    | none => exact ⟨fun _ e => (by cases e), h⟩
    | some d =>
      simp only at h
      cases hkd : Nat.beq k d with
      | true =>
        rw [hkd] at h
        obtain ⟨h1, h2⟩ := ih h
        refine ⟨h1, ?_⟩
        have hk := Nat.eq_of_beq_eq_true hkd
        have hne : k ≠ s := hk ▸ h1 d rfl
        unfold kfind
        rw [beq_ne hne]
        exact h2
      | false =>
        rw [hkd] at h
        simp only at h
        unfold kfind at h ⊢
        cases hks : Nat.beq k s with
        | true =>
          rw [hks] at h
          refine ⟨fun d' e => ?_, h⟩
          cases e
          rw [← Nat.eq_of_beq_eq_true hks]
          intro e2
          rw [e2] at hkd
          simp at hkd
        | false =>
          rw [hks] at h
          exact ih h
theorem KnOk.next {kn : List (Nat × Bool)} {F : Fr} (h : KnOk kn F) (d : Option Nat) (v : SV) : KnOk (kdrop d kn) (updO F d v) := by
  intro s b hs t ht
  obtain ⟨h1, h2⟩ := kdrop_find hs
  refine h s b h2 t ?_
  cases d with
  | none => exact ht
  | some d =>
    have hne := h1 d rfl
    have ht' : (match Nat.beq d s with | true => v | false => F s) = .b t := ht
    rw [beq_ne hne] at ht'
    exact ht'
theorem KnOk.cons {kn : List (Nat × Bool)} {F : Fr} (h : KnOk kn F) {s : Nat} {v t : Bool} (hs : F s = .b t) (ht : t = v) : KnOk ((s, v) :: kn) F := by
  intro s' v' h' t' ht'
  unfold kfind at h'
  cases hb : Nat.beq s s' with
  | true =>
    rw [hb] at h'
    cases h'
    rw [← Nat.eq_of_beq_eq_true hb, hs] at ht'
    cases ht'
    exact ht
  | false =>
    rw [hb] at h'
    exact h s' v' h' t' ht'

theorem pickN_spec {n : Nat} : ∀ {cs : List Nat} {c : Nat}, pickN n cs = some c → c = n
  | [], c, h => by cases h
  | x :: r, c, h => by
    unfold pickN at h
    split at h
    · rename_i hb; cases h; exact (Nat.eq_of_beq_eq_true hb).symm
    · exact pickN_spec h
theorem fN_spec {cs : List Nat} : ∀ {l : List Nat} {k : List Nat → Prop}, fN cs l k → k l
  | [], k, h => h
  | n :: r, k, h => by
    unfold fN at h
    split at h
    · rename_i c hc
      have := fN_spec h
      rw [pickN_spec hc] at this
      exact this
    · exact h.elim
theorem fFP_spec {cs : List Nat} {fp : FP} {k : FP → Prop} (h : fFP cs fp k) : k fp := by
  unfold fFP at h
  exact fN_spec (fN_spec h)
theorem goOn_ev {c : Cfg} {o : Oper} {kn : List (Nat × Bool)} {fr : List (Nat × SV)} {hp : List (Nat × Blk)} {k : FP → List (Nat × SV) → List (Nat × Blk) → Prop} (hk : KnOk kn (fget fr)) (h : goOn c o kn fr hp k) :
    ∃ v wr fp, Ev c o (fget fr) (hget hp) v wr fp ∧ k fp (consO o.dst v fr) (wr ++ hp) := by
  unfold goOn at h
  obtain ⟨v, wr, fp, he, h⟩ := stepK_ev hk h
  rw [fV_eq, fH_eq] at h
  replace h := fFP_spec h
  refine ⟨v, wr, fp, he, ?_⟩
  cases hd : o.dst <;> rw [hd] at h <;> exact h

/-- The walk over a region, as a chain. -/
theorem runOps_chain {c : Cfg} {all : List Oper} {dr : Bool} : ∀ (l : List Oper) (lg : List FP) (kn : List (Nat × Bool)) (fr : List (Nat × SV)) (hp : List (Nat × Blk)) {K : List (Nat × SV) → List (Nat × Blk) → Prop},
    KnOk kn (fget fr) → runOps c all dr l lg kn fr hp K →
    ∃ (fps : List FP) (fr' : List (Nat × SV)) (hp' : List (Nat × Blk)), fps.length = l.length ∧ Chain c all (l.zip fps) (fget fr) (hget hp) (fget fr') (hget hp') ∧ K fr' hp' ∧
      (dr = true → indep all (lg.reverse ++ fps) = true)
  | [], lg, kn, fr, hp, K, hk, h => by
    unfold runOps at h
    cases dr with
    | false => exact ⟨[], fr, hp, rfl, .nil, h, by simp⟩
    | true =>
      dsimp only at h
      split at h
      · rename_i hi
        exact ⟨[], fr, hp, rfl, .nil, h, fun _ => by simpa using hi⟩
      · exact h.elim
  | o :: os, lg, kn, fr, hp, K, hk, h => by
    have go : ∀ (kn' : List (Nat × Bool)), KnOk kn' (fget fr) → (∀ {v wr fp}, Ev c o (fget fr) (hget hp) v wr fp → Ev1 c all o (fget fr) (hget hp) v wr fp) →
        (goOn c o kn' fr hp fun fp fr hp => match (generalizing := false) dr with
          | true => runOps c all dr os (fp :: lg) (kdrop o.dst kn') fr hp K
          | false => runOps c all dr os [] (kdrop o.dst kn') fr hp K) →
        ∃ (fps : List FP) (fr' : List (Nat × SV)) (hp' : List (Nat × Blk)), fps.length = (o :: os).length ∧ Chain c all ((o :: os).zip fps) (fget fr) (hget hp) (fget fr') (hget hp') ∧ K fr' hp' ∧
          (dr = true → indep all (lg.reverse ++ fps) = true) := by
      intro kn' hk' hev hg
      obtain ⟨v, wr, fp, he, h1⟩ := goOn_ev hk' hg
      have hk2 : KnOk (kdrop o.dst kn') (fget (consO o.dst v fr)) := by rw [fget_consO]; exact hk'.next o.dst v
      cases hdr : dr with
      | true =>
        subst hdr
        obtain ⟨fps, fr', hp', g1, g2, g3, g4⟩ := runOps_chain os (fp :: lg) _ _ _ hk2 h1
        refine ⟨fp :: fps, fr', hp', by simp [g1], ?_, g3, fun _ => by simpa using g4 rfl⟩
        rw [List.zip_cons_cons]
        rw [fget_consO, hget_append] at g2
        exact .cons v wr (hev he) g2
      | false =>
        subst hdr
        obtain ⟨fps, fr', hp', g1, g2, g3, g4⟩ := runOps_chain os [] _ _ _ hk2 h1
        refine ⟨fp :: fps, fr', hp', by simp [g1], ?_, g3, fun e => by cases e⟩
        rw [List.zip_cons_cons]
        rw [fget_consO, hget_append] at g2
        exact .cons v wr (hev he) g2
    have skip : ∀ (kn' : List (Nat × Bool)), KnOk kn' (fget fr) → Ev1 c all o (fget fr) (hget hp) .u [] ⟨[], []⟩ →
        (match (generalizing := false) dr with
          | true => runOps c all dr os (⟨[], []⟩ :: lg) (kdrop o.dst kn') (consO o.dst .u fr) hp K
          | false => runOps c all dr os [] (kdrop o.dst kn') (consO o.dst .u fr) hp K) →
        ∃ (fps : List FP) (fr' : List (Nat × SV)) (hp' : List (Nat × Blk)), fps.length = (o :: os).length ∧ Chain c all ((o :: os).zip fps) (fget fr) (hget hp) (fget fr') (hget hp') ∧ K fr' hp' ∧
          (dr = true → indep all (lg.reverse ++ fps) = true) := by
      intro kn' hk' he h1
      have hk2 : KnOk (kdrop o.dst kn') (fget (consO o.dst .u fr)) := by rw [fget_consO]; exact hk'.next o.dst .u
      cases hdr : dr with
      | true =>
        subst hdr
        obtain ⟨fps, fr', hp', g1, g2, g3, g4⟩ := runOps_chain os (⟨[], []⟩ :: lg) _ _ _ hk2 h1
        refine ⟨⟨[], []⟩ :: fps, fr', hp', by simp [g1], ?_, g3, fun _ => by simpa using g4 rfl⟩
        rw [List.zip_cons_cons]
        rw [fget_consO] at g2
        exact .cons .u [] he g2
      | false =>
        subst hdr
        obtain ⟨fps, fr', hp', g1, g2, g3, g4⟩ := runOps_chain os [] _ _ _ hk2 h1
        refine ⟨⟨[], []⟩ :: fps, fr', hp', by simp [g1], ?_, g3, fun e => by cases e⟩
        rw [List.zip_cons_cons]
        rw [fget_consO] at g2
        exact .cons .u [] he g2
    unfold runOps at h
    split at h
    · exact h.elim
    · rename_i hdo
      refine go kn hk (fun he => ?_) h
      unfold doIt at hdo
      split at hdo
      · rename_i hg; exact .go hg he
      · rename_i j want hg
        split at hdo
        · cases hdo
        · rename_i s hs
          split at hdo
          · rename_i v hv
            cases v <;> cases want <;> simp only [] at hdo <;> first | exact .yes j _ s hg hs (.inr hv) he | cases hdo
          · rename_i v hv
            split at hdo <;> try (cases hdo; done)
            · rename_i hkn
              rw [hk _ _ hkn v hv] at hv
              exact .yes j _ s hg hs (.inl hv) he
            · rename_i hkn
              rw [hk _ _ hkn v hv] at hv
              exact .yes j _ s hg hs (.inl hv) he
          · cases hdo
    · rename_i hdo
      refine skip kn hk ?_ h
      unfold doIt at hdo
      split at hdo
      · cases hdo
      · rename_i j want hg
        split at hdo
        · cases hdo
        · rename_i s hs
          split at hdo
          · rename_i v hv
            cases v <;> cases want <;> simp only [] at hdo <;> first | exact .no j _ s hg hs (.inr hv) | cases hdo
          · rename_i v hv
            split at hdo <;> try (cases hdo; done)
            · rename_i hkn
              rw [hk _ _ hkn v hv] at hv
              exact .no j _ s hg hs (.inl hv)
            · rename_i hkn
              rw [hk _ _ hkn v hv] at hv
              exact .no j _ s hg hs (.inl hv)
          · cases hdo
    · rename_i s v want hdo
      have hd : ∃ j, o.guard = some (j, want) ∧ slotOf all j = some s ∧ fget fr s = .b v := by
        unfold doIt at hdo
        split at hdo
        · cases hdo
        · rename_i j want' hg
          split at hdo
          · cases hdo
          · rename_i s' hs
            split at hdo
            · rename_i v' hv
              cases v' <;> cases want' <;> simp only [] at hdo <;> cases hdo
            · rename_i v' hv
              split at hdo <;> cases hdo
              · exact ⟨j, hg, hs, hv⟩
              · exact ⟨j, hg, hs, hv⟩
            · cases hdo
      obtain ⟨j, hg, hs, hv⟩ := hd
      by_cases hvw : v = want
      · exact go _ (hk.cons hv hvw) (fun he => .yes j want s hg hs (.inl (hvw ▸ hv)) he) (h.1 hvw)
      · have hvw' : v = !want := by cases v <;> cases want <;> simp_all
        exact skip _ (hk.cons hv hvw') (.no j want s hg hs (.inl (hvw' ▸ hv))) (h.2 hvw')
end Go.Sym
