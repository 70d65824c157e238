/- A region's operations, one behind the other, as the machine runs them. -/
import Derived.Test.YtpggcpinebbjgaaXE17
namespace Go.Sym
set_option linter.unusedVariables false
set_option linter.unusedSimpArgs false

def FnOk (P : Program) (g : Nat) : Prop := ∃ fn, P.funcs[g]? = some fn ∧ (fn.name == "runtime.NumGoroutine") = false ∧ fn.body.isNone = false
/-- The table of contracts holds of the program. -/
def ConOk (P : Program) (c : Cfg) : Prop := ∀ g ct, CMem c g ct → Good P g ct ∧ FnOk P g

section
variable {ρi : Env} {P : Program} {E A : Nat → Prop} {w0 : World} {ρ : Env} {F : Fr} {G : Hp} {a : Act} {w : World} {c : Cfg} {all : List Oper} {Q : Exit → Act → World → Prop} {K : Act → World → Prop}

theorem upd_labs {G : Hp} {wr : List (Nat × Blk)} {l : Nat} (h : G l ≠ none) : upds G wr l ≠ none := by
  rw [upds_eq]
  cases hget wr l with
  | some b => simp
  | none => exact h

theorem St.next (S : St ρi E A w0 ρ F G a w) {dst : Option Nat} {v : SV} {wr : List (Nat × Blk)} {u : Value} {w' : World} {ρ' : Env} (hd : ∀ d, dst = some d → d < a.tmps.size) (hv : Den ρ' v u)
    (h1 : HSat ρ' (upds G wr) w') (h2 : Keep E w0 w') (h3 : MutIn E A ρi w0.heap.size ρ' (upds G wr)) (h4 : ∀ l, G l ≠ none → ρ' l = ρ l) (h4z : ZLe ρ ρ') (h5 : ∀ l ∈ v.labs, upds G wr l ≠ none) (h6 : ∀ l, 100000 ≤ l → G l = none → upds G wr l = none) :
    St ρi E A w0 ρ' (updO F dst v) (upds G wr) (a.put dst u) w' := by
  have hold : ∀ t, Den ρ' (F t) (a.tmps.getD t undef) := fun t => Den.congr h4z _ _ (fun l hl => (h4 l (S.scp t l hl)).symm) (S.fr t)
  refine ⟨h1, fun t => ?_, fun t l hl => ?_, h2, h3, fun l hl hn => ?_⟩
  · cases dst with
    | none => exact hold t
    | some d =>
      have hd := hd d rfl
      show Den ρ' (match Nat.beq d t with | true => v | false => F t) ((a.tmps.setIfInBounds d u).getD t undef)
      cases hb : Nat.beq d t with
      | true =>
        have := Nat.eq_of_beq_eq_true hb
        subst this
        simpa [hd] using hv
      | false =>
        have hne : d ≠ t := fun e => by subst e; simp at hb
        have : (a.tmps.setIfInBounds d u).getD t undef = a.tmps.getD t undef := by
          simp [Array.getD_eq_getD_getElem?, Array.getElem?_setIfInBounds, hne]
        rw [this]
        exact hold t
  · cases dst with
    | none => exact upd_labs (S.scp t l hl)
    | some d =>
      have hl' : l ∈ (match Nat.beq d t with | true => v | false => F t).labs := hl
      cases hb : Nat.beq d t with
      | true => rw [hb] at hl'; exact h5 l hl'
      | false => rw [hb] at hl'; exact upd_labs (S.scp t l hl')
  · have hG : G l ≠ none := fun h => hn (h6 l hl h)
    rw [h4 l hG]
    exact S.stab l hl hG

theorem put_size (a : Act) (d : Option Nat) (v : Value) : (a.put d v).tmps.size = a.tmps.size := by
  cases d <;> simp [Act.put]

theorem Left.wp {o : Oper} {v : SV} {wr : List (Nat × Blk)} (S : St ρi E A w0 ρ F G a w) (hd : ∀ d, o.dst = some d → d < a.tmps.size) (L : Left P ρi E A w0 ρ G a w o v wr) (h6 : ∀ l, 100000 ≤ l → G l = none → upds G wr l = none)
    (hK : ∀ u w' ρ', St ρi E A w0 ρ' (updO F o.dst v) (upds G wr) (a.put o.dst u) w' → K (a.put o.dst u) w') : o.wp P a w K Q := by
  obtain ⟨nx, w', ρ', hr, hnx, h1, h2, h3, h4, h4z, h5⟩ := L
  unfold Oper.wp
  rw [hr]
  rcases hnx with ⟨u, rfl, hu⟩ | ⟨rfl, rfl⟩
  · exact hK u w' ρ' (S.next hd hu h1 h2 h3 h4 h4z h5 h6)
  · exact hK undef w' ρ' (S.next hd (by simp [Den]) h1 h2 h3 h4 h4z h5 h6)

/-- What is new of the great labels is the slot's own. -/
def NewOk (G : Hp) (d : Option Nat) (wr : List (Nat × Blk)) : Prop := ∀ l, 100000 ≤ l → G l = none → upds G wr l ≠ none → d = some l
theorem NewOk.nil {d : Option Nat} : NewOk G d [] := fun _ _ h h' => absurd h h'
theorem NewOk.old {d : Option Nat} {wr : List (Nat × Blk)} (h : ∀ l ∈ keys wr, G l ≠ none) : NewOk G d wr := by
  intro l _ hl hn
  rw [upds_eq] at hn
  cases h1 : hget wr l with
  | none => rw [h1] at hn; exact absurd hl hn
  | some b => exact absurd hl (h l (hget_some_mem (by rw [h1]; simp)))
theorem NewOk.small {d : Option Nat} {wr : List (Nat × Blk)} (h : newOk G wr = true) : NewOk G d wr := by
  intro l hs hl hn
  rw [upds_eq] at hn
  cases h1 : hget wr l with
  | none => rw [h1] at hn; exact absurd hl hn
  | some b =>
    have := (newOk_spec h l (by rw [keysB_eq]; exact hget_some_mem (by rw [h1]; simp))).2
    omega
theorem newAt_new {d : Option Nat} {b : Blk} {v : Nat → SV} {rd : List Nat} {pre : Option Prop} {r : Res} (h : newAt G d b v rd pre = some r) : NewOk G d r.wr := by
  obtain ⟨d', rfl, hd, rfl⟩ := newAt_spec h
  intro l _ hl hn
  by_cases e : d' = l
  · rw [e]
  · simp only [upds_one_other _ _ e] at hn
    exact absurd hl hn
theorem old1_new {d : Option Nat} {l' : Nat} {b : Blk} (h : G l' ≠ none) : NewOk G d [(l', b)] := NewOk.old (by simpa [keys] using h)
theorem evRow_new {d : Option Nat} {ti : TI} {ks : List Kd} {g : Nat → D} {c : Nat} {rd : List Nat} {pre : Option Prop} {r : Res} (h : evRow G d ti ks g c rd pre = some r) : NewOk G d r.wr := by
  unfold evRow at h
  split at h
  · split at h
    · rename_i h1 h2 h3
      cases h
      exact .small h2
    · cases h
  · cases h
theorem evLoad_new {T : List (Nat × TI)} {d : Option Nat} {ti : TI} {x : SV} {r : Res} (h : evLoad T G d ti x = some r) : NewOk G d r.wr := by
  unfold evLoad at h
  split at h
  · split at h
    · split at h <;> cases h; exact .nil
    · split at h
      · exact evRow_new h
      · split at h
        · split at h
          · split at h <;> cases h; exact .nil
          · cases h
        · cases h
    · cases h
  · cases h
theorem evStore_new {T : List (Nat × TI)} {d : Option Nat} {ti : TI} {x v : SV} {r : Res} (h : evStore T G ti x v = some r) : NewOk G d r.wr := by
  unfold evStore at h
  split at h
  · split at h
    · rename_i hG
      split at h
      · split at h <;> cases h; exact old1_new (by rw [hG]; simp)
      · cases h
    · rename_i hG
      split at h
      · split at h
        · split at h <;> cases h; exact old1_new (by rw [hG]; simp)
        · cases h
      · split at h
        · split at h
          · split at h <;> cases h; exact old1_new (by rw [hG]; simp)
          · cases h
        · cases h
    · cases h
  · cases h
theorem arith_wr {wr : Bool} {k : IntKind} {n : Int} : (arith wr k n).wr = [] := by unfold arith; split <;> rfl
theorem binI_wr {wr : Bool} {op : BinOp} {k : IntKind} {a b : Int} {r : Res} (h : binI wr op k a b = some r) : r.wr = [] := by
  unfold binI at h
  split at h <;> first
    | (cases h; done)
    | (cases h; exact arith_wr)
    | (cases h; rfl)
    | (split at h <;> cases h <;> rfl)
theorem shiftI_wr {op : BinOp} {k : IntKind} {a b : Int} {r : Res} (h : shiftI op k a b = some r) : r.wr = [] := by
  unfold shiftI at h
  split at h <;> first | (cases h; done) | (cases h; rfl)
theorem binS_wr {op : BinOp} {a b : ByteArray} {r : Res} (h : binS op a b = some r) : r.wr = [] := by
  unfold binS at h
  split at h <;> first | (cases h; done) | (cases h; rfl)
theorem evBin_wr {T : List (Nat × TI)} {wr : Bool} {op : BinOp} {t : Nat} {x y : SV} {r : Res} (h : evBin T wr op t x y = some r) : r.wr = [] := by
  unfold evBin at h
  split at h
  · split at h
    · split at h
      · rename_i h1; cases h; exact binI_wr h1
      · exact shiftI_wr h
    · exact shiftI_wr h
  · split at h
    · exact binS_wr h
    · cases h
  all_goals try (
    split at h
    · split at h <;> cases h <;> rfl
    · cases h)
  all_goals try (
    split at h
    · split at h
      · split at h <;> cases h <;> rfl
      · cases h
    · cases h)
  all_goals cases h
theorem evBuiltin_new {T : List (Nat × TI)} {d : Option Nat} {b : Builtin} {tys : List Nat} {args : List SV} {r : Res} (h : evBuiltin T G d b tys args = some r) : NewOk G d r.wr := by
  unfold evBuiltin at h
  split at h
  · split at h <;> first | (cases h; done) | (cases h; exact .nil) | (split at h <;> cases h; exact .nil)
  · split at h <;> cases h; exact .nil
  · split at h <;> cases h; exact .nil
  · split at h
    · split at h
      · split at h
        · split at h
          · cases h
          · split at h
            · exact newAt_new h
            · split at h
              · rename_i hGl
                split at h
                · cases h
                  intro l hs hl hn
                  rw [upds_two] at hn
                  refine Classical.byContradiction fun hne => ?_
                  rw [upds_one_other _ _ (fun e => hne (by rw [e]))] at hn
                  rw [upds_eq] at hn
                  unfold hget at hn
                  split at hn
                  · rename_i hb
                    split at hb
                    · rename_i hk
                      rw [Nat.eq_of_beq_eq_true hk, hl] at hGl
                      cases hGl
                    · cases hb
                  · exact hn hl
                · cases h
              · cases h
            · cases h
        · cases h
      · cases h
    · cases h
  · cases h
theorem ev_new {T : List (Nat × TI)} {wraps : List Nat} {o : Oper} {r : Res} (h : ev T wraps F G o = some r) : NewOk G o.dst r.wr := by
  have triv : r.wr = [] → NewOk G o.dst r.wr := fun e => by rw [e]; exact .nil
  obtain ⟨dst, op, ty, pos, af, gd⟩ := o
  unfold ev at h
  cases op <;> simp only [] at h <;> try cases h
  case alloc t =>
    split at h
    · split at h
      · split at h
        · split at h
          · exact newAt_new h
          · cases h
        · cases h
      · exact newAt_new h
    · cases h
  case box t x =>
    split at h
    · split at h
      · exact newAt_new h
      · cases h
    · split at h
      · exact newAt_new h
      · cases h
  case buildSlice t n ps =>
    split at h
    · split at h
      · split at h
        · split at h
          · split at h
            · exact newAt_new h
            · cases h
          · cases h
        · cases h
      · cases h
    · cases h
  case makeSlice t x y =>
    split at h
    · split at h
      · split at h
        · exact newAt_new h
        · cases h
      · cases h
    · cases h
  case store t x v =>
    split at h
    · exact evStore_new h
    · cases h
  case load t x =>
    split at h
    · exact evLoad_new h
    · cases h
  case binOp op t x y u => exact triv (evBin_wr h)
  case unOp op t x =>
    refine triv ?_
    split at h <;> cases h <;> first | rfl | exact arith_wr
  case convert s t x =>
    refine triv ?_
    split at h <;> cases h
    exact arith_wr
  case call cl =>
    obtain ⟨callee, args, tys⟩ := cl
    cases callee <;> simp only [] at h <;> try cases h
    exact evBuiltin_new h
  case makeFunc fn first captured =>
    refine triv ?_
    cases fn <;> simp only [] at h <;> first | (cases h; rfl) | (repeat' (first | (cases h; rfl) | (cases h; done) | split at h))
  case makeMap t n =>
    split at h
    · split at h
      · split at h
        · exact newAt_new h
        · cases h
      · cases h
    · cases h
  case index t x i =>
    split at h
    · cases h; exact .nil
    · split at h
      · split at h
        · exact evRow_new h
        · cases h
      · cases h
    · cases h
  case lookup t x i cm =>
    split at h
    · split at h
      · rename_i d he
        split at h
        · split at h
          · rename_i h1 h2 h3
            have := evRow_new h3
            split at h <;> cases h <;> exact this
          · cases h
        · cases h
      · cases h
    · cases h
  case mapUpdate t x i v =>
    split at h
    · split at h
      · rename_i hG
        split at h <;> cases h
        exact old1_new (by rw [hG]; simp)
      · cases h
    · cases h
  all_goals (
    refine triv ?_
    first
      | rfl
      | (repeat' (first | (cases h; rfl) | (cases h; done) | split at h)))

theorem fzW_get {ls : List Nat} {l : Nat} {b : Blk} (h : hget (fzW G ls) l = some b) : ∃ ks n f, b = .rows .fz ks n f ∧ G l = some (.rows .own ks n f) := by
  induction ls with
  | nil => cases h
  | cons x r ih =>
    unfold fzW at h
    split at h
    · rename_i ks n f hG
      unfold hget at h
      split at h
      · rename_i hk
        cases h
        rw [← Nat.eq_of_beq_eq_true hk]
        exact ⟨ks, n, f, rfl, hG⟩
      · exact ih h
    · exact ih h
theorem fzW_keys {ls : List Nat} {l : Nat} (h : l ∈ keys (fzW G ls)) : G l ≠ none := by
  have := hget_not_none h
  cases hb : hget (fzW G ls) l with
  | none => exact absurd hb this
  | some b => obtain ⟨ks, n, f, _, e⟩ := fzW_get hb; rw [e]; simp
theorem upds_app (wr hp : List (Nat × Blk)) : upds G (wr ++ hp) = upds (upds G hp) wr := by
  funext l
  rw [upds_eq, hget_append, upds_eq, upds_eq, upds_eq]
  cases hget wr l <;> rfl
/-- Everything of our own on the list is frozen. -/
theorem frozenL (H : HSat ρ G w) (M : MutIn E A ρi w0.heap.size ρ G) : ∀ ls : List Nat,
    ∃ ρ', HSat ρ' (upds G (fzW G ls)) w ∧ MutIn E A ρi w0.heap.size ρ' (upds G (fzW G ls)) ∧ (∀ x, ρ' x = ρ x) ∧ ZLe ρ ρ'
  | [] => ⟨ρ, H, M, fun _ => rfl, ZLe.refl _⟩
  | l :: ls => by
    obtain ⟨ρ1, h1, h2, h3, h4⟩ := frozenL H M ls
    unfold fzW
    split
    · rename_i ks n f hG
      have e : upds G ((l, .rows .fz ks n f) :: fzW G ls) = upds (upds G (fzW G ls)) [(l, .rows .fz ks n f)] := upds_app [(l, .rows .fz ks n f)] _
      rw [e]
      cases hb : hget (fzW G ls) l with
      | none =>
        have : upds G (fzW G ls) l = some (.rows .own ks n f) := by rw [upds_eq, hb]; exact hG
        obtain ⟨ρ2, g1, g2, g3, g4⟩ := frozen h1 h2 this
        exact ⟨ρ2, g1, g2, fun x => (g3 x).trans (h3 x), h4.trans g4⟩
      | some b =>
        obtain ⟨ks', n', f', rfl, hG'⟩ := fzW_get hb
        rw [hG] at hG'
        cases hG'
        have : upds (upds G (fzW G ls)) [(l, .rows .fz ks n f)] = upds G (fzW G ls) := by
          funext y
          by_cases e : l = y
          · subst e; rw [upds_one_same, upds_eq, hb]
          · rw [upds_one_other _ _ e]
        rw [this]
        exact ⟨ρ1, h1, h2, h3, h4⟩
    · exact ⟨ρ1, h1, h2, h3, h4⟩
theorem St.froze (S : St ρi E A w0 ρ F G a w) (ls : List Nat) : ∃ ρ', St ρi E A w0 ρ' F (upds G (fzW G ls)) a w ∧ (∀ x, ρ' x = ρ x) ∧ ZLe ρ ρ' := by
  obtain ⟨ρ1, h1, h2, h3, h4⟩ := frozenL S.heap S.mutin ls
  refine ⟨ρ1, ⟨h1, fun t => Den.congr h4 _ _ (fun l _ => (h3 l).symm) (S.fr t), fun t l hl => upd_labs (S.scp t l hl), S.keep, h2, fun l hl hn => ?_⟩, h3, h4⟩
  rw [h3]
  refine S.stab l hl fun hG => hn ?_
  rw [upds_eq]
  cases hb : hget (fzW G ls) l with
  | none => exact hG
  | some b => exact absurd hG (fzW_keys (hget_some_mem (by rw [hb]; simp)))
theorem evZ_sound {T : List (Nat × TI)} (hT : TOk P T) (S : St ρi E A w0 ρ F G a w) {wraps : List Nat} {o : Oper} {r : Res} (hr : evZ T wraps F G o = some r) (hp : r.Pre) :
    Left P ρi E A w0 ρ G a w o r.v r.wr := by
  unfold evZ at hr
  split at hr
  · exact ev_sound hT S hr hp
  · rename_i l ls hfz
    obtain ⟨ρ1, S1, h3, h4⟩ := S.froze (l :: ls)
    unfold evW at hr
    split at hr
    · rename_i r' hr'
      cases hr
      obtain ⟨nx, w', ρ', k1, k2, k3, k4, k5, k6, k7, k8⟩ := ev_sound hT S1 hr' hp
      have e : upds G (appH r'.wr (fzW G (l :: ls))) = upds (upds G (fzW G (l :: ls))) r'.wr := by rw [appH_eq]; exact upds_app _ _
      refine ⟨nx, w', ρ', k1, k2, ?_, k4, ?_, fun l hl => (k6 l (upd_labs hl)).trans (h3 l), h4.trans k7, ?_⟩
      · show HSat ρ' (upds G (appH _ _)) w'
        rw [e]; exact k3
      · show MutIn E A ρi w0.heap.size ρ' (upds G (appH _ _))
        rw [e]; exact k5
      · show ∀ l ∈ r'.v.labs, upds G (appH _ _) l ≠ none
        rw [e]; exact k8
    · cases hr
theorem evZ_new {T : List (Nat × TI)} {wraps : List Nat} {o : Oper} {r : Res} (h : evZ T wraps F G o = some r) : NewOk G o.dst r.wr := by
  unfold evZ at h
  split at h
  · exact ev_new h
  · rename_i l ls hfz
    unfold evW at h
    split at h
    · rename_i r' hr'
      cases h
      intro y hs hy hn
      have e : upds G (appH r'.wr (fzW G (l :: ls))) = upds (upds G (fzW G (l :: ls))) r'.wr := by rw [appH_eq]; exact upds_app _ _
      rw [show upds G (appH r'.wr (fzW G (l :: ls))) = _ from e] at hn
      refine ev_new hr' y hs ?_ hn
      rw [upds_eq]
      cases hb : hget (fzW G (l :: ls)) y with
      | none => exact hy
      | some b => exact absurd hy (fzW_keys (hget_some_mem (by rw [hb]; simp)))
    · cases h

theorem call_new {g : Nat} {ct : CT} (good : Good P g ct) {args : List SV} {x : ct.X} {m : Nat → Nat} (h4 : callSt ct G x m = true) (h5 : CallOk ct args G x m) :
    ∀ l, 100000 ≤ l → G l = none → upds G (appH (renH m (ct.g1 x)) (absL G m (ct.g0 x))) l = none := by
  intro l hl hG
  have C := ctSt_spec (good x h5.pre).1
  have hsm : smallLs G m (keys (ct.g0 x) ++ newLs (keys (ct.g0 x)) (keys (ct.g1 x))) = true := by
    unfold callSt at h4
    split at h4
    · rename_i h1 h2 h3 h4
      rw [apL_eq] at h3
      exact h3
    · cases h4
  have hno : ∀ y ∈ keys (ct.g0 x) ++ newLs (keys (ct.g0 x)) (keys (ct.g1 x)), m y ≠ l := by
    intro y hy e
    have := smallLs_spec hsm y hy (by rw [e]; exact hG)
    omega
  rw [appH_eq, upds_eq, hget_append, upds_eq]
  have h1 : hget (renH m (ct.g1 x)) l = none := by
    rw [hget_none_iff, keys_renH, mapN_eq]
    intro h
    obtain ⟨y, hy, e⟩ := List.mem_map.1 h
    refine hno y ?_ e
    by_cases h0 : y ∈ keys (ct.g0 x)
    · exact List.mem_append.2 (.inl h0)
    · exact List.mem_append.2 (.inr ((newLs_mem _ _).2 ⟨hy, h0⟩))
  have h2 : hget (absL G m (ct.g0 x)) l = none := by
    cases hq : hget (absL G m (ct.g0 x)) l with
    | none => rfl
    | some b =>
      obtain ⟨y, b', q1, q2, _⟩ := absL_spec (hget_mem hq)
      exact absurd q2 (hno y (List.mem_append.2 (.inl (by rw [keys_eq]; exact List.mem_map.2 ⟨_, q1, rfl⟩))))
  rw [h1, h2]
  exact hG

theorem Ev.wp (hT : TOk P c.T) (hC : ConOk P c) {o : Oper} {v : SV} {wr : List (Nat × Blk)} {fp : FP} (e : Ev c o F G v wr fp) (S : St ρi E A w0 ρ F G a w) (hd : ∀ d, o.dst = some d → d < a.tmps.size) (hN : a.tmps.size ≤ 100000)
    (hK : ∀ u w' ρ', St ρi E A w0 ρ' (updO F o.dst v) (upds G wr) (a.put o.dst u) w' → K (a.put o.dst u) w') : o.wp P a w K Q := by
  cases e with
  | plain r h1 h2 =>
    refine Left.wp S hd (evZ_sound hT S h1 h2) (fun l hl hG => ?_) hK
    cases hu : upds G r.wr l with
    | none => rfl
    | some b =>
      have h9 : l < a.tmps.size := hd l (evZ_new h1 l hl hG (by rw [hu]; simp))
      exact absurd (Nat.lt_of_lt_of_le h9 hN) (by omega)
  | pick t h =>
    rename_i dst ty pos af gd x y z
    refine Left.wp (wr := []) S hd ?_ (fun l _ h => h) hK
    have hx := oa_den S.fr x
    have hx' : a.eval x = .bool t := by
      rcases h with h | h <;> (rw [h] at hx; simpa [Den] using hx)
    refine Left.pure S (u := if t then a.eval y else a.eval z) ?_ ?_ ?_
    · simp only [execOp, hx', asBool, Sem.run_bind, Sem.run_pure, Result.andThen_ok]
    · cases t
      · exact oa_den S.fr z
      · exact oa_den S.fr y
    · cases t
      · exact oa_scp S.scp z
      · exact oa_scp S.scp y
  | call ct x m d h1 h2 h3 h4 h5 =>
    rename_i dst ty pos af gd f args tys g caps
    obtain ⟨good, fn, hf1, hf2, hf3⟩ := hC g ct h2
    have hfv := oa_den S.fr f
    have hfl := oa_scp S.scp f
    rw [h1] at hfv hfl
    simp only [Den] at hfv
    obtain ⟨vs, hv, hvs⟩ := hfv
    have hargs : DenL ρ (args.toList.map (oa F) ++ caps) (args.toList.map a.eval ++ vs.toList) := DenL_append (map_den S.fr args.toList) hvs
    have hcall := call_sound (P := P) S.heap S.keep S.mutin good hargs h4 h5
    unfold Oper.wp
    have hrun : (execOp a.eval ⟨dst, .call ⟨.value f, args, tys⟩, ty, pos, af, gd⟩).run P w = .ok (.enter g (args.toList.map a.eval ++ vs.toList).toArray) w := by
      have : (args.toList.map a.eval ++ vs.toList).toArray = args.map a.eval ++ vs := by
        apply Array.ext'; simp
      rw [this]
      have hf2' : ¬ fn.name = "runtime.NumGoroutine" := by simpa using hf2
      have hf3' : ¬ fn.body = none := by intro h; rw [h] at hf3; cases hf3
      simp [execOp, resolve, Deferred.ofValue, hv, invoke, callFunc, program, Sem.run, hf1, hf2', hf3']
    rw [hrun]
    show Calls P g _ w _
    refine hcall.mono ?_
    rintro e w' ⟨u, ρ', rfl, g1, g2, g3, g4, g5, g5z, g6⟩
    exact hK u w' ρ' (S.next hd g1 g2 g3 g4 g5 g5z g6 (call_new good h4 h5))

theorem wanted_of (S : St ρi E A w0 ρ F G a w) {ops : Array Oper} (hall : all = ops.toList) {o : Oper} {j s : Nat} {want t : Bool} (hg : o.guard = some (j, want)) (hs : slotOf all j = some s) (ht : F s = .b t ∨ F s = .bt t) :
    Region.wanted o (yielded ops a.tmps) = (t == want) := by
  have hF := S.fr s
  have hb : a.tmps.getD s undef = .bool t := by
    rcases ht with ht | ht <;> (rw [ht] at hF; simpa [Den] using hF)
  have hb' : a.tmps[s]? = some (.bool t) := by
    rw [Array.getD_eq_getD_getElem?] at hb
    cases h : a.tmps[s]? with
    | none => rw [h] at hb; simp [undef] at hb
    | some v => rw [h] at hb; simpa using hb
  have hd : (ops[j]?).bind (·.dst) = some s := by
    unfold slotOf at hs
    rw [nthO_eq, hall] at hs
    cases h : ops.toList[j]? with
    | none => rw [h] at hs; cases hs
    | some q =>
      rw [h] at hs
      have : ops[j]? = some q := by simpa using h
      rw [this]; exact hs
  unfold Region.wanted
  rw [hg]
  simp only [yielded, hd, Option.bind_some, hb']
  cases t <;> cases want <;> rfl

/-- One operation with its guard. -/
theorem Ev1.wp (hT : TOk P c.T) (hC : ConOk P c) {ops : Array Oper} (hall : all = ops.toList) {o : Oper} {v : SV} {wr : List (Nat × Blk)} {fp : FP} (e : Ev1 c all o F G v wr fp) (S : St ρi E A w0 ρ F G a w)
    (hd : ∀ d, o.dst = some d → d < a.tmps.size) (hN : a.tmps.size ≤ 100000) (hK : ∀ u w' ρ', St ρi E A w0 ρ' (updO F o.dst v) (upds G wr) (a.put o.dst u) w' → K (a.put o.dst u) w') :
    if Region.wanted o (yielded ops a.tmps) then o.wp P a w K Q else K (a.put o.dst undef) w := by
  cases e with
  | go h e =>
    rw [if_pos (by simp [Region.wanted, h])]
    exact e.wp hT hC S hd hN hK
  | yes j want s h hs ht e =>
    rw [wanted_of S hall h hs ht, if_pos (by simp)]
    exact e.wp hT hC S hd hN hK
  | no j want s h hs ht =>
    rw [wanted_of S hall h hs ht, if_neg (by cases want <;> simp)]
    exact hK undef w ρ (S.next hd (by simp [Den]) S.heap S.keep S.mutin (fun _ _ => rfl) (ZLe.refl _) (by simp [SV.labs]) (fun _ _ h => h))

/-- A region without a draw. -/
theorem chain_wp (hT : TOk P c.T) (hC : ConOk P c) {ops : Array Oper} (hall : all = ops.toList) : ∀ {l : List (Oper × FP)} {F : Fr} {G : Hp} {F' : Fr} {G' : Hp} {ρ : Env} {a : Act} {w : World}, Chain c all l F G F' G' →
    (∀ o ∈ l, ∀ d, o.1.dst = some d → d < a.tmps.size) → a.tmps.size ≤ 100000 → St ρi E A w0 ρ F G a w → (∀ a' w' ρ', a'.tmps.size = a.tmps.size → a'.defers = a.defers → St ρi E A w0 ρ' F' G' a' w' → Q .normal a' w') → wpList P ops Q (l.map (·.1)) a w
  | [], F, G, F', G', ρ, a, w, ch, _, _, S, hQ => by
    cases ch
    exact hQ a w ρ rfl rfl S
  | (o, fp) :: l, F, G, F', G', ρ, a, w, ch, hd, hN, S, hQ => by
    cases ch with
    | cons v wr e t =>
      rw [List.map_cons]
      refine wpList_step fun K hK => ?_
      refine e.wp hT hC hall S (hd (o, fp) (by simp)) hN fun u w' ρ' S' => hK _ _ ?_
      have hsz := put_size a o.dst u
      refine chain_wp hT hC hall t (fun q hq d hqd => by rw [hsz]; exact hd q (by simp [hq]) d hqd) (by rw [hsz]; exact hN) S' fun a' w'' ρ'' h1 h2 h3 => hQ a' w'' ρ'' (h1.trans hsz) (h2.trans ?_) h3
      cases o.dst <;> rfl
end
end Go.Sym
