/- The engine of the proof: a symbolic walk over the model's code, and that it is sound; no statement of any program stands here. -/
import Derived.Test.YtmomlgnnbpkgcaaXC
namespace Go.Sym
set_option linter.unusedVariables false
set_option linter.unusedSimpArgs false
section
variable {P : Program} {c : Cfg} {F F' : Fr} {G G' : Hp}
theorem newAt_local {d : Option Nat} {b : Blk} {v : Nat -> SV} {rd : List Nat} {pre : Option Prop} {r : Res} (h : newAt G d b v rd pre = some r) (hG : ∀ l ∈ r.rd, G l = G' l) : newAt G' d b v rd pre = some r := by
 obtain ⟨d', rfl, hd, rfl⟩ := newAt_spec h
 have : G' d' = none := by rw [<- hG d' (by simp)]; exact hd
 simp [newAt, this]
theorem toD_local {k : Kd} {x : SV} (hG : ∀ l ∈ x.labs, G l = G' l) : toD G k x = toD G' k x := by
 cases k <;> cases x <;> simp only [toD] <;> rw [hG _ (by simp [SV.labs])]
theorem toDs_local : ∀ {ks : List Kd} {cs : List SV}, (∀ l ∈ labsL cs, G l = G' l) -> toDs G ks cs = toDs G' ks cs
 | [], [], _ => rfl
 | [], _ :: _, _ => rfl
 | _ :: _, [], _ => rfl
 | k :: ks, c :: cs, h => by
  simp only [toDs]
  rw [toD_local (fun l hl => h l (by simp [labsL, hl])), toDs_local (fun l hl => h l (by simp [labsL, hl]))]
theorem rowsOf_heap {ks : List Kd} : ∀ (ps : List (Nat × Operand)) (k : Nat), (∀ l ∈ labsO F ps, G l = G' l) -> rowsOf G ks F ps k = rowsOf G' ks F ps k
 | [], k, _ => rfl
 | (i, x) :: ps, k, h => by
  unfold rowsOf
  rw [rowsOf_heap ps (k + 1) (fun l hl => h l (by simp [labsO, hl]))]
  cases hc : (oa F x).cells with
  | none => cases Nat.beq i k <;> rfl
  | some cs =>
   have e := toDs_local (G := G) (G' := G') (ks := ks) (cs := cs) (fun l hl => h l (by rw [cells_labs hc] at hl; simp [labsO, hl]))
   cases Nat.beq i k
   ·rfl
   ·dsimp only; rw [e]
theorem newOk_local : ∀ {wr : List (Nat × Blk)}, (∀ l ∈ keysB wr, G l = G' l) -> newOk G wr = newOk G' wr
 | [], _ => rfl
 | (l, b) :: r, h => by
  unfold newOk
  rw [h l (by simp [keysB]), newOk_local (fun l hl => h l (by simp [keysB, hl]))]
theorem evRow_local {d : Option Nat} {ti : TI} {ks : List Kd} {g : Nat -> D} {c : Nat} {rd : List Nat} {pre : Option Prop} {r : Res} (h : evRow G d ti ks g c rd pre = some r) (hG : ∀ l ∈ r.rd, G l = G' l) : evRow G' d ti ks g c rd pre = some r := by
 unfold evRow at h ⊢
 cases d with
 | none => cases h
 | some d =>
  simp only at h ⊢
  split at h
  ·rename_i h1 h2 h3
   cases h
   rw [newOk_local (G' := G') (fun l hl => hG l (by simp [hl]))] at h2
   rw [h1, h2, h3]
  ·cases h
theorem evRow_rd {d : Option Nat} {ti : TI} {ks : List Kd} {g : Nat -> D} {c : Nat} {rd : List Nat} {pre : Option Prop} {r : Res} (h : evRow G d ti ks g c rd pre = some r) : ∀ l ∈ rd, l ∈ r.rd := by
 unfold evRow at h
 split at h
 ·split at h <;> cases h
  intro l hl
  simp [hl]
 ·cases h
theorem evLoad_local {T : List (Nat × TI)} {d : Option Nat} {ti : TI} {x : SV} {r : Res} (h : evLoad T G d ti x = some r) (hG : ∀ l ∈ r.rd, G l = G' l) : evLoad T G' d ti x = some r := by
 unfold evLoad at h
 split at h
 ·rename_i l rr cc
  have key : l ∈ r.rd := by
   split at h
   ·split at h
    ·cases h; simp
    ·cases h
   ·split at h
    ·exact evRow_rd h l (by simp)
    ·split at h
     ·split at h
      ·split at h <;> cases h; simp
      ·cases h
     ·cases h
   ·cases h
  have e := hG l key
  unfold evLoad
  dsimp only
  rw [<- e]
  split at h
  ·exact h
  ·split at h
   ·rename_i hl
    exact evRow_local h hG
   ·exact h
  ·cases h
 ·cases h
theorem evStore_local {T : List (Nat × TI)} {ti : TI} {x v : SV} {r : Res} (h : evStore T G ti x v = some r) (hG : ∀ l ∈ r.rd, G l = G' l) : evStore T G' ti x v = some r := by
 unfold evStore at h
 split at h
 ·rename_i l rr cc
  have key : l ∈ r.rd := by
   split at h
   ·split at h
    ·split at h <;> cases h; simp
    ·cases h
   ·split at h
    ·split at h
     ·split at h <;> cases h; simp
     ·cases h
    ·split at h
     ·split at h
      ·split at h <;> cases h; simp
      ·cases h
     ·cases h
   ·cases h
  have e := hG l key
  unfold evStore
  dsimp only
  rw [<- e]
  split at h
  ·exact h
  ·split at h
   ·rename_i hl
    split at h
    ·rename_i vs hvs
     split at h
     ·rename_i h1 h2 h3
      cases h
      rw [<- toDs_local (G := G) (G' := G') (fun l hl => hG l (by simp [hl])), h3]
      simp only [h1, h2]
     ·cases h
    ·cases h
   ·exact h
  ·cases h
 ·cases h
theorem appSrc_local {ks : List Kd} {y : SV} {rd : List Nat} {lo m n : Nat} {g : Nat -> Nat -> D} (h : appSrc G ks y = some (rd, lo, m, n, g)) (hG : ∀ l ∈ rd, G l = G' l) : appSrc G' ks y = some (rd, lo, m, n, g) := by
 unfold appSrc at h
 split at h
 ·rename_i l a b
  have key : rd = [l] := by
   split at h
   ·split at h
    ·cases h; rfl
    ·cases h
   ·cases h
  have e := hG l (by rw [key]; simp)
  unfold appSrc
  dsimp only
  rw [<- e]
  exact h
 ·exact h
 ·cases h
theorem append_local {T : List (Nat × TI)} {d : Option Nat} {t t2 : Nat} {x y : SV} {r : Res} (h : evBuiltin T G d .append [t, t2] [x, y] = some r) (hG : ∀ l ∈ r.rd, G l = G' l) :
  evBuiltin T G' d .append [t, t2] [x, y] = some r := by
 simp only [evBuiltin] at h ⊢
 split at h
 ·rename_i e s1 s2 s3 e2 q1 q2 q3 hT1 hT2
  split at h
  ·rename_i ti hTe
   split at h
   ·rename_i ks hks hby hsz
    split at h
    ·cases h
    ·rename_i rd lo2 m n2 g hsrc
     split at h
     ·have hn := newAt_local h hG
      obtain ⟨d', _, _, rfl⟩ := newAt_spec h
      have hs := appSrc_local (G' := G') hsrc (fun l hl => hG l (by simp [hl]))
      simp only [hs]
      exact hn
     ·rename_i l lo n
      split at h
      ·rename_i ks' n' f d' hGl
       split at h
       ·rename_i hsame hGd
        cases h
        have hs := appSrc_local (G' := G') hsrc (fun l hl => hG l (by simp [hl]))
        have e1 : G' l = some (.rows .own ks' n' f) := by rw [<- hG l (by simp)]; exact hGl
        have e2 : G' d' = none := by rw [<- hG d' (by simp)]; exact hGd
        simp only [hs, e1, hsame, e2]
       ·cases h
      ·cases h
     ·cases h
   ·cases h
  ·cases h
 ·cases h
theorem delete_local {T : List (Nat × TI)} {d : Option Nat} {tl : List Nat} {al : List SV} {r : Res} (h : evBuiltin T G d .delete tl al = some r) (hG : ∀ l ∈ r.rd, G l = G' l) : evBuiltin T G' d .delete tl al = some r := by
 rcases tl with _ | ⟨t, tl⟩ <;> rcases al with _ | ⟨x, _ | ⟨y, _ | ⟨z, al⟩⟩⟩ <;> try (simp only [evBuiltin] at h; cases h; done)
 cases x <;> cases y <;> try (simp only [evBuiltin] at h; cases h; done)
 simp only [evBuiltin] at h ⊢
 split at h
 ·rename_i k e s1 s2 s3 kk' ks agg keys f hti hGl
  split at h
  ·rename_i hs
   cases h
   rw [<- hG _ (by simp), hGl]
   simp only [hti, hs]
  ·cases h
 ·cases h
theorem len_local {T : List (Nat × TI)} {d : Option Nat} {tl : List Nat} {al : List SV} {r : Res} (h : evBuiltin T G d .len tl al = some r) (hG : ∀ l ∈ r.rd, G l = G' l) : evBuiltin T G' d .len tl al = some r := by
 rcases tl with _ | ⟨t, tl⟩ <;> rcases al with _ | ⟨x, _ | ⟨y, al⟩⟩ <;> simp only [evBuiltin] at h ⊢ <;> try cases h
 split at h <;> first | (cases h; done) | skip
 case h_5 =>
  rename_i k v s1 s2 s3 l hT
  have key : l ∈ r.rd := by
   split at h <;> cases h
   simp
  rw [<- hG l key]
  exact h
 all_goals exact h
theorem ev_heap {T : List (Nat × TI)} {wraps : List Nat} {o : Oper} {r : Res} (h : ev T wraps F G o = some r) (hG : ∀ l ∈ r.rd, G l = G' l) : ev T wraps F G' o = some r := by
 obtain ⟨dst, op, ty, pos, af, gd⟩ := o
 unfold ev at h ⊢
 cases op <;> simp only [] at h ⊢ <;> try exact h
 case alloc t =>
  split at h
  ·split at h
   ·split at h
    ·split at h
     ·exact newAt_local h hG
     ·cases h
    ·cases h
   ·exact newAt_local h hG
  ·cases h
 case box t x =>
  split at h
  ·split at h
   ·exact newAt_local h hG
   ·cases h
  ·split at h
   ·exact newAt_local h hG
   ·cases h
 case buildSlice t n ps =>
  split at h
  ·split at h
   ·split at h
    ·split at h
     ·rename_i h1 h2 h3
      split at h
      ·rename_i h4
       have hn := newAt_local h hG
       obtain ⟨d', _, _, rfl⟩ := newAt_spec h
       rw [rowsOf_heap (G := G) (G' := G') _ _ (fun l hl => hG l (by simp [hl]))] at h1
       simp only [h1, h2, h3, h4]
       exact hn
      ·cases h
     ·cases h
    ·cases h
   ·cases h
  ·cases h
 case build t ps =>
  split at h
  ·exact h
  ·split at h
   ·split at h
    ·split at h
     ·exact h
     ·split at h
      ·rename_i h1
       split at h
       ·rename_i h2
        cases h
        rw [rowsOf_heap (G := G) (G' := G') _ _ (fun l hl => hG l (by simpa using hl))] at h1
        simp only [h1, h2]
       ·cases h
      ·cases h
    ·cases h
   ·cases h
  ·cases h
 case load t x =>
  split at h
  ·exact evLoad_local h hG
  ·cases h
 case store t x v =>
  split at h
  ·exact evStore_local h hG
  ·cases h
 case indexAddr t x i =>
  split at h
  ·rename_i e s1 s2 s3 l lo len k n hti hx hi
   have key : r.rd = [l] := by
    split at h
    ·split at h
     ·cases h; rfl
     ·cases h
    ·cases h
   have e1 := hG l (by rw [key]; simp)
   simp only [<- e1]
   exact h
  ·rename_i m e s1 s2 s3 l rr c k n hti hx hi
   have key : r.rd = [l] := by
    split at h
    ·split at h
     ·cases h; rfl
     ·cases h
    ·cases h
   have e1 := hG l (by rw [key]; simp)
   simp only [<- e1]
   exact h
  ·cases h
 case index t x i =>
  split at h
  ·exact h
  ·split at h
   ·split at h
    ·exact evRow_local h hG
    ·cases h
   ·cases h
  ·cases h
 case makeSlice t x y =>
  split at h
  ·split at h
   ·split at h
    ·exact newAt_local h hG
    ·cases h
   ·cases h
  ·cases h
 case slice t x lo hi mx =>
  split at h
  ·split at h
   ·rename_i l a len hx
    have key : r.rd = [l] := by
     split at h
     ·split at h
      ·cases h; rfl
      ·cases h
     ·cases h
    have e1 := hG l (by rw [key]; simp)
    simp only [<- e1]
    exact h
   ·cases h
  ·exact h
  ·cases h
 case makeFunc fn first caps => cases fn <;> exact h
 case makeMap t n =>
  split at h
  ·split at h
   ·split at h
    ·exact newAt_local h hG
    ·cases h
   ·cases h
  ·cases h
 case lookup t x i cm =>
  split at h
  ·rename_i k e s1 s2 s3 l kk n hT hx hi
   split at h
   ·rename_i ti kk' ks agg keys f d hTe hGl
    split at h
    ·rename_i ks' hs hk
     split at h
     ·rename_i r1 h1 h2 h3
      have hrd : r.rd = r1.rd := by split at h <;> cases h <;> rfl
      have key : l ∈ r.rd := by rw [hrd]; exact evRow_rd h3 l (by simp)
      rw [hG l key] at hGl
      have h3' := evRow_local h3 (fun y hy => hG y (by rw [hrd]; exact hy))
      simp only [hTe, hGl, hs, hk, h1, h2, h3']
      exact h
     ·cases h
    ·cases h
   ·cases h
  ·cases h
 case mapUpdate t x i v =>
  split at h
  ·rename_i k e s1 s2 s3 l kk n vs hT hx hi hv
   split at h
   ·rename_i ti kk' ks agg keys f hTe hGl
    split at h
    ·rename_i ds ps h1 h2 h3 h4 h5
     cases h
     rw [hG l (by simp)] at hGl
     rw [toDs_local (G := G) (G' := G') (fun y hy => hG y (by simp [hy]))] at h4
     simp only [hTe, hGl, h1, h2, h3, h4, h5]
    ·cases h
   ·cases h
  ·cases h
 case call cl =>
  obtain ⟨callee, args, tys⟩ := cl
  cases callee <;> simp only [] at h ⊢ <;> try exact h
  rename_i b
  generalize htl : tys.toList = tl at h ⊢
  generalize hal : args.toList.map (oa F) = al at h ⊢
  cases b <;> first | (unfold evBuiltin at h ⊢; exact h) | skip
  case builtin.len => exact len_local h hG
  case builtin.delete => exact delete_local h hG
  case builtin.min => rcases al with _ | ⟨x, al⟩ <;> first | exact h | (cases x <;> exact h)
  case builtin.max => rcases al with _ | ⟨x, al⟩ <;> first | exact h | (cases x <;> exact h)
  -- append
  match tl, al with
  | [t, t2], [x, y] => exact append_local h hG
  | [], _ => simp [evBuiltin] at h
  | [_], _ => simp [evBuiltin] at h
  | _ :: _ :: _ :: _, _ => simp [evBuiltin] at h
  | [_, _], [] => simp [evBuiltin] at h
  | [_, _], [_] => simp [evBuiltin] at h
  | [_, _], _ :: _ :: _ :: _ => simp [evBuiltin] at h
theorem frzL_local : ∀ {ks : List Kd} {vs : List SV}, (∀ l ∈ labsL vs, G l = G' l) -> frzL G ks vs = frzL G' ks vs
 | [], _, _ => by unfold frzL; rfl
 | k :: ks, [], _ => by cases k <;> rfl
 | k :: ks, v :: vs, h => by
  have ih := frzL_local (ks := ks) (vs := vs) (fun l hl => h l (by simp [labsL, hl]))
  have hv : ∀ l ∈ v.labs, frzV G l = frzV G' l := fun l hl => by unfold frzV; rw [h l (by simp [labsL, hl])]
  cases k <;> cases v <;> simp only [frzL] <;> first | exact ih | (rw [ih, hv _ (by simp [SV.labs])])
theorem frzP_heap {ks : List Kd} : ∀ (ps : List (Nat × Operand)), (∀ l ∈ labsO F ps, G l = G' l) -> frzP G ks F ps = frzP G' ks F ps
 | [], _ => rfl
 | (i, x) :: ps, h => by
  unfold frzP
  rw [frzP_heap ps (fun l hl => h l (by simp [labsO, hl]))]
  cases hc : (oa F x).cells with
  | none => rfl
  | some cs => simp only []; rw [frzL_local (fun l hl => h l (by rw [cells_labs hc] at hl; simp [labsO, hl]))]
theorem frzL_sub : ∀ {ks : List Kd} {vs : List SV} {l : Nat}, l ∈ frzL G ks vs -> l ∈ labsL vs
 | [], _, l, h => by unfold frzL at h; cases h
 | k :: ks, [], l, h => by cases k <;> cases h
 | k :: ks, v :: vs, l, h => by
  have ih : l ∈ frzL G ks vs -> l ∈ labsL vs := frzL_sub
  have hv : ∀ l', l ∈ frzV G l' -> l = l' := fun l' hl => by
   unfold frzV at hl
   split at hl
   ·simpa using hl
   ·cases hl
  cases k <;> cases v <;> simp only [frzL, apL_eq, List.mem_append] at h <;> simp only [labsL, List.mem_append, SV.labs] <;> first
   | exact .inr (ih h)
   | (rcases h with h | h <;> first | exact .inr (ih h) | (have := hv _ h; subst this; simp))
theorem frzP_sub {ks : List Kd} {l : Nat} : ∀ {ps : List (Nat × Operand)}, l ∈ frzP G ks F ps -> l ∈ labsO F ps
 | [], h => by cases h
 | (i, x) :: ps, h => by
  unfold frzP at h
  unfold labsO
  split at h
  ·rename_i cs hc
   rw [apL_eq, List.mem_append] at h
   rcases h with h | h
   ·have := frzL_sub h
    rw [cells_labs hc] at this
    simp [this]
   ·simp [frzP_sub h]
  ·simp [frzP_sub h]
theorem frzO_sub {T : List (Nat × TI)} {o : Oper} {l : Nat} (h : l ∈ frzO T F G o) : l ∈ frzR F o := by
 obtain ⟨dst, op, ty, pos, af, gd⟩ := o
 cases op <;> simp only [frzO] at h <;> simp only [frzR]
 case build t ps =>
  split at h
  ·split at h
   ·exact frzP_sub h
   ·cases h
  ·cases h
 case buildSlice t n ps =>
  split at h
  ·split at h
   ·exact frzP_sub h
   ·cases h
  ·cases h
 case store t x v =>
  unfold frzS at h
  split at h
  ·rename_i hT hx hc
   split at h
   ·have := frzL_sub h
    rw [cells_labs hc] at this
    rw [apL_eq]; simp [this]
   ·cases h
  ·cases h
 case mapUpdate t x i v =>
  split at h
  ·rename_i hx hc
   split at h
   ·have := frzL_sub h
    rw [cells_labs hc] at this
    rw [apL_eq]; simp [this]
   ·cases h
  ·cases h
 all_goals cases h
theorem frzS_heap {T : List (Nat × TI)} {t : Nat} {x v : SV} (hx : ∀ l r c, x = .p l r c -> G l = G' l) (hv : ∀ l r c ks n f m, x = .p l r c -> G l = some (.rows m ks n f) -> ∀ l ∈ v.labs, G l = G' l) : frzS T G t x v = frzS T G' t x v := by
 unfold frzS
 split
 ·rename_i ti l rr c vs hT hc
  rw [<- hx l rr c rfl]
  split
  ·rename_i m ks n f hGl
   exact frzL_local (fun y hy => hv l rr c ks n f m rfl hGl y (by rw [cells_labs hc] at hy; exact hy))
  ·rfl
 ·rfl
theorem frzO_heap {T : List (Nat × TI)} {o : Oper} (hG : ∀ l ∈ frzR F o, G l = G' l) : frzO T F G o = frzO T F G' o := by
 obtain ⟨dst, op, ty, pos, af, gd⟩ := o
 cases op <;> simp only [frzO] <;> simp only [frzR] at hG
 case build t ps =>
  split
  ·split
   ·exact frzP_heap _ hG
   ·rfl
  ·rfl
 case buildSlice t n ps =>
  split
  ·split
   ·exact frzP_heap _ hG
   ·rfl
  ·rfl
 case store t x v =>
  rw [apL_eq] at hG
  exact frzS_heap (fun l r c e => hG l (by rw [e]; simp [SV.labs])) (fun _ _ _ _ _ _ _ _ _ l hl => hG l (by simp [hl]))
 case mapUpdate t x i v =>
  rw [apL_eq] at hG
  split
  ·rename_i l vs hx hc
   rw [<- hG l (by rw [hx]; simp [SV.labs])]
   split
   ·exact frzL_local (fun y hy => hG y (by rw [cells_labs hc] at hy; simp [hy]))
   ·rfl
  ·rfl
theorem ev_frzO {T : List (Nat × TI)} {wraps : List Nat} {o : Oper} {r : Res} (h : ev T wraps F G o = some r) (hG : ∀ l ∈ r.rd, G l = G' l) : frzO T F G o = frzO T F G' o := by
 obtain ⟨dst, op, ty, pos, af, gd⟩ := o
 unfold ev at h
 cases op <;> simp only [] at h <;> simp only [frzO]
 case build t ps =>
  split at h
  ·rename_i hT; rw [hT]
  ·rename_i hT
   rw [hT]
   dsimp only
   split
   ·refine frzP_heap _ ?_
    split at h
    ·split at h
     ·split at h
      ·rename_i hps; rw [hps]; simp [labsO]
      ·split at h
       ·split at h <;> cases h
        exact hG
       ·cases h
     ·cases h
    ·cases h
   ·rfl
  ·cases h
 case buildSlice t n ps =>
  split at h
  ·rename_i hT
   rw [hT]
   dsimp only
   split
   ·refine frzP_heap _ ?_
    split at h
    ·split at h
     ·split at h
      ·split at h
       ·obtain ⟨d', _, _, rfl⟩ := newAt_spec h
        exact fun l hl => hG l (by simp [hl])
       ·cases h
      ·cases h
     ·cases h
    ·cases h
   ·rfl
  ·cases h
 case store t x v =>
  split at h
  ·unfold evStore at h
   split at h
   ·rename_i l rr cc hx
    rw [hx]
    refine frzS_heap ?_ ?_
    ·intro l' r' c' e
     cases e
     refine hG l ?_
     split at h
     ·split at h
      ·split at h <;> cases h; simp
      ·cases h
     ·split at h
      ·split at h
       ·split at h <;> cases h; simp
       ·cases h
      ·split at h
       ·split at h
        ·split at h <;> cases h; simp
        ·cases h
       ·cases h
     ·cases h
    ·intro l' r' c' ks' n' f' m' e hGl y hy
     cases e
     split at h
     ·rename_i h1; rw [h1] at hGl; cases hGl
     ·split at h
      ·split at h
       ·rename_i vs hvs
        split at h <;> cases h
        exact hG y (by rw [<- cells_labs hvs] at hy; simp [hy])
       ·cases h
      ·split at h
       ·rename_i hv _; rw [hv] at hy; simp [SV.labs] at hy
       ·cases h
     ·cases h
   ·cases h
  ·cases h
 case mapUpdate t x i v =>
  split at h
  ·rename_i k e s1 s2 s3 l kk n vs hT hx hi hv
   split at h
   ·rename_i ti kk' ks agg keys f hTe hGl
    split at h
    ·cases h
     rw [hx, hv]
     dsimp only
     rw [<- hG l (by simp), hGl]
     dsimp only
     exact frzL_local (fun y hy => hG y (by simp [hy]))
    ·cases h
   ·cases h
  ·cases h
theorem fzW_heap : ∀ {ls : List Nat}, (∀ l ∈ ls, G l = G' l) -> fzW G ls = fzW G' ls
 | [], _ => rfl
 | l :: ls, h => by
  unfold fzW
  rw [h l (by simp), fzW_heap (fun l hl => h l (by simp [hl]))]
theorem evZ_heap {T : List (Nat × TI)} {wraps : List Nat} {o : Oper} {r : Res} (h : evZ T wraps F G o = some r) (hG : ∀ l ∈ r.rd, G l = G' l) : evZ T wraps F G' o = some r := by
 unfold evZ at h
 split at h
 ·rename_i h0
  have := ev_frzO h hG
  unfold evZ
  rw [<- this, h0]
  exact ev_heap h hG
 ·rename_i l ls h0
  unfold evW at h
  split at h
  ·rename_i r' hr'
   cases h
   simp only [apL_eq] at hG
   have hR : ∀ l ∈ frzR F o, G l = G' l := fun l hl => hG l (by simp [hl])
   have e0 := frzO_heap (T := T) hR
   have e1 : fzW G (l :: ls) = fzW G' (l :: ls) := by
    refine fzW_heap fun y hy => hR y ?_
    rw [<- h0] at hy
    exact frzO_sub hy
   unfold evZ
   rw [<- e0, h0]
   dsimp only
   unfold evW
   rw [<- e1]
   rw [ev_heap (G' := upds G' (fzW G (l :: ls))) hr' (fun y hy => ?_)]
   rw [upds_eq, upds_eq, hG y (by simp [hy])]
  ·cases h
mutual
theorem Ent_local : ∀ (y x : SV), (∀ l ∈ y.labs, G l = G' l) -> Ent G x y -> Ent G' x y
 | .u, x, _, h => by cases x <;> simp only [Ent] at h ⊢
 | .i _ _, x, _, h => by cases x <;> simp only [Ent] at h ⊢ <;> exact h
 | .b _, x, _, h => by cases x <;> simp only [Ent] at h ⊢ <;> exact h
 | .bt _, x, _, h => by cases x <;> simp only [Ent] at h ⊢ <;> exact h
 | .s _, x, _, h => by cases x <;> simp only [Ent] at h ⊢ <;> exact h
 | .p _ _ _, x, _, h => by cases x <;> simp only [Ent] at h ⊢ <;> exact h
 | .np, x, _, h => by cases x <;> simp only [Ent] at h ⊢
 | .q _ _, x, _, h => by cases x <;> simp only [Ent] at h ⊢ <;> exact h
 | .sl l a b, x, hl, h => by
  have := hl l (by simp [SV.labs])
  cases x <;> simp only [Ent, none?] at h ⊢ <;> first | exact h | (rw [<- this]; exact h)
 | .ns, x, _, h => by cases x <;> simp only [Ent] at h ⊢
 | .mp _, x, _, h => by cases x <;> simp only [Ent] at h ⊢ <;> exact h
 | .nm, x, _, h => by cases x <;> simp only [Ent] at h ⊢
 | .nf, x, _, h => by cases x <;> simp only [Ent] at h ⊢
 | .fn f cs, x, hl, h => by
  cases x <;> simp only [Ent] at h ⊢ <;> try exact h
  split at h
  ·exact EntL_local cs _ (by simpa [SV.labs] using hl) h
  ·exact h.elim
 | .bm f cs, x, hl, h => by
  cases x <;> simp only [Ent] at h ⊢ <;> try exact h
  split at h
  ·exact EntL_local cs _ (by simpa [SV.labs] using hl) h
  ·exact h.elim
 | .agg cs, x, hl, h => by
  cases x <;> simp only [Ent] at h ⊢ <;> try exact h
  exact EntL_local cs _ (by simpa [SV.labs] using hl) h
 | .tup cs, x, hl, h => by
  cases x <;> simp only [Ent] at h ⊢ <;> try exact h
  exact EntL_local cs _ (by simpa [SV.labs] using hl) h
 | .arr _ _ _, x, _, h => by cases x <;> simp only [Ent] at h ⊢ <;> exact h
theorem EntL_local : ∀ (ys xs : List SV), (∀ l ∈ labsL ys, G l = G' l) -> EntL G xs ys -> EntL G' xs ys
 | [], xs, _, h => by cases xs <;> simp only [EntL] at h ⊢
 | y :: ys, xs, hl, h => by
  cases xs with
  | nil => simp only [EntL] at h
  | cons x xs =>
   simp only [EntL] at h ⊢
   exact ⟨Ent_local y x (fun l hh => hl l (by simp [labsL, hh])) h.1, EntL_local ys xs (fun l hh => hl l (by simp [labsL, hh])) h.2⟩
end
theorem EntB_local {l : Nat} {b : Blk} (hl : G l = G' l) (hb : ∀ x ∈ b.labs, G x = G' x) (h : EntB G l b) : EntB G' l b := by
 cases b with
 | dead => trivial
 | one m cs =>
  simp only [EntB] at h ⊢
  rw [<- hl]
  split at h
  ·split at h
   ·exact EntL_local _ _ (by simpa [Blk.labs] using hb) h
   ·exact h.elim
  ·exact h.elim
 | rows m ks n f =>
  simp only [EntB] at h ⊢
  rw [<- hl]
  exact h
 | map m kk ks a keys f =>
  simp only [EntB] at h ⊢
  rw [<- hl]
  exact h
theorem lentOk_local {m : Nat -> Nat} : ∀ {g : List (Nat × Blk)}, (∀ l ∈ keys g, G (m l) = G' (m l)) -> lentOk G m g = lentOk G' m g
 | [], _ => rfl
 | (l, b) :: r, h => by
  unfold lentOk
  rw [h l (by simp [keys]), lentOk_local (fun l hl => h l (by simp [keys, hl]))]
theorem aliasOk_local {m : Nat -> Nat} {g0 g1 : List (Nat × Blk)} (h : ∀ l ∈ keys g0, G (m l) = G' (m l)) : aliasOk G m g0 g1 = aliasOk G' m g0 g1 := by
 unfold aliasOk
 rw [lentOk_local h]
theorem EntH_local : ∀ {g : List (Nat × Blk)}, (∀ l b, (l, b) ∈ g -> G l = G' l /\ ∀ x ∈ b.labs, G x = G' x) -> EntH G g -> EntH G' g
 | [], _, _ => trivial
 | (l, b) :: r, hg, h => ⟨EntB_local (hg l b (by simp)).1 (hg l b (by simp)).2 h.1, EntH_local (fun l b hm => hg l b (by simp [hm])) h.2⟩
theorem freshLs_local {m : Nat -> Nat} : ∀ {ls : List Nat}, (∀ l ∈ ls, G (m l) = G' (m l)) -> freshLs G m ls = freshLs G' m ls
 | [], _ => rfl
 | x :: r, h => by
  unfold freshLs
  rw [h x (by simp), freshLs_local (fun l hl => h l (by simp [hl]))]
theorem smallLs_local {m : Nat -> Nat} : ∀ {ls : List Nat}, (∀ l ∈ ls, G (m l) = G' (m l)) -> smallLs G m ls = smallLs G' m ls
 | [], _ => rfl
 | x :: r, h => by
  unfold smallLs
  rw [h x (by simp), smallLs_local (fun l hl => h l (by simp [hl]))]
theorem absL_local {m : Nat -> Nat} : ∀ {g : List (Nat × Blk)}, (∀ l ∈ keys g, G (m l) = G' (m l)) -> absL G m g = absL G' m g
 | [], _ => rfl
 | (l, b) :: r, h => by
  unfold absL
  rw [h l (by simp [keys]), absL_local (fun l hl => h l (by simp [keys, hl]))]
theorem Ev.local [Glob] (hC : ConOk P c) {o : Oper} {v : SV} {wr : List (Nat × Blk)} {fp : FP} (e : Ev c o F G v wr fp) (hF : ∀ t ∈ opdSlots o.op.operands.toList, F t = F' t) (hG : ∀ l ∈ fp.rd, G l = G' l) :
  Ev c o F' G' v wr fp := by
 have hx := oas_local hF
 cases e with
 | plain r h1 h2 =>
  refine .plain r ?_ h2
  rw [<- evZ_frame hx]
  exact evZ_heap h1 hG
 | pick t h =>
  rename_i dst ty pos af gd x y z
  have e1 := hx x (by simp [Op.operands])
  have e2 := hx y (by simp [Op.operands])
  have e3 := hx z (by simp [Op.operands])
  rw [e2, e3]
  exact .pick t (by rwa [<- e1])
 | call ct x m d h1 h2 h3 h4 h5 =>
  rename_i dst ty pos af gd f args tys g caps all
  obtain ⟨good, _⟩ := hC g ct h2
  have C := ctSt_spec (good x h5.pre).1
  have hm0 : ∀ l ∈ keys (ct.g0 x), G (m l) = G' (m l) := fun l hl => hG _ (by simp only [mapN_eq, apL_eq]; exact List.mem_map.2 ⟨l, List.mem_append.2 (.inl hl), rfl⟩)
  have hm1 : ∀ l ∈ keys (ct.g1 x), G (m l) = G' (m l) := fun l hl => hG _ (by simp only [mapN_eq, apL_eq]; exact List.mem_map.2 ⟨l, List.mem_append.2 (.inr hl), rfl⟩)
  have ef := hx f (by simp [Op.operands, Call.operands])
  have ea : args.toList.map (oa F) = args.toList.map (oa F') := List.map_congr_left fun y hy => hx y (by simp [Op.operands, Call.operands]; exact .inr (by simpa using hy))
  rw [absL_local hm0]
  refine .call ct x m d (by rwa [<- ef, <- ea]) h2 h3 ?_ ⟨h5.pre, ?_, ?_⟩
  ·unfold callSt at h4 ⊢
   rw [<- freshLs_local (fun l hl => hm1 l ((newLs_mem _ _).1 hl).1)]
   have hs : smallLs G m (apL (keys (ct.g0 x)) (newLs (keys (ct.g0 x)) (keys (ct.g1 x)))) = smallLs G' m (apL (keys (ct.g0 x)) (newLs (keys (ct.g0 x)) (keys (ct.g1 x)))) := smallLs_local (fun l hl => by
    rw [apL_eq] at hl
    rcases List.mem_append.1 hl with h | h
    ·exact hm0 l h
    ·exact hm1 l ((newLs_mem _ _).1 h).1)
   rw [<- hs, <- aliasOk_local hm0]
   exact h4
  ·refine EntL_local _ _ (fun l hl => ?_) h5.args
   rw [labsL_ren] at hl
   obtain ⟨z, hz, rfl⟩ := List.mem_map.1 hl
   exact hm0 z (hget_some_mem (C.args z hz))
  ·refine EntH_local (fun l b hm => ?_) h5.heap
   have : ∀ {g : List (Nat × Blk)}, (l, b) ∈ renH m g -> ∃ l' b', (l', b') ∈ g /\ m l' = l /\ b = b'.ren m := by
    intro g
    induction g with
    | nil => intro h; cases h
    | cons z r ih =>
     obtain ⟨k, u⟩ := z
     intro h
     rcases List.mem_cons.1 h with h | h
     ·cases h; exact ⟨k, u, by simp, rfl, rfl⟩
     ·obtain ⟨l', b', q1, q2⟩ := ih h; exact ⟨l', b', List.mem_cons_of_mem _ q1, q2⟩
   obtain ⟨l', b', q1, rfl, rfl⟩ := this hm
   refine ⟨hm0 l' (by rw [keys_eq]; exact List.mem_map.2 ⟨_, q1, rfl⟩), fun y hy => ?_⟩
   rw [Blk.labs_ren] at hy
   obtain ⟨z, hz, rfl⟩ := List.mem_map.1 hy
   exact hm0 z (hget_some_mem (C.scp0 l' b' q1 z hz))
theorem Ev1.local [Glob] (hC : ConOk P c) {all : List Oper} {o : Oper} {v : SV} {wr : List (Nat × Blk)} {fp : FP} (e : Ev1 c all o F G v wr fp) (hF : ∀ t ∈ readsOf all o, F t = F' t) (hG : ∀ l ∈ fp.rd, G l = G' l) :
  Ev1 c all o F' G' v wr fp := by
 have hop : ∀ t ∈ opdSlots o.op.operands.toList, F t = F' t := fun t ht => hF t (by unfold readsOf; exact List.mem_append.2 (.inr ht))
 cases e with
 | go h e => exact .go h (e.local hC hop hG)
 | yes j want s h hs ht e =>
  have := hF s (by unfold readsOf; rw [h]; simp [hs])
  exact .yes j want s h hs (by rwa [<- this]) (e.local hC hop hG)
 | no j want s h hs ht =>
  have := hF s (by unfold readsOf; rw [h]; simp [hs])
  exact .no j want s h hs (by rwa [<- this])
theorem Ev.fpw {o : Oper} {v : SV} {wr : List (Nat × Blk)} {fp : FP} (e : Ev c o F G v wr fp) : fp.wr = keys wr := by
 cases e <;> rfl
theorem Ev1.fpw {all : List Oper} {o : Oper} {v : SV} {wr : List (Nat × Blk)} {fp : FP} (e : Ev1 c all o F G v wr fp) : fp.wr = keys wr := by
 cases e with
 | go h e => exact e.fpw
 | yes _ _ _ _ _ _ e => exact e.fpw
 | no => rfl
theorem disj_spec : ∀ {a b : List Nat}, disj a b = true -> ∀ x ∈ a, x ∉ b
 | [], _, _, x, hx => by simp at hx
 | y :: r, b, h, x, hx => by
  unfold disj at h
  split at h
  ·cases h
  ·rename_i hm
   rcases List.mem_cons.1 hx with rfl | hx
   ·exact (memN_false _ _).1 hm
   ·exact disj_spec h x hx
theorem upds_local {wr : List (Nat × Blk)} {l : Nat} (h : l ∉ keys wr) : upds G wr l = G l := by
 rw [upds_eq, (hget_none_iff wr l).2 h]
theorem upds_comm {wr1 wr2 : List (Nat × Blk)} (h : ∀ x ∈ keys wr1, x ∉ keys wr2) : upds (upds G wr1) wr2 = upds (upds G wr2) wr1 := by
 funext l
 rw [upds_eq, upds_eq, upds_eq, upds_eq]
 cases h2 : hget wr2 l with
 | none => cases hget wr1 l <;> rfl
 | some b =>
  have : l ∈ keys wr2 := hget_some_mem (by rw [h2]; simp)
  have : l ∉ keys wr1 := fun h1 => h l h1 this
  rw [(hget_none_iff wr1 l).2 this]
theorem updO_local {d : Option Nat} {v : SV} {t : Nat} (h : ∀ d', d = some d' -> d' ≠ t) : updO F d v t = F t := by
 cases d with
 | none => rfl
 | some d =>
  show (match Nat.beq d t with | true => v | false => F t) = F t
  rw [beq_ne (h d rfl)]
theorem updO_comm {d e : Option Nat} {v v2 : SV} (h : ∀ d' e', d = some d' -> e = some e' -> d' ≠ e') : updO (updO F d v) e v2 = updO (updO F e v2) d v := by
 cases d with
 | none => rfl
 | some d => cases e with
  | none => rfl
  | some e =>
   have hne := h d e rfl rfl
   funext t
   show (match Nat.beq e t with | true => v2 | false => match Nat.beq d t with | true => v | false => F t) = (match Nat.beq d t with | true => v | false => match Nat.beq e t with | true => v2 | false => F t)
   cases h1 : Nat.beq e t with
   | false => rfl
   | true =>
    have := Nat.eq_of_beq_eq_true h1
    subst this
    rw [beq_ne hne]
theorem Ev1.swap [Glob] (hC : ConOk P c) {all : List Oper} {o1 o2 : Oper} {v1 v2 : SV} {wr1 wr2 : List (Nat × Blk)} {fp1 fp2 : FP} (hs : slotsApart all o1 o2 = true) (hf : fpApart fp1 fp2 = true)
  (e1 : Ev1 c all o1 F G v1 wr1 fp1) (e2 : Ev1 c all o2 (updO F o1.dst v1) (upds G wr1) v2 wr2 fp2) :
  Ev1 c all o2 F G v2 wr2 fp2 /\ Ev1 c all o1 (updO F o2.dst v2) (upds G wr2) v1 wr1 fp1 /\ updO (updO F o1.dst v1) o2.dst v2 = updO (updO F o2.dst v2) o1.dst v1 /\ upds (upds G wr1) wr2 = upds (upds G wr2) wr1 := by
 unfold fpApart at hf
 rw [Bool.and_eq_true, Bool.and_eq_true] at hf
 obtain ⟨⟨f1, f2⟩, f3⟩ := hf
 rw [e1.fpw] at f1 f2
 rw [e2.fpw] at f2 f3
 have f1 := disj_spec f1
 have f2 := disj_spec f2
 have f3 := disj_spec f3
 unfold slotsApart at hs
 rw [Bool.and_eq_true] at hs
 have s1 : ∀ d, o1.dst = some d -> (∀ t ∈ readsOf all o2, d ≠ t) /\ ∀ e, o2.dst = some e -> d ≠ e := by
  intro d hd
  have h := hs.1
  rw [hd] at h
  simp only [Bool.and_eq_true, Bool.not_eq_true'] at h
  refine ⟨fun t ht e => by subst e; exact (memN_false _ _).1 h.1 ht, fun e he => ?_⟩
  have h2 := h.2
  rw [he] at h2
  simp only at h2
  intro e2
  subst e2
  simp at h2
 have s2 : ∀ d, o2.dst = some d -> ∀ t ∈ readsOf all o1, d ≠ t := by
  intro d hd t ht e
  have h := hs.2
  rw [hd] at h
  simp only [Bool.not_eq_true'] at h
  subst e
  exact (memN_false _ _).1 h ht
 refine ⟨e2.local hC (fun t ht => updO_local fun d hd => (s1 d hd).1 t ht) (fun l hl => upds_local fun h => f1 l h hl),
  e1.local hC (fun t ht => (updO_local fun d hd => s2 d hd t ht).symm) (fun l hl => (upds_local fun h => f3 l h hl).symm),
  updO_comm fun d e hd he => (s1 d hd).2 e he, upds_comm f2⟩
theorem Chain.front [Glob] (hC : ConOk P c) {all : List Oper} {o : Oper} {fp : FP} {B : List (Oper × FP)} : ∀ {A : List (Oper × FP)} {F : Fr} {G : Hp} {F' : Fr} {G' : Hp}, (∀ p ∈ A, slotsApart all p.1 o = true /\ fpApart p.2 fp = true) ->
  Chain c all (A ++ (o, fp) :: B) F G F' G' -> ∃ v wr, Ev1 c all o F G v wr fp /\ Chain c all (A ++ B) (updO F o.dst v) (upds G wr) F' G'
 | [], F, G, F', G', _, ch => by
  cases ch with
  | cons v wr e t => exact ⟨v, wr, e, t⟩
 | (p, fq) :: A, F, G, F', G', hA, ch => by
  cases ch with
  | cons v1 wr1 e1 t =>
   obtain ⟨v, wr, e, t'⟩ := Chain.front hC (fun q hq => hA q (by simp [hq])) t
   obtain ⟨h1, h2⟩ := hA (p, fq) (by simp)
   obtain ⟨k1, k2, k3, k4⟩ := Ev1.swap hC h1 h2 e1 e
   refine ⟨v, wr, k1, ?_⟩
   rw [List.cons_append]
   rw [k3, k4] at t'
   exact .cons v1 wr1 k2 t'
end
end Go.Sym
