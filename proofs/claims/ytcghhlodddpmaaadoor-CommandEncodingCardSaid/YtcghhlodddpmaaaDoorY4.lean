import Derived.Test.YtcghhlodddpmaaaDoorY3
import Derived.Test.YtcghhlodddpmaaaDoorX4
namespace Go.Sym
set_option linter.unusedVariables false
set_option linter.unusedSimpArgs false
open Go.Proofs
set_option maxRecDepth 100000
def fS (c:Cmd) (s:S) (f:Int):Cmd × S:=if f=4 then({ c with code:=strB (sB s).1 },(sB s).2)else if f=5 then({ c with nodes:=(sT s).1 },(sT s).2)else(setF c f (sI s).1,(sI s).2)
def fLd (fs:List Int) (c:Cmd) (s:S):Cmd × S:=fs.foldl (fun p f=>fS p.1 p.2 f) (c,s)
theorem fL_cons (f:Int) (fs:List Int) (c:Cmd) (s:S):fLd (f::fs) c s=fLd fs (fS c s f).1 (fS c s f).2:=rfl
theorem st_dcS (s:CRd) (f:Int):fS s.c (st s.r) f=((dcS s f).c,st (dcS s f).r):=by
 unfold fS dcS
 rw[st_bs,st_it,st_int]
 split
 ·rfl
 ·split <;>rfl
theorem st_fold (fs:List Int) (s:CRd):fLd fs s.c (st s.r)=((fs.foldl dcS s).c,st (fs.foldl dcS s).r):=by
 induction fs generalizing s with
 |nil=>rfl
 |cons f fs ih=>
  rw[fL_cons,st_dcS]
  exact ih (dcS s f)
def copyF (c d:Cmd) (f:Int):Cmd:=if f=4 then { d with code:=c.code } else if f=5 then { d with nodes:=c.nodes } else setF d f (numF c f)
def isF (f:Int):Prop:=0<=f/\f<=17
theorem num_set {c:Cmd} {f v:Int} (h:isF f) (h4:¬ f=4) (h5:¬ f=5):numF (setF c f v) f=v:=by
 unfold isF at h
 rcases(show f=0∨f=1∨f=2∨f=3∨f=6∨f=7∨f=8∨f=9∨f=10∨f=11∨f=12∨f=13∨f=14∨f=15∨f=16∨f=17 by omega)with h|h|h|h|h|h|h|h|h|h|h|h|h|h|h|h <;>(subst h;simp[numF,setF])
theorem ite_ne {g f k:Int} {v x y y':Int} (h:g≠f) (hy:y=y'):(if g=k then(if f=k then v else x)else y)=(if g=k then x else y'):=by
 by_cases hk:g=k
 ·rw[if_pos hk,if_pos hk,if_neg (fun e=>h (hk.trans e.symm))]
 ·rw[if_neg hk,if_neg hk,hy]
theorem num_other {c:Cmd} {f g v:Int} (h:g≠f):numF (setF c f v) g=numF c g:=by
 unfold numF setF
 simp only
 iterate 16 refine ite_ne h ?_
 rfl
theorem fr_of {c:Cmd} {f:Int} (h:fOk c f=true):(f=4->r64 c.code.size)/\(f=5->r64 c.nodes.length/\∀ n∈c.nodes,r64 n)/\(¬ f=4->¬ f=5->r64 (numF c f)):=by
 refine⟨fun h4=>?_,fun h5=>?_,fun h4 h5=>inRF_r (fOkn h h4 h5)⟩
 ·have:=vCode_r (fOk4 h h4)
  unfold r64
  omega
 ·have:=vNodes_r (fOk5 h (by omega) h5)
  exact⟨by have:=this.1;unfold r64;omega,this.2⟩
theorem fS_by {c d:Cmd} {f:Int} {R:List Int} (h:fOk c f=true):fS d (.ok (byF c f++R)) f=(copyF c d f,.ok R):=by
 obtain⟨a,b,e⟩:=fr_of h
 unfold fS byF copyF
 by_cases h4:f=4
 ·rw[if_pos h4,if_pos h4,if_pos h4,bySt_eq,sB_by (by rw[strL_len];exact a h4)]
  simp only[strB_strL]
 ·rw[if_neg h4,if_neg h4,if_neg h4]
  by_cases h5:f=5
  ·rw[if_pos h5,if_pos h5,if_pos h5,sT_by (b h5).1 (b h5).2]
  ·rw[if_neg h5,if_neg h5,if_neg h5]
   rw[show sI (.ok (byZ (numF c f)++R))=(numF c f,.ok R)from pI_by (e h4 h5)]
theorem fS_cut {c d:Cmd} {f:Int} {j:Nat} (h:fOk c f=true) (hj:j<(byF c f).length):(fS d (.ok ((byF c f).take j)) f).2= .er 11:=by
 obtain⟨a,b,e⟩:=fr_of h
 unfold fS byF at*
 by_cases h4:f=4
 ·rw[if_pos h4]at hj ⊢
  rw[if_pos h4]
  rw[bySt_eq]at hj ⊢
  rw[sB_cut (by rw[strL_len];exact a h4) hj]
 ·rw[if_neg h4]at hj ⊢
  rw[if_neg h4]
  by_cases h5:f=5
  ·rw[if_pos h5]at hj ⊢
   rw[if_pos h5]
   exact sT_cut (b h5).1 (b h5).2 hj
  ·rw[if_neg h5]at hj ⊢
   rw[if_neg h5]
   rw[show sI (.ok ((byZ (numF c f)).take j))=(0,.er 11)from pI_cut (e h4 h5) hj]
theorem fS_inv {d d':Cmd} {f:Int} {U R:List Int} (hf:isF f) (hB:isB U) (h:fS d (.ok U) f=(d',.ok R)):U=byF d' f++R:=by
 unfold fS at h
 unfold byF
 by_cases h4:f=4
 ·rw[if_pos h4]at h ⊢
  cases hp:sB (.ok U)with
  |mk l s=>
   rw[hp]at h
   have e1:_=d':=congrArg Prod.fst h
   have e2:s= .ok R:=congrArg Prod.snd h
   subst e2
   obtain⟨a,b⟩:=sB_inv hB hp
   rw[<- e1,bySt_eq]
   have hl:isB l:=by
    rw[a]at hB
    have:=hB.left
    unfold byBs at this
    exact this.right
   simp only[strL_strB hl]
   exact a
 ·rw[if_neg h4]at h ⊢
  by_cases h5:f=5
  ·rw[if_pos h5]at h ⊢
   cases hp:sT (.ok U)with
   |mk l s=>
    rw[hp]at h
    have e1:_=d':=congrArg Prod.fst h
    have e2:s= .ok R:=congrArg Prod.snd h
    subst e2
    rw[<- e1]
    exact sT_inv hB hp
  ·rw[if_neg h5]at h ⊢
   cases hp:sI (.ok U)with
   |mk v s=>
    rw[hp]at h
    have e1:_=d':=congrArg Prod.fst h
    have e2:s= .ok R:=congrArg Prod.snd h
    subst e2
    rw[<- e1]
    simp only[num_set hf h4 h5]
    exact(pI_inv hB hp).1
theorem fS_er {c:Cmd} {e f:Int}:(fS c (.er e) f).2= .er e:=by
 unfold fS
 split
 ·rfl
 ·split <;>rfl
theorem fS_keep {c:Cmd} {s:S} {f g:Int} (h:g≠f):byF (fS c s f).1 g=byF c g:=by
 unfold fS byF
 by_cases h4:f=4
 ·rw[if_pos h4]
  have:¬ g=4:=by omega
  rw[if_neg this,if_neg this]
  rfl
 ·rw[if_neg h4]
  by_cases h5:f=5
  ·rw[if_pos h5]
   have:¬ g=5:=by omega
   rw[if_neg this,if_neg this]
   rfl
  ·rw[if_neg h5]
   simp only[num_other h]
   rfl
theorem fS_kind {c:Cmd} {s:S} {f:Int}:(fS c s f).1.kind=c.kind:=by
 unfold fS
 split
 ·rfl
 ·split <;>rfl
theorem fL_er (fs:List Int) (c:Cmd) (e:Int):(fLd fs c (.er e)).2= .er e:=by
 induction fs generalizing c with
 |nil=>rfl
 |cons f fs ih=>rw[fL_cons,fS_er];exact ih _
theorem fL_kind (fs:List Int) (c:Cmd) (s:S):(fLd fs c s).1.kind=c.kind:=by
 induction fs generalizing c s with
 |nil=>rfl
 |cons f fs ih=>rw[fL_cons,ih,fS_kind]
theorem fL_keep (fs:List Int) (c:Cmd) (s:S) (g:Int) (h:g∉fs):byF (fLd fs c s).1 g=byF c g:=by
 induction fs generalizing c s with
 |nil=>rfl
 |cons f fs ih=>
  rw[fL_cons,ih _ _ (fun q=>h (List.mem_cons_of_mem _ q)),fS_keep (fun e=>h (by rw[e];exact List.mem_cons_self ..))]
theorem fL_e (fs:List Int) (c:Cmd) (s:S) (h:eOk s):eOk (fLd fs c s).2:=by
 induction fs generalizing c s with
 |nil=>exact h
 |cons f fs ih=>
  rw[fL_cons]
  refine ih _ _ ?_
  unfold fS
  split
  ·exact sB_e h
  ·split
   ·exact sT_e h
   ·exact sI_e h
theorem fL_by (fs:List Int) (c d:Cmd) (R:List Int) (h:∀ f∈fs,fOk c f=true):fLd fs d (.ok (fs.flatMap (byF c)++R))=(fs.foldl (copyF c) d,.ok R):=by
 induction fs generalizing d with
 |nil=>rfl
 |cons f fs ih=>
  rw[List.flatMap_cons,List.append_assoc,fL_cons,fS_by (h f (List.mem_cons_self ..))]
  exact ih _ (fun x hx=>h x (List.mem_cons_of_mem _ hx))
theorem fL_cut (fs:List Int) (c d:Cmd) (j:Nat) (h:∀ f∈fs,fOk c f=true) (hj:j<(fs.flatMap (byF c)).length):(fLd fs d (.ok ((fs.flatMap (byF c)).take j))).2= .er 11:=by
 induction fs generalizing d j with
 |nil=>exact absurd hj (Nat.not_lt_zero j)
 |cons f fs ih=>
  rw[List.flatMap_cons]at hj ⊢
  rw[List.length_append]at hj
  rw[fL_cons]
  have hf:=h f (List.mem_cons_self ..)
  by_cases h1:j<(byF c f).length
  ·rw[take_lt h1,fS_cut hf h1,fL_er]
  ·rw[take_ge h1,fS_by hf]
   exact ih _ _ (fun x hx=>h x (List.mem_cons_of_mem _ hx)) (by omega)
theorem fL_inv (fs:List Int) (d d':Cmd) (U R:List Int) (hn:fs.Nodup) (hf:∀ f∈fs,isF f) (hB:isB U) (h:fLd fs d (.ok U)=(d',.ok R)):U=fs.flatMap (byF d')++R:=by
 induction fs generalizing d U with
 |nil=>
  have e2:S.ok U=S.ok R:=congrArg Prod.snd h
  injection e2 with e2
 |cons f fs ih=>
  rw[fL_cons]at h
  cases hp:fS d (.ok U) f with
  |mk d1 s=>
   rw[hp]at h
   cases s with
   |er e=>
    have:=congrArg Prod.snd h
    rw[fL_er]at this
    cases this
   |ok U1=>
    have h1:=fS_inv (hf f (List.mem_cons_self ..)) hB hp
    have hB1:isB U1:=by rw[h1]at hB;exact hB.right
    have h2:=ih d1 U1 (List.nodup_cons.1 hn).2 (fun x hx=>hf x (List.mem_cons_of_mem _ hx)) hB1 h
    have h3:=fL_keep fs d1 (.ok U1) f (List.nodup_cons.1 hn).1
    rw[h]at h3
    rw[List.flatMap_cons,List.append_assoc,<- h2,h3]
    exact h1
def qF (l:List Int):Bool:=decide l.Nodup&&l.all fun f=>decide (0<=f/\f<=17)
theorem qF_ite {p:Prop} [Decidable p] {a b:List Int} (ha:qF a=true) (hb:qF b=true):qF (if p then a else b)=true:=by
 by_cases h:p
 ·rw[if_pos h];exact ha
 ·rw[if_neg h];exact hb
theorem fs_q (k:Int):qF (fsC k)=true:=by
 unfold fsC
 iterate 13 refine qF_ite (by decide) ?_
 decide
theorem fs_ok (k:Int):(fsC k).Nodup/\∀ f∈fsC k,isF f:=by
 have h:=fs_q k
 unfold qF at h
 rw[Bool.and_eq_true,decide_eq_true_eq,List.all_eq_true]at h
 exact⟨h.1,fun f hf=>(of_decide_eq_true (h.2 f hf):0<=f/\f<=17)⟩
theorem copy_all {c:Cmd} (h:vC c=true):(fsC c.kind).foldl (copyF c) (onlyK c.kind)=c:=by
 rw[vC_iff]at h
 obtain⟨hk,h1,h2,h3⟩:=h
 obtain⟨k,call,inc,oth,urg,code,nodes,dist,cen,ep,tick,su,sq,ss,sn,se,edge,time,node⟩:=c
 rcases kOk_no hk with h|h|h|h|h|h|h|h|h|h|h|h|h|h|h
 all_goals
  cases h
  simp[fsC,copyF,clr,setF,onlyK,numF,Cmd.mk.injEq]at h3 ⊢
  first|done|grind
end Go.Sym