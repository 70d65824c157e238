import Derived.Test.YtcghhlodddpmaaaDoorY3
import Derived.Test.YtcghhlodddpmaaaDoorX4
namespace Go.Sym
set_option linter.unusedVariables false
set_option linter.unusedSimpArgs false
open Go.Proofs
set_option maxRecDepth 100000
def fS (c:Cmd) (s:S) (f:Int):Cmd × S:=if f=4 then({ c with code:=strB (sB s).1 },(sB s).2)else if f=5 then({ c with nodes:=(sT s).1 },(sT s).2)else(setF c f (sI s).1,(sI s).2)
def fLd (fs:List Int) (c:Cmd) (s:S):Cmd × S:=fs.foldl (fun p f=>fS p.1 p.2 f) (c,s)
theorem fL_cons (f:Int) (fs:List Int) (c:Cmd) (s:S):fLd (f::fs) c s=fLd fs (fS c s f).1 (fS c s f).2:=rfl
theorem st_dcS (s:CRd) (f:Int):fS s.c (st s.r) f=((dcS s f).c,st (dcS s f).r):=by
 unfold fS dcS
 rw[st_bs,st_it,st_int]
 split
 ·rfl
 ·split <;>rfl
theorem st_fold (fs:List Int) (s:CRd):fLd fs s.c (st s.r)=((fs.foldl dcS s).c,st (fs.foldl dcS s).r):=by
 induction fs generalizing s with
 |nil=>rfl
 |cons f fs ih=>
  rw[fL_cons,st_dcS]
  exact ih (dcS s f)
def copyF (c d:Cmd) (f:Int):Cmd:=if f=4 then { d with code:=c.code } else if f=5 then { d with nodes:=c.nodes } else setF d f (numF c f)
theorem fr_of {c:Cmd} {f:Int} (h:fOk c f=true):(f=4->r64 c.code.size)/\(f=5->r64 c.nodes.length/\∀ n∈c.nodes,r64 n)/\(¬ f=4->¬ f=5->r64 (numF c f)):=by
 refine⟨fun h4=>?_,fun h5=>?_,fun h4 h5=>inRF_r (fOkn h h4 h5)⟩
 ·have:=vCode_r (fOk4 h h4)
  unfold r64
  omega
 ·have:=vNodes_r (fOk5 h (by omega) h5)
  exact⟨by have:=this.1;unfold r64;omega,this.2⟩
theorem fS_by {c d:Cmd} {f:Int} {R:List Int} (h:fOk c f=true):fS d (.ok (byF c f++R)) f=(copyF c d f,.ok R):=by
 obtain⟨a,b,e⟩:=fr_of h
 unfold fS byF copyF
 by_cases h4:f=4
 ·rw[if_pos h4,if_pos h4,if_pos h4,bySt_eq,sB_by (by rw[strL_len];exact a h4)]
  simp only[strB_strL]
 ·rw[if_neg h4,if_neg h4,if_neg h4]
  by_cases h5:f=5
  ·rw[if_pos h5,if_pos h5,if_pos h5,sT_by (b h5).1 (b h5).2]
  ·rw[if_neg h5,if_neg h5,if_neg h5]
   rw[show sI (.ok (byZ (numF c f)++R))=(numF c f,.ok R)from pI_by (e h4 h5)]
theorem fL_by (fs:List Int) (c d:Cmd) (R:List Int) (h:∀ f∈fs,fOk c f=true):fLd fs d (.ok (fs.flatMap (byF c)++R))=(fs.foldl (copyF c) d,.ok R):=by
 induction fs generalizing d with
 |nil=>rfl
 |cons f fs ih=>
  rw[List.flatMap_cons,List.append_assoc,fL_cons,fS_by (h f (List.mem_cons_self ..))]
  exact ih _ (fun x hx=>h x (List.mem_cons_of_mem _ hx))
theorem copy_all {c:Cmd} (h:vC c=true):(fsC c.kind).foldl (copyF c) (onlyK c.kind)=c:=by
 rw[vC_iff]at h
 obtain⟨hk,h1,h2,h3⟩:=h
 obtain⟨k,call,inc,oth,urg,code,nodes,dist,cen,ep,tick,su,sq,ss,sn,se,edge,time,node⟩:=c
 rcases kOk_no hk with h|h|h|h|h|h|h|h|h|h|h|h|h|h|h
 all_goals
  cases h
  simp[fsC,copyF,clr,setF,onlyK,numF,Cmd.mk.injEq]at h3 ⊢
  first|done|grind
end Go.Sym