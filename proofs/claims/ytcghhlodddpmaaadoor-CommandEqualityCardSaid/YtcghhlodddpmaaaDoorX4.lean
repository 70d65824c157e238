import Derived.Test.YtcghhlodddpmaaaDoorX3
namespace Go.Sym
set_option linter.unusedVariables false
set_option linter.unusedSimpArgs false
open Go.Proofs
set_option maxRecDepth 100000
theorem vC_iff (c:Cmd):vC c=true↔kOk c.kind=true/\(∀ f∈fsC c.kind,fOk c f=true)/\¬ (c.kind=3/\c.inc=c.oth)/\(fsC c.kind).foldl clr c=onlyK c.kind:=by
 unfold vC clrs
 rw[List.take_of_length_le (Nat.le_refl _)]
 simp only[Bool.and_eq_true,Bool.not_eq_true',decide_eq_true_eq,decide_eq_false_iff_not]
 refine⟨fun⟨a,b,d,e⟩=>⟨a,fun f hf=>?_,d,e⟩,fun⟨a,b,d,e⟩=>⟨a,fun i hi=>?_,d,e⟩⟩
 ·obtain⟨i,hi,rfl⟩:=List.mem_iff_getElem.1 hf
  have:=b i hi
  rwa [List.getD_eq_getElem?_getD,List.getElem?_eq_getElem hi]at this
 ·rw[List.getD_eq_getElem?_getD,List.getElem?_eq_getElem hi]
  exact b _ (List.getElem_mem _)
theorem right_iff (c:Cmd):rightF c=true↔kOk c.kind=true/\c=onlyR c/\hasF c=true:=by
 unfold rightF
 simp only[Bool.and_eq_true,decide_eq_true_eq]
theorem kOk_no {k:Int} (h:kOk k=true):k=1∨k=2∨k=3∨k=4∨k=5∨k=6∨k=7∨k=8∨k=9∨k=10∨k=11∨k=12∨k=13∨k=14∨k=15:=of_decide_eq_true h
theorem valid_right (c:Cmd):vC c=rightF c:=by
 rw[Bool.eq_iff_iff,vC_iff,right_iff]
 by_cases hk:kOk c.kind=true
 ·obtain⟨k,call,inc,oth,urg,code,nodes,dist,cen,ep,tick,su,sq,ss,sn,se,edge,time,node⟩:=c
  rcases kOk_no hk with h|h|h|h|h|h|h|h|h|h|h|h|h|h|h
  all_goals
   cases h
   simp[fsC,fOk,clr,setF,onlyK,onlyR,hasF,whatF,numP,dskP,untP,inRF,numF,Cmd.mk.injEq,hk]
   first|done|grind
 ·simp[hk]
end Go.Sym