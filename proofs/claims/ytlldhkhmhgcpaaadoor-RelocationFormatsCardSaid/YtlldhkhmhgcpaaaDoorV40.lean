import Derived.Test.YtlldhkhmhgcpaaaDoorV1
import Derived.Test.YtlldhkhmhgcpaaaDoorT40
import Derived.Test.YtlldhkhmhgcpaaaDoorVS
import Derived.Test.YtlldhkhmhgcpaaaDoorCM
namespace Go.Sym
set_option linter.unusedVariables false
set_option linter.unusedSimpArgs false
open Go.ChangeShapes Go.WideShapes Go.RowKit
open Go.Proofs
set_option maxRecDepth 100000
def decM2 (g:Nat->D):Mv:=((g 0).toI,(g 1).toI)
theorem decM2_eq (g:Nat->D):rowEq kM g (encM (decM2 g)) 0:=by simp only[rowEq,Kd.eqv,kM];exact⟨rfl,rfl,trivial⟩
theorem decM_ok {d:D} (h:WfD (.sl kM) d):∀ m∈decL decM2 d.toN d.toF,r64 m.1/\r64 m.2:=by
 intro x hx
 simp only[WfD]at h
 unfold decL at hx
 obtain⟨r,hr,rfl⟩:=List.mem_map.1 hx
 have q:=WfR_iff.1 (h.2 r (List.mem_range.1 hr))
 have q0:=q 0 (by decide)
 have q1:=q 1 (by decide)
 simp only[kM,List.getElem_cons_zero,List.getElem_cons_succ,WfD,inR,Nat.zero_add]at q0 q1
 exact⟨q0,q1⟩
end Go.Sym