import Derived.Test.YtcghhlodddpmaaaDoorF43
namespace Go.Sym
set_option linter.unusedVariables false
open Go.Proofs Go.ChangeShapes Go.WideShapes Go.RowKit
set_option maxRecDepth 100000
theorem decB_eq (g:Nat->D):rowEq kB g (encI (decI1 g)) 0:=by simp only[rowEq,Kd.eqv];exact⟨rfl,trivial⟩
theorem decB_ok {d:D} (h:WfD (.sl kB) d):isB (decL decI1 d.toN d.toF):=by
 intro x hx
 simp only[WfD]at h
 unfold decL at hx
 obtain⟨r,hr,rfl⟩:=List.mem_map.1 hx
 have q:=WfR_iff.1 (h.2 r (List.mem_range.1 hr)) 0 (by decide)
 simp only[List.getElem_cons_zero,WfD,inR,Nat.zero_add]at q
 exact q
end Go.Sym