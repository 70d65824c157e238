import Derived.Test.YtpnnecijeoipfaaGreatDoorA1
import Derived.Test.YtpnnecijeoipfaaGreatDoorXD
import Derived.LaidMore
import Derived.Lay
import Derived.LaidOnce
import Derived.ProofKit
import Derived.OpenShut
namespace Go.Sym
set_option linter.unusedVariables false
open Go.Proofs.YtpnnecijeoipfaaGreatDoor Go.Proofs Go.ChangeShapes Go.WideShapes Go.RowKit
set_option maxRecDepth 100000
theorem tab_list {H:Type}:(Rows.laid_math_bits_deBruijn64tab:DataW H)= .agg (Go.Lib.deBruijn64tab.map fun n:Nat=>.lit (.int .u8 (n:Int))):=rfl
theorem tab_laid {W:World} (h:laidMetH Tryz.prog [("math/bits.deBruijn64tab",Rows.laid_math_bits_deBruijn64tab)] W):∃ TT fz,W.heap[0]? =some (.cells tabV TT fz):=by
 rw[MakeChecks.laidMetH_plain _ _ _ (by kernel_rfl)]at h
 obtain⟨ps,⟨g,t,cs,fuel,p,q,hg,ht,hv,hd,_,_⟩,_,_⟩:=h
 obtain rfl:=Option.some.inj ((show Tryz.prog.globalNamed "math/bits.deBruijn64tab" =some 0 by kernel_rfl).symm.trans hg)
 obtain rfl:=Option.some.inj ((show(Tryz.prog.globals[0]?).map (·.type)=some 170 by kernel_rfl).symm.trans ht)
 have c5:Tryz.prog.cellsOf 5=1:=by kernel_rfl
 have c1:Tryz.prog.cellsOf 170=64:=by kernel_rfl
 obtain⟨xs,m,_,ex,hlen,hl,hel⟩:=DataW.trod_array Tryz.underlying170 hd
 rw[c1]at hlen
 rw[c5]at hel
 have e3:=(Prod.mk.inj ex).1
 rw[tab_list]at e3
 have e3:=DataW.agg.inj e3
 have hcs:cs=tabV:=by
  apply Array.ext (by rw[<- Array.length_toList,hlen];rfl)
  intro i h1 h2
  have hi:i<64:=by rw[<- Array.length_toList,hlen]at h1;exact h1
  have k:=hel i hi
  rw[Nat.mul_one,List.getElem?_eq_getElem (by omega)]at k
  obtain⟨z,a,b,_⟩:=DataW.trod_int Tryz.underlying5 k
  have e4:(xs.map (·.1))[i]? =some (.lit (.int .u8 z)):=by rw[List.getElem?_map,List.getElem?_eq_getElem (by omega),Option.map_some,b]
  rw[<- e3,List.getElem?_map]at e4
  have hn:i<Go.Lib.deBruijn64tab.length:=hi
  rw[List.getElem?_eq_getElem hn,Option.map_some]at e4
  have e4:=Option.some.inj e4
  simp only[DataW.lit.injEq,Lit.int.injEq,true_and]at e4
  have a0:cs[i]? =some (.int .u8 z):=by
   have:=congrArg (fun l=>l[0]?) a
   simp only[List.getElem?_take,List.getElem?_drop,Nat.add_zero]at this
   simpa using this
  rw[Array.getElem?_eq_getElem h1]at a0
  have a0:=Option.some.inj a0
  rw[a0,<- e4]
  have e5:tabV[i]? =some (.int .u8 ((Go.Lib.deBruijn64tab[i]:Nat):Int)):=by unfold tabV;rw[List.getElem?_toArray,List.getElem?_map,List.getElem?_eq_getElem hn];rfl
  rw[Array.getElem?_eq_getElem h2]at e5
  exact(Option.some.inj e5).symm
 subst hcs
 unfold World.var? at hv
 rw[show Tryz.prog.globalNamed "math/bits.deBruijn64tab" =some 0 by kernel_rfl,Option.bind_some]at hv
 split at hv
 ·rename_i cs' TT fz hb
  cases hv
  exact⟨TT,fz,hb⟩
 ·cases hv
end Go.Sym