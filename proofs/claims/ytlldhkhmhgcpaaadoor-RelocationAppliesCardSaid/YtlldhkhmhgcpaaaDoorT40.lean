import Derived.Test.YtlldhkhmhgcpaaaDoorA1
import Derived.Test.YtlldhkhmhgcpaaaDoorXD
import Derived.LaidMore
import Derived.Lay
import Derived.LaidOnce
import Derived.ProofKit
import Derived.OpenShut
namespace Go.Sym
open Go.Proofs.YtlldhkhmhgcpaaaDoor Go.Proofs Go.ChangeShapes Go.WideShapes Go.RowKit
set_option maxRecDepth 100000
theorem pow_list {H:Type}:(Rows.laid_internal_strconv_uint64pow10:DataW H)= .agg (Go.Lib.pow10Tab.map fun z:Int=>.lit (.int .u64 z)):=rfl
theorem tab_list {H:Type}:(Rows.laid_math_bits_deBruijn64tab:DataW H)= .agg (Go.Lib.deBruijn64tab.map fun n:Nat=>.lit (.int .u8 (n:Int))):=rfl
theorem tab_laid {W:World} (h:laidMetH Tryd.prog [("math/bits.deBruijn32tab",Rows.laid_math_bits_deBruijn32tab),("math/bits.deBruijn64tab",Rows.laid_math_bits_deBruijn64tab),("internal/strconv.uint64pow10",Rows.laid_internal_strconv_uint64pow10)] W):∃ TT fz,W.heap[0]? =some (.cells tabV TT fz):=by
 rw[MakeChecks.laidMetH_plain _ _ _ (by kernel_rfl)]at h
 obtain⟨ps,⟨_,_,_,_,_,_,_,_,_,_,⟨g,t,cs,fuel,p,q,hg,ht,hv,hd,_,_⟩,_⟩,_,_⟩:=h
 obtain rfl:=Option.some.inj ((show Tryd.prog.globalNamed "math/bits.deBruijn64tab" =some 0 by kernel_rfl).symm.trans hg)
 obtain rfl:=Option.some.inj ((show(Tryd.prog.globals[0]?).map (·.type)=some 159 by kernel_rfl).symm.trans ht)
 have c5:Tryd.prog.cellsOf 5=1:=by kernel_rfl
 have c1:Tryd.prog.cellsOf 159=64:=by kernel_rfl
 obtain⟨xs,m,_,ex,hlen,hl,hel⟩:=DataW.trod_array Tryd.underlying159 hd
 rw[c1]at hlen
 rw[c5]at hel
 have e3:=(Prod.mk.inj ex).1
 rw[tab_list]at e3
 have e3:=DataW.agg.inj e3
 have hcs:cs=tabV:=by
  apply Array.ext (by rw[<- Array.length_toList,hlen];rfl)
  intro i h1 h2
  have hi:i<64:=by rw[<- Array.length_toList,hlen]at h1;exact h1
  have k:=hel i hi
  rw[Nat.mul_one,List.getElem?_eq_getElem (by omega)]at k
  obtain⟨z,a,b,_⟩:=DataW.trod_int Tryd.underlying5 k
  have e4:(xs.map (·.1))[i]? =some (.lit (.int .u8 z)):=by rw[List.getElem?_map,List.getElem?_eq_getElem (by omega),Option.map_some,b]
  rw[<- e3,List.getElem?_map]at e4
  have hn:i<Go.Lib.deBruijn64tab.length:=hi
  rw[List.getElem?_eq_getElem hn,Option.map_some]at e4
  have e4:=Option.some.inj e4
  simp only[DataW.lit.injEq,Lit.int.injEq,true_and]at e4
  have a0:cs[i]? =some (.int .u8 z):=by
   have:=congrArg (fun l=>l[0]?) a
   simp only[List.getElem?_take,List.getElem?_drop,Nat.add_zero]at this
   simpa using this
  rw[Array.getElem?_eq_getElem h1]at a0
  have a0:=Option.some.inj a0
  rw[a0,<- e4]
  have e5:tabV[i]? =some (.int .u8 ((Go.Lib.deBruijn64tab[i]:Nat):Int)):=by unfold tabV;rw[List.getElem?_toArray,List.getElem?_map,List.getElem?_eq_getElem hn];rfl
  rw[Array.getElem?_eq_getElem h2]at e5
  exact(Option.some.inj e5).symm
 subst hcs
 unfold World.var? at hv
 rw[show Tryd.prog.globalNamed "math/bits.deBruijn64tab" =some 0 by kernel_rfl,Option.bind_some]at hv
 split at hv
 ·rename_i cs' TT fz hb
  cases hv
  exact⟨TT,fz,hb⟩
 ·cases hv
theorem pow_laid {W:World} (h:laidMetH Tryd.prog [("math/bits.deBruijn32tab",Rows.laid_math_bits_deBruijn32tab),("math/bits.deBruijn64tab",Rows.laid_math_bits_deBruijn64tab),("internal/strconv.uint64pow10",Rows.laid_internal_strconv_uint64pow10)] W):∃ TT fz,W.heap[1]? =some (.cells powV TT fz):=by
 rw[MakeChecks.laidMetH_plain _ _ _ (by kernel_rfl)]at h
 obtain⟨ps,⟨_,_,_,_,_,_,_,_,_,_,⟨_,_,_,_,_,_,_,_,_,_,⟨g,t,cs,fuel,p,q,hg,ht,hv,hd,_,_⟩,_⟩,_⟩,_,_⟩:=h
 obtain rfl:=Option.some.inj ((show Tryd.prog.globalNamed "internal/strconv.uint64pow10" =some 1 by kernel_rfl).symm.trans hg)
 obtain rfl:=Option.some.inj ((show(Tryd.prog.globals[1]?).map (·.type)=some 167 by kernel_rfl).symm.trans ht)
 have c5:Tryd.prog.cellsOf 72=1:=by kernel_rfl
 have c1:Tryd.prog.cellsOf 167=20:=by kernel_rfl
 obtain⟨xs,m,_,ex,hlen,hl,hel⟩:=DataW.trod_array Tryd.underlying167 hd
 rw[c1]at hlen
 rw[c5]at hel
 have e3:=(Prod.mk.inj ex).1
 rw[pow_list]at e3
 have e3:=DataW.agg.inj e3
 have hcs:cs=powV:=by
  apply Array.ext (by rw[<- Array.length_toList,hlen];rfl)
  intro i h1 h2
  have hi:i<20:=by rw[<- Array.length_toList,hlen]at h1;exact h1
  have k:=hel i hi
  rw[Nat.mul_one,List.getElem?_eq_getElem (by omega)]at k
  obtain⟨z,a,b,_⟩:=DataW.trod_int Tryd.underlying72 k
  have e4:(xs.map (·.1))[i]? =some (.lit (.int .u64 z)):=by rw[List.getElem?_map,List.getElem?_eq_getElem (by omega),Option.map_some,b]
  rw[<- e3,List.getElem?_map]at e4
  have hn:i<Go.Lib.pow10Tab.length:=hi
  rw[List.getElem?_eq_getElem hn,Option.map_some]at e4
  have e4:=Option.some.inj e4
  simp only[DataW.lit.injEq,Lit.int.injEq,true_and]at e4
  have a0:cs[i]? =some (.int .u64 z):=by
   have:=congrArg (fun l=>l[0]?) a
   simp only[List.getElem?_take,List.getElem?_drop,Nat.add_zero]at this
   simpa using this
  rw[Array.getElem?_eq_getElem h1]at a0
  have a0:=Option.some.inj a0
  rw[a0,<- e4]
  have e5:powV[i]? =some (.int .u64 (Go.Lib.pow10Tab[i])):=by unfold powV;rw[List.getElem?_toArray,List.getElem?_map,List.getElem?_eq_getElem hn];rfl
  rw[Array.getElem?_eq_getElem h2]at e5
  exact(Option.some.inj e5).symm
 subst hcs
 unfold World.var? at hv
 rw[show Tryd.prog.globalNamed "internal/strconv.uint64pow10" =some 1 by kernel_rfl,Option.bind_some]at hv
 split at hv
 ·rename_i cs' TT fz hb
  cases hv
  exact⟨TT,fz,hb⟩
 ·cases hv
theorem tabs_laid {W:World} (h:laidMetH Tryd.prog [("math/bits.deBruijn32tab",Rows.laid_math_bits_deBruijn32tab),("math/bits.deBruijn64tab",Rows.laid_math_bits_deBruijn64tab),("internal/strconv.uint64pow10",Rows.laid_internal_strconv_uint64pow10)] W):glob10.ok ⟨fun _=>none,fun b=>W.heap[b]?⟩:=⟨tab_laid h,pow_laid h⟩
end Go.Sym