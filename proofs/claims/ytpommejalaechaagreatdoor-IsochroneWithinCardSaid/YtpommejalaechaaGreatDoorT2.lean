import Derived.Test.YtpommejalaechaaGreatDoorA1
import Derived.Test.YtpommejalaechaaGreatDoorXD
import Derived.LaidMore
import Derived.Lay
import Derived.LaidOnce
import Derived.ProofKit
import Derived.OpenShut
import Derived.Test.YtpommejalaechaaGreatDoorW8
namespace Go.Sym
open Go.Proofs.YtpommejalaechaaGreatDoor Go.Proofs Go.ChangeShapes Go.WideShapes Go.RowKit
set_option maxRecDepth 100000
theorem tab_list {H:Type}:(Rows.laid_math_bits_deBruijn64tab:DataW H)= .agg (Go.Lib.deBruijn64tab.map fun n:Nat=>.lit (.int .u8 (n:Int))):=rfl
theorem tab_laid {W:World} (h:laidMetH Tryz.prog [("math/bits.deBruijn32tab",Rows.laid_math_bits_deBruijn32tab),("math/bits.deBruijn64tab",Rows.laid_math_bits_deBruijn64tab),("internal/strconv.uint64pow10",Rows.laid_internal_strconv_uint64pow10)] W):∃ TT fz,W.heap[0]? =some (.cells tabV TT fz):=by
 rw[MakeChecks.laidMetH_plain _ _ _ (by kernel_rfl)]at h
 obtain⟨ps,⟨_,_,_,_,_,_,_,_,_,_,⟨g,t,cs,fuel,p,q,hg,ht,hv,hd,_,_⟩,_⟩,_,_⟩:=h
 obtain rfl:=Option.some.inj ((show Tryz.prog.globalNamed "math/bits.deBruijn64tab" =some 0 by kernel_rfl).symm.trans hg)
 obtain rfl:=Option.some.inj ((show(Tryz.prog.globals[0]?).map (·.type)=some 127 by kernel_rfl).symm.trans ht)
 have c5:Tryz.prog.cellsOf 5=1:=by kernel_rfl
 have c1:Tryz.prog.cellsOf 127=64:=by kernel_rfl
 obtain⟨xs,m,_,ex,hlen,hl,hel⟩:=DataW.trod_array Tryz.underlying127 hd
 rw[c1]at hlen
 rw[c5]at hel
 have e3:=(Prod.mk.inj ex).1
 rw[tab_list]at e3
 have e3:=DataW.agg.inj e3
 have hcs:cs=tabV:=by
  apply Array.ext (by rw[<- Array.length_toList,hlen];rfl)
  intro i h1 h2
  have hi:i<64:=by rw[<- Array.length_toList,hlen]at h1;exact h1
  have k:=hel i hi
  rw[Nat.mul_one,List.getElem?_eq_getElem (by omega)]at k
  obtain⟨z,a,b,_⟩:=DataW.trod_int Tryz.underlying5 k
  have e4:(xs.map (·.1))[i]? =some (.lit (.int .u8 z)):=by rw[List.getElem?_map,List.getElem?_eq_getElem (by omega),Option.map_some,b]
  rw[<- e3,List.getElem?_map]at e4
  have hn:i<Go.Lib.deBruijn64tab.length:=hi
  rw[List.getElem?_eq_getElem hn,Option.map_some]at e4
  have e4:=Option.some.inj e4
  simp only[DataW.lit.injEq,Lit.int.injEq,true_and]at e4
  have a0:cs[i]? =some (.int .u8 z):=by
   have:=congrArg (fun l=>l[0]?) a
   simp only[List.getElem?_take,List.getElem?_drop,Nat.add_zero]at this
   simpa using this
  rw[Array.getElem?_eq_getElem h1]at a0
  have a0:=Option.some.inj a0
  rw[a0,<- e4]
  have e5:tabV[i]? =some (.int .u8 ((Go.Lib.deBruijn64tab[i]:Nat):Int)):=by unfold tabV;rw[List.getElem?_toArray,List.getElem?_map,List.getElem?_eq_getElem hn];rfl
  rw[Array.getElem?_eq_getElem h2]at e5
  exact(Option.some.inj e5).symm
 subst hcs
 unfold World.var? at hv
 rw[show Tryz.prog.globalNamed "math/bits.deBruijn64tab" =some 0 by kernel_rfl,Option.bind_some]at hv
 split at hv
 ·rename_i cs' TT fz hb
  cases hv
  exact⟨TT,fz,hb⟩
 ·cases hv
end Go.Sym
namespace Go.Sym
open Go.Proofs Go.ChangeShapes Go.WideShapes Go.RowKit
set_option maxRecDepth 100000
def decI1 (g:Nat->D):Int:=(g 0).toI
def decE3 (g:Nat->D):Ed:=⟨(g 0).toI,(g 1).toI,(g 2).toI⟩
def decAc (g:Nat->D):Ac:=⟨(g 0).toI,(g 1).toI,(g 2).toI⟩
theorem decI1_eq (g:Nat->D):rowEq k1 g (encI (decI1 g)) 0:=by simp only[rowEq,Kd.eqv,k1];exact⟨rfl,trivial⟩
theorem decE3_eq (g:Nat->D):rowEq kE g (encE (decE3 g)) 0:=by simp only[rowEq,Kd.eqv,kE];exact⟨rfl,rfl,rfl,trivial⟩
theorem decAc_eq (g:Nat->D):rowEq kA g (encA (decAc g)) 0:=by simp only[rowEq,Kd.eqv,kA];exact⟨rfl,rfl,rfl,trivial⟩
theorem struct_in {H:Type} {enc:TypeId × Value->H} {P:Program} {w:World} {T:List (Nat × TI)} (hT:TOk P T) {t:Nat} {ks:List Kd} {cs:Array Value} {d:DataW H} {p:List MemPlace} (hk:kdsL T 40 t=some ks) (h:DataW.Trod enc P w 0 (fun _=>true) true t (.agg cs) d p):
  ∃ g:Nat->D,∀ j (hj:j<ks.length),∃ u,cs[j]? =some u/\DenD (fun b=>w.heap[b]?) (ks[j]'hj) (g j) u/\WfD (ks[j]'hj) (g j):=by
 obtain⟨fl,h⟩:=h
 obtain⟨g,hg⟩:=(trod_lift hT 40).1 t ks hk fl _ _ h
 refine⟨g,fun j hj=>?_⟩
 obtain⟨u,h1,h2,h3⟩:=hg j hj
 exact⟨u,by simpa[Value.cells]using h1,h2,h3⟩
theorem case_in {H:Type} {enc:TypeId × Value->H} {w:World} {cs:Array Value} {d:DataW H} {p:List MemPlace} (hs:cs.size=4) (h:DataW.Trod enc Tryz.prog w 0 (fun _=>true) true 28 (.agg cs) d p):
  ∃(n:Int) (d1 d2 d3:D) (v1 v2 v3:Value),cs= #[.int .i64 n,v1,v2,v3]/\DenD (fun b=>w.heap[b]?) (.sl kE) d1 v1/\DenD (fun b=>w.heap[b]?) (.sl k1) d2 v2/\DenD (fun b=>w.heap[b]?) (.sl kA) d3 v3:=by
 obtain⟨g,hg⟩:=struct_in (ks:=[.int .i64,.sl kE,.sl k1,.sl kA]) tok (by kernel_rfl) h
 obtain⟨u0,a0,b0,_⟩:=hg 0 (by decide)
 obtain⟨u1,a1,b1,_⟩:=hg 1 (by decide)
 obtain⟨u2,a2,b2,_⟩:=hg 2 (by decide)
 obtain⟨u3,a3,b3,_⟩:=hg 3 (by decide)
 have b0:u0= .int .i64 (g 0).toI:=by simpa only[DenD,List.getElem_cons_zero]using b0
 subst b0
 refine⟨(g 0).toI,g 1,g 2,g 3,u1,u2,u3,?_,b1,b2,b3⟩
 apply Array.ext_getElem?
 intro i
 match i with
 |0=>simpa using a0
 |1=>simpa using a1
 |2=>simpa using a2
 |3=>simpa using a3
 |i+4=>rw[Array.getElem?_eq_none (by omega),Array.getElem?_eq_none (by simp)]
def laOf (n:Int) (d1 d2 d3:D) (a b:Int):LX:=⟨⟨n,decL decE3 d1.toN d1.toF,decL decI1 d2.toN d2.toF,decL decAc d3.toN d3.toF⟩,a,b⟩
theorem la_run {f:Nat} {ext:LX->List SV} (hg:Good Tryz.prog f ⟨LX,fun _=>True,fun x=>plA x.p::ext x,fun x=>plH x.p,fun _=>.b true,fun _=>[]⟩) {W:World} (ht:∃ TT fz,W.heap[0]? =some (.cells tabV TT fz)) {n a b:Int}
  {d1 d2 d3:D} {v1 v2 v3:Value} {ev:List Value} (h1:DenD (fun b=>W.heap[b]?) (.sl kE) d1 v1) (h2:DenD (fun b=>W.heap[b]?) (.sl k1) d2 v2) (h3:DenD (fun b=>W.heap[b]?) (.sl kA) d3 v3)
  (he:∀ ρ,DenL ρ (ext (laOf n d1 d2 d3 a b)) ev):Calls Tryz.prog f (.agg #[.int .i64 n,v1,v2,v3]::ev).toArray W fun e W'=>e= .returned (.bool true)/\Below W.heap.size W W':=by
 obtain⟨q1,hq1⟩:=slice_place (w:=W) (fun _ _ h=>h) h1
 obtain⟨q2,hq2⟩:=slice_place (w:=W) (fun _ _ h=>h) h2
 obtain⟨q3,hq3⟩:=slice_place (w:=W) (fun _ _ h=>h) h3
 let at':Nat->Option Place:=fun l=>if l=100000 then q1 else if l=100001 then q2 else if l=100002 then q3 else none
 obtain⟨qa1,qb1⟩:=hq1 at' 100000 (by simp[at'])
 obtain⟨qa2,qb2⟩:=hq2 at' 100001 (by simp[at'])
 obtain⟨qa3,qb3⟩:=hq3 at' 100002 (by simp[at'])
 have l1:=decL_length decE3 d1.toN d1.toF
 have l2:=decL_length decI1 d2.toN d2.toF
 have l3:=decL_length decAc d3.toN d3.toF
 refine law_run (vals:=.agg #[.int .i64 n,v1,v2,v3]::ev) hg (x:=laOf n d1 d2 d3 a b) trivial rfl (ρ:=⟨at',fun b=>W.heap[b]?⟩) ?_ (HSat.read ?_ ?_) ?_ ht
 ·refine DenL_cons.2 ⟨?_,he _⟩
  show Den ⟨at',fun b=>W.heap[b]?⟩ (.agg [.i .i64 n,.sl 100000 0 (decL decE3 d1.toN d1.toF).length,.sl 100001 0 (decL decI1 d2.toN d2.toF).length,.sl 100002 0 (decL decAc d3.toN d3.toF).length]) (.agg #[.int .i64 n,v1,v2,v3])
  rw[l1,l2,l3]
  have hn:Den ⟨at',fun b=>W.heap[b]?⟩ (.i .i64 n) (.int .i64 n):=by simp only[Den]
  have hl:=DenL_cons.2 ⟨hn,DenL_cons.2 ⟨qa1,DenL_cons.2 ⟨qa2,DenL_cons.2 ⟨qa3,(by simp[DenL]:DenL ⟨at',fun b=>W.heap[b]?⟩ [] [])⟩⟩⟩⟩
  rw[Den]
  exact⟨_,rfl,hl⟩
 ·intro l hgl
  by_cases e0:l=100000
  ·subst e0;cases hgl
  by_cases e1:l=100001
  ·subst e1;cases hgl
  by_cases e2:l=100002
  ·subst e2;cases hgl
  simp[at',e0,e1,e2]
 ·intro l b hgl
  have hm:=hget_mem hgl
  simp only[plH,List.mem_cons,List.not_mem_nil,or_false,Prod.mk.injEq]at hm
  rcases hm with⟨rfl,rfl⟩|⟨rfl,rfl⟩|⟨rfl,rfl⟩
  ·refine⟨?_,rfl,rfl⟩
   show BlkOk _ W _ (.rows .bor kE (decL decE3 d1.toN d1.toF).length (encL encE (decL decE3 d1.toN d1.toF)))
   rw[l1];exact qb1.rows_eqv (rowsEq_dec decE3_eq _ _)
  ·refine⟨?_,rfl,rfl⟩
   show BlkOk _ W _ (.rows .bor k1 (decL decI1 d2.toN d2.toF).length (encL encI (decL decI1 d2.toN d2.toF)))
   rw[l2];exact qb2.rows_eqv (rowsEq_dec decI1_eq _ _)
  ·refine⟨?_,rfl,rfl⟩
   show BlkOk _ W _ (.rows .bor kA (decL decAc d3.toN d3.toF).length (encL encA (decL decAc d3.toN d3.toF)))
   rw[l3];exact qb3.rows_eqv (rowsEq_dec decAc_eq _ _)
 ·intro l b hgl
  have hm:=hget_mem hgl
  simp only[plH,List.mem_cons,List.not_mem_nil,or_false,Prod.mk.injEq]at hm
  rcases hm with⟨rfl,rfl⟩|⟨rfl,rfl⟩|⟨rfl,rfl⟩ <;>rfl
end Go.Sym