import Derived.Test.YtfflknhillcblaaDoorX7
import Derived.Test.YtfflknhillcblaaDoorT1
import Derived.Test.YtfflknhillcblaaDoorXD
namespace Go.Sym
set_option linter.unusedVariables false
open Go.Proofs Go.ChangeShapes Go.WideShapes Go.RowKit
set_option maxRecDepth 100000
def decE3 (g:Nat->D):Ed:=⟨(g 0).toI,(g 1).toI,(g 2).toI⟩
theorem decE3_eq (g:Nat->D):rowEq kE g (encE (decE3 g)) 0:=by simp only[rowEq,Kd.eqv,kE];exact⟨rfl,rfl,rfl,trivial⟩
theorem struct_in {H:Type} {enc:TypeId × Value->H} {P:Program} {w:World} {T:List (Nat × TI)} (hT:TOk P T) {t:Nat} {ks:List Kd} {cs:Array Value} {d:DataW H} {p:List MemPlace} (hk:kdsL T 40 t=some ks) (h:DataW.Trod enc P w 0 (fun _=>true) true t (.agg cs) d p):
  ∃ g:Nat->D,∀ j (hj:j<ks.length),∃ u,cs[j]? =some u/\DenD (fun b=>w.heap[b]?) (ks[j]'hj) (g j) u/\WfD (ks[j]'hj) (g j):=by
 obtain⟨fl,h⟩:=h
 obtain⟨g,hg⟩:=(trod_lift hT 40).1 t ks hk fl _ _ h
 refine⟨g,fun j hj=>?_⟩
 obtain⟨u,h1,h2,h3⟩:=hg j hj
 exact⟨u,by simpa[Value.cells]using h1,h2,h3⟩
theorem net_in {H:Type} {enc:TypeId × Value->H} {w:World} {cs:Array Value} {d:DataW H} {p:List MemPlace} (hs:cs.size=2) (h:DataW.Trod enc Tryd.prog w 0 (fun _=>true) true 24 (.agg cs) d p):
  ∃(n:Int) (d1:D) (v1:Value),cs= #[.int .i64 n,v1]/\DenD (fun b=>w.heap[b]?) (.sl kE) d1 v1:=by
 obtain⟨g,hg⟩:=struct_in (ks:=[.int .i64,.sl kE]) tok (by kernel_rfl) h
 obtain⟨u0,a0,b0,_⟩:=hg 0 (by decide)
 obtain⟨u1,a1,b1,_⟩:=hg 1 (by decide)
 have b0:u0= .int .i64 (g 0).toI:=by simpa only[DenD,List.getElem_cons_zero]using b0
 subst b0
 refine⟨(g 0).toI,g 1,u1,?_,b1⟩
 apply Array.ext_getElem?
 intro i
 match i with
 |0=>simpa using a0
 |1=>simpa using a1
 |i+2=>rw[Array.getElem?_eq_none (by omega),Array.getElem?_eq_none (by simp)]
def nwOf (n:Int) (d1:D):NewX:=⟨n,decL decE3 d1.toN d1.toF⟩
theorem n_runP {X:Type} {pre:X->Prop} {P:X->NewX} {ext:X->List SV} {f:Nat} (hg:Good Tryd.prog f ⟨X,pre,fun x=>nA7 (P x)::ext x,fun x=>nH7 (P x),fun _=>.b true,fun _=>[]⟩) {W:World} (ht:∃ TT fz,W.heap[0]? =some (.cells tabV TT fz)) {n:Int}
  {d1:D} {v1:Value} {ev:List Value} (h1:DenD (fun b=>W.heap[b]?) (.sl kE) d1 v1) (x:X) (hp:pre x) (hx:P x=nwOf n d1) (he:∀ ρ,DenL ρ (ext x) ev):Calls Tryd.prog f (.agg #[.int .i64 n,v1]::ev).toArray W fun e W'=>e= .returned (.bool true)/\Below W.heap.size W W':=by
 obtain⟨q1,hq1⟩:=slice_place (w:=W) (fun _ _ h=>h) h1
 let at':Nat->Option Place:=fun l=>if l=100000 then q1 else none
 obtain⟨qa1,qb1⟩:=hq1 at' 100000 (by simp[at'])
 have l1:=decL_length decE3 d1.toN d1.toF
 refine law_run (vals:=.agg #[.int .i64 n,v1]::ev) hg (x:=x) hp rfl (ρ:=⟨at',fun b=>W.heap[b]?⟩) ?_ (HSat.read ?_ ?_) ?_ ht
 ·have hn:Den ⟨at',fun b=>W.heap[b]?⟩ (.i .i64 n) (.int .i64 n):=by simp only[Den]
  refine DenL_cons.2 ⟨?_,he _⟩
  show Den _ (nA7 (P x)) _
  rw[hx]
  show Den ⟨at',fun b=>W.heap[b]?⟩ (.agg [.i .i64 n,.sl 100000 0 (decL decE3 d1.toN d1.toF).length]) (.agg #[.int .i64 n,v1])
  rw[l1]
  have hl:=DenL_cons.2 ⟨hn,DenL_cons.2 ⟨qa1,(by simp[DenL]:DenL ⟨at',fun b=>W.heap[b]?⟩ [] [])⟩⟩
  rw[Den]
  exact⟨_,rfl,hl⟩
 ·intro l hgl
  by_cases e0:l=100000
  ·subst e0;cases hgl
  simp[at',e0]
 ·intro l b hgl
  have hm:(l,b)∈nH7 (P x):=hget_mem hgl
  rw[hx]at hm
  simp only[nH7,List.mem_cons,List.not_mem_nil,or_false,Prod.mk.injEq]at hm
  obtain⟨rfl,rfl⟩:=hm
  refine⟨?_,rfl,rfl⟩
  show BlkOk _ W _ (.rows .bor kE (decL decE3 d1.toN d1.toF).length (encL encE (decL decE3 d1.toN d1.toF)))
  rw[l1];exact qb1.rows_eqv (rowsEq_dec decE3_eq _ _)
 ·intro l b hgl
  have hm:(l,b)∈nH7 (P x):=hget_mem hgl
  simp only[nH7,List.mem_cons,List.not_mem_nil,or_false,Prod.mk.injEq]at hm
  obtain⟨rfl,rfl⟩:=hm;rfl
theorem n_run {X:Type} {P:X->NewX} {ext:X->List SV} {f:Nat} (hg:Good Tryd.prog f ⟨X,fun _=>True,fun x=>nA7 (P x)::ext x,fun x=>nH7 (P x),fun _=>.b true,fun _=>[]⟩) {W:World} (ht:∃ TT fz,W.heap[0]? =some (.cells tabV TT fz)) {n:Int}
  {d1:D} {v1:Value} {ev:List Value} (h1:DenD (fun b=>W.heap[b]?) (.sl kE) d1 v1) (x:X) (hx:P x=nwOf n d1) (he:∀ ρ,DenL ρ (ext x) ev):Calls Tryd.prog f (.agg #[.int .i64 n,v1]::ev).toArray W fun e W'=>e= .returned (.bool true)/\Below W.heap.size W W':=n_runP hg ht h1 x trivial hx he
end Go.Sym