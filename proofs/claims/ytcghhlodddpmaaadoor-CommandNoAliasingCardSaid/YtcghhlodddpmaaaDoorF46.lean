import Derived.Test.YtcghhlodddpmaaaDoorF44
namespace Go.Sym
set_option linter.unusedVariables false
open Go.Proofs Go.ChangeShapes Go.WideShapes Go.RowKit
set_option maxRecDepth 100000
theorem nb_run {pre:List Int × List Int->Prop} {f:Nat} (hg:Good Tryd.prog f ⟨List Int × List Int,pre,fun x=>[.sl 100001 0 x.1.length,.sl 100002 0 x.2.length],fun x=>[(100001,.rows .bor kN x.1.length (encL encI x.1)),(100002,.rows .bor kB x.2.length (encL encI x.2))],fun _=>.b true,fun _=>[]⟩) {W:World} (ht:glob10.ok ⟨fun _=>none,fun b=>W.heap[b]?⟩)
  {d1 d2:D} {v1 v2:Value} (h1:DenD (fun b=>W.heap[b]?) (.sl kN) d1 v1) (h2:DenD (fun b=>W.heap[b]?) (.sl kB) d2 v2) (hp:pre (decL decI1 d1.toN d1.toF,decL decI1 d2.toN d2.toF)):Calls Tryd.prog f #[v1,v2] W fun e W'=>e= .returned (.bool true)/\Below W.heap.size W W':=by
 obtain⟨q1,hq1⟩:=slice_place (w:=W) (fun _ _ h=>h) h1
 obtain⟨q2,hq2⟩:=slice_place (w:=W) (fun _ _ h=>h) h2
 let at':Nat->Option Place:=fun l=>if l=100001 then q1 else if l=100002 then q2 else none
 obtain⟨qa1,qb1⟩:=hq1 at' 100001 (by simp[at'])
 obtain⟨qa2,qb2⟩:=hq2 at' 100002 (by simp[at'])
 have l1:=decL_length decI1 d1.toN d1.toF
 have l2:=decL_length decI1 d2.toN d2.toF
 refine law_run (vals:=[v1,v2]) hg (x:=(decL decI1 d1.toN d1.toF,decL decI1 d2.toN d2.toF)) hp rfl (ρ:=⟨at',fun b=>W.heap[b]?⟩) ?_ (HSat.read ?_ ?_) ?_ ht
 ·refine DenL_cons.2 ⟨?_,DenL_cons.2 ⟨?_,by simp[DenL]⟩⟩
  ·show Den _ (.sl 100001 0 (decL decI1 d1.toN d1.toF).length) _
   rw[l1];exact qa1
  ·show Den _ (.sl 100002 0 (decL decI1 d2.toN d2.toF).length) _
   rw[l2];exact qa2
 ·intro l hgl
  by_cases e0:l=100001
  ·subst e0;cases hgl
  by_cases e1:l=100002
  ·subst e1;cases hgl
  simp[at',e0,e1]
 ·intro l b hgl
  have hm:=hget_mem hgl
  simp only[List.mem_cons,List.not_mem_nil,or_false,Prod.mk.injEq]at hm
  rcases hm with⟨rfl,rfl⟩|⟨rfl,rfl⟩
  ·refine⟨?_,rfl,rfl⟩
   rw[l1];exact qb1.rows_eqv (rowsEq_dec decI1_eq _ _)
  ·refine⟨?_,rfl,rfl⟩
   rw[l2];exact qb2.rows_eqv (rowsEq_dec decB_eq _ _)
 ·intro l b hgl
  have hm:=hget_mem hgl
  simp only[List.mem_cons,List.not_mem_nil,or_false,Prod.mk.injEq]at hm
  rcases hm with⟨rfl,rfl⟩|⟨rfl,rfl⟩ <;>rfl
end Go.Sym