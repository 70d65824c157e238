import Derived.Test.YtcghhlodddpmaaaDoorF43
namespace Go.Sym
set_option linter.unusedVariables false
open Go.Proofs Go.ChangeShapes Go.WideShapes Go.RowKit
set_option maxRecDepth 100000
theorem c2_run {f:Nat} (hg:Good Tryd.prog f ⟨Cmd × Cmd,fun _=>True,fun x=>[.agg (cl x.1 100001),.agg (cl x.2 100002)],fun x=>[nB 100001 x.1,nB 100002 x.2],fun _=>.b true,fun _=>[]⟩) {W:World} (ht:glob10.ok ⟨fun _=>none,fun b=>W.heap[b]?⟩)
  {g g':Nat->D} {v6 v6':Value} (h1:DenD (fun b=>W.heap[b]?) (.sl kN) (g 6) v6) (h2:DenD (fun b=>W.heap[b]?) (.sl kN) (g' 6) v6'):Calls Tryd.prog f #[.agg (cmdV g v6),.agg (cmdV g' v6')] W fun e W'=>e= .returned (.bool true)/\Below W.heap.size W W':=by
 obtain⟨q1,hq1⟩:=slice_place (w:=W) (fun _ _ h=>h) h1
 obtain⟨q2,hq2⟩:=slice_place (w:=W) (fun _ _ h=>h) h2
 let at':Nat->Option Place:=fun l=>if l=100001 then q1 else if l=100002 then q2 else none
 obtain⟨qa1,qb1⟩:=hq1 at' 100001 (by simp[at'])
 obtain⟨qa2,qb2⟩:=hq2 at' 100002 (by simp[at'])
 have l1:=decL_length decI1 (g 6).toN (g 6).toF
 have l2:=decL_length decI1 (g' 6).toN (g' 6).toF
 refine law_run (vals:=[.agg (cmdV g v6),.agg (cmdV g' v6')]) hg (x:=(cmdOf g,cmdOf g')) trivial rfl (ρ:=⟨at',fun b=>W.heap[b]?⟩) ?_ (HSat.read ?_ ?_) ?_ ht
 ·exact DenL_cons.2 ⟨cmd_den qa1,DenL_cons.2 ⟨cmd_den qa2,by simp[DenL]⟩⟩
 ·intro l hgl
  by_cases e0:l=100001
  ·subst e0;cases hgl
  by_cases e1:l=100002
  ·subst e1;cases hgl
  simp[at',e0,e1]
 ·intro l b hgl
  have hm:=hget_mem hgl
  simp only[nB,List.mem_cons,List.not_mem_nil,or_false,Prod.mk.injEq]at hm
  rcases hm with⟨rfl,rfl⟩|⟨rfl,rfl⟩
  ·refine⟨?_,rfl,rfl⟩
   show BlkOk _ W _ (.rows .bor kN (decL decI1 (g 6).toN (g 6).toF).length (encL encI (decL decI1 (g 6).toN (g 6).toF)))
   rw[l1];exact qb1.rows_eqv (rowsEq_dec decI1_eq _ _)
  ·refine⟨?_,rfl,rfl⟩
   show BlkOk _ W _ (.rows .bor kN (decL decI1 (g' 6).toN (g' 6).toF).length (encL encI (decL decI1 (g' 6).toN (g' 6).toF)))
   rw[l2];exact qb2.rows_eqv (rowsEq_dec decI1_eq _ _)
 ·intro l b hgl
  have hm:=hget_mem hgl
  simp only[nB,List.mem_cons,List.not_mem_nil,or_false,Prod.mk.injEq]at hm
  rcases hm with⟨rfl,rfl⟩|⟨rfl,rfl⟩ <;>rfl
end Go.Sym