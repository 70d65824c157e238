import Derived.Test.YtpnnecijeoipfaaGreatDoorOE
import Derived.Test.YtpnnecijeoipfaaGreatDoorT1
import Derived.Test.YtpnnecijeoipfaaGreatDoorXD
namespace Go.Sym
set_option linter.unusedVariables false
open Go.Proofs Go.ChangeShapes Go.WideShapes Go.RowKit
set_option maxRecDepth 100000
def decCs (g:Nat->D):Cs:=⟨(g 0).toI,(g 1).toI,(g 2).toI,(g 3).toI,(g 4).toI,(g 5).toI⟩
theorem decCs_eq (g:Nat->D):rowEq kCs g (encCs (decCs g)) 0:=by simp only[rowEq,Kd.eqv,kCs];exact⟨rfl,rfl,rfl,rfl,rfl,rfl,trivial⟩
theorem decCs_ok {g:Nat->D} (h:WfR kCs g 0):CsOk (decCs g):=by
 have q:=WfR_iff.1 h
 have e:∀ j,j<6->0<=(g j).toI/\(g j).toI<=255:=by
  intro j hj
  have:=q j hj
  rw[Nat.zero_add]at this
  rcases(show j=0∨j=1∨j=2∨j=3∨j=4∨j=5 by omega)with e|e|e|e|e|e <;>subst e <;>(simp only[kCs,List.getElem_cons_zero,List.getElem_cons_succ,WfD,inR]at this;exact this)
 exact⟨e 0 (by omega),e 1 (by omega),e 2 (by omega),e 3 (by omega),e 4 (by omega),e 5 (by omega)⟩
theorem decCs_all {d:D} (h:WfD (.sl kCs) d):∀ x∈decL decCs d.toN d.toF,CsOk x:=by
 intro x hx
 simp only[WfD]at h
 unfold decL at hx
 obtain⟨r,hr,rfl⟩:=List.mem_map.1 hx
 exact decCs_ok (h.2 r (List.mem_range.1 hr))
theorem cs_run {X:Type} {pre:X->Prop} {L:X->List Cs} {ext:X->List SV} {f:Nat} (hg:Good Tryz.prog f ⟨X,pre,fun x=>.sl 100000 0 (L x).length::ext x,fun x=>[(100000,.rows .bor kCs (L x).length (encL encCs (L x)))],fun _=>.b true,fun _=>[]⟩) {W:World} (ht:∃ TT fz,W.heap[0]? =some (.cells tabV TT fz))
  {d1:D} {v1:Value} {ev:List Value} (h1:DenD (fun b=>W.heap[b]?) (.sl kCs) d1 v1) (x:X) (hp:pre x) (hx:L x=decL decCs d1.toN d1.toF) (he:∀ ρ,DenL ρ (ext x) ev):Calls Tryz.prog f (v1::ev).toArray W fun e W'=>e= .returned (.bool true)/\Below W.heap.size W W':=by
 obtain⟨q1,hq1⟩:=slice_place (w:=W) (fun _ _ h=>h) h1
 let at':Nat->Option Place:=fun l=>if l=100000 then q1 else none
 obtain⟨qa1,qb1⟩:=hq1 at' 100000 (by simp[at'])
 have l1:=decL_length decCs d1.toN d1.toF
 refine law_run (vals:=v1::ev) hg (x:=x) hp rfl (ρ:=⟨at',fun b=>W.heap[b]?⟩) ?_ (HSat.read ?_ ?_) ?_ ht
 ·refine DenL_cons.2 ⟨?_,he _⟩
  show Den _ (.sl 100000 0 (L x).length) _
  rw[hx,l1];exact qa1
 ·intro l hgl
  by_cases e0:l=100000
  ·subst e0;cases hgl
  simp[at',e0]
 ·intro l b hgl
  have hm:(l,b)∈[(100000,Blk.rows .bor kCs (L x).length (encL encCs (L x)))]:=hget_mem hgl
  rw[hx]at hm
  simp only[List.mem_cons,List.not_mem_nil,or_false,Prod.mk.injEq]at hm
  obtain⟨rfl,rfl⟩:=hm
  refine⟨?_,rfl,rfl⟩
  show BlkOk _ W _ (.rows .bor kCs (decL decCs d1.toN d1.toF).length (encL encCs (decL decCs d1.toN d1.toF)))
  rw[l1];exact qb1.rows_eqv (rowsEq_dec decCs_eq _ _)
 ·intro l b hgl
  have hm:(l,b)∈[(100000,Blk.rows .bor kCs (L x).length (encL encCs (L x)))]:=hget_mem hgl
  simp only[List.mem_cons,List.not_mem_nil,or_false,Prod.mk.injEq]at hm
  obtain⟨rfl,rfl⟩:=hm;rfl
end Go.Sym