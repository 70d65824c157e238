import Derived.Test.YtcghhlodddpmaaaDoorF43
namespace Go.Sym
set_option linter.unusedVariables false
open Go.Proofs Go.ChangeShapes Go.WideShapes Go.RowKit
set_option maxRecDepth 100000
theorem decB_eq (g:Nat->D):rowEq kB g (encI (decI1 g)) 0:=by simp only[rowEq,Kd.eqv];exact⟨rfl,trivial⟩
theorem decB_ok {d:D} (h:WfD (.sl kB) d):isB (decL decI1 d.toN d.toF):=by
 intro x hx
 simp only[WfD]at h
 unfold decL at hx
 obtain⟨r,hr,rfl⟩:=List.mem_map.1 hx
 have q:=WfR_iff.1 (h.2 r (List.mem_range.1 hr)) 0 (by decide)
 simp only[List.getElem_cons_zero,WfD,inR,Nat.zero_add]at q
 exact q
theorem u16_rng {n:Int} (h:(Lit.int .u16 n).wf=true):0<=n/\n<=65535:=by
 have h:(decide (IntKind.u16.min<=n)&&decide (n<=IntKind.u16.max))=true:=h
 rw[Bool.and_eq_true,decide_eq_true_iff,decide_eq_true_iff]at h
 have a:IntKind.u16.min=0:=rfl
 have b:IntKind.u16.max=65535:=rfl
 omega
theorem by_run {X:Type} {pre:X->Prop} {L:X->List Int} {ext:X->List SV} {f:Nat} (hg:Good Tryd.prog f ⟨X,pre,fun x=>.sl 100001 0 (L x).length::ext x,fun x=>[(100001,.rows .bor kB (L x).length (encL encI (L x)))],fun _=>.b true,fun _=>[]⟩) {W:World} (ht:glob10.ok ⟨fun _=>none,fun b=>W.heap[b]?⟩)
  {d1:D} {v1:Value} {ev:List Value} (h1:DenD (fun b=>W.heap[b]?) (.sl kB) d1 v1) (x:X) (hp:pre x) (hx:L x=decL decI1 d1.toN d1.toF) (he:∀ ρ,DenL ρ (ext x) ev):Calls Tryd.prog f (v1::ev).toArray W fun e W'=>e= .returned (.bool true)/\Below W.heap.size W W':=by
 obtain⟨q1,hq1⟩:=slice_place (w:=W) (fun _ _ h=>h) h1
 let at':Nat->Option Place:=fun l=>if l=100001 then q1 else none
 obtain⟨qa1,qb1⟩:=hq1 at' 100001 (by simp[at'])
 have l1:=decL_length decI1 d1.toN d1.toF
 refine law_run (vals:=v1::ev) hg (x:=x) hp rfl (ρ:=⟨at',fun b=>W.heap[b]?⟩) ?_ (HSat.read ?_ ?_) ?_ ht
 ·refine DenL_cons.2 ⟨?_,he _⟩
  show Den _ (.sl 100001 0 (L x).length) _
  rw[hx,l1];exact qa1
 ·intro l hgl
  by_cases e0:l=100001
  ·subst e0;cases hgl
  simp[at',e0]
 ·intro l b hgl
  have hm:(l,b)∈[(100001,Blk.rows .bor kB (L x).length (encL encI (L x)))]:=hget_mem hgl
  rw[hx]at hm
  simp only[List.mem_cons,List.not_mem_nil,or_false,Prod.mk.injEq]at hm
  obtain⟨rfl,rfl⟩:=hm
  refine⟨?_,rfl,rfl⟩
  show BlkOk _ W _ (.rows .bor kB (decL decI1 d1.toN d1.toF).length (encL encI (decL decI1 d1.toN d1.toF)))
  rw[l1];exact qb1.rows_eqv (rowsEq_dec decB_eq _ _)
 ·intro l b hgl
  have hm:(l,b)∈[(100001,Blk.rows .bor kB (L x).length (encL encI (L x)))]:=hget_mem hgl
  simp only[List.mem_cons,List.not_mem_nil,or_false,Prod.mk.injEq]at hm
  obtain⟨rfl,rfl⟩:=hm;rfl
end Go.Sym