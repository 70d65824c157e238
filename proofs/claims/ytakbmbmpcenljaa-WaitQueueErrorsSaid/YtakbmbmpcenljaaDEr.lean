/- WaitQueueErrors: whatever the input, the law returns true and the input reads as it did: the given statement. No condition beside it. -/
import Derived.Test.YtakbmbmpcenljaaV6
import Derived.Test.YtakbmbmpcenljaaT24
import Derived.ProofKit
import Derived.Stop.Joined
import Derived.JoinedCond
import Derived.Test.YtakbmbmpcenljaaRows
namespace Go.Proofs.Ytakbmbmpcenljaa
open Go.Sym
open Go.ChangeShapes Go.WideShapes Go.ChangeAt Go.RowKit
set_option linter.unusedVariables false
set_option linter.unusedSimpArgs false
theorem own9:ownKnob Try.prog.godebug=none:=by kernel_rfl
theorem laidOut9:laidOutB Try.prog=true:=by kernel_rfl
theorem run9 {W:World} {cs0:Array Value} {g0:Nat->D} (h0:CellsD W kW g0 0 cs0.toList) {v1:Value} {d1:D} (h1:DenD (zW W) (.sl kA5) d1 v1) {cs2:Array Value} {g2:Nat->D} (h2:CellsD W kA5 g2 0 cs2.toList):
  Calls Try.prog 9 #[.agg cs0,v1,.agg cs2] W fun e W'=>e= .returned (.bool true)/\Below W.heap.size W W':=by
 obtain⟨c0_0,c0_1,e0⟩:=list_2 h0.1
 have h0':=h0
 rw[e0]at h0'
 obtain⟨c2_0,c2_1,c2_2,c2_3,c2_4,e2⟩:=list_5 h2.1
 have h2':=h2
 rw[e2]at h2'
 refine law_sls w9_good (x:=⟨⟨(g0 0).toI,(g0 1).toI⟩,decL decAct d1.toN d1.toF,decAct g2⟩) trivial rfl [(.bor,⟨kA5,d1,v1⟩,encL encA (decL decAct (d1).toN (d1).toF))] (fun m s f hm=>?_) ?_ (fun at' h=>?_) (fun _=>trivial)
 ·simp only[List.mem_cons,List.not_mem_nil,or_false,Prod.mk.injEq]at hm
  rcases hm with⟨rfl,rfl,rfl⟩
  ·exact⟨h1,rowsEq_dec decAct_eq _ _,rfl⟩
 ·show leH _=_
  simp only[leA,leH,actsH,actV,decAct,decL_length]
  rfl
 ·have a0:=agg_den (l:=100000) h0 (at':=at') (fun i s hi=>by
   rw[e0]at hi
   match i,hi with
   |i,hi=>cases hi)
  have a1:=h 0 _ _ _ rfl
  have a2:=agg_den (l:=100001) h2 (at':=at') (fun i s hi=>by
   rw[e2]at hi
   match i,hi with
   |i,hi=>cases hi)
  have hl:=DenL_cons.2 ⟨a0,DenL_cons.2 ⟨a1,DenL_cons.2 ⟨a2,(by simp[DenL]:DenL _ [] [])⟩⟩⟩
  show DenL _ (leA _) _
  simp only[leA,leH,actsH,actV,decAct,decL_length]
  exact hl
set_option maxRecDepth 100000 in
theorem lifted9 (os:Os) (started:os.Started) (H:Type) (enc:TypeId × Value->H):
  ReturnsInHanded {} Try.checked os 9 .any (Rows.waitQueueErrorsSpec.pre6 enc Try.prog Try.f9 Rows.waitQueueErrorsRow.domain false) (Rows.waitQueueErrorsSpec.post enc Try.prog Try.f9 false true false false):=by
 refine returnsInHanded_of_change (C:=Try.checked) own9 started (by kernel_rfl) Try.func9
  (ChangeSpec.witness6 (enc:=enc) (C:=Try.checked) false ⟨#[],#[.agg #[.int .i64 0,.int .i64 0],.slice none 0 0,.agg #[.int .i64 0,.int .i64 0,.int .i64 0,.int .i64 0,.int .i64 0]],[]⟩ 8 (by kernel_rfl) (by kernel_rfl) (by kernel_rfl) (by kernel_rfl)) ?_
 intro W base args ds gs before hval0 hW hcnd _
 have hval:∀(j:Nat) t v,Try.f9.params[j]? =some t->args[j]? =some v->Value.okWide Try.prog W .any base t v:=hval0
 have hW':=hW
 obtain⟨p,q,hA0,hV,rfl,hfz,hnd⟩:=hW
 have hA:DataW.TrodAll enc Try.prog W 0 (fun _=>true) true Try.f9.params.toList args.toList ds p:=hA0
 rw[Try.params9]at hA hval
 obtain⟨v0,vs0,d0,ds0,p0,q0,hargs,rfl,rfl,h0,r0⟩:=trodAll_cons hA
 obtain⟨v1,vs1,d1,ds1,p1,q1,rfl,rfl,rfl,h1,r1⟩:=trodAll_cons r0
 obtain⟨v2,vs2,d2,ds2,p2,q2,rfl,rfl,rfl,h2,r2⟩:=trodAll_cons r1
 obtain⟨rfl,rfl,rfl⟩:=trodAll_nil r2
 obtain rfl:args= #[v0,v1,v2]:=by cases args;simp_all
 obtain⟨rfl,rfl⟩:=trodVars_none hV
 have tk0:=h0
 have lt0:∀ x∈p0,x.block<W.heap.size:=by obtain⟨m,hm⟩:=tk0;exact DataW.trod_lt m _ _ _ hm
 obtain⟨cs0,rfl,hc0⟩:=okWide_struct Try.underlying43 (hval 0 43 v0 rfl rfl)
 obtain⟨g0,z0⟩:=struct_cells (ks:=kW) tok (by kernel_rfl) (hc0.trans (show Try.prog.cellsOf 43=2 by kernel_rfl)) h0
 have tk1:=h1
 have lt1:∀ x∈p1,x.block<W.heap.size:=by obtain⟨m,hm⟩:=tk1;exact DataW.trod_lt m _ _ _ hm
 obtain⟨b1,len1,cap1,rfl⟩:=okWide_slice Try.underlying22 (hval 1 22 v1 rfl rfl)
 obtain⟨x1,z1,w1⟩:=lift_one (k:=.sl kA5) tok 40 (by kernel_rfl) rfl h1
 have tk2:=h2
 have lt2:∀ x∈p2,x.block<W.heap.size:=by obtain⟨m,hm⟩:=tk2;exact DataW.trod_lt m _ _ _ hm
 obtain⟨cs2,rfl,hc2⟩:=okWide_struct Try.underlying32 (hval 2 32 v2 rfl rfl)
 obtain⟨g2,z2⟩:=struct_cells (ks:=kA5) tok (by kernel_rfl) (hc2.trans (show Try.prog.cellsOf 32=5 by kernel_rfl)) h2
 clear hA0 hval0
 refine(run9 z0 z1 z2).mono fun e W' ⟨he,bel⟩=>?_
 subst he
 exact⟨_,rfl,_,_,_,[],_,[],hW',trodAll_mk1 (shut_bool Try.underlying4 _),(trodAll_cons_mk (Below.trod laidOut9 (by kernel_rfl) (of_decide_eq_true (by kernel_rfl)) tk0 bel lt0) (trodAll_cons_mk (Below.trod laidOut9 (by kernel_rfl) (of_decide_eq_true (by kernel_rfl)) tk1 bel lt1) (trodAll_cons_mk (Below.trod laidOut9 (by kernel_rfl) (of_decide_eq_true (by kernel_rfl)) tk2 bel lt2) trodAll_mk0))),rfl,bel.frame _,fun h=>by cases h⟩
theorem waitQueueErrors_over:Rows.waitQueueErrorsRow.holds Try.pinned (OpenSpec.ofChange Rows.waitQueueErrorsSpec):=
 OpenClaim.holds_of_wide 9 Try.f9 rfl rfl rfl rfl rfl rfl rfl ⟨rfl,rfl,rfl,rfl,rfl⟩ rfl rfl rfl rfl rfl (by kernel_rfl) Try.func9 (by kernel_rfl)
  (of_decide_eq_true (by kernel_rfl)) (by unfold Func.isWrapper;first|(rw[if_pos (by decide+kernel)];kernel_rfl)|(rw[if_neg (by decide+kernel)];exact⟨rfl,rfl⟩))
  (fun os started H enc _=>lifted9 os started H enc)
theorem waitQueueErrors_proved:Rows.WaitQueueErrorsSaid:=waitQueueErrors_over
end Go.Proofs.Ytakbmbmpcenljaa