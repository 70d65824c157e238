/- WaitQueueOrdered: whatever the input, the law returns true and the input reads as it did: the given statement. No condition beside it. -/
import Derived.Test.YtakbmbmpcenljaaV6
import Derived.Test.YtakbmbmpcenljaaT25
import Derived.ProofKit
import Derived.Stop.Joined
import Derived.JoinedCond
import Derived.Test.YtakbmbmpcenljaaRows
namespace Go.Proofs.Ytakbmbmpcenljaa
open Go.Sym
open Go.ChangeShapes Go.WideShapes Go.ChangeAt Go.RowKit
set_option linter.unusedVariables false
set_option linter.unusedSimpArgs false
theorem own3:ownKnob Try.prog.godebug=none:=by kernel_rfl
theorem laidOut3:laidOutB Try.prog=true:=by kernel_rfl
theorem run3 {W:World} {v0:Value} {d0:D} (h0:DenD (zW W) (.int .i64) d0 v0) {v1:Value} {d1:D} (h1:DenD (zW W) (.int .i64) d1 v1) {v2:Value} {d2:D} (h2:DenD (zW W) (.sl kA5) d2 v2):
  Calls Try.prog 3 #[v0,v1,v2] W fun e W'=>e= .returned (.bool true)/\Below W.heap.size W W':=by
 refine law_sls w3_good (x:=⟨⟨d0.toI,d1.toI⟩,decL decAct d2.toN d2.toF⟩) trivial rfl [(.bor,⟨kA5,d2,v2⟩,encL encA (decL decAct (d2).toN (d2).toF))] (fun m s f hm=>?_) ?_ (fun at' h=>?_) (fun _=>trivial)
 ·simp only[List.mem_cons,List.not_mem_nil,or_false,Prod.mk.injEq]at hm
  rcases hm with⟨rfl,rfl,rfl⟩
  ·exact⟨h2,rowsEq_dec decAct_eq _ _,rfl⟩
 ·show loH _=_
  simp only[loA,loH,actsH,decL_length]
  rfl
 ·have a0:Den ⟨at',zW W⟩ (.i .i64 d0.toI) v0:=by simp only[DenD]at h0;simp only[Den];exact h0
  have a1:Den ⟨at',zW W⟩ (.i .i64 d1.toI) v1:=by simp only[DenD]at h1;simp only[Den];exact h1
  have a2:=h 0 _ _ _ rfl
  have hl:=DenL_cons.2 ⟨a0,DenL_cons.2 ⟨a1,DenL_cons.2 ⟨a2,(by simp[DenL]:DenL _ [] [])⟩⟩⟩
  show DenL _ (loA _) _
  simp only[loA,loH,actsH,decL_length]
  exact hl
set_option maxRecDepth 100000 in
theorem lifted3 (os:Os) (started:os.Started) (H:Type) (enc:TypeId × Value->H):
  ReturnsInHanded {} Try.checked os 3 .any (Rows.waitQueueOrderedSpec.pre6 enc Try.prog Try.f3 Rows.waitQueueOrderedRow.domain false) (Rows.waitQueueOrderedSpec.post enc Try.prog Try.f3 false true false false):=by
 refine returnsInHanded_of_change (C:=Try.checked) own3 started (by kernel_rfl) Try.func3
  (ChangeSpec.witness6 (enc:=enc) (C:=Try.checked) false ⟨#[],#[.int .i64 0,.int .i64 0,.slice none 0 0],[]⟩ 8 (by kernel_rfl) (by kernel_rfl) (by kernel_rfl) (by kernel_rfl)) ?_
 intro W base args ds gs before hval0 hW hcnd _
 have hval:∀(j:Nat) t v,Try.f3.params[j]? =some t->args[j]? =some v->Value.okWide Try.prog W .any base t v:=hval0
 have hW':=hW
 obtain⟨p,q,hA0,hV,rfl,hfz,hnd⟩:=hW
 have hA:DataW.TrodAll enc Try.prog W 0 (fun _=>true) true Try.f3.params.toList args.toList ds p:=hA0
 rw[Try.params3]at hA hval
 obtain⟨v0,vs0,d0,ds0,p0,q0,hargs,rfl,rfl,h0,r0⟩:=trodAll_cons hA
 obtain⟨v1,vs1,d1,ds1,p1,q1,rfl,rfl,rfl,h1,r1⟩:=trodAll_cons r0
 obtain⟨v2,vs2,d2,ds2,p2,q2,rfl,rfl,rfl,h2,r2⟩:=trodAll_cons r1
 obtain⟨rfl,rfl,rfl⟩:=trodAll_nil r2
 obtain rfl:args= #[v0,v1,v2]:=by cases args;simp_all
 obtain⟨rfl,rfl⟩:=trodVars_none hV
 have tk0:=h0
 have lt0:∀ x∈p0,x.block<W.heap.size:=by obtain⟨m,hm⟩:=tk0;exact DataW.trod_lt m _ _ _ hm
 obtain⟨b0,rfl⟩:=okWide_int Try.underlying3 (hval 0 3 v0 rfl rfl)
 obtain⟨x0,z0,w0⟩:=lift_one (k:=.int .i64) tok 40 (by kernel_rfl) rfl h0
 have tk1:=h1
 have lt1:∀ x∈p1,x.block<W.heap.size:=by obtain⟨m,hm⟩:=tk1;exact DataW.trod_lt m _ _ _ hm
 obtain⟨b1,rfl⟩:=okWide_int Try.underlying2 (hval 1 2 v1 rfl rfl)
 obtain⟨x1,z1,w1⟩:=lift_one (k:=.int .i64) tok 40 (by kernel_rfl) rfl h1
 have tk2:=h2
 have lt2:∀ x∈p2,x.block<W.heap.size:=by obtain⟨m,hm⟩:=tk2;exact DataW.trod_lt m _ _ _ hm
 obtain⟨b2,len2,cap2,rfl⟩:=okWide_slice Try.underlying22 (hval 2 22 v2 rfl rfl)
 obtain⟨x2,z2,w2⟩:=lift_one (k:=.sl kA5) tok 40 (by kernel_rfl) rfl h2
 clear hA0 hval0
 refine(run3 z0 z1 z2).mono fun e W' ⟨he,bel⟩=>?_
 subst he
 exact⟨_,rfl,_,_,_,[],_,[],hW',trodAll_mk1 (shut_bool Try.underlying4 _),(trodAll_cons_mk (Below.trod laidOut3 (by kernel_rfl) (of_decide_eq_true (by kernel_rfl)) tk0 bel lt0) (trodAll_cons_mk (Below.trod laidOut3 (by kernel_rfl) (of_decide_eq_true (by kernel_rfl)) tk1 bel lt1) (trodAll_cons_mk (Below.trod laidOut3 (by kernel_rfl) (of_decide_eq_true (by kernel_rfl)) tk2 bel lt2) trodAll_mk0))),rfl,bel.frame _,fun h=>by cases h⟩
theorem waitQueueOrdered_over:Rows.waitQueueOrderedRow.holds Try.pinned (OpenSpec.ofChange Rows.waitQueueOrderedSpec):=
 OpenClaim.holds_of_wide 3 Try.f3 rfl rfl rfl rfl rfl rfl rfl ⟨rfl,rfl,rfl,rfl,rfl⟩ rfl rfl rfl rfl rfl (by kernel_rfl) Try.func3 (by kernel_rfl)
  (of_decide_eq_true (by kernel_rfl)) (by unfold Func.isWrapper;first|(rw[if_pos (by decide+kernel)];kernel_rfl)|(rw[if_neg (by decide+kernel)];exact⟨rfl,rfl⟩))
  (fun os started H enc _=>lifted3 os started H enc)
theorem waitQueueOrdered_proved:Rows.WaitQueueOrderedSaid:=waitQueueOrdered_over
end Go.Proofs.Ytakbmbmpcenljaa