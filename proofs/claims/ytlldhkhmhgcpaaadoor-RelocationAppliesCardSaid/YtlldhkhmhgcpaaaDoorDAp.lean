/- law40: RelocationApplies: whatever the input, the law returns true and the input reads as it did: the given card. -/
import Derived.Test.YtlldhkhmhgcpaaaDoorV40
import Derived.Test.YtlldhkhmhgcpaaaDoorLA
import Derived.ProofKit
import Derived.LaidMore
import Derived.Lay
import Derived.Stop.Joined
import Derived.SevenTiedAt
import Derived.Test.YtlldhkhmhgcpaaaDoorCards
import Derived.Test.YtlldhkhmhgcpaaaDoorTie
namespace Go.Proofs.YtlldhkhmhgcpaaaDoor
open Go.Sym
open Go.ChangeShapes Go.WideShapes Go.ChangeAt Go.RowKit
set_option linter.unusedVariables false
set_option linter.unusedSimpArgs false
theorem own4:ownKnob Tryd.prog.godebug=none:=by kernel_rfl
theorem laidOut4:laidOutB Tryd.prog=true:=by kernel_rfl
theorem run4 {W:World} (ht:glob10.ok ⟨fun _=>none,fun b=>W.heap[b]?⟩) {v0:Value} {d0:D} (h0:DenD (zW W) (.sl kU) d0 v0) {v1:Value} {d1:D} (h1:DenD (zW W) (.sl kM) d1 v1):
  Calls Tryd.prog 4 #[v0,v1] W fun e W'=>e= .returned (.bool true)/\Below W.heap.size W W':=by
 refine law_sls la_good.1 (x:=⟨decL decU10 d0.toN d0.toF,decL decM2 d1.toN d1.toF⟩) trivial rfl [(.bor,⟨kU,d0,v0⟩,encL encU (decL decU10 (d0).toN (d0).toF)),
  (.bor,⟨kM,d1,v1⟩,encL encM (decL decM2 (d1).toN (d1).toF))] (fun m s f hm=>?_) ?_ (fun at' h=>?_) (fun _=>ht)
 ·simp only[List.mem_cons,List.not_mem_nil,or_false,Prod.mk.injEq]at hm
  rcases hm with⟨rfl,rfl,rfl⟩|⟨rfl,rfl,rfl⟩
  ·exact⟨h0,rowsEq_dec decU10_eq _ _,rfl⟩
  ·exact⟨h1,rowsEq_dec decM2_eq _ _,rfl⟩
 ·show laH _=_
  simp only[laA,laH,decL_length]
  rfl
 ·have a0:=h 0 _ _ _ rfl
  have a1:=h 1 _ _ _ rfl
  have hl:=DenL_cons.2 ⟨a0,DenL_cons.2 ⟨a1,(by simp[DenL]:DenL _ [] [])⟩⟩
  show DenL _ (laA _) _
  simp only[laA,laH,decL_length]
  exact hl
set_option maxRecDepth 100000 in
theorem lifted4 (os:Os) (started:os.Started) (H:Type) (enc:TypeId × Value->H):
  ReturnsInHanded {} Tryd.checked os 4 .any (fun w args=>(Rows.relocationAppliesSpec.pre enc Tryd.prog Tryd.f4 Rows.relocationAppliesRow.domain false w args/\laidMetH Tryd.prog [("math/bits.deBruijn32tab",Rows.laid_math_bits_deBruijn32tab),("math/bits.deBruijn64tab",Rows.laid_math_bits_deBruijn64tab),("internal/strconv.uint64pow10",Rows.laid_internal_strconv_uint64pow10)] w)/\sizedMet enc Tryd.prog Tryd.f4 (OpenSpec.ofChange Rows.relocationAppliesSpec) false w args)
   (Rows.relocationAppliesSpec.post enc Tryd.prog Tryd.f4 false true false false):=by
 refine returnsInHanded_of_change_and (C:=Tryd.checked) (X:=fun w _=>laidMetH Tryd.prog [("math/bits.deBruijn32tab",Rows.laid_math_bits_deBruijn32tab),("math/bits.deBruijn64tab",Rows.laid_math_bits_deBruijn64tab),("internal/strconv.uint64pow10",Rows.laid_internal_strconv_uint64pow10)] w) (fun _ _ _ hh h=>h.of_heap hh) own4 started (by kernel_rfl) Tryd.func4
  (ChangeSpec.witness_shaped (enc:=enc) (C:=Tryd.checked) (os:=os) (X:=fun w _=>laidMetH Tryd.prog [("math/bits.deBruijn32tab",Rows.laid_math_bits_deBruijn32tab),("math/bits.deBruijn64tab",Rows.laid_math_bits_deBruijn64tab),("internal/strconv.uint64pow10",Rows.laid_internal_strconv_uint64pow10)] w) false (World.laidAll Tryd.prog os [("math/bits.deBruijn32tab",Rows.laid_math_bits_deBruijn32tab),("math/bits.deBruijn64tab",Rows.laid_math_bits_deBruijn64tab),("internal/strconv.uint64pow10",Rows.laid_internal_strconv_uint64pow10)]) #[.slice none 0 0,.slice none 0 0] 8 (World.laidAll_os _ _ _)
   (World.shaped_of_ZipB (by kernel_rfl) (by kernel_rfl)) (by kernel_rfl) (by kernel_rfl) (by kernel_rfl)
   (by rw[MakeChecks.laidMetH_plain _ _ _ (by kernel_rfl)];exact laidMet_laidAll _ (by kernel_rfl) (by kernel_rfl))) ?_
 intro W base args ds gs before hval0 hW hcnd _ hL _
 have hval:∀(j:Nat) t v,Tryd.f4.params[j]? =some t->args[j]? =some v->Value.okWide Tryd.prog W .any base t v:=hval0
 have hW':=hW
 obtain⟨p,q,hA0,hV,rfl,hfz,hnd⟩:=hW
 have hA:DataW.TrodAll enc Tryd.prog W 0 (fun _=>true) true Tryd.f4.params.toList args.toList ds p:=hA0
 rw[Tryd.params4]at hA hval
 obtain⟨v0,vs0,d0,ds0,p0,q0,hargs,rfl,rfl,h0,r0⟩:=trodAll_cons hA
 obtain⟨v1,vs1,d1,ds1,p1,q1,rfl,rfl,rfl,h1,r1⟩:=trodAll_cons r0
 obtain⟨rfl,rfl,rfl⟩:=trodAll_nil r1
 obtain rfl:args= #[v0,v1]:=by cases args;simp_all
 obtain⟨rfl,rfl⟩:=trodVars_none hV
 have tk0:=h0
 have lt0:∀ x∈p0,x.block<W.heap.size:=by obtain⟨m,hm⟩:=tk0;exact DataW.trod_lt m _ _ _ hm
 obtain⟨b0,len0,cap0,rfl⟩:=okWide_slice Tryd.underlying29 (hval 0 29 v0 rfl rfl)
 obtain⟨x0,z0,w0⟩:=lift_one (k:=.sl kU) tok 40 (by kernel_rfl) rfl h0
 have tk1:=h1
 have lt1:∀ x∈p1,x.block<W.heap.size:=by obtain⟨m,hm⟩:=tk1;exact DataW.trod_lt m _ _ _ hm
 obtain⟨b1,len1,cap1,rfl⟩:=okWide_slice Tryd.underlying22 (hval 1 22 v1 rfl rfl)
 obtain⟨x1,z1,w1⟩:=lift_one (k:=.sl kM) tok 40 (by kernel_rfl) rfl h1
 clear hA0 hval0
 refine(run4 (tabs_laid hL) z0 z1).mono fun e W' ⟨he,bel⟩=>?_
 subst he
 exact⟨_,rfl,_,_,_,[],_,[],hW',trodAll_mk1 (shut_bool Tryd.underlying4 _),(trodAll_cons_mk (Below.trod laidOut4 (by kernel_rfl) (of_decide_eq_true (by kernel_rfl)) tk0 bel lt0) (trodAll_cons_mk (Below.trod laidOut4 (by kernel_rfl) (of_decide_eq_true (by kernel_rfl)) tk1 bel lt1) trodAll_mk0)),rfl,bel.frame _,fun h=>by cases h⟩
theorem relocationApplies_over:Rows.relocationAppliesRow.holds Tryd.pinned (OpenSpec.ofChange Rows.relocationAppliesSpec):=
 OpenClaim.holds_of_wide 4 Tryd.f4 rfl rfl rfl rfl rfl rfl rfl ⟨rfl,rfl,rfl,rfl,rfl⟩ rfl rfl rfl rfl rfl (by kernel_rfl) Tryd.func4 (by kernel_rfl)
  (of_decide_eq_true (by kernel_rfl)) (by unfold Func.isWrapper;first|(rw[if_pos (by decide+kernel)];kernel_rfl)|(rw[if_neg (by decide+kernel)];exact⟨rfl,rfl⟩))
  (fun os started H enc _=>lifted4 os started H enc)
theorem relocationApplies_proved:Rows.RelocationAppliesCardSaid:=
 Claim7.holds_tied_plain_at .later [] [.data,.data,.data] true (true, "dd815f11293122cc18380f0716e2a3c92350c76134b76f472bd24e2478251b56") false
  relocationApplies_over (fun _ h=>by cases h) (by kernel_rfl) (fun _ h=>by cases h) relocationApplies_row_tie rfl ⟨rfl,rfl⟩ (by kernel_rfl) rfl
  (fun f fn hf hfn=>by
   obtain rfl:f=4:=Option.some.inj ((show Tryd.prog.funcNamed "samaritan/samaritanlaw40.RelocationApplies" =some 4 by kernel_rfl).symm.trans hf) |>.symm
   obtain rfl:fn=Tryd.f4:=(Option.some.inj (Tryd.func4.symm.trans hfn)).symm
   exact⟨by kernel_rfl,fun j t ht=>by
    rw[Tryd.params4]at ht
    have hm:t∈[29,22]:=by simpa using Array.mem_of_getElem? ht
    have hall:([29,22].all fun u=> !Tryd.prog.wantsStandIn u)=true:=by kernel_rfl
    exact(show Tryd.prog.wantsStandIn t=false by simpa using List.all_eq_true.1 hall t hm)⟩)
  (by kernel_rfl)
end Go.Proofs.YtlldhkhmhgcpaaaDoor