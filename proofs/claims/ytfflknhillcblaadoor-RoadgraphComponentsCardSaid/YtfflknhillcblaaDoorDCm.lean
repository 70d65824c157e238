/- law07: RoadgraphComponents: whatever the input, the law returns true and the input reads as it did: the given card. -/
import Derived.Test.YtfflknhillcblaaDoorF7
import Derived.Test.YtfflknhillcblaaDoorX21
import Derived.ProofKit
import Derived.LaidMore
import Derived.Lay
import Derived.Stop.Joined
import Derived.SevenTiedAt
import Derived.Test.YtfflknhillcblaaDoorCards
import Derived.Test.YtfflknhillcblaaDoorTie
namespace Go.Proofs.YtfflknhillcblaaDoor
open Go.Sym
open Go.ChangeShapes Go.WideShapes Go.ChangeAt Go.RowKit
set_option linter.unusedVariables false
theorem own5:ownKnob Tryd.prog.godebug=none:=by kernel_rfl
theorem laidOut5:laidOutB Tryd.prog=true:=by kernel_rfl
set_option maxRecDepth 100000 in
theorem lifted5 (os:Os) (started:os.Started) (H:Type) (enc:TypeId × Value->H):
  ReturnsInHanded {} Tryd.checked os 5 .any (fun w args=>(Rows.roadgraphComponentsSpec.pre enc Tryd.prog Tryd.f5 Rows.roadgraphComponentsRow.domain false w args/\laidMetH Tryd.prog [("math/bits.deBruijn64tab",Rows.laid_math_bits_deBruijn64tab)] w)/\sizedMet enc Tryd.prog Tryd.f5 (OpenSpec.ofChange Rows.roadgraphComponentsSpec) false w args)
   (Rows.roadgraphComponentsSpec.post enc Tryd.prog Tryd.f5 false true false false):=by
 refine returnsInHanded_of_change_and (C:=Tryd.checked) (X:=fun w _=>laidMetH Tryd.prog [("math/bits.deBruijn64tab",Rows.laid_math_bits_deBruijn64tab)] w) (fun _ _ _ hh h=>h.of_heap hh) own5 started (by kernel_rfl) Tryd.func5
  (ChangeSpec.witness_shaped (enc:=enc) (C:=Tryd.checked) (os:=os) (X:=fun w _=>laidMetH Tryd.prog [("math/bits.deBruijn64tab",Rows.laid_math_bits_deBruijn64tab)] w) false (World.laidAll Tryd.prog os [("math/bits.deBruijn64tab",Rows.laid_math_bits_deBruijn64tab)]) #[.agg #[.int .i64 0,.slice none 0 0]] 8 (World.laidAll_os _ _ _)
   (World.shaped_of_ZipB (by kernel_rfl) (by kernel_rfl)) (by kernel_rfl) (by kernel_rfl) (by kernel_rfl)
   (by rw[MakeChecks.laidMetH_plain _ _ _ (by kernel_rfl)];exact laidMet_laidAll _ (by kernel_rfl) (by kernel_rfl))) ?_
 intro W base args ds gs before hval0 hW hcnd hwt hL _
 have hval:∀(j:Nat) t v,Tryd.f5.params[j]? =some t->args[j]? =some v->Value.okWide Tryd.prog W .any base t v:=hval0
 have hW':=hW
 obtain⟨p,q,hA0,hV,rfl,hfz,hnd⟩:=hW
 have hA:DataW.TrodAll enc Tryd.prog W 0 (fun _=>true) true Tryd.f5.params.toList args.toList ds p:=hA0
 rw[Tryd.params5]at hA hval
 obtain⟨v0,vs0,d0,ds0,p0,q0,hargs,rfl,rfl,h0,r0⟩:=trodAll_cons hA
 obtain⟨rfl,rfl,rfl⟩:=trodAll_nil r0
 obtain rfl:args= #[v0]:=by cases args;simp_all
 obtain⟨rfl,rfl⟩:=trodVars_none hV
 obtain⟨cs0,rfl,hc0⟩:=okWide_struct Tryd.underlying24 (hval 0 24 v0 rfl rfl)
 have tr0:=h0
 have lt0:∀ x∈p0,x.block<W.heap.size:=by obtain⟨m,hm⟩:=tr0;exact DataW.trod_lt m _ _ _ hm
 obtain⟨n,e1,w1,rfl,g1⟩:=net_in (hc0.trans (show Tryd.prog.cellsOf 24=2 by kernel_rfl)) h0
 clear hA0 hval0
 refine(n_run cm_good (tab_laid hL) g1 (nwOf n e1) rfl (fun ρ=>by simp[DenL])).mono fun e W' ⟨he,bel⟩=>?_
 subst he
 exact⟨_,rfl,_,_,_,[],_,[],hW',trodAll_mk1 (shut_bool Tryd.underlying4 _),(trodAll_cons_mk (Below.trod laidOut5 (by kernel_rfl) (of_decide_eq_true (by kernel_rfl)) tr0 bel lt0) trodAll_mk0),rfl,bel.frame _,fun h=>by cases h⟩
theorem roadgraphComponents_over:Rows.roadgraphComponentsRow.holds Tryd.pinned (OpenSpec.ofChange Rows.roadgraphComponentsSpec):=
 OpenClaim.holds_of_wide 5 Tryd.f5 rfl rfl rfl rfl rfl rfl rfl ⟨rfl,rfl,rfl,rfl,rfl⟩ rfl rfl rfl rfl rfl (by kernel_rfl) Tryd.func5 (by kernel_rfl)
  (of_decide_eq_true (by kernel_rfl)) (by unfold Func.isWrapper;first|(rw[if_pos (by decide+kernel)];kernel_rfl)|(rw[if_neg (by decide+kernel)];exact⟨rfl,rfl⟩))
  (fun os started H enc _=>lifted5 os started H enc)
theorem roadgraphComponents_proved:Rows.RoadgraphComponentsCardSaid:=
 Claim7.holds_tied_plain_at .later [] [.data] true (true, "75ed0f5c366d4f5e76479a53f81f73d55ed12fd7a9583f9abafd9fffa0b2b7f5") false
  roadgraphComponents_over (fun _ h=>by cases h) (by kernel_rfl) (fun _ h=>by cases h) roadgraphComponents_row_tie rfl ⟨rfl,rfl⟩ (by kernel_rfl) rfl
  (fun f fn hf hfn=>by
   obtain rfl:f=5:=Option.some.inj ((show Tryd.prog.funcNamed "samaritan/samaritanlaw07.RoadgraphComponents" =some 5 by kernel_rfl).symm.trans hf) |>.symm
   obtain rfl:fn=Tryd.f5:=(Option.some.inj (Tryd.func5.symm.trans hfn)).symm
   exact⟨by kernel_rfl,fun j t ht=>by
    rw[Tryd.params5]at ht
    have hm:t∈[24]:=by simpa using Array.mem_of_getElem? ht
    have hall:([24].all fun u=> !Tryd.prog.wantsStandIn u)=true:=by kernel_rfl
    exact(show Tryd.prog.wantsStandIn t=false by simpa using List.all_eq_true.1 hall t hm)⟩)
  (by kernel_rfl)
end Go.Proofs.YtfflknhillcblaaDoor