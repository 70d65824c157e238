/- law40: RelocationPlans: whatever the input, the law returns true and the input reads as it did: the given card. -/
import Derived.Test.YtlldhkhmhgcpaaaGreatDoorCM
import Derived.Test.YtlldhkhmhgcpaaaGreatDoorLP
import Derived.ProofKit
import Derived.LaidMore
import Derived.Lay
import Derived.Stop.Joined
import Derived.SevenTiedAt
import Derived.Test.YtlldhkhmhgcpaaaGreatDoorCards
import Derived.Test.YtlldhkhmhgcpaaaGreatDoorTie
namespace Go.Proofs.YtlldhkhmhgcpaaaGreatDoor
open Go.Sym
open Go.ChangeShapes Go.WideShapes Go.ChangeAt Go.RowKit
set_option linter.unusedVariables false
set_option linter.unusedSimpArgs false
theorem own3:ownKnob Tryz.prog.godebug=none:=by kernel_rfl
theorem laidOut3:laidOutB Tryz.prog=true:=by kernel_rfl
theorem run3 {W:World} (ht:glob10.ok ⟨fun _=>none,fun b=>W.heap[b]?⟩) {cs0:Array Value} {g0:Nat->D} (h0:CellsD W kCas g0 0 cs0.toList) {v1:Value} {d1:D} (h1:DenD (zW W) (.sl k1) d1 v1) {v2:Value} {d2:D} (h2:DenD (zW W) (.int .i64) d2 v2) (hw1:WfD (.sl k1) d1):
  Calls Tryz.prog 3 #[.agg cs0,v1,v2] W fun e W'=>e= .returned (.bool true)/\Below W.heap.size W W':=by
 obtain⟨c0_0,c0_1,c0_2,c0_3,e0⟩:=list_4 h0.1
 have h0':=h0
 rw[e0]at h0'
 have s0_1:DenD (zW W) (.sl kE) (g0 1) c0_1:=by obtain⟨u,a,b⟩:=h0'.2 1 _ rfl;cases a;exact b
 have s0_2:DenD (zW W) (.sl k1) (g0 2) c0_2:=by obtain⟨u,a,b⟩:=h0'.2 2 _ rfl;cases a;exact b
 have s0_3:DenD (zW W) (.sl kU) (g0 3) c0_3:=by obtain⟨u,a,b⟩:=h0'.2 3 _ rfl;cases a;exact b
 refine law_sls lp_good.1 (x:=⟨⟨(g0 0).toI,decL decE3 (g0 1).toN (g0 1).toF,decL decI1 (g0 2).toN (g0 2).toF,decL decU10 (g0 3).toN (g0 3).toF⟩,decL decI1 d1.toN d1.toF,d2.toI⟩) (len_ok hw1) rfl [(.bor,⟨kE,g0 1,c0_1⟩,encL encE (decL decE3 (g0 1).toN (g0 1).toF)),
  (.bor,⟨k1,g0 2,c0_2⟩,encL encI (decL decI1 (g0 2).toN (g0 2).toF)),
  (.bor,⟨kU,g0 3,c0_3⟩,encL encU (decL decU10 (g0 3).toN (g0 3).toF)),
  (.bor,⟨k1,d1,v1⟩,encL encI (decL decI1 (d1).toN (d1).toF))] (fun m s f hm=>?_) ?_ (fun at' h=>?_) (fun _=>ht)
 ·simp only[List.mem_cons,List.not_mem_nil,or_false,Prod.mk.injEq]at hm
  rcases hm with⟨rfl,rfl,rfl⟩|⟨rfl,rfl,rfl⟩|⟨rfl,rfl,rfl⟩|⟨rfl,rfl,rfl⟩
  ·exact⟨s0_1,rowsEq_dec decE3_eq _ _,rfl⟩
  ·exact⟨s0_2,rowsEq_dec decI1_eq _ _,rfl⟩
  ·exact⟨s0_3,rowsEq_dec decU10_eq _ _,rfl⟩
  ·exact⟨h1,rowsEq_dec decI1_eq _ _,rfl⟩
 ·show lpH _=_
  simp only[lpA,lpH,caseA,caseH,decL_length]
  rfl
 ·have a0:=agg_den (l:=100000) h0 (at':=at') (fun i s hi=>by
   rw[e0]at hi
   match i,hi with
   |0,hi=>cases hi;exact h 0 _ _ _ rfl
   |1,hi=>cases hi;exact h 1 _ _ _ rfl
   |2,hi=>cases hi;exact h 2 _ _ _ rfl
   |i+3,hi=>cases hi)
  have a1:=h 3 _ _ _ rfl
  have a2:Den ⟨at',zW W⟩ (.i .i64 d2.toI) v2:=by simp only[DenD]at h2;simp only[Den];exact h2
  have hl:=DenL_cons.2 ⟨a0,DenL_cons.2 ⟨a1,DenL_cons.2 ⟨a2,(by simp[DenL]:DenL _ [] [])⟩⟩⟩
  show DenL _ (lpA _) _
  simp only[lpA,lpH,caseA,caseH,decL_length]
  exact hl
set_option maxRecDepth 100000 in
theorem lifted3 (os:Os) (started:os.Started) (H:Type) (enc:TypeId × Value->H):
  ReturnsInHanded {} Tryz.checked os 3 .any (fun w args=>(Rows.relocationPlansSpec.pre enc Tryz.prog Tryz.f3 Rows.relocationPlansRow.domain false w args/\laidMetH Tryz.prog [("math/bits.deBruijn32tab",Rows.laid_math_bits_deBruijn32tab),("math/bits.deBruijn64tab",Rows.laid_math_bits_deBruijn64tab),("internal/strconv.uint64pow10",Rows.laid_internal_strconv_uint64pow10)] w)/\sizedMet enc Tryz.prog Tryz.f3 (OpenSpec.ofChange Rows.relocationPlansSpec) false w args)
   (Rows.relocationPlansSpec.post enc Tryz.prog Tryz.f3 false true false false):=by
 refine returnsInHanded_of_change_and (C:=Tryz.checked) (X:=fun w _=>laidMetH Tryz.prog [("math/bits.deBruijn32tab",Rows.laid_math_bits_deBruijn32tab),("math/bits.deBruijn64tab",Rows.laid_math_bits_deBruijn64tab),("internal/strconv.uint64pow10",Rows.laid_internal_strconv_uint64pow10)] w) (fun _ _ _ hh h=>h.of_heap hh) own3 started (by kernel_rfl) Tryz.func3
  (ChangeSpec.witness_shaped (enc:=enc) (C:=Tryz.checked) (os:=os) (X:=fun w _=>laidMetH Tryz.prog [("math/bits.deBruijn32tab",Rows.laid_math_bits_deBruijn32tab),("math/bits.deBruijn64tab",Rows.laid_math_bits_deBruijn64tab),("internal/strconv.uint64pow10",Rows.laid_internal_strconv_uint64pow10)] w) false (World.laidAll Tryz.prog os [("math/bits.deBruijn32tab",Rows.laid_math_bits_deBruijn32tab),("math/bits.deBruijn64tab",Rows.laid_math_bits_deBruijn64tab),("internal/strconv.uint64pow10",Rows.laid_internal_strconv_uint64pow10)]) #[.agg #[.int .i64 0,.slice none 0 0,.slice none 0 0,.slice none 0 0],.slice none 0 0,.int .i64 0] 8 (World.laidAll_os _ _ _)
   (World.shaped_of_ZipB (by kernel_rfl) (by kernel_rfl)) (by kernel_rfl) (by kernel_rfl) (by kernel_rfl)
   (by rw[MakeChecks.laidMetH_plain _ _ _ (by kernel_rfl)];exact laidMet_laidAll _ (by kernel_rfl) (by kernel_rfl))) ?_
 intro W base args ds gs before hval0 hW hcnd _ hL _
 have hval:∀(j:Nat) t v,Tryz.f3.params[j]? =some t->args[j]? =some v->Value.okWide Tryz.prog W .any base t v:=hval0
 have hW':=hW
 obtain⟨p,q,hA0,hV,rfl,hfz,hnd⟩:=hW
 have hA:DataW.TrodAll enc Tryz.prog W 0 (fun _=>true) true Tryz.f3.params.toList args.toList ds p:=hA0
 rw[Tryz.params3]at hA hval
 obtain⟨v0,vs0,d0,ds0,p0,q0,hargs,rfl,rfl,h0,r0⟩:=trodAll_cons hA
 obtain⟨v1,vs1,d1,ds1,p1,q1,rfl,rfl,rfl,h1,r1⟩:=trodAll_cons r0
 obtain⟨v2,vs2,d2,ds2,p2,q2,rfl,rfl,rfl,h2,r2⟩:=trodAll_cons r1
 obtain⟨rfl,rfl,rfl⟩:=trodAll_nil r2
 obtain rfl:args= #[v0,v1,v2]:=by cases args;simp_all
 obtain⟨rfl,rfl⟩:=trodVars_none hV
 have tk0:=h0
 have lt0:∀ x∈p0,x.block<W.heap.size:=by obtain⟨m,hm⟩:=tk0;exact DataW.trod_lt m _ _ _ hm
 obtain⟨cs0,rfl,hc0⟩:=okWide_struct Tryz.underlying28 (hval 0 28 v0 rfl rfl)
 obtain⟨g0,z0,w0⟩:=struct_cellsW (ks:=kCas) tok (by kernel_rfl) (hc0.trans (show Tryz.prog.cellsOf 28=4 by kernel_rfl)) h0
 have tk1:=h1
 have lt1:∀ x∈p1,x.block<W.heap.size:=by obtain⟨m,hm⟩:=tk1;exact DataW.trod_lt m _ _ _ hm
 obtain⟨b1,len1,cap1,rfl⟩:=okWide_slice Tryz.underlying29 (hval 1 29 v1 rfl rfl)
 obtain⟨x1,z1,w1⟩:=lift_one (k:=.sl k1) tok 40 (by kernel_rfl) rfl h1
 have tk2:=h2
 have lt2:∀ x∈p2,x.block<W.heap.size:=by obtain⟨m,hm⟩:=tk2;exact DataW.trod_lt m _ _ _ hm
 obtain⟨b2,rfl⟩:=okWide_int Tryz.underlying3 (hval 2 3 v2 rfl rfl)
 obtain⟨x2,z2,w2⟩:=lift_one (k:=.int .i64) tok 40 (by kernel_rfl) rfl h2
 clear hA0 hval0
 refine(run3 (tabs_laid hL) z0 z1 z2 w1).mono fun e W' ⟨he,bel⟩=>?_
 subst he
 exact⟨_,rfl,_,_,_,[],_,[],hW',trodAll_mk1 (shut_bool Tryz.underlying4 _),(trodAll_cons_mk (Below.trod laidOut3 (by kernel_rfl) (of_decide_eq_true (by kernel_rfl)) tk0 bel lt0) (trodAll_cons_mk (Below.trod laidOut3 (by kernel_rfl) (of_decide_eq_true (by kernel_rfl)) tk1 bel lt1) (trodAll_cons_mk (Below.trod laidOut3 (by kernel_rfl) (of_decide_eq_true (by kernel_rfl)) tk2 bel lt2) trodAll_mk0))),rfl,bel.frame _,fun h=>by cases h⟩
theorem relocationPlans_over:Rows.relocationPlansRow.holds Tryz.pinned (OpenSpec.ofChange Rows.relocationPlansSpec):=
 OpenClaim.holds_of_wide 3 Tryz.f3 rfl rfl rfl rfl rfl rfl rfl ⟨rfl,rfl,rfl,rfl,rfl⟩ rfl rfl rfl rfl rfl (by kernel_rfl) Tryz.func3 (by kernel_rfl)
  (of_decide_eq_true (by kernel_rfl)) (by unfold Func.isWrapper;first|(rw[if_pos (by decide+kernel)];kernel_rfl)|(rw[if_neg (by decide+kernel)];exact⟨rfl,rfl⟩))
  (fun os started H enc _=>lifted3 os started H enc)
theorem relocationPlans_proved:Rows.RelocationPlansCardSaid:=
 Claim7.holds_tied_plain_at .later [] [.data,.data,.data] true (true, "d27a692251a07b0c5f1916aaee9959e79ce8d617587d489de5173c38885d4ef8") false
  relocationPlans_over (fun _ h=>by cases h) (by kernel_rfl) (fun _ h=>by cases h) relocationPlans_row_tie rfl ⟨rfl,rfl⟩ (by kernel_rfl) rfl
  (fun f fn hf hfn=>by
   obtain rfl:f=3:=Option.some.inj ((show Tryz.prog.funcNamed "samaritan/samaritanlaw40.RelocationPlans" =some 3 by kernel_rfl).symm.trans hf) |>.symm
   obtain rfl:fn=Tryz.f3:=(Option.some.inj (Tryz.func3.symm.trans hfn)).symm
   exact⟨by kernel_rfl,fun j t ht=>by
    rw[Tryz.params3]at ht
    have hm:t∈[28,29,3]:=by simpa using Array.mem_of_getElem? ht
    have hall:([28,29,3].all fun u=> !Tryz.prog.wantsStandIn u)=true:=by kernel_rfl
    exact(show Tryz.prog.wantsStandIn t=false by simpa using List.all_eq_true.1 hall t hm)⟩)
  (by kernel_rfl)
end Go.Proofs.YtlldhkhmhgcpaaaGreatDoor