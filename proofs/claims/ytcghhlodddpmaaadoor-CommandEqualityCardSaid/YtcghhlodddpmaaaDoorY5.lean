import Derived.Test.YtcghhlodddpmaaaDoorY4
namespace Go.Sym
set_option linter.unusedVariables false
set_option linter.unusedSimpArgs false
open Go.Proofs
set_option maxRecDepth 100000
theorem st_rd0 (B:List Int):st (rd0 B)= .ok B:=by rw[st_ok rfl];rfl
theorem kind_by {v:Int} {R:List Int} (h:r64 v):dcK (byZ v++R)=v/\st (intR (rd0 (byZ v++R)))= .ok R:=by
 have h1:=st_int (rd0 (byZ v++R))
 rw[st_rd0,show sI (.ok (byZ v++R))=(v,.ok R)from pI_by h]at h1
 exact⟨(congrArg Prod.fst h1).symm,(congrArg Prod.snd h1).symm⟩
theorem dcE_st (B:List Int):((dcE B).c,st (dcE B).r)=fLd (fsC (dcK B)) (onlyK (dcK B)) (st (intR (rd0 B))):=by
 unfold dcE dcL
 rw[List.take_of_length_le (Nat.le_refl _)]
 exact(st_fold (fsC (dcK B)) ⟨onlyK (dcK B),intR (rd0 B)⟩).symm
theorem kOk_r {k:Int} (h:kOk k=true):¬ (k<1∨15<k):=by
 have:=kOk_iff.1 h
 omega
theorem byC_isB {c:Cmd}:isB (byC c):=by
 have hI:∀ l:List Int,isB (byIs l):=by
  intro l b hb
  unfold byIs at hb
  obtain⟨n,_,hn⟩:=List.mem_flatMap.1 hb
  exact byZ_isB n b hn
 have hS:∀ s:ByteArray,isB (strL s):=by
  intro s b hb
  unfold strL at hb
  obtain⟨u,_,rfl⟩:=List.mem_map.1 hb
  have:=u.toNat_lt
  omega
 unfold byC
 refine(byZ_isB _).app fun b hb=>?_
 obtain⟨f,_,hf⟩:=List.mem_flatMap.1 hb
 revert b
 unfold byF
 intro b _ hf
 split at hf
 ·exact((byZ_isB _).app (hS _)) b hf
 ·split at hf
  ·exact((byZ_isB _).app (hI _)) b hf
  ·exact byZ_isB _ b hf
theorem vC_all {c:Cmd} (h:vC c=true):∀ f∈fsC c.kind,fOk c f=true:=((vC_iff c).1 h).2.1
theorem dec_app {c:Cmd} (h:vC c=true) (X:List Int) (hX:inB (byC c++X)):decC (byC c++X)=(if X=[]then c else {})/\decE (byC c++X)=(if X=[]then 0 else 2):=by
 have hk:=vC_k h
 have hkr:=kind_r h
 have e0:byC c++X=byZ c.kind++((fsC c.kind).flatMap (byF c)++X):=by unfold byC;rw[List.append_assoc]
 obtain⟨k1,k2⟩:=kind_by (v:=c.kind) (R:=(fsC c.kind).flatMap (byF c)++X) hkr
 rw[<- e0]at k1 k2
 have h3:=dcE_st (byC c++X)
 rw[k1,k2,fL_by _ _ _ _ (vC_all h),copy_all h]at h3
 have h4:=congrArg Prod.fst h3
 have h5:=congrArg Prod.snd h3
 simp only at h4 h5
 have hok:RdOk (dcE (byC c++X)).r:=(dcL_ok hX _).r
 have h6:=st_fn hok
 rw[h5]at h6
 have hn:¬ (dcK (byC c++X)<1∨15<dcK (byC c++X)):=by rw[k1];exact kOk_r hk
 unfold decC decE
 rw[if_neg hn,if_neg hn,<- h6,h4]
 unfold sE
 by_cases hx:X=[]
 ·simp[hx,h]
 ·simp[hx]
end Go.Sym