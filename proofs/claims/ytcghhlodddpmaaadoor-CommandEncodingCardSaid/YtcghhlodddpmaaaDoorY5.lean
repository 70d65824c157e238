import Derived.Test.YtcghhlodddpmaaaDoorY4
namespace Go.Sym
set_option linter.unusedVariables false
set_option linter.unusedSimpArgs false
open Go.Proofs
set_option maxRecDepth 100000
theorem st_rd0 (B:List Int):st (rd0 B)= .ok B:=by rw[st_ok rfl];rfl
theorem kind_by {v:Int} {R:List Int} (h:r64 v):dcK (byZ v++R)=v/\st (intR (rd0 (byZ v++R)))= .ok R:=by
 have h1:=st_int (rd0 (byZ v++R))
 rw[st_rd0,show sI (.ok (byZ v++R))=(v,.ok R)from pI_by h]at h1
 exact⟨(congrArg Prod.fst h1).symm,(congrArg Prod.snd h1).symm⟩
theorem dcE_st (B:List Int):((dcE B).c,st (dcE B).r)=fLd (fsC (dcK B)) (onlyK (dcK B)) (st (intR (rd0 B))):=by
 unfold dcE dcL
 rw[List.take_of_length_le (Nat.le_refl _)]
 exact(st_fold (fsC (dcK B)) ⟨onlyK (dcK B),intR (rd0 B)⟩).symm
theorem kOk_r {k:Int} (h:kOk k=true):¬ (k<1∨15<k):=by
 have:=kOk_iff.1 h
 omega
theorem byC_isB {c:Cmd}:isB (byC c):=by
 have hI:∀ l:List Int,isB (byIs l):=by
  intro l b hb
  unfold byIs at hb
  obtain⟨n,_,hn⟩:=List.mem_flatMap.1 hb
  exact byZ_isB n b hn
 have hS:∀ s:ByteArray,isB (strL s):=by
  intro s b hb
  unfold strL at hb
  obtain⟨u,_,rfl⟩:=List.mem_map.1 hb
  have:=u.toNat_lt
  omega
 unfold byC
 refine(byZ_isB _).app fun b hb=>?_
 obtain⟨f,_,hf⟩:=List.mem_flatMap.1 hb
 revert b
 unfold byF
 intro b _ hf
 split at hf
 ·exact((byZ_isB _).app (hS _)) b hf
 ·split at hf
  ·exact((byZ_isB _).app (hI _)) b hf
  ·exact byZ_isB _ b hf
theorem vC_all {c:Cmd} (h:vC c=true):∀ f∈fsC c.kind,fOk c f=true:=((vC_iff c).1 h).2.1
theorem dec_app {c:Cmd} (h:vC c=true) (X:List Int) (hX:inB (byC c++X)):decC (byC c++X)=(if X=[]then c else {})/\decE (byC c++X)=(if X=[]then 0 else 2):=by
 have hk:=vC_k h
 have hkr:=kind_r h
 have e0:byC c++X=byZ c.kind++((fsC c.kind).flatMap (byF c)++X):=by unfold byC;rw[List.append_assoc]
 obtain⟨k1,k2⟩:=kind_by (v:=c.kind) (R:=(fsC c.kind).flatMap (byF c)++X) hkr
 rw[<- e0]at k1 k2
 have h3:=dcE_st (byC c++X)
 rw[k1,k2,fL_by _ _ _ _ (vC_all h),copy_all h]at h3
 have h4:=congrArg Prod.fst h3
 have h5:=congrArg Prod.snd h3
 simp only at h4 h5
 have hok:RdOk (dcE (byC c++X)).r:=(dcL_ok hX _).r
 have h6:=st_fn hok
 rw[h5]at h6
 have hn:¬ (dcK (byC c++X)<1∨15<dcK (byC c++X)):=by rw[k1];exact kOk_r hk
 unfold decC decE
 rw[if_neg hn,if_neg hn,<- h6,h4]
 unfold sE
 by_cases hx:X=[]
 ·simp[hx,h]
 ·simp[hx]
theorem inB_take {B:List Int} (h:inB B) (j:Nat):inB (B.take j):=by
 refine⟨fun b hb=>h.1 b (List.mem_of_mem_take hb),?_⟩
 have:=h.2
 rw[List.length_take]
 omega
theorem dec_cut {c:Cmd} (h:vC c=true) (hB:inB (byC c)) {j:Nat} (hj:j<(byC c).length):decE ((byC c).take j)=11:=by
 have hT:=inB_take hB j
 have hkr:=kind_r h
 have hj':=hj
 unfold byC at hj'
 rw[List.length_append]at hj'
 by_cases h1:j<(byZ c.kind).length
 ·have e:(byC c).take j=(byZ c.kind).take j:=by unfold byC;exact take_lt h1
  have h2:=st_int (rd0 ((byC c).take j))
  rw[st_rd0,e,show sI (.ok ((byZ c.kind).take j))=(0,.er 11)from pI_cut hkr h1]at h2
  rw[<- e]at h2
  have k1:dcK ((byC c).take j)=0:=(congrArg Prod.fst h2).symm
  have k2:st (intR (rd0 ((byC c).take j)))= .er 11:=(congrArg Prod.snd h2).symm
  have h3:=st_fn (intR_ok (rd0_ok hT))
  rw[k2]at h3
  have h3:fnV (intR (rd0 ((byC c).take j)))=11:=h3.symm
  unfold decE
  rw[if_pos (by rw[k1];decide),h3]
  rfl
 ·have e:(byC c).take j=byZ c.kind++((fsC c.kind).flatMap (byF c)).take (j-(byZ c.kind).length):=by unfold byC;exact take_ge h1
  obtain⟨k1,k2⟩:=kind_by (v:=c.kind) (R:=((fsC c.kind).flatMap (byF c)).take (j-(byZ c.kind).length)) hkr
  rw[<- e]at k1 k2
  have h3:=congrArg Prod.snd (dcE_st ((byC c).take j))
  rw[k1,k2]at h3
  simp only at h3
  rw[fL_cut _ _ _ _ (vC_all h) (by omega)]at h3
  have h6:=st_fn (dcL_ok hT _).r (r:=(dcE ((byC c).take j)).r)
  rw[h3]at h6
  have h6:fnV (dcE ((byC c).take j)).r=11:=h6.symm
  have hn:¬ (dcK ((byC c).take j)<1∨15<dcK ((byC c).take j)):=by rw[k1];exact kOk_r (vC_k h)
  unfold decE
  rw[if_neg hn,h6]
  rfl
theorem eOk_0 {s:S} (h:eOk s) (h0:sE s=0):s= .ok []:=by
 cases s with
 |ok U=>
  have h0:(if U=[]then(0:Int)else 2)=0:=h0
  by_cases hU:U=[]
  ·rw[hU]
  ·rw[if_neg hU]at h0;cases h0
 |er e=>
  have h:e=2∨e=11:=h
  have h0:e=0:=h0
  omega
theorem eOk_e {s:S} (h:eOk s):sE s=0∨sE s=2∨sE s=11:=by
 cases s with
 |ok U=>
  show(if U=[]then(0:Int)else 2)=0∨(if U=[]then(0:Int)else 2)=2∨_
  by_cases hU:U=[]
  ·rw[if_pos hU];exact .inl rfl
  ·rw[if_neg hU];exact .inr (.inl rfl)
 |er e=>exact .inr h
theorem kind_e (B:List Int):eOk (st (intR (rd0 B))):=by
 have h1:=st_int (rd0 B)
 rw[st_rd0]at h1
 have:=sI_e (s:=.ok B) trivial
 rw[h1]at this
 exact this
theorem dcE_e (B:List Int):eOk (st (dcE B).r):=by
 have h3:=congrArg Prod.snd (dcE_st B)
 simp only at h3
 rw[h3]
 exact fL_e _ _ _ (kind_e B)
theorem dec_err {B:List Int} (hB:inB B) (h:decE B≠0):decC B={}/\(decE B=2∨decE B=11):=by
 have h1:=eOk_e (kind_e B)
 rw[st_fn (intR_ok (rd0_ok hB))]at h1
 have h2:=eOk_e (dcE_e B)
 rw[st_fn (r:=(dcE B).r) (dcL_ok hB _).r]at h2
 unfold decC decE at*
 by_cases hk:dcK B<1∨15<dcK B
 ·rw[if_pos hk]at h ⊢
  rw[if_pos hk]
  refine⟨rfl,?_⟩
  by_cases h3:fnV (intR (rd0 B))≠0
  ·rw[if_pos h3];omega
  ·rw[if_neg h3];exact .inl rfl
 ·rw[if_neg hk]at h ⊢
  rw[if_neg hk]
  by_cases h3:fnV (dcE B).r≠0
  ·rw[if_pos h3,if_pos h3]
   exact⟨rfl,by omega⟩
  ·rw[if_neg h3]at h ⊢
   rw[if_neg h3]
   by_cases h4:vC (dcE B).c=true
   ·rw[if_pos h4]at h;exact absurd rfl h
   ·rw[if_neg h4,if_neg h4]
    exact⟨rfl,.inl rfl⟩
theorem dec_inv {B:List Int} (hB:inB B) (h:decE B=0):vC (decC B)=true/\byC (decC B)=B:=by
 unfold decE at h
 unfold decC
 by_cases hk:dcK B<1∨15<dcK B
 ·rw[if_pos hk]at h
  by_cases h3:fnV (intR (rd0 B))≠0
  ·rw[if_pos h3]at h;exact absurd h h3
  ·rw[if_neg h3]at h;cases h
 ·rw[if_neg hk]at h ⊢
  by_cases h3:fnV (dcE B).r≠0
  ·rw[if_pos h3]at h;exact absurd h h3
  ·rw[if_neg h3]at h ⊢
   by_cases h4:vC (dcE B).c=true
   ·rw[if_pos h4]
    refine⟨h4,?_⟩
    have h5:st (dcE B).r= .ok []:=eOk_0 (dcE_e B) (by rw[st_fn (r:=(dcE B).r) (dcL_ok hB _).r];exact Decidable.of_not_not h3)
    have h6:=dcE_st B
    rw[h5]at h6
    have h7:=st_int (rd0 B)
    rw[st_rd0]at h7
    cases hs:st (intR (rd0 B))with
    |er e=>
     rw[hs]at h6
     have:=congrArg Prod.snd h6
     rw[fL_er]at this
     cases this
    |ok U=>
     rw[hs]at h6 h7
     obtain⟨a,b⟩:=pI_inv hB.1 h7
     have a:B=byZ (dcK B)++U:=a
     have hU:isB U:=by have:=hB.1;rw[a]at this;exact this.right
     have h8:=fL_inv _ _ _ _ _ (fs_ok (dcK B)).1 (fs_ok (dcK B)).2 hU h6.symm
     have h9:(dcE B).c.kind=dcK B:=by
      have:=fL_kind (fsC (dcK B)) (onlyK (dcK B)) (.ok U)
      rw[<- h6]at this
      exact this
     rw[List.append_nil]at h8
     unfold byC
     rw[h9,<- h8]
     exact a.symm
   ·rw[if_neg h4]at h;cases h
end Go.Sym