import Derived.Test.YtcghhlodddpmaaaDoorY1
namespace Go.Sym
set_option linter.unusedVariables false
set_option linter.unusedSimpArgs false
open Go.Proofs
set_option maxRecDepth 100000
structure CanU (i k u:Nat):Prop where
 k0:0<k
 lt:u<128 ^ k
 s:i+k=10
 z:0<i->u≠0
 n:i=9->u=1
theorem canU_0 {u:Nat} (h:u<18446744073709551616):CanU 0 10 u:=⟨by decide,by omega,rfl,fun h=>absurd h (by decide),fun h=>by cases h⟩
theorem split7 (u i:Nat):u*2 ^ (7*i)=(u%128)*2 ^ (7*i)+(u / 128)*2 ^ (7*(i+1)):=by
 have e7:2 ^ (7*(i+1))=128*2 ^ (7*i):=by rw[Nat.mul_add,Nat.pow_add];omega
 rw[e7]
 generalize 2 ^ (7*i)=p
 have h:=Nat.mod_add_div u 128
 calc u*p=(u%128+128*(u / 128))*p:=by rw[h]
  _=u%128*p+u / 128*(128*p):=by rw[Nat.add_mul,Nat.mul_comm 128 (u / 128),Nat.mul_assoc]
theorem only1 {q v:Nat} (h:q+v*9223372036854775808<18446744073709551616) (hv:v≠0):v=1:=by omega
theorem canU_s {i k u:Nat} (h:CanU i (k+1) u) (h1:¬ u<128) (hm:u*2 ^ (7*i)<18446744073709551616):CanU (i+1) k (u / 128)/\(u / 128)*2 ^ (7*(i+1))<18446744073709551616/\i≠9:=by
 have hs:=h.s
 have hlt:=h.lt
 have hmul:=split7 u i
 have h9:i≠9:=fun e=>h1 (by have:=h.n e;omega)
 refine⟨⟨?_,?_,by omega,fun _=>by omega,fun e8=>?_⟩,by omega,h9⟩
 ·rcases Nat.eq_zero_or_pos k with e|e
  ·exact absurd (show i=9 by omega) h9
  ·exact e
 ·rw[Nat.pow_succ]at hlt
  omega
 ·have e8:i=8:=by omega
  subst e8
  have h63:(2:Nat) ^ (7*(8+1))=9223372036854775808:=rfl
  rw[h63]at hmul
  rw[hmul]at hm
  exact only1 hm (by omega)
theorem rdU_by:∀(k i u a:Nat) (R:List Int),CanU i k u->u*2 ^ (7*i)<18446744073709551616->rdU i a (byK k u++R)=(0,a+u*2 ^ (7*i),R)
 |0,i,u,a,R,h,_=>absurd h.k0 (by decide)
 |k+1,i,u,a,R,h,hm=>by
  unfold byK
  by_cases h1:u<128
  ·rw[if_pos h1,List.cons_append,List.nil_append]
   unfold rdU
   have hb:¬ rdBad i (u:Int):=by
    rintro(⟨h2,h3⟩|⟨h2,h3⟩)
    ·have:=h.n h2;omega
    ·have:=h.z h2;omega
   rw[if_neg hb,if_pos (by omega)]
   rw[show(u:Int).toNat%128=u by omega]
  ·rw[if_neg h1,List.cons_append]
   have hs:=h.s
   have h9:i≠9:=fun e=>h1 (by have:=h.n e;omega)
   have hb:¬ rdBad i ((u%128+128:Nat):Int):=by
    rintro(⟨h2,h3⟩|⟨h2,h3⟩)
    ·exact h9 h2
    ·omega
   obtain⟨hc,hm2,_⟩:=canU_s h h1 hm
   have hmul:=split7 u i
   unfold rdU
   rw[if_neg hb,if_neg (by omega)]
   rw[show((u%128+128:Nat):Int).toNat%128=u%128 by omega]
   rw[rdU_by k (i+1) (u / 128) _ R hc hm2,hmul,Nat.add_assoc]
theorem rdU_cut:∀(k i u a j:Nat),CanU i k u->u*2 ^ (7*i)<18446744073709551616->j<(byK k u).length->(rdU i a ((byK k u).take j)).1=11
 |0,i,u,a,j,h,_,hj=>absurd hj (Nat.not_lt_zero j)
 |k+1,i,u,a,0,h,hm,hj=>by rw[List.take_zero];rfl
 |k+1,i,u,a,j+1,h,hm,hj=>by
  unfold byK at hj ⊢
  by_cases h1:u<128
  ·rw[if_pos h1]at hj
   exact absurd hj (by simp)
  ·rw[if_neg h1]at hj ⊢
   have hs:=h.s
   have h9:i≠9:=fun e=>h1 (by have:=h.n e;omega)
   have hb:¬ rdBad i ((u%128+128:Nat):Int):=by
    rintro(⟨h2,h3⟩|⟨h2,h3⟩)
    ·exact h9 h2
    ·omega
   obtain⟨hc,hm2,_⟩:=canU_s h h1 hm
   have hmul:=split7 u i
   rw[List.take_succ_cons]
   unfold rdU
   rw[if_neg hb,if_neg (by omega)]
   exact rdU_cut k (i+1) (u / 128) _ j hc hm2 (by simpa using hj)
theorem rdU_inv:∀(U:List Int) (i a:Nat),isB U->i<=9->(rdU i a U).1=0->∃ u,(rdU i a U).2.1=a+u*2 ^ (7*i)/\U=byK (10-i) u++(rdU i a U).2.2/\u<128 ^ (10-i)/\(0<i->u≠0)
 | [],i,a,hB,hi,h=>by unfold rdU at h;cases h
 |b::l,i,a,hB,hi,h=>by
  have hb:=hB b (List.mem_cons_self ..)
  unfold rdU at h ⊢
  split at h
  ·cases h
  ·rename_i h1
   rw[if_neg h1]
   obtain⟨j,hj⟩:∃ j,10-i=j+1:=⟨9-i,by omega⟩
   split at h
   ·rename_i h2
    rw[if_pos h2]
    refine⟨b.toNat,?_,?_,?_,?_⟩
    ·rw[Nat.mod_eq_of_lt (by omega)]
    ·rw[hj]
     unfold byK
     rw[if_pos (by omega),show((b.toNat:Nat):Int)=b by omega]
     rfl
    ·rw[hj,Nat.pow_succ]
     have:0<128 ^ j:=Nat.pow_pos (by decide)
     have:1*128<=128 ^ j*128:=Nat.mul_le_mul_right _ this
     omega
    ·intro h0 e
     exact h1 (.inr ⟨h0,by omega⟩)
   ·rename_i h2
    rw[if_neg h2]
    have h9:i≠9:=fun e=>h1 (.inl ⟨e,by omega⟩)
    obtain⟨v,e1,e2,e3,e4⟩:=rdU_inv l (i+1) (a+b.toNat%128*2 ^ (7*i)) (fun x hx=>hB x (List.mem_cons_of_mem _ hx)) (by omega) h
    have e7:2 ^ (7*(i+1))=128*2 ^ (7*i):=by rw[Nat.mul_add,Nat.pow_add];omega
    have hj2:10-(i+1)=j:=by omega
    rw[hj2]at e2 e3
    have hv:v≠0:=e4 (by omega)
    refine⟨b.toNat%128+128*v,?_,?_,?_,fun _=>by omega⟩
    ·rw[e1,e7,Nat.add_mul,Nat.add_assoc,Nat.mul_comm 128 v,Nat.mul_assoc]
    ·rw[hj]
     unfold byK
     rw[if_neg (by omega),show(b.toNat%128+128*v) / 128=v by omega,show(b.toNat%128+128*v)%128=b.toNat%128 by omega,List.cons_append,<- e2]
     rw[show((b.toNat%128+128:Nat):Int)=b by omega]
    ·rw[hj,Nat.pow_succ]
     omega
theorem pI_by {v:Int} {R:List Int} (h:r64 v):pI (byZ v++R)=(v,.ok R):=by
 have:=rdU_by 10 0 (zz v) 0 R (canU_0 (zz_lt h)) (by rw[Nat.mul_zero,Nat.pow_zero,Nat.mul_one];exact zz_lt h)
 unfold pI byZ
 rw[byU_eq,this,if_pos rfl]
 simp only[Nat.mul_zero,Nat.pow_zero,Nat.mul_one,Nat.zero_add]
 rw[unzz_zz]
theorem pI_cut {v:Int} {j:Nat} (h:r64 v) (hj:j<(byZ v).length):pI ((byZ v).take j)=(0,.er 11):=by
 unfold byZ at hj ⊢
 rw[byU_eq]at hj ⊢
 have:=rdU_cut 10 0 (zz v) 0 j (canU_0 (zz_lt h)) (by rw[Nat.mul_zero,Nat.pow_zero,Nat.mul_one];exact zz_lt h) hj
 unfold pI
 rw[this]
 rfl
theorem pI_inv {U R:List Int} {v:Int} (hB:isB U) (h:pI U=(v,.ok R)):U=byZ v++R/\r64 v:=by
 unfold pI at h
 split at h
 ·rename_i h0
  obtain⟨u,e1,e2,e3,_⟩:=rdU_inv U 0 0 hB (by decide) h0
  have h1:=congrArg Prod.fst h
  have h2:=congrArg Prod.snd h
  simp only at h1 h2
  have h2:(rdU 0 0 U).2.2=R:=by injection h2
  have hlt:=rdU_lt U 0 0 (by decide) (by decide)
  rw[Nat.zero_add,Nat.mul_zero,Nat.pow_zero,Nat.mul_one]at e1
  rw[e1]at h1 hlt
  subst h1
  refine⟨?_,unzz_r hlt⟩
  unfold byZ
  rw[zz_unzz,byU_eq,<- h2]
  exact e2
 ·cases(congrArg Prod.snd h)
theorem rdU_err:∀(U:List Int) (i a:Nat),(rdU i a U).1=0∨(rdU i a U).1=2∨(rdU i a U).1=11
 | [],_,_=>.inr (.inr rfl)
 |b::l,i,a=>by
  unfold rdU
  split
  ·exact .inr (.inl rfl)
  ·split
   ·exact .inl rfl
   ·exact rdU_err l _ _
def eOk:S->Prop
 | .ok _=>True
 | .er e=>e=2∨e=11
theorem sI_e {s:S} (h:eOk s):eOk (sI s).2:=by
 cases s with
 |er e=>exact h
 |ok U=>
  show eOk (pI U).2
  unfold pI
  split
  ·trivial
  ·rename_i h0
   exact(rdU_err U 0 0).resolve_left h0
theorem sL_e {s:S} (h:eOk s):eOk (sL s).2:=by
 have h1:=sI_e h
 unfold sL
 split
 ·rename_i h2;rw[h2]at h1;exact h1
 ·split
  ·exact .inl rfl
  ·split
   ·exact .inr rfl
   ·trivial
theorem sB_e {s:S} (h:eOk s):eOk (sB s).2:=by
 have h1:=sL_e h
 unfold sB
 split
 ·rename_i h2;rw[h2]at h1;exact h1
 ·trivial
theorem tK_e:∀(k:Nat) (s:S) (acc:List Int),eOk s->eOk (tK k s acc).2
 |0,s,acc,h=>h
 |k+1,s,acc,h=>by
  have h1:=sI_e h
  unfold tK
  split
  ·rename_i h2;rw[h2]at h1;exact h1
  ·exact tK_e k _ _ trivial
theorem sT_e {s:S} (h:eOk s):eOk (sT s).2:=by
 have h1:=sL_e h
 unfold sT
 split
 ·rename_i h2;rw[h2]at h1;exact h1
 ·exact tK_e _ _ _ trivial
end Go.Sym