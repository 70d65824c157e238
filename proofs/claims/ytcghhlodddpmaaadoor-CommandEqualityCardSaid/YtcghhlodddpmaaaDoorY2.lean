import Derived.Test.YtcghhlodddpmaaaDoorY1
namespace Go.Sym
set_option linter.unusedVariables false
set_option linter.unusedSimpArgs false
open Go.Proofs
set_option maxRecDepth 100000
structure CanU (i k u:Nat):Prop where
 k0:0<k
 lt:u<128 ^ k
 s:i+k=10
 z:0<i->u≠0
 n:i=9->u=1
theorem canU_0 {u:Nat} (h:u<18446744073709551616):CanU 0 10 u:=⟨by decide,by omega,rfl,fun h=>absurd h (by decide),fun h=>by cases h⟩
theorem split7 (u i:Nat):u*2 ^ (7*i)=(u%128)*2 ^ (7*i)+(u / 128)*2 ^ (7*(i+1)):=by
 have e7:2 ^ (7*(i+1))=128*2 ^ (7*i):=by rw[Nat.mul_add,Nat.pow_add];omega
 rw[e7]
 generalize 2 ^ (7*i)=p
 have h:=Nat.mod_add_div u 128
 calc u*p=(u%128+128*(u / 128))*p:=by rw[h]
  _=u%128*p+u / 128*(128*p):=by rw[Nat.add_mul,Nat.mul_comm 128 (u / 128),Nat.mul_assoc]
theorem only1 {q v:Nat} (h:q+v*9223372036854775808<18446744073709551616) (hv:v≠0):v=1:=by omega
theorem canU_s {i k u:Nat} (h:CanU i (k+1) u) (h1:¬ u<128) (hm:u*2 ^ (7*i)<18446744073709551616):CanU (i+1) k (u / 128)/\(u / 128)*2 ^ (7*(i+1))<18446744073709551616/\i≠9:=by
 have hs:=h.s
 have hlt:=h.lt
 have hmul:=split7 u i
 have h9:i≠9:=fun e=>h1 (by have:=h.n e;omega)
 refine⟨⟨?_,?_,by omega,fun _=>by omega,fun e8=>?_⟩,by omega,h9⟩
 ·rcases Nat.eq_zero_or_pos k with e|e
  ·exact absurd (show i=9 by omega) h9
  ·exact e
 ·rw[Nat.pow_succ]at hlt
  omega
 ·have e8:i=8:=by omega
  subst e8
  have h63:(2:Nat) ^ (7*(8+1))=9223372036854775808:=rfl
  rw[h63]at hmul
  rw[hmul]at hm
  exact only1 hm (by omega)
theorem rdU_by:∀(k i u a:Nat) (R:List Int),CanU i k u->u*2 ^ (7*i)<18446744073709551616->rdU i a (byK k u++R)=(0,a+u*2 ^ (7*i),R)
 |0,i,u,a,R,h,_=>absurd h.k0 (by decide)
 |k+1,i,u,a,R,h,hm=>by
  unfold byK
  by_cases h1:u<128
  ·rw[if_pos h1,List.cons_append,List.nil_append]
   unfold rdU
   have hb:¬ rdBad i (u:Int):=by
    rintro(⟨h2,h3⟩|⟨h2,h3⟩)
    ·have:=h.n h2;omega
    ·have:=h.z h2;omega
   rw[if_neg hb,if_pos (by omega)]
   rw[show(u:Int).toNat%128=u by omega]
  ·rw[if_neg h1,List.cons_append]
   have hs:=h.s
   have h9:i≠9:=fun e=>h1 (by have:=h.n e;omega)
   have hb:¬ rdBad i ((u%128+128:Nat):Int):=by
    rintro(⟨h2,h3⟩|⟨h2,h3⟩)
    ·exact h9 h2
    ·omega
   obtain⟨hc,hm2,_⟩:=canU_s h h1 hm
   have hmul:=split7 u i
   unfold rdU
   rw[if_neg hb,if_neg (by omega)]
   rw[show((u%128+128:Nat):Int).toNat%128=u%128 by omega]
   rw[rdU_by k (i+1) (u / 128) _ R hc hm2,hmul,Nat.add_assoc]
theorem pI_by {v:Int} {R:List Int} (h:r64 v):pI (byZ v++R)=(v,.ok R):=by
 have:=rdU_by 10 0 (zz v) 0 R (canU_0 (zz_lt h)) (by rw[Nat.mul_zero,Nat.pow_zero,Nat.mul_one];exact zz_lt h)
 unfold pI byZ
 rw[byU_eq,this,if_pos rfl]
 simp only[Nat.mul_zero,Nat.pow_zero,Nat.mul_one,Nat.zero_add]
 rw[unzz_zz]
end Go.Sym