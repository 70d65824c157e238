import Derived.Test.YtcghhlodddpmaaaDoorV10
namespace Go.Sym
set_option linter.unusedVariables false
set_option linter.unusedSimpArgs false
open Go.Proofs
set_option maxRecDepth 100000
inductive S where
 |ok (U:List Int)
 |er (e:Int)
def st (r:Rd):S:=if r.e=0 then .ok (r.B.drop r.lo)else .er r.e
def pI (U:List Int):Int × S:=if(rdU 0 0 U).1=0 then(unzz (rdU 0 0 U).2.1,.ok (rdU 0 0 U).2.2)else(0,.er (rdU 0 0 U).1)
def sI:S->Int × S
 | .ok U=>pI U
 | .er e=>(0,.er e)
def sL (s:S):Int × S:=match sI s with
 |(_,.er e)=>(0,.er e)
 |(v,.ok R)=>if v<0 then(0,.er 2)else if(R.length:Int)<v then(0,.er 11)else(v,.ok R)
def sB (s:S):List Int × S:=match sL s with
 |(_,.er e)=>([],.er e)
 |(v,.ok R)=>(R.take v.toNat,.ok (R.drop v.toNat))
def tK:Nat->S->List Int->List Int × S
 |0,s,acc=>(acc,s)
 |k+1,s,acc=>match sI s with
  |(_,.er e)=>([],.er e)
  |(v,.ok R)=>tK k (.ok R) (acc++[v])
def sT (s:S):List Int × S:=match sL s with
 |(_,.er e)=>([],.er e)
 |(v,.ok R)=>tK v.toNat (.ok R) []
def sE:S->Int
 | .ok U=>if U=[]then 0 else 2
 | .er e=>e
theorem rdU_suf:∀(U:List Int) (i u:Nat),(rdU i u U).1=0->∃ C,U=C++(rdU i u U).2.2
 | [],i,u,h=>by unfold rdU at h;cases h
 |b::l,i,u,h=>by
  unfold rdU at h ⊢
  split at h
  ·cases h
  ·rename_i h1
   rw[if_neg h1]
   split at h
   ·rename_i h2
    rw[if_pos h2]
    exact⟨[b],rfl⟩
   ·rename_i h2
    rw[if_neg h2]
    obtain⟨C,hC⟩:=rdU_suf l _ _ h
    exact⟨b::C,by rw[List.cons_append,<- hC]⟩
theorem drop_suf {B C D:List Int} {lo:Nat} (h:B.drop lo=C++D):B.drop (B.length-D.length)=D:=by
 have hl:=congrArg List.length h
 rw[List.length_drop,List.length_append]at hl
 have e:B=B.take lo++(C++D):=by rw[<- h,List.take_append_drop]
 have e2:B.take lo++(C++D)=(B.take lo++C)++D:=by rw[List.append_assoc]
 rcases Nat.lt_or_ge B.length lo with h1|h1
 ·have:D.length=0:=by omega
  have hd:D=[]:=List.eq_nil_of_length_eq_zero this
  subst hd
  rw[List.length_nil,Nat.sub_zero,List.drop_of_length_le (Nat.le_refl _)]
 ·have hlen:(B.take lo++C).length=B.length-D.length:=by rw[List.length_append,List.length_take,Nat.min_eq_left h1];omega
  have e3:B=(B.take lo++C)++D:=e.trans e2
  generalize B.take lo++C=X at e3 hlen
  rw[<- hlen,e3,List.drop_left]
theorem st_er {r:Rd} (h:r.e≠0):st r= .er r.e:=if_neg h
theorem st_ok {r:Rd} (h:r.e=0):st r= .ok (r.B.drop r.lo):=if_pos h
theorem st_bad {e:Int} (h:e≠0):st (bad e)= .er e:=if_neg h
theorem st_int (r:Rd):sI (st r)=(intV r,st (intR r)):=by
 unfold intV intR inV inR'
 by_cases h:r.e=0
 ·rw[st_ok h,if_neg (fun q=>q h),if_neg (fun q=>q h)]
  show pI _=_
  unfold pI rdV rdR
  by_cases h1:(rdU 0 0 (r.B.drop r.lo)).1=0
  ·rw[if_pos h1,if_pos h1,if_pos h1,st_ok rfl]
   obtain⟨C,hC⟩:=rdU_suf _ _ _ h1
   rw[show(⟨r.B,r.B.length-(rdU 0 0 (r.B.drop r.lo)).2.2.length,0⟩:Rd).B.drop (⟨r.B,r.B.length-(rdU 0 0 (r.B.drop r.lo)).2.2.length,0⟩:Rd).lo=_ from drop_suf hC]
  ·rw[if_neg h1,if_neg h1,if_neg h1,st_bad h1]
 ·rw[st_er h,if_pos h,if_pos h,st_er h]
  rfl
theorem st_len (r:Rd):sL (st r)=(lnV r,st (lnR r)):=by
 unfold sL
 rw[st_int]
 by_cases h:(intR r).e≠0
 ·rw[(ln_e h).1,(ln_e h).2,st_er h]
 ·have h0:(intR r).e=0:=Decidable.of_not_not h
  rw[st_ok h0]
  have hl:((intR r).B.drop (intR r).lo).length=(intR r).B.length-(intR r).lo:=List.length_drop
  simp only[hl]
  by_cases h1:intV r<0
  ·rw[(ln_n h h1).1,(ln_n h h1).2,if_pos h1,st_bad (by decide)]
  ·rw[if_neg h1]
   by_cases h2:(((intR r).B.length-(intR r).lo:Nat):Int)<intV r
   ·rw[(ln_s h h1 h2).1,(ln_s h h1 h2).2,if_pos h2,st_bad (by decide)]
   ·rw[(ln_y h h1 h2).1,(ln_y h h1 h2).2,if_neg h2,st_ok h0]
theorem lnV_er {r:Rd} (h:(lnR r).e≠0):lnV r=0:=by
 by_cases h1:(intR r).e≠0
 ·exact(ln_e h1).1
 ·by_cases h2:intV r<0
  ·exact(ln_n h1 h2).1
  ·by_cases h3:(((intR r).B.length-(intR r).lo:Nat):Int)<intV r
   ·exact(ln_s h1 h2 h3).1
   ·rw[(ln_y h1 h2 h3).2]at h
    exact absurd h h1
theorem st_bs (r:Rd):sB (st r)=(bsV r,st (bsR r)):=by
 unfold sB
 rw[st_len]
 by_cases h:(lnR r).e=0
 ·rw[st_ok h]
  have e:st (bsR r)= .ok (((lnR r).B.drop (lnR r).lo).drop (lnV r).toNat):=by
   rw[st_ok (r:=bsR r) h,List.drop_drop]
   rfl
  rw[e]
  rfl
 ·rw[st_er h,bs_0 (lnV_er h),st_er h]
  have:bsV r=[]:=List.eq_nil_of_length_eq_zero (bs_00 (lnV_er h))
  rw[this]
theorem st_itK:∀(k:Nat) (r:Rd) (acc:List Int),r.e=0->tK k (st r) acc=((itK k r acc).1,st (itK k r acc).2)
 |0,r,acc,h=>rfl
 |k+1,r,acc,h=>by
  unfold tK itK
  rw[st_int]
  by_cases h1:(intR r).e=0
  ·rw[if_neg (fun q=>q h1)]
   have:=st_itK k (intR r) (acc++[intV r]) h1
   rw[st_ok h1]at this ⊢
   exact this
  ·rw[if_pos h1,st_er h1]
theorem st_it (r:Rd):sT (st r)=(itV r,st (itR r)):=by
 unfold sT
 rw[st_len]
 by_cases h:(lnR r).e=0
 ·have:=st_itK (lnN r) (lnR r) [] h
  rw[st_ok h]at this ⊢
  show tK (lnN r) _ []=_
  rw[this]
  by_cases h0:lnV r=0
  ·rw[(it_00 h0).1,(it_00 h0).2]
   unfold lnN
   rw[h0]
   rfl
  ·unfold itV itR
   rw[if_neg h0,if_neg h0]
 ·rw[st_er h,(it_00 (lnV_er h)).1,(it_00 (lnV_er h)).2,st_er h]
theorem st_fn {r:Rd} (h:RdOk r):sE (st r)=fnV r:=by
 unfold fnV
 by_cases h0:r.e=0
 ·rw[st_ok h0,if_neg (fun q=>q h0)]
  show(if _=[]then(0:Int)else 2)=_
  by_cases h1:r.lo<r.B.length
  ·rw[if_pos h1,if_neg (fun e=>by have:=congrArg List.length e;rw[List.length_drop]at this;simp at this;omega)]
  ·rw[if_neg h1,if_pos (List.drop_of_length_le (by omega))]
 ·rw[st_er h0,if_pos h0]
  rfl
end Go.Sym