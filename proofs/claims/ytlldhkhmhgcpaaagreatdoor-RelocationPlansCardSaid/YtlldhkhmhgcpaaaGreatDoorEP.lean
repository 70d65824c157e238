import Derived.Test.YtlldhkhmhgcpaaaGreatDoorPN
import Derived.Test.YtlldhkhmhgcpaaaGreatDoorAP
namespace Go.Sym
set_option linter.unusedVariables false
set_option linter.unusedSimpArgs false
open Go.Proofs
set_option maxRecDepth 100000
def enP (x:Sr):Nat->Nat->Pos->List Pos
 |0,_,p=>[p]
 |m+1,fi0,p=>p::(List.range' fi0 (x.us.length-fi0)).flatMap fun i=>x.tg.flatMap fun t=>if goP x p i t then enP x m (i+1) (pushP x p i t)else []
theorem exF_en {x:Sr}:∀(m fi0:Nat) (p:Pos) (b:Bst),exF x m fi0 p b=(enP x m fi0 p).foldl (fun b q=>cnF x q b) b
 |0,fi0,p,b=>rfl
 |m+1,fi0,p,b=>by
  unfold exF enP
  rw[List.foldl_cons,List.foldl_flatMap]
  congr 1
  funext b i
  rw[List.foldl_flatMap]
  congr 1
  funext b t
  split
  ·exact exF_en m _ _ _
  ·rfl
def pushL (x:Sr) (p:Pos) (il:List (Nat × Int)):Pos:=il.foldl (fun p e=>pushP x p e.1 e.2) p
def okE (x:Sr) (p:Pos) (fi0:Nat) (e:Nat × Int):Prop:=(fi0<=e.1/\e.1<x.us.length)/\e.2∈x.tg/\goP x p e.1 e.2
structure OkIl (x:Sr) (p:Pos) (m fi0:Nat) (il:List (Nat × Int)):Prop where
 len:il.length<=m
 up:il.Pairwise fun a b=>a.1<b.1
 ok:∀ e∈il,okE x p fi0 e
theorem set_other {l:List Int} {i j:Nat} {t d:Int} (h:i≠j):(l.set i t).getD j d=l.getD j d:=by
 rw[List.getD_eq_getElem?_getD,List.getElem?_set_ne h,<- List.getD_eq_getElem?_getD]
theorem goP_push {x:Sr} {p:Pos} {i j:Nat} {t u:Int} (h:i<j):goP x (pushP x p i t) j u↔goP x p j u:=by
 unfold goP pushP
 simp only
 rw[set_other (by omega)]
theorem en_mem {x:Sr}:∀(m fi0:Nat) (p q:Pos),q∈enP x m fi0 p↔∃ il,OkIl x p m fi0 il/\q=pushL x p il
 |0,fi0,p,q=>by
  unfold enP
  rw[List.mem_singleton]
  constructor
  ·rintro rfl
   exact⟨[],⟨Nat.le_refl _,List.Pairwise.nil,fun e he=>by cases he⟩,rfl⟩
  ·rintro⟨il,h,rfl⟩
   have:=List.length_eq_zero_iff.1 (Nat.le_zero.1 h.len)
   subst this
   rfl
 |m+1,fi0,p,q=>by
  unfold enP
  rw[List.mem_cons,List.mem_flatMap]
  constructor
  ·rintro(rfl|⟨i,hi,hq⟩)
   ·exact⟨[],⟨Nat.zero_le _,List.Pairwise.nil,fun e he=>by cases he⟩,rfl⟩
   ·rw[List.mem_flatMap]at hq
    obtain⟨t,ht,hq⟩:=hq
    split at hq
    ·rename_i hg
     obtain⟨il,h,rfl⟩:=(en_mem m (i+1) (pushP x p i t) q).1 hq
     rw[List.mem_range'_1]at hi
     refine⟨(i,t)::il,⟨by have:=h.len;simp only[List.length_cons];omega,List.pairwise_cons.2 ⟨fun e he=>?_,h.up⟩,fun e he=>?_⟩,rfl⟩
     ·have:=(h.ok e he).1.1
      show i<e.1
      omega
     ·rcases List.mem_cons.1 he with rfl|he
      ·exact⟨⟨by show fi0<=i;omega,by show i<x.us.length;omega⟩,ht,hg⟩
      ·have:=h.ok e he
       exact⟨⟨by have:=this.1.1;omega,this.1.2⟩,this.2.1,(goP_push (by have:=this.1.1;omega)).1 this.2.2⟩
    ·cases hq
  ·rintro⟨il,h,rfl⟩
   cases il with
   |nil=>exact .inl rfl
   |cons e il=>
    right
    have he:=h.ok e (by simp)
    have hu:=List.pairwise_cons.1 h.up
    refine⟨e.1,List.mem_range'_1.2 ⟨he.1.1,by have:=he.1;omega⟩,List.mem_flatMap.2 ⟨e.2,he.2.1,?_⟩⟩
    rw[if_pos he.2.2]
    refine(en_mem m (e.1+1) (pushP x p e.1 e.2) _).2 ⟨il,⟨by have:=h.len;simp only[List.length_cons]at this;omega,hu.2,fun f hf=>?_⟩,rfl⟩
    have hf':=h.ok f (by simp[hf])
    have:=hu.1 f hf
    exact⟨⟨this,hf'.1.2⟩,hf'.2.1,(goP_push this).2 hf'.2.2⟩
def ltV (a b:Mv):Prop:=a.1<b.1∨a.1=b.1/\a.2<b.2
def ltM:List Mv->List Mv->Prop
 | [],[]=>False
 | [],_::_=>True
 |_::_,[]=>False
 |a::l,b::m=>ltV a b∨a=b/\ltM l m
theorem cmpMv_neg {a b:Mv}:cmpMv a b<0↔ltV a b:=by
 unfold cmpMv ltV
 simp only[orF]
 unfold cmpI
 by_cases h1:a.1<b.1
 ·rw[if_pos h1,if_neg (by decide)];exact⟨fun _=>.inl h1,fun _=>by decide⟩
 ·rw[if_neg h1]
  by_cases h2:b.1<a.1
  ·rw[if_pos h2,if_neg (by decide)];exact⟨fun q=>by omega,fun q=>by omega⟩
  ·rw[if_neg h2,if_pos rfl]
   by_cases h3:a.2<b.2
   ·rw[if_pos h3,if_neg (by decide)];exact⟨fun _=>.inr ⟨by omega,h3⟩,fun _=>by decide⟩
   ·rw[if_neg h3]
    by_cases h4:b.2<a.2
    ·rw[if_pos h4,if_neg (by decide)];exact⟨fun q=>by omega,fun q=>by omega⟩
    ·rw[if_neg h4,if_pos rfl];exact⟨fun q=>by omega,fun q=>by omega⟩
theorem cmpI_zero {a b:Int}:cmpI a b=0↔a=b:=by unfold cmpI;split <;>(try split) <;>omega
theorem cmpMv_zero {a b:Mv}:cmpMv a b=0↔a=b:=by
 unfold cmpMv
 simp only[orF]
 constructor
 ·intro h
  split at h
  ·rename_i h1
   split at h
   ·rename_i h2
    exact Prod.ext (cmpI_zero.1 h1) (cmpI_zero.1 h2)
   ·contradiction
  ·contradiction
 ·rintro rfl
  rw[if_pos (cmpI_zero.2 rfl),if_pos (cmpI_zero.2 rfl)]
theorem cmpMs_neg:∀ {a b:List Mv},cmpMs a b<0↔ltM a b
 | [],[]=>by unfold cmpMs ltM;exact⟨fun q=>absurd q (by decide),fun q=>q.elim⟩
 | [],_::_=>by unfold cmpMs ltM;exact⟨fun _=>trivial,fun _=>by decide⟩
 |_::_,[]=>by unfold cmpMs ltM;exact⟨fun q=>absurd q (by decide),fun q=>q.elim⟩
 |a::l,b::m=>by
  unfold cmpMs ltM
  by_cases h:cmpMv a b≠0
  ·rw[if_pos h,cmpMv_neg]
   exact⟨.inl,fun q=>q.elim id fun q=>absurd (cmpMv_zero.2 q.1) h⟩
  ·rw[if_neg h]
   have e:=cmpMv_zero.1 (Decidable.not_not.1 h)
   rw[cmpMs_neg]
   refine⟨fun q=>.inr ⟨e,q⟩,fun q=>q.elim (fun q=>?_) And.right⟩
   subst e
   unfold ltV at q
   omega
theorem ltV_irr {a:Mv}:¬ ltV a a:=by unfold ltV;omega
theorem ltV_tr {a b c:Mv} (h:ltV a b) (h1:ltV b c):ltV a c:=by unfold ltV at *;omega
theorem ltV_tot {a b:Mv} (h:¬ ltV a b) (h1:¬ ltV b a):a=b:=by unfold ltV at *;exact Prod.ext (by omega) (by omega)
theorem ltM_irr:∀ {a:List Mv},¬ ltM a a
 | []=>id
 |a::l=>by unfold ltM;exact fun q=>q.elim ltV_irr fun q=>ltM_irr q.2
theorem ltM_tr:∀ {a b c:List Mv},ltM a b->ltM b c->ltM a c
 | [],[],c,h,_=>h.elim
 | [],_::_,[],_,h=>h.elim
 | [],_::_,_::_,_,_=>trivial
 |_::_,[],_,h,_=>h.elim
 |_::_,_::_,[],_,h=>h.elim
 |a::l,b::m,c::n,h,h1=>by
  unfold ltM at*
  rcases h with h|⟨rfl,h⟩
  ·rcases h1 with h1|⟨rfl,h1⟩
   ·exact .inl (ltV_tr h h1)
   ·exact .inl h
  ·rcases h1 with h1|⟨rfl,h1⟩
   ·exact .inl h1
   ·exact .inr ⟨rfl,ltM_tr h h1⟩
theorem ltM_tot:∀ {a b:List Mv},¬ ltM a b->¬ ltM b a->a=b
 | [],[],_,_=>rfl
 | [],_::_,h,_=>(h trivial).elim
 |_::_,[],_,h=>(h trivial).elim
 |a::l,b::m,h,h1=>by
  unfold ltM at h h1
  have e:a=b:=ltV_tot (fun q=>h (.inl q)) (fun q=>h1 (.inl q))
  subst e
  rw[ltM_tot (a:=l) (b:=m) (fun q=>h (.inr ⟨rfl,q⟩)) (fun q=>h1 (.inr ⟨rfl,q⟩))]
def ltB (a b:Bst):Prop:=a.worst<b.worst∨a.worst=b.worst/\(a.best.length<b.best.length∨a.best.length=b.best.length/\(a.total<b.total∨a.total=b.total/\ltM a.best b.best))
theorem ltB_irr {a:Bst}:¬ ltB a a:=by
 unfold ltB
 rintro(h|⟨_,h|⟨_,h|⟨_,h⟩⟩⟩)
 ·omega
 ·omega
 ·omega
 ·exact ltM_irr h
theorem ltB_tr {a b c:Bst} (h:ltB a b) (h1:ltB b c):ltB a c:=by
 unfold ltB at*
 have:=ltM_tr (a:=a.best) (b:=b.best) (c:=c.best)
 rcases h with h|⟨e,h⟩
 ·exact .inl (by omega)
 ·rcases h1 with h1|⟨e1,h1⟩
  ·exact .inl (by omega)
  ·refine .inr ⟨by omega,?_⟩
   rcases h with h|⟨e2,h⟩
   ·exact .inl (by omega)
   ·rcases h1 with h1|⟨e3,h1⟩
    ·exact .inl (by omega)
    ·refine .inr ⟨by omega,?_⟩
     rcases h with h|⟨e4,h⟩
     ·exact .inl (by omega)
     ·rcases h1 with h1|⟨e5,h1⟩
      ·exact .inl (by omega)
      ·exact .inr ⟨by omega,this h h1⟩
theorem ltB_tot {a b:Bst} (h:¬ ltB a b) (h1:¬ ltB b a):a.worst=b.worst/\a.best=b.best/\a.total=b.total:=by
 unfold ltB at h h1
 have e1:a.worst=b.worst:=by omega
 have e2:a.best.length=b.best.length:=by omega
 have e3:a.total=b.total:=by omega
 exact⟨e1,ltM_tot (fun q=>h (.inr ⟨e1,.inr ⟨e2,.inr ⟨e3,q⟩⟩⟩)) (fun q=>h1 (.inr ⟨e1.symm,.inr ⟨e2.symm,.inr ⟨e3.symm,q⟩⟩⟩)),e3⟩
theorem bet_lt {w:Int} {p:Pos} {b:Bst}:betF w p b<0↔ltB ⟨true,p.mv,w,p.dur⟩ b:=by
 unfold betF ltB
 simp only[orF]
 by_cases h1:cmpI w b.worst=0
 ·rw[if_pos h1]
  have e1:=cmpI_zero.1 h1
  by_cases h2:cmpI (p.mv.length:Int) b.best.length=0
  ·rw[if_pos h2]
   have e2:=cmpI_zero.1 h2
   by_cases h3:cmpI p.dur b.total=0
   ·rw[if_pos h3]
    have e3:=cmpI_zero.1 h3
    have:(if cmpMs p.mv b.best=0 then(0:Int)else cmpMs p.mv b.best)=cmpMs p.mv b.best:=by split <;>simp_all
    rw[this,cmpMs_neg]
    refine⟨fun q=>.inr ⟨e1,.inr ⟨by omega,.inr ⟨e3,q⟩⟩⟩,fun q=>?_⟩
    rcases q with q|⟨_,q|⟨_,q|⟨_,q⟩⟩⟩
    ·omega
    ·omega
    ·omega
    ·exact q
   ·rw[if_neg h3,cmp_neg]
    have:¬ p.dur=b.total:=fun q=>h3 (cmpI_zero.2 q)
    refine⟨fun q=>.inr ⟨e1,.inr ⟨by omega,.inl q⟩⟩,fun q=>?_⟩
    rcases q with q|⟨_,q|⟨_,q|⟨q,_⟩⟩⟩ <;>omega
  ·rw[if_neg h2,cmp_neg]
   have:¬ (p.mv.length:Int)=b.best.length:=fun q=>h2 (cmpI_zero.2 q)
   refine⟨fun q=>.inr ⟨e1,.inl (by omega)⟩,fun q=>?_⟩
   rcases q with q|⟨_,q|⟨q,_⟩⟩ <;>omega
 ·rw[if_neg h1,cmp_neg]
  have:¬ w=b.worst:=fun q=>h1 (cmpI_zero.2 q)
  refine⟨.inl,fun q=>?_⟩
  rcases q with q|⟨q,_⟩ <;>omega
open Classical in
noncomputable def minB (b a:Bst):Bst:=if ltB a b then a else b
theorem fold_min:∀(l:List Bst) (b:Bst),(l.foldl minB b=b∨l.foldl minB b∈l)/\¬ ltB b (l.foldl minB b)/\∀ a∈l,¬ ltB a (l.foldl minB b)
 | [],b=>⟨.inl rfl,ltB_irr,fun a ha=>by cases ha⟩
 |c::l,b=>by
  rw[List.foldl_cons]
  obtain⟨h1,h2,h3⟩:=fold_min l (minB b c)
  by_cases hc:ltB c b
  ·have e:minB b c=c:=if_pos hc
   rw[e]at h1 h2 h3 ⊢
   refine⟨h1.elim (fun q=>.inr (by rw[q];simp)) (fun q=>.inr (List.mem_cons_of_mem _ q)),fun q=>?_,fun a ha=>?_⟩
   ·exact h2 (ltB_tr hc q)
   ·rcases List.mem_cons.1 ha with rfl|ha
    ·exact h2
    ·exact h3 a ha
  ·have e:minB b c=b:=if_neg hc
   rw[e]at h1 h2 h3 ⊢
   refine⟨h1.elim .inl (fun q=>.inr (List.mem_cons_of_mem _ q)),h2,fun a ha=>?_⟩
   rcases List.mem_cons.1 ha with rfl|ha
   ·intro q
    by_cases s:ltB (l.foldl minB b) b
    ·exact hc (ltB_tr q s)
    ·have t:=ltB_tot h2 s
     refine hc ?_
     unfold ltB at q ⊢
     rw[t.1,t.2.1,t.2.2]
     exact q
   ·exact h3 a ha
def toB (x:Sr) (q:Pos):Bst:=⟨true,q.mv,waitF x q.nd,q.dur⟩
theorem cn_min {x:Sr} {q:Pos} {b:Bst} (h:b.found=true):cnF x q b=minB b (toB x q)/\(minB b (toB x q)).found=true:=by
 unfold cnF minB
 by_cases q1:betF (waitF x q.nd) q b<0
 ·have q2:ltB (toB x q) b:=bet_lt.1 q1
  rw[if_pos (.inr q1),if_pos q2]
  exact⟨rfl,rfl⟩
 ·have q2:¬ ltB (toB x q) b:=fun r=>q1 (bet_lt.2 r)
  rw[if_neg (fun r=>r.elim (fun r=>by rw[h]at r;cases r) q1),if_neg q2]
  exact⟨rfl,h⟩
theorem fold_cn {x:Sr}:∀(l:List Pos) (b:Bst),b.found=true->l.foldl (fun b q=>cnF x q b) b=(l.map (toB x)).foldl minB b
 | [],b,_=>rfl
 |q::l,b,h=>by
  rw[List.foldl_cons,List.map_cons,List.foldl_cons,(cn_min h).1]
  exact fold_cn l _ (cn_min h).2
theorem enP_cons (x:Sr) (m fi0:Nat) (p:Pos):∃ r,enP x m fi0 p=p::r:=by
 cases m with
 |zero=>exact⟨[],rfl⟩
 |succ m=>exact⟨_,rfl⟩
theorem ex_min {x:Sr} (m fi0:Nat) (p:Pos):(∃ q∈enP x m fi0 p,exF x m fi0 p {}=toB x q)/\∀ q∈enP x m fi0 p,¬ ltB (toB x q) (exF x m fi0 p {}):=by
 rw[exF_en]
 obtain⟨r,hr⟩:=enP_cons x m fi0 p
 rw[hr,List.foldl_cons,show cnF x p {}=toB x p from if_pos (.inl rfl),fold_cn r _ rfl]
 obtain⟨h1,h2,h3⟩:=fold_min (r.map (toB x)) (toB x p)
 refine⟨?_,fun q hq=>?_⟩
 ·rcases h1 with h1|h1
  ·exact⟨p,by simp,h1⟩
  ·obtain⟨q,hq,e⟩:=List.mem_map.1 h1
   exact⟨q,List.mem_cons_of_mem _ hq,e.symm⟩
 ·rcases List.mem_cons.1 hq with rfl|hq
  ·exact h2
  ·exact h3 _ (List.mem_map.2 ⟨q,hq,rfl⟩)
end Go.Sym