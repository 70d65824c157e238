import Derived.Test.YtpommejalaechaaGreatDoorS1
namespace Go.Sym
set_option linter.unusedVariables false
theorem int_lt_or_ge (a b:Int):a<b∨b<=a:=by omega
structure WNet where
 n:Nat
 m:Nat
 s:Nat->Nat
 t:Nat->Nat
 w:Nat->Int
structure WNet.Ok (N:WNet):Prop where
 s:∀ i,i<N.m->N.s i<N.n
 t:∀ i,i<N.m->N.t i<N.n
 w:∀ i,i<N.m->N.w i<INF->1<=N.w i
def at0 (d:List Int) (v:Nat):Int:=d.getD v default
theorem at0_set {d:List Int} {v u:Nat} {x:Int}:at0 (d.set v x) u=if v=u/\u<d.length then x else at0 d u:=by
 unfold at0
 simp only[List.getD_eq_getElem?_getD,List.getElem?_set]
 by_cases h:v=u
 ·subst h
  by_cases h2:v<d.length
  ·simp[h2]
  ·simp[h2]
 ·simp[h]
structure Sol (N:WNet) (S:Nat->Prop) (d:List Int):Prop where
 len:d.length=N.n
 nn:∀ v,v<N.n->0<=at0 d v
 le:∀ v,v<N.n->at0 d v<=INF
 src:∀ v,v<N.n->S v->at0 d v=0
 clo:∀ i,i<N.m->N.w i<INF->at0 d (N.s i)<INF->at0 d (N.t i)<=at0 d (N.s i)+N.w i
 tig:∀ v,v<N.n->at0 d v<INF->(S v/\at0 d v=0)∨∃ i,i<N.m/\N.w i<INF/\N.t i=v/\at0 d (N.s i)<INF/\at0 d v=at0 d (N.s i)+N.w i
theorem Sol.least {N:WNet} {S:Nat->Prop} {d:List Int} (hN:N.Ok) (H:Sol N S d) {e:List Int} (hle:∀ v,v<N.n->at0 e v<=INF) (hs:∀ v,v<N.n->S v->at0 e v<=0)
  (hc:∀ i,i<N.m->N.w i<INF->at0 e (N.s i)<INF->at0 e (N.t i)<=at0 e (N.s i)+N.w i):∀ v,v<N.n->at0 e v<=at0 d v:=by
 have key:∀(k:Nat) v,v<N.n->(at0 d v).toNat<k->at0 e v<=at0 d v:=by
  intro k
  induction k with
  |zero=>intro v _ h;omega
  |succ k ih=>
   intro v hv hk
   by_cases hi:at0 d v<INF
   ·rcases H.tig v hv hi with⟨h1,h2⟩|⟨i,h1,h2,h3,h4,h5⟩
    ·have:=hs v hv h1;omega
    ·have hu:=hN.s i h1
     have hw:=hN.w i h1 h2
     have:=H.nn _ hu
     have h6:=ih _ hu (by omega)
     have h7:=hc i h1 h2 (by omega)
     rw[h3]at h7;omega
   ·have:=hle v hv;have:=H.le v hv;omega
 exact fun v hv=>key _ v hv (Nat.lt_succ_self _)
theorem list_ext0 {a b:List Int} (hl:a.length=b.length) (h:∀ v,v<a.length->at0 a v=at0 b v):a=b:=by
 apply List.ext_getElem hl
 intro i h1 h2
 have:=h i h1
 unfold at0 at this
 simpa[List.getD_eq_getElem?_getD,h1,h2]using this
theorem Sol.uniq {N:WNet} {S:Nat->Prop} {d e:List Int} (hN:N.Ok) (H:Sol N S d) (K:Sol N S e):d=e:=by
 refine list_ext0 (by rw[H.len,K.len]) fun v hv=>?_
 rw[H.len]at hv
 have h1:=H.least hN K.le (fun v hv hs=>by rw[K.src v hv hs];exact Int.le_refl _) K.clo v hv
 have h2:=K.least hN H.le (fun v hv hs=>by rw[H.src v hv hs];exact Int.le_refl _) H.clo v hv
 omega
def relaxE (N:WNet) (d:List Int) (i:Nat):List Int:=if N.w i<INF/\at0 d (N.s i)<INF/\at0 d (N.s i)+N.w i<at0 d (N.t i)then d.set (N.t i) (at0 d (N.s i)+N.w i)else d
def roundAt (N:WNet) (d:List Int) (k:Nat):List Int:=(List.range k).foldl (relaxE N) d
def roundF (N:WNet) (d:List Int):List Int:=roundAt N d N.m
def rounds (N:WNet) (d:List Int) (k:Nat):List Int:=(List.range k).foldl (fun d _=>roundF N d) d
theorem roundAt_succ (N:WNet) (d:List Int) (k:Nat):roundAt N d (k+1)=relaxE N (roundAt N d k) k:=by unfold roundAt;rw[List.range_succ,List.foldl_append];rfl
theorem rounds_succ (N:WNet) (d:List Int) (k:Nat):rounds N d (k+1)=roundF N (rounds N d k):=by unfold rounds;rw[List.range_succ,List.foldl_append];rfl
structure Rlx (N:WNet) (S:Nat->Prop) (d:List Int):Prop where
 len:d.length=N.n
 nn:∀ v,v<N.n->0<=at0 d v
 le:∀ v,v<N.n->at0 d v<=INF
 src:∀ v,v<N.n->S v->at0 d v=0
 tig:∀ v,v<N.n->at0 d v<INF->(S v/\at0 d v=0)∨∃ i,i<N.m/\N.w i<INF/\N.t i=v/\at0 d (N.s i)<INF/\at0 d (N.s i)+N.w i<=at0 d v
theorem Rlx.put {N:WNet} {S:Nat->Prop} {d:List Int} (hN:N.Ok) (H:Rlx N S d) {i:Nat} (hi:i<N.m) (hw:N.w i<INF) {x:Int} (hs:at0 d (N.s i)<INF) (hx:at0 d (N.s i)+N.w i<=x) (hlt:x<at0 d (N.t i)):Rlx N S (d.set (N.t i) x):=by
 have hu:=hN.s i hi
 have ht:=hN.t i hi
 have hw1:=hN.w i hi hw
 have e:∀ v,v<N.n->at0 (d.set (N.t i) x) v=if N.t i=v then x else at0 d v:=by
  intro v hv
  rw[at0_set,H.len]
  by_cases h:N.t i=v
  ·rw[if_pos ⟨h,hv⟩,if_pos h]
  ·rw[if_neg (fun q=>h q.1),if_neg h]
 have mono:∀ v,v<N.n->at0 (d.set (N.t i) x) v<=at0 d v:=by
  intro v hv
  rw[e v hv];split
  ·rename_i h;subst h;omega
  ·exact Int.le_refl _
 have hx0:0<=x:=by have:=H.nn _ hu;omega
 refine⟨by rw[List.length_set];exact H.len,fun v hv=>?_,fun v hv=>Int.le_trans (mono v hv) (H.le v hv),fun v hv h=>?_,fun v hv h=>?_⟩
 ·rw[e v hv];split
  ·exact hx0
  ·exact H.nn v hv
 ·have h0:=H.src v hv h
  rw[e v hv,if_neg]
  ·exact h0
  ·intro q;subst q;omega
 ·rw[e v hv]at h ⊢
  split at h
  ·rename_i q
   subst q
   right
   refine⟨i,hi,hw,rfl,?_,?_⟩
   ·have:=mono _ hu;omega
   ·rw[if_pos rfl];have:=mono _ hu;omega
  ·rename_i q
   rw[if_neg q]
   rcases H.tig v hv h with h|⟨j,h1,h2,h3,h4,h5⟩
   ·exact .inl h
   ·have:=mono _ (hN.s j h1)
    exact .inr ⟨j,h1,h2,h3,by omega,by omega⟩
theorem Rlx.relax {N:WNet} {S:Nat->Prop} {d:List Int} (hN:N.Ok) (H:Rlx N S d) {i:Nat} (hi:i<N.m):Rlx N S (relaxE N d i):=by
 unfold relaxE;split
 ·rename_i h;exact H.put hN hi h.1 h.2.1 (Int.le_refl _) h.2.2
 ·exact H
theorem Rlx.roundAt {N:WNet} {S:Nat->Prop} {d:List Int} (hN:N.Ok) (H:Rlx N S d):∀ k,k<=N.m->Rlx N S (roundAt N d k)
 |0,_=>H
 |k+1,h=>by rw[roundAt_succ];exact(H.roundAt hN k (by omega)).relax hN (by omega)
theorem Rlx.rounds {N:WNet} {S:Nat->Prop} {d:List Int} (hN:N.Ok) (H:Rlx N S d):∀ k,Rlx N S (rounds N d k)
 |0=>H
 |k+1=>by rw[rounds_succ];exact(H.rounds hN k).roundAt hN N.m (Nat.le_refl _)
theorem relax_le {N:WNet} (d:List Int) (i v:Nat):at0 (relaxE N d i) v<=at0 d v:=by
 unfold relaxE;split
 ·rename_i h
  rw[at0_set];split
  ·rename_i q;rw[<- q.1];omega
  ·exact Int.le_refl _
 ·exact Int.le_refl _
theorem roundAt_le {N:WNet} (d:List Int) (v:Nat):∀ k,at0 (roundAt N d k) v<=at0 d v
 |0=>Int.le_refl _
 |k+1=>by rw[roundAt_succ];exact Int.le_trans (relax_le _ _ _) (roundAt_le d v k)
theorem roundAt_mono {N:WNet} (d:List Int) (v:Nat) {j:Nat}:∀ k,j<=k->at0 (roundAt N d k) v<=at0 (roundAt N d j) v
 |0,h=>by
  obtain rfl:j=0:=by omega
  exact Int.le_refl _
 |k+1,h=>by
  by_cases e:j=k+1
  ·subst e;exact Int.le_refl _
  ·rw[roundAt_succ];exact Int.le_trans (relax_le _ _ _) (roundAt_mono d v k (by omega))
theorem round_edge {N:WNet} {S:Nat->Prop} {d:List Int} (hN:N.Ok) (H:Rlx N S d) {i:Nat} (hi:i<N.m) (hw:N.w i<INF) (hs:at0 d (N.s i)<INF):at0 (roundF N d) (N.t i)<=at0 d (N.s i)+N.w i:=by
 unfold roundF
 refine Int.le_trans (roundAt_mono d _ N.m (show i+1<=N.m by omega)) ?_
 rw[roundAt_succ]
 have h1:=roundAt_le (N:=N) d (N.s i) i
 have hR:=H.roundAt hN i (by omega)
 unfold relaxE
 split
 ·rw[at0_set,if_pos ⟨rfl,by rw[hR.len];exact hN.t i hi⟩];omega
 ·rename_i h
  rcases int_lt_or_ge (at0 (roundAt N d i) (N.s i)+N.w i) (at0 (roundAt N d i) (N.t i))with h2|h2
  ·exact absurd ⟨hw,by omega,h2⟩ h
  ·omega
theorem countP_lt {p q:Nat->Bool}:∀ {l:List Nat},(∀ x∈l,q x=true->p x=true)->(∃ x∈l,p x=true/\q x=false)->l.countP q<l.countP p
 | [],_,⟨_,h,_⟩=>by cases h
 |a::l,h1,⟨x,hx,hp,hq⟩=>by
  have hle:l.countP q<=l.countP p:=by
   clear hx hp hq x
   induction l with
   |nil=>simp
   |cons b l ih=>
    have hb:=h1 b (by simp)
    have:=ih (fun x hx=>h1 x (by simp only[List.mem_cons]at hx ⊢;rcases hx with h|h <;>simp[h]))
    rw[List.countP_cons,List.countP_cons]
    cases hqb:q b with
    |true=>rw[hb hqb];simp;omega
    |false=>simp;cases p b <;>simp <;>omega
  rw[List.countP_cons,List.countP_cons]
  rcases List.mem_cons.1 hx with rfl|hx
  ·rw[hp,hq];simp;omega
  ·have ha:=h1 a (by simp)
   have:=countP_lt (l:=l) (fun x hx=>h1 x (by simp[hx])) ⟨x,hx,hp,hq⟩
   cases hqa:q a with
   |true=>rw[ha hqa];simp;omega
   |false=>simp;cases p a <;>simp <;>omega
theorem least_of (p:Nat->Prop) (f:Nat->Int) (hf:∀ v,p v->0<=f v) (h:∃ v,p v):∃ v,p v/\∀ u,p u->f v<=f u:=by
 obtain⟨v0,hv0⟩:=h
 have:∀(k:Nat) v,p v->(f v).toNat<k->∃ v,p v/\∀ u,p u->f v<=f u:=by
  intro k
  induction k with
  |zero=>intro v _ h;omega
  |succ k ih=>
   intro v hv hk
   by_cases h:∃ u,p u/\f u<f v
   ·obtain⟨u,hu,hlt⟩:=h
    have:=hf u hu
    exact ih u hu (by omega)
   ·refine⟨v,hv,fun u hu=>?_⟩
    rcases int_lt_or_ge (f u) (f v)with q|q
    ·exact absurd ⟨u,hu,q⟩ h
    ·exact q
 exact this _ v0 hv0 (Nat.lt_succ_self _)
theorem rounds_sol {N:WNet} {S:Nat->Prop} {d D:List Int} (hN:N.Ok) (H:Rlx N S d) (K:Sol N S D):rounds N d N.n=D:=by
 -- never below the solution
 have low:∀ {e:List Int},Rlx N S e->∀ v,v<N.n->at0 D v<=at0 e v:=by
  intro e E
  have key:∀(k:Nat) v,v<N.n->(at0 e v).toNat<k->at0 D v<=at0 e v:=by
   intro k
   induction k with
   |zero=>intro v _ h;omega
   |succ k ih=>
    intro v hv hk
    by_cases hi:at0 e v<INF
    ·rcases E.tig v hv hi with⟨h1,h2⟩|⟨i,h1,h2,h3,h4,h5⟩
     ·rw[K.src v hv h1];omega
     ·have hu:=hN.s i h1
      have hw:=hN.w i h1 h2
      have:=E.nn _ hu
      have h6:=ih _ hu (by omega)
      have h7:=K.clo i h1 h2 (by omega)
      rw[h3]at h7;omega
    ·have:=K.le v hv;omega
  exact fun v hv=>key _ v hv (Nat.lt_succ_self _)
 have step:∀ k,(∀ v,v<N.n->at0 (rounds N d k) v=at0 D v)∨(List.range N.n).countP (fun v=>decide (at0 (rounds N d k) v≠at0 D v))+k<=N.n:=by
  intro k
  induction k with
  |zero=>right;have:=List.countP_le_length (p:=fun v=>decide (at0 (rounds N d 0) v≠at0 D v)) (l:=List.range N.n);simp at this ⊢;omega
  |succ k ih=>
   have R:=H.rounds hN k
   have R1:=H.rounds hN (k+1)
   have le1:∀ v,at0 (rounds N d (k+1)) v<=at0 (rounds N d k) v:=fun v=>by rw[rounds_succ];exact roundAt_le _ _ _
   have stay:∀ v,v<N.n->at0 (rounds N d k) v=at0 D v->at0 (rounds N d (k+1)) v=at0 D v:=by
    intro v hv h
    have:=le1 v;have:=low R1 v hv;omega
   by_cases hall:∃ v,v<N.n/\at0 (rounds N d k) v≠at0 D v
   ·obtain⟨v,⟨hv,hne⟩,hmin⟩:=least_of (fun v=>v<N.n/\at0 (rounds N d k) v≠at0 D v) (at0 D) (fun v h=>K.nn v h.1) hall
    have hlo:=low R v hv
    have hfin:at0 D v<INF:=by have:=R.le v hv;omega
    have hnow:at0 (rounds N d (k+1)) v=at0 D v:=by
     rcases K.tig v hv hfin with⟨h1,h2⟩|⟨i,h1,h2,h3,h4,h5⟩
     ·exact absurd (by rw[R.src v hv h1,h2]) hne
     ·have hu:=hN.s i h1
      have hw:=hN.w i h1 h2
      have hset:at0 (rounds N d k) (N.s i)=at0 D (N.s i):=by
       apply Classical.byContradiction
       intro hc
       have:=hmin (N.s i) ⟨hu,hc⟩
       omega
      have h6:=round_edge hN R h1 h2 (by omega)
      rw[<- rounds_succ,h3]at h6
      have:=low R1 v hv
      omega
    rcases ih with ih|ih
    ·exact absurd (ih v hv) hne
    ·right
     have:=countP_lt (p:=fun v=>decide (at0 (rounds N d k) v≠at0 D v)) (q:=fun v=>decide (at0 (rounds N d (k+1)) v≠at0 D v)) (l:=List.range N.n)
      (fun x hx hq=>decide_eq_true (fun he=>of_decide_eq_true hq (stay x (List.mem_range.1 hx) he))) ⟨v,List.mem_range.2 hv,decide_eq_true hne,decide_eq_false (fun q=>q hnow)⟩
     omega
   ·left
    intro v hv
    refine stay v hv ?_
    apply Classical.byContradiction
    intro hc
    exact hall ⟨v,hv,hc⟩
 refine list_ext0 (by rw[(H.rounds hN _).len,K.len]) fun v hv=>?_
 rw[(H.rounds hN _).len]at hv
 rcases step N.n with h|h
 ·exact h v hv
 ·have h0:(List.range N.n).countP (fun v=>decide (at0 (rounds N d N.n) v≠at0 D v))=0:=by omega
  rw[List.countP_eq_zero]at h0
  have:=h0 v (List.mem_range.2 hv)
  simpa using this
theorem sol_exists {N:WNet} {S:Nat->Prop} {d:List Int} (hN:N.Ok) (H:Rlx N S d):∃ D,Sol N S D:=by
 have key:∀(k:Nat) (d:List Int),Rlx N S d->((List.range N.n).map (at0 d)).sum.toNat<k->∃ D,Sol N S D:=by
  intro k
  induction k with
  |zero=>intro d _ h;omega
  |succ k ih=>
   intro d H hk
   by_cases hc:∃ i,i<N.m/\N.w i<INF/\at0 d (N.s i)<INF/\at0 d (N.s i)+N.w i<at0 d (N.t i)
   ·obtain⟨i,h1,h2,h3,h4⟩:=hc
    have H':=H.put hN h1 h2 h3 (Int.le_refl _) h4
    refine ih _ H' ?_
    have hs:∀(l:List Nat) (f g:Nat->Int),(∀ v∈l,f v<=g v)->(l.map f).sum<=(l.map g).sum:=by
     intro l f g h
     induction l with
     |nil=>simp
     |cons a l ih=>have:=h a (by simp);have:=ih (fun v hv=>h v (by simp[hv]));simp;omega
    have hs':∀(l:List Nat) (f g:Nat->Int),(∀ v∈l,f v<=g v)->(∃ v∈l,f v<g v)->(l.map f).sum<(l.map g).sum:=by
     intro l f g h hex
     induction l with
     |nil=>obtain⟨v,hv,_⟩:=hex;cases hv
     |cons a l ih=>
      obtain⟨v,hv,hlt⟩:=hex
      rcases List.mem_cons.1 hv with rfl|hv
      ·have:=hs l f g (fun v hv=>h v (by simp[hv]));simp;omega
      ·have:=h a (by simp);have:=ih (fun v hv=>h v (by simp[hv])) ⟨v,hv,hlt⟩;simp;omega
    have e:∀ v,v<N.n->at0 (d.set (N.t i) (at0 d (N.s i)+N.w i)) v=if N.t i=v then at0 d (N.s i)+N.w i else at0 d v:=by
     intro v hv
     rw[at0_set,H.len]
     by_cases h:N.t i=v
     ·rw[if_pos ⟨h,hv⟩,if_pos h]
     ·rw[if_neg (fun q=>h q.1),if_neg h]
    have:=hs' (List.range N.n) (at0 (d.set (N.t i) (at0 d (N.s i)+N.w i))) (at0 d) (fun v hv=>by
     rw[List.mem_range]at hv
     rw[e v hv];split
     ·rename_i q;subst q;omega
     ·exact Int.le_refl _) ⟨N.t i,List.mem_range.2 (hN.t i h1),by rw[e _ (hN.t i h1),if_pos rfl];exact h4⟩
    have h0:0<=((List.range N.n).map (at0 (d.set (N.t i) (at0 d (N.s i)+N.w i)))).sum:=by
     have:=hs (List.range N.n) (fun _=>0) (at0 (d.set (N.t i) (at0 d (N.s i)+N.w i))) (fun v hv=>H'.nn v (List.mem_range.1 hv))
     have z:∀ l:List Nat,(l.map fun _=>(0:Int)).sum=0:=by intro l;induction l with|nil=>rfl|cons a l ih=>simp[ih]
     rw[z]at this;exact this
    omega
   ·refine⟨d,H.len,H.nn,H.le,H.src,fun i h1 h2 h3=>?_,fun v hv h=>?_⟩
    ·rcases int_lt_or_ge (at0 d (N.s i)+N.w i) (at0 d (N.t i))with q|q
     ·exact absurd ⟨i,h1,h2,h3,q⟩ hc
     ·exact q
    ·rcases H.tig v hv h with h|⟨i,h1,h2,h3,h4,h5⟩
     ·exact .inl h
     ·refine .inr ⟨i,h1,h2,h3,h4,?_⟩
      rcases int_lt_or_ge (at0 d (N.s i)+N.w i) (at0 d v)with q|q
      ·exact absurd ⟨i,h1,h2,h4,by rw[h3];exact q⟩ hc
      ·omega
 exact key _ d H (Nat.lt_succ_self _)
def initL (n:Nat) (S:Nat->Bool):List Int:=(List.range n).map fun v=>if S v then 0 else INF
theorem initL_at {n v:Nat} {S:Nat->Bool} (h:v<n):at0 (initL n S) v=if S v then 0 else INF:=by
 unfold at0 initL
 rw[List.getD_eq_getElem?_getD,List.getElem?_map,List.getElem?_range h];rfl
theorem initL_rlx {N:WNet} (S:Nat->Bool):Rlx N (fun v=>S v=true) (initL N.n S):=by
 refine⟨by simp[initL],fun v hv=>?_,fun v hv=>?_,fun v hv h=>?_,fun v hv h=>?_⟩
 ·rw[initL_at hv];split <;>decide
 ·rw[initL_at hv];split <;>decide
 ·rw[initL_at hv,if_pos h]
 ·rw[initL_at hv]at h ⊢
  split at h
  ·rename_i q;exact .inl ⟨q,if_pos q⟩
  ·exact absurd h (Int.lt_irrefl _)
def distF (N:WNet) (S:Nat->Bool):List Int:=rounds N (initL N.n S) N.n
theorem distF_sol {N:WNet} (hN:N.Ok) (S:Nat->Bool):Sol N (fun v=>S v=true) (distF N S):=by
 obtain⟨D,hD⟩:=sol_exists hN (initL_rlx (N:=N) S)
 unfold distF
 rw[rounds_sol hN (initL_rlx S) hD]
 exact hD
theorem distF_eq {N:WNet} (hN:N.Ok) {S:Nat->Bool} {d:List Int} (h:Sol N (fun v=>S v=true) d):d=distF N S:=h.uniq hN (distF_sol hN S)
end Go.Sym
namespace Go.Sym
set_option linter.unusedVariables false
theorem swapL_perm {l:List Int} {i j:Nat} (hi:i<l.length) (hj:j<l.length):(swapL l i j).Perm l:=by
 have h:=Array.swap_perm (xs:=l.toArray) (i:=i) (j:=j) (by simpa using hi) (by simpa using hj)
 have h2:=Array.perm_iff_toList_perm.1 h
 have e:(l.toArray.swap i j (by simpa using hi) (by simpa using hj)).toList=swapL l i j:=by
  simp[swapL,Array.swap,List.getD_eq_getElem?_getD,hi,hj]
 rw[e]at h2
 simpa using h2
theorem up_perm (l:List Int) (i:Nat) (hi:i<l.length):(up l i).Perm l:=by
 induction l,i using up.induct with
 |case1 l i h ih=>
  rw[up_step h]
  exact(ih (by rw[swapL_len];omega)).trans (swapL_perm hi (by omega))
 |case2 l i h=>rw[up_stop h]
theorem pushF_mem {q:List Int} {c x:Int}:x∈pushF q c↔x∈q∨x=c:=by
 unfold pushF
 rw[(up_perm _ _ (by simp)).mem_iff]
 simp
theorem down_perm (l:List Int) (i n:Nat) (hn:n<=l.length) (hi:i<l.length):(down l i n).Perm l:=by
 induction l,i using down.induct n with
 |case1 l i h ih=>
  rw[down_step h]
  have:=kid_lt (l:=l) h.1
  exact(ih (by rw[swapL_len];exact hn) (by rw[swapL_len];omega)).trans (swapL_perm hi (by omega))
 |case2 l i h=>rw[down_stop h]
theorem down_tail (l:List Int) (i n:Nat) (hn:n<=l.length) (hi:i<n):(down l i n).drop n=l.drop n:=by
 induction l,i using down.induct n with
 |case1 l i h ih=>
  rw[down_step h]
  have:=kid_lt (l:=l) h.1
  rw[ih (by rw[swapL_len];exact hn) this]
  unfold swapL
  rw[List.drop_set_of_lt (by omega),List.drop_set_of_lt (by omega)]
 |case2 l i h=>rw[down_stop h]
theorem popF_mem {q:List Int} (hq:1<=q.length) {x:Int}:x∈q↔x=q.getD 0 default∨x∈popF q:=by
 obtain⟨a,r,rfl⟩:∃ a r,q=a::r:=by cases q with|nil=>simp at hq|cons a r=>exact⟨a,r,rfl⟩
 unfold popF
 have hlast:(a::r).getD ((a::r).length-1) default=if r=[]then a else r.getD (r.length-1) default:=by
  cases r with
  |nil=>rfl
  |cons b r=>simp
 by_cases hr:r=[]
 ·subst hr;simp
 ·have hrl:0<r.length:=List.length_pos_iff.2 hr
  rw[hlast,if_neg hr]
  generalize hz:r.getD (r.length-1) default=z
  have e1:(a::r).set 0 z=z::r:=rfl
  have e2:(a::r).length-1=r.length:=by simp
  rw[e1,e2]
  have hp:=down_perm (z::r) 0 r.length (by simp) (by simp)
  have ht:=down_tail (z::r) 0 r.length (by simp) hrl
  have e3:(z::r).drop r.length=[z]:=by
   have hd:(z::r).drop r.length=r.drop (r.length-1):=by
    obtain⟨k,hk⟩:∃ k,r.length=k+1:=⟨r.length-1,by omega⟩
    rw[hk];rfl
   rw[hd,List.drop_eq_getElem_cons (by omega)]
   rw[show r.length-1+1=r.length by omega,List.drop_length,<- hz]
   simp[List.getD_eq_getElem?_getD,show r.length-1<r.length by omega]
  rw[e3]at ht
  have hsplit:=List.take_append_drop r.length (down (z::r) 0 r.length)
  rw[ht]at hsplit
  have hp2:((down (z::r) 0 r.length).take r.length++[z]).Perm (r++[z]):=by
   rw[hsplit];exact hp.trans (List.perm_append_singleton z r).symm
  have hp3:=(List.perm_append_right_iff [z]).1 hp2
  rw[hp3.mem_iff]
  simp
structure SX where
 g:Gr
 ws:List Int
 ends:List Int
 fwd:Bool
def netG (g:Gr) (ws:List Int) (fwd:Bool):WNet:=
 ⟨g.n,g.es.length,fun i=>(cond fwd (g.es.getD i default).f (g.es.getD i default).t).toNat,fun i=>(cond fwd (g.es.getD i default).t (g.es.getD i default).f).toNat,fun i=>ws.getD i default⟩
def isSrc (ends:List Int) (v:Nat):Bool:=ends.any fun s=>s==(v:Int)
structure WsOk (g:Gr) (ws:List Int):Prop where
 len:ws.length=g.es.length
 ok:∀ i,i<g.es.length->ws.getD i default=INF∨(1<=ws.getD i default/\ws.getD i default<=1048576)
theorem netG_ok {g:Gr} {ws:List Int} (hg:GOk g) (hw:WsOk g ws) (fwd:Bool):(netG g ws fwd).Ok:=by
 refine⟨fun i hi=>?_,fun i hi=>?_,fun i hi h=>?_⟩
 ·have:=hg.e i hi;unfold edOk at this;cases fwd <;>simp only[netG,cond] <;>omega
 ·have:=hg.e i hi;unfold edOk at this;cases fwd <;>simp only[netG,cond] <;>omega
 ·have:=hw.ok i hi
  have h:ws.getD i default<INF:=h
  show 1<=ws.getD i default
  omega
def capC:Int:=12582913
def psi (n:Nat) (d:List Int):Int:=((List.range n).map fun v=>min (at0 d v) capC).sum
def cnt (n:Nat) (d:List Int):Nat:=(List.range n).countP fun v=>decide (at0 d v<INF)
theorem sum_set {n:Nat} {f g:Nat->Int} {v:Nat} (hv:v<n) (h:∀ u,u<n->u≠v->g u=f u):((List.range n).map g).sum=((List.range n).map f).sum-f v+g v:=by
 induction n with
 |zero=>omega
 |succ n ih=>
  rw[List.range_succ,List.map_append,List.map_append,List.sum_append,List.sum_append]
  simp only[List.map_cons,List.map_nil,List.sum_cons,List.sum_nil]
  by_cases e:v=n
  ·subst e
   have:(List.range v).map g=(List.range v).map f:=List.map_congr_left fun u hu=>h u (by have:=List.mem_range.1 hu;omega) (by have:=List.mem_range.1 hu;omega)
   rw[this];omega
  ·have:=ih (by omega) (fun u hu=>h u (by omega))
   have:=h n (by omega) (fun q=>e q.symm)
   omega
theorem psi_nn {n:Nat} {d:List Int} (h:∀ v,v<n->0<=at0 d v):0<=psi n d:=by
 unfold psi
 have:∀ l:List Nat,(∀ v∈l,0<=at0 d v)->0<=(l.map fun v=>min (at0 d v) capC).sum:=by
  intro l
  induction l with
  |nil=>intro _;simp
  |cons a l ih=>intro h;have:=h a (by simp);have:=ih (fun v hv=>h v (by simp[hv]));simp[capC]at *;omega
 exact this _ fun v hv=>h v (List.mem_range.1 hv)
theorem psi_set {n:Nat} {d:List Int} {v:Nat} {x:Int} (hl:d.length=n) (hv:v<n) (h1:x<at0 d v) (h2:x<capC):psi n (d.set v x)+1<=psi n d:=by
 unfold psi
 rw[sum_set (f:=fun v=>min (at0 d v) capC) (g:=fun u=>min (at0 (d.set v x) u) capC) hv]
 ·have:at0 (d.set v x) v=x:=by rw[at0_set,if_pos ⟨rfl,by omega⟩]
  simp only[this]
  omega
 ·intro u hu hne
  rw[at0_set,if_neg (fun q=>hne q.1.symm)]
theorem cnt_set_new {n:Nat} {d:List Int} {v:Nat} {x:Int} (hl:d.length=n) (hv:v<n) (h1:¬ at0 d v<INF) (h2:x<INF):cnt n (d.set v x)=cnt n d+1:=by
 unfold cnt
 have e:∀ m,v<m->m<=n->(List.range m).countP (fun u=>decide (at0 (d.set v x) u<INF))=(List.range m).countP (fun u=>decide (at0 d u<INF))+1:=by
  intro m
  induction m with
  |zero=>intro h;omega
  |succ m ih=>
   intro h1' h2'
   rw[List.range_succ,List.countP_append,List.countP_append]
   by_cases e:v=m
   ·subst e
    have:(List.range v).countP (fun u=>decide (at0 (d.set v x) u<INF))=(List.range v).countP (fun u=>decide (at0 d u<INF)):=by
     apply List.countP_congr
     intro u hu
     have:=List.mem_range.1 hu
     rw[at0_set,if_neg (by omega)]
    rw[this]
    have e1:at0 (d.set v x) v=x:=by rw[at0_set,if_pos ⟨rfl,by omega⟩]
    simp[e1,h1,h2]
   ·rw[ih (by omega) (by omega)]
    have:at0 (d.set v x) m=at0 d m:=by rw[at0_set,if_neg (by omega)]
    simp[List.countP_cons,this]
    omega
 exact e n hv (Nat.le_refl _)
theorem cnt_set_old {n:Nat} {d:List Int} {v:Nat} {x:Int} (hl:d.length=n) (h1:at0 d v<INF) (h2:x<INF):cnt n (d.set v x)=cnt n d:=by
 unfold cnt
 apply List.countP_congr
 intro u hu
 rw[at0_set]
 split
 ·rename_i q;rw[<- q.1];simp[h1,h2]
 ·exact Iff.rfl
theorem cnt_pos {n:Nat} {d:List Int} {v:Nat} (hv:v<n) (h:at0 d v<INF):1<=cnt n d:=by
 unfold cnt
 exact List.countP_pos_iff.2 ⟨v,List.mem_range.2 hv,decide_eq_true h⟩
theorem cnt_le (n:Nat) (d:List Int):cnt n d<=n:=by
 unfold cnt;have:=List.countP_le_length (p:=fun v=>decide (at0 d v<INF)) (l:=List.range n);simpa using this
structure Bd (N:WNet) (S:Nat->Prop) (d q:List Int):Prop where
 rlx:Rlx N S d
 bnd:∀ v,v<N.n->at0 d v<INF->at0 d v<=((cnt N.n d:Nat)-1:Int)*1048576
 code:∀ c∈q,∃(y:Int) (v:Nat),c=y*4096+v/\v<N.n/\at0 d v<=y/\y<=12582912
def Clo (N:WNet) (d:List Int) (u:Nat):Prop:=∀ i,i<N.m->N.w i<INF->N.s i=u->at0 d (N.t i)<=at0 d u+N.w i
structure MI (N:WNet) (S:Nat->Prop) (d q:List Int):Prop extends Bd N S d q where
 pend:∀ u,u<N.n->at0 d u<INF->(at0 d u*4096+(u:Int))∈q∨Clo N d u
 pot:q.length+psi N.n d<=12*capC
structure NI (N:WNet) (S:Nat->Prop) (node:Nat) (dist:Int) (pot:Int) (dn:Nat->Prop) (d q:List Int):Prop extends Bd N S d q where
 at_:at0 d node=dist
 pend:∀ u,u<N.n->u≠node->at0 d u<INF->(at0 d u*4096+(u:Int))∈q∨Clo N d u
 pot:q.length+psi N.n d<=pot
 done:∀ i,i<N.m->dn i->N.w i<INF->at0 d (N.t i)<=dist+N.w i
theorem Bd.small {N:WNet} {S:Nat->Prop} {d q:List Int} (B:Bd N S d q) (hn:N.n<=12) {v:Nat} (hv:v<N.n) (h:at0 d v<INF):at0 d v<=11534336:=by
 have h1:=B.bnd v hv h
 have h2:=cnt_le N.n d
 have:((cnt N.n d:Nat)-1:Int)*1048576<=11*1048576:=Int.mul_le_mul_of_nonneg_right (by omega) (by decide)
 omega
theorem Bd.put {N:WNet} {S:Nat->Prop} {d q:List Int} (hN:N.Ok) (hn:N.n<=12) (B:Bd N S d q) {i:Nat} (hi:i<N.m) (hw:N.w i<INF) (hw2:N.w i<=1048576) (hs:at0 d (N.s i)<INF) (hlt:at0 d (N.s i)+N.w i<at0 d (N.t i)):
  Bd N S (d.set (N.t i) (at0 d (N.s i)+N.w i)) (pushF q ((at0 d (N.s i)+N.w i)*4096+N.t i))/\at0 d (N.s i)+N.w i<capC:=by
 have hu:=hN.s i hi
 have ht:=hN.t i hi
 have hw1:=hN.w i hi hw
 have hR:=B.rlx.put hN hi hw hs (Int.le_refl _) hlt
 have hl:=B.rlx.len
 have hb:=B.bnd _ hu hs
 have hsm:=B.small hn hu hs
 have hfin:at0 d (N.s i)+N.w i<INF:=by have:=B.rlx.le _ ht;omega
 have e:∀ v,v<N.n->at0 (d.set (N.t i) (at0 d (N.s i)+N.w i)) v=if N.t i=v then at0 d (N.s i)+N.w i else at0 d v:=by
  intro v hv
  rw[at0_set,hl]
  by_cases h:N.t i=v
  ·rw[if_pos ⟨h,hv⟩,if_pos h]
  ·rw[if_neg (fun q=>h q.1),if_neg h]
 have mono:∀ v,v<N.n->at0 (d.set (N.t i) (at0 d (N.s i)+N.w i)) v<=at0 d v:=by
  intro v hv;rw[e v hv];split
  ·rename_i h;subst h;omega
  ·exact Int.le_refl _
 refine⟨⟨hR,fun v hv h=>?_,fun c hc=>?_⟩,by unfold capC;omega⟩
 ·have hcn:(((cnt N.n d:Nat):Int)-1)*1048576+(if at0 d (N.t i)<INF then 0 else 1048576)=((cnt N.n (d.set (N.t i) (at0 d (N.s i)+N.w i)):Nat)-1:Int)*1048576:=by
   by_cases hf:at0 d (N.t i)<INF
   ·rw[if_pos hf,cnt_set_old hl hf hfin];omega
   ·rw[if_neg hf,cnt_set_new hl ht hf hfin];omega
  rw[<- hcn]
  rw[e v hv]at h ⊢
  by_cases hv2:N.t i=v
  ·rw[if_pos hv2]
   by_cases hf:at0 d (N.t i)<INF
   ·have:=B.bnd _ ht hf;rw[if_pos hf];omega
   ·rw[if_neg hf];omega
  ·rw[if_neg hv2]at h ⊢
   have:=B.bnd v hv h
   split <;>omega
 ·rcases pushF_mem.1 hc with hc|rfl
  ·obtain⟨y,v,h1,h2,h3,h4⟩:=B.code c hc
   exact⟨y,v,h1,h2,by have:=mono v h2;omega,h4⟩
  ·exact⟨_,N.t i,rfl,ht,by rw[e _ ht,if_pos rfl];exact Int.le_refl _,by omega⟩
def stepE (N:WNet) (dist:Int) (s:List Int × List Int) (i:Nat):List Int × List Int:=
 if N.w i≠INF/\dist+N.w i<at0 s.1 (N.t i)then(s.1.set (N.t i) (dist+N.w i),pushF s.2 ((dist+N.w i)*4096+N.t i))else s
theorem NI.step {N:WNet} {S:Nat->Prop} {node:Nat} {dist pot:Int} {dn:Nat->Prop} {s:List Int × List Int} (hN:N.Ok) (hn:N.n<=12) (hws:∀ i,i<N.m->N.w i=INF∨N.w i<=1048576) (hd:dist<INF)
  (I:NI N S node dist pot dn s.1 s.2) {i:Nat} (hi:i<N.m) (hs:N.s i=node):NI N S node dist pot (fun j=>dn j∨j=i) (stepE N dist s i).1 (stepE N dist s i).2:=by
 obtain⟨d,q⟩:=s
 unfold stepE
 have I:NI N S node dist pot dn d q:=I
 have hat:at0 d node=dist:=I.at_
 split
 ·rename_i h
  obtain⟨h1,h2⟩:=h
  have h2:dist+N.w i<at0 d (N.t i):=h2
  have hw:N.w i<INF:=by have:=hws i hi;unfold INF at *;omega
  have hw2:N.w i<=1048576:=(hws i hi).resolve_left h1
  have hx:at0 d (N.s i)=dist:=by rw[hs];exact hat
  have ht:=hN.t i hi
  have hu:=hN.s i hi
  have hw1:=hN.w i hi hw
  obtain⟨B,hcap⟩:=I.toBd.put hN hn hi hw hw2 (by rw[hx];exact hd) (by rw[hx];exact h2)
  rw[hx]at B hcap
  have hl:=I.rlx.len
  have e:∀ v,v<N.n->at0 (d.set (N.t i) (dist+N.w i)) v=if N.t i=v then dist+N.w i else at0 d v:=by
   intro v hv
   rw[at0_set,hl]
   by_cases h:N.t i=v
   ·rw[if_pos ⟨h,hv⟩,if_pos h]
   ·rw[if_neg (fun q=>h q.1),if_neg h]
  have mono:∀ v,v<N.n->at0 (d.set (N.t i) (dist+N.w i)) v<=at0 d v:=by
   intro v hv;rw[e v hv];split
   ·rename_i h;subst h;exact Int.le_of_lt h2
   ·exact Int.le_refl _
  refine⟨B,?_,fun u hu' hne h=>?_,?_,fun j hj hdn hjw=>?_⟩
  ·show at0 (d.set (N.t i) (dist+N.w i)) node=dist
   rw[e node (hs▸hu),if_neg]
   ·exact hat
   ·intro q;rw[q]at h2;have:at0 d node=dist:=hat;omega
  ·show at0 (d.set (N.t i) (dist+N.w i)) u*4096+(u:Int)∈pushF q ((dist+N.w i)*4096+N.t i)∨Clo N (d.set (N.t i) (dist+N.w i)) u
   have h:at0 (d.set (N.t i) (dist+N.w i)) u<INF:=h
   rw[e u hu']at h ⊢
   by_cases q:N.t i=u
   ·rw[if_pos q];left;rw[pushF_mem];right;rw[<- q]
   ·rw[if_neg q]at h ⊢
    rcases I.pend u hu' hne h with h|h
    ·left;rw[pushF_mem];exact .inl h
    ·right
     intro j hj hjw hjs
     have h3:=h j hj hjw hjs
     have h4:=mono _ (hN.t j hj)
     rw[e u hu',if_neg q];omega
  ·show((pushF q ((dist+N.w i)*4096+N.t i)).length:Int)+psi N.n (d.set (N.t i) (dist+N.w i))<=pot
   have:=psi_set hl ht h2 hcap
   have:=I.pot
   rw[pushF_len];omega
  ·show at0 (d.set (N.t i) (dist+N.w i)) (N.t j)<=dist+N.w j
   rcases hdn with hdn|rfl
   ·have:=I.done j hj hdn hjw
    have:=mono _ (hN.t j hj)
    omega
   ·rw[e _ ht,if_pos rfl];exact Int.le_refl _
 ·rename_i h
  refine⟨I.toBd,hat,I.pend,I.pot,fun j hj hdn hjw=>?_⟩
  rcases hdn with hdn|rfl
  ·exact I.done j hj hdn hjw
  ·rcases int_lt_or_ge (dist+N.w j) (at0 d (N.t j))with q|q
   ·exact absurd ⟨by omega,q⟩ h
   ·exact q
theorem NI.steps {N:WNet} {S:Nat->Prop} {node:Nat} {dist pot:Int} (hN:N.Ok) (hn:N.n<=12) (hws:∀ i,i<N.m->N.w i=INF∨N.w i<=1048576) (hd:dist<INF):
  ∀(l:List Nat) (dn:Nat->Prop) (s:List Int × List Int),NI N S node dist pot dn s.1 s.2->(∀ i∈l,i<N.m/\N.s i=node)->
   NI N S node dist pot (fun j=>dn j∨j∈l) (l.foldl (stepE N dist) s).1 (l.foldl (stepE N dist) s).2
 | [],dn,s,I,_=>by
  refine⟨I.toBd,I.at_,I.pend,I.pot,fun j hj h hw=>?_⟩
  exact I.done j hj (h.resolve_right (by simp)) hw
 |i::l,dn,s,I,hl=>by
  have h1:=I.step hN hn hws hd (hl i (by simp)).1 (hl i (by simp)).2
  have h2:=NI.steps hN hn hws hd l _ _ h1 (fun j hj=>hl j (by simp[hj]))
  refine⟨h2.toBd,h2.at_,h2.pend,h2.pot,fun j hj h hw=>h2.done j hj ?_ hw⟩
  rcases h with h|h
  ·exact .inl (.inl h)
  ·rcases List.mem_cons.1 h with h|h
   ·exact .inl (.inr h)
   ·exact .inr h
theorem MI.pop {N:WNet} {S:Nat->Prop} {d q:List Int} (hn:N.n<=4096) (I:MI N S d q) (hq:1<=q.length):
  ∃(y:Int) (v:Nat),q.getD 0 default=y*4096+v/\q.getD 0 default / 4096=y/\q.getD 0 default%4096=v/\v<N.n/\at0 d v<=y/\0<=y/\y<=12582912:=by
 obtain⟨y,v,h1,h2,h3,h4⟩:=I.code _ ((popF_mem hq).2 (.inl rfl))
 have:=I.rlx.nn v h2
 exact⟨y,v,h1,by omega,by omega,h2,h3,by omega,h4⟩
theorem MI.skip {N:WNet} {S:Nat->Prop} {d q:List Int} (I:MI N S d q) (hq:1<=q.length) {y:Int} {v:Nat} (hc:q.getD 0 default=y*4096+v) (hv:v<N.n) (hn:N.n<=4096) (hlt:at0 d v<y):MI N S d (popF q):=by
 refine⟨⟨I.rlx,I.bnd,fun c hc=>I.code c ((popF_mem hq).2 (.inr hc))⟩,fun u hu h=>?_,?_⟩
 ·rcases I.pend u hu h with h1|h1
  ·rcases(popF_mem hq).1 h1 with h2|h2
   ·rw[hc]at h2
    have e1:u=v:=by omega
    have e2:at0 d u=y:=by omega
    subst e1
    omega
   ·exact .inl h2
  ·exact .inr h1
 ·have:=I.pot
  rw[popF_len];omega
theorem MI.take {N:WNet} {S:Nat->Prop} {d q:List Int} (I:MI N S d q) (hq:1<=q.length) {v:Nat} (hc:q.getD 0 default=at0 d v*4096+v) (hv:v<N.n) (hn:N.n<=4096):
  NI N S v (at0 d v) (q.length-1+psi N.n d) (fun _=>False) d (popF q):=by
 refine⟨⟨I.rlx,I.bnd,fun c hc=>I.code c ((popF_mem hq).2 (.inr hc))⟩,rfl,fun u hu hne h=>?_,?_,fun _ _ h=>h.elim⟩
 ·rcases I.pend u hu h with h1|h1
  ·rcases(popF_mem hq).1 h1 with h2|h2
   ·rw[hc]at h2;omega
   ·exact .inl h2
  ·exact .inr h1
 ·rw[popF_len];omega
theorem NI.done' {N:WNet} {S:Nat->Prop} {node:Nat} {dist pot:Int} {dn:Nat->Prop} {d q:List Int} (hN:N.Ok) (I:NI N S node dist pot dn d q) (hdn:∀ i,i<N.m->N.s i=node->dn i) (hp:pot<=12*capC):MI N S d q:=by
 refine⟨I.toBd,fun u hu h=>?_,Int.le_trans I.pot hp⟩
 by_cases e:u=node
 ·subst e
  right
  intro i hi hw hs
  rw[I.at_]
  exact I.done i hi (hdn i hi hs) hw
 ·exact I.pend u hu e h
theorem MI.sol {N:WNet} {S:Nat->Prop} {d q:List Int} (hN:N.Ok) (I:MI N S d q) (hq:q=[]):Sol N S d:=by
 subst hq
 have clo:∀ i,i<N.m->N.w i<INF->at0 d (N.s i)<INF->at0 d (N.t i)<=at0 d (N.s i)+N.w i:=by
  intro i hi hw hs
  rcases I.pend _ (hN.s i hi) hs with h|h
  ·cases h
  ·exact h i hi hw rfl
 refine⟨I.rlx.len,I.rlx.nn,I.rlx.le,I.rlx.src,clo,fun v hv h=>?_⟩
 rcases I.rlx.tig v hv h with h|⟨i,h1,h2,h3,h4,h5⟩
 ·exact .inl h
 ·refine .inr ⟨i,h1,h2,h3,h4,?_⟩
  have:=clo i h1 h2 h4
  rw[h3]at this;omega
end Go.Sym