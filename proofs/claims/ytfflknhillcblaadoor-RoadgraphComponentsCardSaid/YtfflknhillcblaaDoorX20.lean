import Derived.Test.YtfflknhillcblaaDoorX17
import Derived.Test.YtfflknhillcblaaDoorX18
import Derived.Test.YtfflknhillcblaaDoorX19
namespace Go.Sym
set_option linter.unusedVariables false
set_option linter.unusedSimpArgs false
section
variable {α:Type} [Inhabited α]
theorem getD_setG {l:List α} {v i:Nat} {x:α}:(l.set v x).getD i default=if v=i/\i<l.length then x else l.getD i default:=by
 simp only[List.getD_eq_getElem?_getD,List.getElem?_set]
 by_cases h:v=i
 ·subst h
  by_cases h2:v<l.length
  ·simp[h2]
  ·simp[h2]
 ·simp[h]
theorem set_permG {l:List α} {i j:Nat} (hi:i<l.length) (hj:j<l.length):((l.set i (l.getD j default)).set j (l.getD i default)).Perm l:=by
 have e1:l.getD j default=l[j]:=by rw[List.getD_eq_getElem?_getD,List.getElem?_eq_getElem hj];rfl
 have e2:l.getD i default=l[i]:=by rw[List.getD_eq_getElem?_getD,List.getElem?_eq_getElem hi];rfl
 rw[e1,e2]
 exact List.set_set_perm hi hj
theorem swpG_perm {l:List α} {j:Nat} (h:j<l.length):(swpG l j).Perm l:=set_permG h (by omega)
theorem bubG_perm (lt:α->α->Bool):∀(j:Nat) (l:List α),j<l.length->(bubG lt j l).Perm l
 |0,_,_=>List.Perm.refl _
 |j+1,l,h=>by
  unfold bubG
  split
  ·exact(bubG_perm lt j _ (by rw[swpG_len];omega)).trans (swpG_perm h)
  ·exact List.Perm.refl _
theorem insAtG_perm (lt:α->α->Bool) (l:List α):∀ i,i<=l.length->(insAtG lt l i).Perm l
 |0,_=>List.Perm.refl _
 |1,_=>List.Perm.refl _
 |i+2,h=>by
  rw[insAtG_succ lt l (by omega:1<=i+1)]
  exact(bubG_perm lt (i+1) _ (by rw[insAtG_len];omega)).trans (insAtG_perm lt l (i+1) (by omega))
variable {key:α->Int}
def SoE (key:α->Int) (l:List α) (n j:Nat):Prop:=∀ p q,p<q->q<n->q≠j->key (l.getD p default)<=key (l.getD q default)
def SoT (key:α->Int) (l:List α) (n:Nat):Prop:=∀ p q,p<q->q<n->key (l.getD p default)<=key (l.getD q default)
theorem bubG_sorted {lt:α->α->Bool} (hlt:∀ a b,lt a b=true↔key a<key b) {n:Nat}:∀(j:Nat) (l:List α),j<n->n<=l.length->SoE key l n j->SoT key (bubG lt j l) n
 |0,l,hj,hn,h=>fun p q h1 h2=>h p q h1 h2 (by omega)
 |j+1,l,hj,hn,h=>by
  unfold bubG
  split
  ·rename_i hl
   rw[hlt]at hl
   refine bubG_sorted hlt j _ (by omega) (by rw[swpG_len];exact hn) fun p q h1 h2 h3=>?_
   have g:∀ i,i<n->(swpG l (j+1)).getD i default=if i=j then l.getD (j+1) default else if i=j+1 then l.getD j default else l.getD i default:=by
    intro i hi
    unfold swpG
    rw[getD_setG,List.length_set,getD_setG,Nat.add_sub_cancel]
    by_cases a:j=i
    ·subst a;rw[if_pos (show j=j/\j<l.length from⟨rfl,by omega⟩),if_pos rfl]
    ·rw[if_neg (show ¬ (j=i/\i<l.length)from fun q=>a q.1),if_neg (show ¬ i=j from fun q=>a q.symm)]
     by_cases b:j+1=i
     ·subst b;rw[if_pos (show j+1=j+1/\j+1<l.length from⟨rfl,by omega⟩),if_pos rfl]
     ·rw[if_neg (show ¬ (j+1=i/\i<l.length)from fun q=>b q.1),if_neg (show ¬ i=j+1 from fun q=>b q.symm)]
   rw[g p (by omega),g q h2]
   by_cases a1:q=j+1
   ·subst a1
    rw[if_neg h3,if_pos rfl]
    by_cases a2:p=j
    ·rw[if_pos a2];omega
    ·rw[if_neg a2,if_neg (by omega)]
     exact h p j (by omega) (by omega) (by omega)
   ·rw[if_neg h3,if_neg a1]
    by_cases a2:p=j
    ·rw[if_pos a2];exact h (j+1) q (by omega) h2 a1
    ·rw[if_neg a2]
     by_cases a3:p=j+1
     ·rw[if_pos a3];exact h j q (by omega) h2 a1
     ·rw[if_neg a3];exact h p q h1 h2 a1
  ·rename_i hl
   have hl:¬ key (l.getD (j+1) default)<key (l.getD j default):=fun q=>hl ((hlt _ _).2 q)
   intro p q h1 h2
   by_cases a:q=j+1
   ·subst a
    by_cases b:p=j
    ·subst b;omega
    ·have:=h p j (by omega) (by omega) (by omega);omega
   ·exact h p q h1 h2 a
theorem insAtG_sorted {lt:α->α->Bool} (hlt:∀ a b,lt a b=true↔key a<key b) (l:List α):∀ i,i<=l.length->SoT key (insAtG lt l i) i
 |0,_=>fun p q h1 h2=>by omega
 |1,_=>fun p q h1 h2=>by omega
 |i+2,h=>by
  rw[insAtG_succ lt l (by omega:1<=i+1)]
  exact bubG_sorted hlt (i+1) _ (by omega) (by rw[insAtG_len];exact h) fun p q h1 h2 h3=>insAtG_sorted hlt l (i+1) (by omega) p q h1 (by omega)
theorem insG_sorted {lt:α->α->Bool} (hlt:∀ a b,lt a b=true↔key a<key b) (l:List α):(insG lt l).Pairwise fun a b=>key a<=key b:=by
 rw[List.pairwise_iff_getElem]
 intro i j hi hj hij
 have h:=insAtG_sorted hlt l l.length (Nat.le_refl _) i j hij (by have:(insG lt l).length=l.length:=insAtG_len lt l _;omega)
 have e:∀ {k} (hk:k<(insG lt l).length),(insAtG lt l l.length).getD k default=(insG lt l)[k]:=fun {k} hk=>by
  show(insG lt l).getD k default=_
  rw[List.getD_eq_getElem?_getD,List.getElem?_eq_getElem hk];rfl
 rwa [e hi,e hj]at h
theorem insG_perm (lt:α->α->Bool) (l:List α):(insG lt l).Perm l:=insAtG_perm lt l _ (Nat.le_refl _)
end
theorem rise_ext {α:Type} {R:α->α->Prop} (hR:∀ a b,R a b->R b a->False) {l m:List α} (hl:l.Pairwise R) (hm:m.Pairwise R) (h:∀ a,a∈l↔a∈m):l=m:=by
 have irr:∀ a,¬ R a a:=fun a q=>hR a a q q
 have nd:∀ {l:List α},l.Pairwise R->l.Nodup:=fun hl=>(show List.Pairwise (· ≠·) _ from hl.imp fun {a b} (r:R a b) (e:a=b)=>irr a (by rw[<- e]at r;exact r))
 exact((List.perm_ext_iff_of_nodup (nd hl) (nd hm)).2 h).eq_of_pairwise (fun a b _ _ q r=>(hR a b q r).elim) hl hm
theorem riseZ {l m:List Int} (hl:l.Pairwise (· <·)) (hm:m.Pairwise (· <·)) (h:∀ a,a∈l↔a∈m):l=m:=rise_ext (fun a b q r=>by omega) hl hm h
theorem rch_rc {g:Gr} {a b:Nat} (h:Rch g (· =(a:Int)) b):Rc g a b:=by
 induction h with
 |src h1 h2=>obtain rfl:_=a:=Int.ofNat.inj h2;exact .one trivial
 |@step i h1 h2 _ ih=>exact .snoc ih ⟨i,h1,h2,rfl,rfl⟩ trivial
theorem rc_rch {g:Gr} {a b:Nat} (ha:a<g.n) (h:Rc g a b):Rch g (· =(a:Int)) b:=by
 induction h with
 |one _=>exact .src ha rfl
 |@snoc b c _ e _ ih=>
  obtain⟨i,h1,h2,h3,h4⟩:=e
  subst h4
  exact .step h1 h2 (h3▸ih)
theorem ahd_mem {g:Gr} (h:P12 g) {a:Nat} (ha:a<g.n) {z:Int}:z∈ahd g a↔0<=z/\Rc g a z.toNat:=by
 have e:ahd g a=elemsZ (rW g (aW (a:Int))):=(rW_ahead h.q.g [(a:Int)]).symm
 rw[e,rW1_mem h.q]
 exact and_congr_right fun _=>⟨rch_rc,rc_rch ha⟩
theorem mut_iff {g:Gr} (h:P12 g) {a b:Nat} (ha:a<g.n) (hb:b<g.n):mutQ g a b=true↔SC g a b:=by
 unfold mutQ
 rw[Bool.and_eq_true,decide_eq_true_iff,decide_eq_true_iff,ahd_mem h ha,ahd_mem h hb,Int.toNat_natCast,Int.toNat_natCast]
 exact⟨fun q=>⟨q.1.2,q.2.2⟩,fun q=>⟨⟨by omega,q.1⟩,⟨by omega,q.2⟩⟩⟩
theorem parT_mem {g:Gr} (h:P12 g) {k:Nat} (hk:k<g.n) {z:Int}:z∈parT g k g.n↔0<=z/\k<=z.toNat/\SC g k z.toNat:=by
 unfold parT
 rw[nI_mem,List.mem_filter,List.mem_range,Bool.and_eq_true,decide_eq_true_iff]
 constructor
 ·rintro⟨h1,h2,h3,h4⟩;exact⟨h1,h3,(mut_iff h hk h2).1 h4⟩
 ·rintro⟨h1,h2,h3⟩
  have:=sc_rng h.q.g h3 hk
  exact⟨h1,this,h2,(mut_iff h hk this).2 h3⟩
theorem parT_rise (g:Gr) (k m:Nat):(parT g k m).Pairwise (· <·):=by
 unfold parT nI
 rw[List.pairwise_map]
 refine List.Pairwise.filter _ ?_
 exact List.pairwise_lt_range.imp fun h=>by omega
structure Cls (g:Gr) (r:Nat) (p:List Int):Prop where
 lt:r<g.n
 mem:∀ z:Int,z∈p↔0<=z/\SC g r z.toNat
 rise:p.Pairwise (· <·)
theorem Cls.head {g:Gr} {r:Nat} {p:List Int} (c:Cls g r p):∃ m:Nat,p.getD 0 default=(m:Int)/\SC g r m/\∀ z∈p,(m:Int)<=z:=by
 have hr:(r:Int)∈p:=(c.mem r).2 ⟨by omega,by rw[Int.toNat_natCast];exact .rfl' r⟩
 cases hp:p with
 |nil=>rw[hp]at hr;cases hr
 |cons y ys=>
  have hy:=(c.mem y).1 (by rw[hp];simp)
  refine⟨y.toNat,by show y=_;omega,hy.2,fun z hz=>?_⟩
  have hri:=c.rise
  rw[hp]at hri
  rcases List.mem_cons.1 hz with e|hz
  ·subst e;omega
  ·have:=(List.pairwise_cons.1 hri).1 z hz;omega
theorem Cls.one {g:Gr} {r s:Nat} {p q:List Int} (c:Cls g r p) (d:Cls g s q) (h:SC g r s):p=q:=
 riseZ c.rise d.rise fun z=>by
  rw[c.mem,d.mem]
  exact and_congr_right fun _=>⟨fun a=>h.symm.trans a,fun a=>h.trans a⟩
structure Clss (g:Gr) (l:List (List Int)):Prop where
 each:∀ p∈l,∃ r,Cls g r p
 all:∀ x,x<g.n->∃ p∈l,(x:Int)∈p
 rise:l.Pairwise fun p q=>p.getD 0 default<q.getD 0 default
theorem Clss.ext {g:Gr} {l m:List (List Int)} (h:Clss g l) (k:Clss g m):l=m:=by
 refine rise_ext (R:=fun p q:List Int=>p.getD 0 default<q.getD 0 default) (fun a b q r=>by omega) h.rise k.rise ?_
 have half:∀ {l m:List (List Int)},Clss g l->Clss g m->∀ p,p∈l->p∈m:=by
  intro l m h k p hp
  obtain⟨r,c⟩:=h.each p hp
  obtain⟨q,hq,hx⟩:=k.all r c.lt
  obtain⟨s,d⟩:=k.each q hq
  have:=((d.mem r).1 hx).2
  rw[Int.toNat_natCast]at this
  rw[c.one d this.symm];exact hq
 exact fun p=>⟨half h k p,half k h p⟩
structure PI (g:Gr) (k:Nat) (s:PSt):Prop where
 don:∀ z:Int,z∈s.1↔0<=z/\∃ r,r<k/\SC g r z.toNat
 each:∀ p∈s.2,∃ r,r<k/\Cls g r p/\p.getD 0 default=(r:Int)
 all:∀ z∈s.1,∃ p∈s.2,z∈p
 rise:s.2.Pairwise fun p q=>p.getD 0 default<q.getD 0 default
theorem paA_PI {g:Gr} (h:P12 g):∀ k,k<=g.n->PI g k (paA g k)
 |0,_=>⟨fun z=>⟨fun q=>(by cases q),fun⟨_,r,hr,_⟩=>(by omega)⟩,fun p hp=>(by cases hp),fun z hz=>(by cases hz),List.Pairwise.nil⟩
 |k+1,hk=>by
  have I:=paA_PI h k (by omega)
  by_cases hm:(k:Int)∈(paA g k).1
  ·rw[<- pa_same hm]
   obtain⟨_,r,hr,hs⟩:=(I.don k).1 hm
   rw[Int.toNat_natCast]at hs
   refine⟨fun z=>?_,fun p hp=>?_,I.all,I.rise⟩
   ·rw[I.don]
    refine and_congr_right fun _=>⟨fun⟨q,h1,h2⟩=>⟨q,by omega,h2⟩,fun⟨q,h1,h2⟩=>?_⟩
    by_cases e:q=k
    ·subst e;exact⟨r,hr,hs.trans h2⟩
    ·exact⟨q,by omega,h2⟩
   ·obtain⟨q,h1,h2⟩:=I.each p hp
    exact⟨q,by omega,h2⟩
  ·rw[pa_new hm]
   have low:∀ z:Int,0<=z->SC g k z.toNat->k<=z.toNat:=by
    intro z hz hs
    rcases Nat.lt_or_ge z.toNat k with q|q
    ·exact absurd ((I.don k).2 ⟨by omega,z.toNat,q,by rw[Int.toNat_natCast];exact hs.symm⟩) hm
    ·exact q
   have pm:∀ z:Int,z∈parT g k g.n↔0<=z/\SC g k z.toNat:=fun z=>by
    rw[parT_mem h (by omega)]
    exact⟨fun q=>⟨q.1,q.2.2⟩,fun q=>⟨q.1,low z q.1 q.2,q.2⟩⟩
   have c:Cls g k (parT g k g.n):=⟨by omega,pm,parT_rise g k g.n⟩
   have hd:(parT g k g.n).getD 0 default=(k:Int):=by
    obtain⟨m,h1,h2,h3⟩:=c.head
    have a:=low (m:Int) (by omega) (by rw[Int.toNat_natCast];exact h2)
    have b:=h3 (k:Int) ((pm k).2 ⟨by omega,by rw[Int.toNat_natCast];exact .rfl' k⟩)
    rw[h1];omega
   refine⟨fun z=>?_,fun p hp=>?_,fun z hz=>?_,?_⟩
   ·rw[List.mem_append,I.don,pm]
    constructor
    ·rintro(⟨a,q,h1,h2⟩|⟨a,b⟩)
     ·exact⟨a,q,by omega,h2⟩
     ·exact⟨a,k,by omega,b⟩
    ·rintro⟨a,q,h1,h2⟩
     by_cases e:q=k
     ·subst e;exact .inr ⟨a,h2⟩
     ·exact .inl ⟨a,q,by omega,h2⟩
   ·rcases List.mem_append.1 hp with hp|hp
    ·obtain⟨q,h1,h2⟩:=I.each p hp
     exact⟨q,by omega,h2⟩
    ·rw[List.mem_singleton]at hp
     subst hp
     exact⟨k,by omega,c,hd⟩
   ·rcases List.mem_append.1 hz with hz|hz
    ·obtain⟨p,h1,h2⟩:=I.all z hz
     exact⟨p,List.mem_append.2 (.inl h1),h2⟩
    ·exact⟨_,List.mem_append.2 (.inr (by simp)),hz⟩
   ·rw[List.pairwise_append]
    refine⟨I.rise,List.pairwise_singleton _ _,fun p hp q hq=>?_⟩
    rw[List.mem_singleton]at hq
    subst hq
    obtain⟨r,h1,_,h2⟩:=I.each p hp
    rw[h2,hd];omega
theorem parts_Clss {g:Gr} (h:P12 g):Clss g (partsL g):=by
 have I:=paA_PI h g.n (Nat.le_refl _)
 refine⟨fun p hp=>?_,fun x hx=>?_,I.rise⟩
 ·obtain⟨r,_,c,_⟩:=I.each p hp;exact⟨r,c⟩
 ·exact I.all x ((I.don x).2 ⟨by omega,x,hx,by rw[Int.toNat_natCast];exact .rfl' x⟩)
theorem ltS_iff (a b:List Nat):ltS a b=true↔minW a<minW b:=by unfold ltS;rw[decide_eq_true_iff];omega
def compsZ (g:Gr):List (List Int):=(compsL g).map elemsZ
theorem comps_Clss {g:Gr} (h:G12 g):Clss g (compsZ g):=by
 have C:=comp_CC h
 have hp:(compsL g).Perm _:=insG_perm ltS (compA (revG g) (finL g) (finL g).length).2
 have hcls:∀ w∈compsL g,∃ r,Cls g r (elemsZ w):=fun w hw=>by
  obtain⟨r,h1,h2⟩:=C.cls w (hp.mem_iff.1 hw)
  exact⟨r,h1,h2,elemsZ_sorted w⟩
 refine⟨fun p hq=>?_,fun x hx=>?_,?_⟩
 ·obtain⟨w,hw,rfl⟩:=List.mem_map.1 hq
  exact hcls w hw
 ·obtain⟨w,hw,hm⟩:=C.cov x hx
  exact⟨_,List.mem_map.2 ⟨w,hp.mem_iff.2 hw,rfl⟩,hm⟩
 ·unfold compsZ
  rw[List.pairwise_map]
  have s1:(compsL g).Pairwise fun a b=>minW a<=minW b:=insG_sorted ltS_iff _
  have s2:(compsL g).Pairwise fun a b=>∀ z,z∈elemsZ a->z∉elemsZ b:=hp.symm.pairwise C.dis fun {a b} q z ha hb=>q z hb ha
  refine(List.pairwise_and_iff.2 ⟨s1,s2⟩).imp_of_mem fun {a b} ha hb ⟨h1,h2⟩=>?_
  obtain⟨r,ca⟩:=hcls a ha
  obtain⟨s,cb⟩:=hcls b hb
  obtain⟨m,e1,e2,_⟩:=ca.head
  obtain⟨k,e3,e4,_⟩:=cb.head
  have h1:(elemsZ a).getD 0 default<=(elemsZ b).getD 0 default:=h1
  rw[e1,e3]at h1 ⊢
  have:m≠k:=by
   rintro rfl
   exact h2 m ((ca.mem m).2 ⟨by omega,by rw[Int.toNat_natCast];exact e2⟩) ((cb.mem m).2 ⟨by omega,by rw[Int.toNat_natCast];exact e4⟩)
  omega
theorem comps_parts {g:Gr} (h:P12 g):compsZ g=partsL g:=(comps_Clss h.q).ext (parts_Clss h)
def sumC (g:Gr) (k:Nat):Int:=(((compsL g).take k).map lenW).sum
def alC (g:Gr) (k:Nat):List Nat:=((compsL g).take k).foldl unW nilW
theorem compsL_ok {g:Gr} (h:G12 g) {w:List Nat} (hw:w∈compsL g):WOk w:=(co_sort h).2 w ((insG_perm ltS _).mem_iff.1 hw)
theorem compsL_len {g:Gr} (h:G12 g):(compsL g).length<=12:=by rw[co_len];exact(co_sort h).1
theorem sumC_succ {g:Gr} {k:Nat} (hk:k<(compsL g).length):sumC g (k+1)=sumC g k+lenW ((compsL g).getD k default):=by
 unfold sumC
 rw[take_succ_getD (d:=default) hk,List.map_append,List.sum_append];simp
theorem alC_succ {g:Gr} {k:Nat} (hk:k<(compsL g).length):alC g (k+1)=unW (alC g k) ((compsL g).getD k default):=by
 unfold alC
 rw[take_succ_getD (d:=default) hk,List.foldl_append];rfl
theorem sumC_rng {g:Gr}:∀ {k:Nat},k<=(compsL g).length->0<=sumC g k/\sumC g k<=8128*k
 |0,_=>⟨Int.le_refl _,Int.le_refl _⟩
 |k+1,h=>by
  have:=sumC_rng (g:=g) (k:=k) (by omega)
  have:=lenW_rng ((compsL g).getD k default)
  rw[sumC_succ (by omega)];omega
theorem foldl_un:∀(l:List (List Nat)) (s:List Nat),WOk s->(∀ w∈l,WOk w)->WOk (l.foldl unW s)/\∀ z,z∈elemsZ (l.foldl unW s)↔z∈elemsZ s∨∃ w∈l,z∈elemsZ w
 | [],s,hs,_=>⟨hs,fun z=>by simp⟩
 |w::l,s,hs,hl=>by
  have hw:=hl w (by simp)
  obtain⟨a,b⟩:=foldl_un l (unW s w) (unAt_ok hs 64) fun x hx=>hl x (by simp[hx])
  refine⟨a,fun z=>?_⟩
  rw[List.foldl_cons,b,un_mem hs hw]
  constructor
  ·rintro((q|q)|⟨x,q1,q2⟩)
   ·exact .inl q
   ·exact .inr ⟨w,by simp,q⟩
   ·exact .inr ⟨x,by simp[q1],q2⟩
  ·rintro(q|⟨x,q1,q2⟩)
   ·exact .inl (.inl q)
   ·rcases List.mem_cons.1 q1 with e|e
    ·subst e;exact .inl (.inr q2)
    ·exact .inr ⟨x,e,q2⟩
theorem elemsZ_nil:elemsZ nilW=[]:=by
 refine List.eq_nil_iff_forall_not_mem.2 fun z hz=>?_
 have:=(elemsZ_mem.1 hz).2.2
 rw[hasW_nil]at this;cases this
theorem alC_ok {g:Gr} (h:G12 g) (k:Nat):WOk (alC g k):=(foldl_un _ nilW .nil fun w hw=>compsL_ok h (List.mem_of_mem_take hw)).1
theorem Clss.rng {g:Gr} (h:G12 g) {l:List (List Int)} (c:Clss g l) {p:List Int} (hp:p∈l) {z:Int} (hz:z∈p):0<=z/\z.toNat<g.n:=by
 obtain⟨r,d⟩:=c.each p hp
 have:=(d.mem z).1 hz
 exact⟨this.1,sc_rng h.g this.2 d.lt⟩
theorem comp_rng {g:Gr} (h:G12 g) {w:List Nat} (hw:w∈compsL g) {z:Int} (hz:z∈elemsZ w):0<=z/\z.toNat<g.n:=(comps_Clss h).rng h (List.mem_map.2 ⟨w,hw,rfl⟩) hz
def natsZ (n:Nat):List Int:=(List.range n).map fun(v:Nat)=>(v:Int)
theorem natsZ_mem {n:Nat} {z:Int}:z∈natsZ n↔0<=z/\z.toNat<n:=by
 unfold natsZ
 rw[List.mem_map]
 constructor
 ·rintro⟨v,h,rfl⟩;rw[List.mem_range]at h;omega
 ·rintro⟨h1,h2⟩;exact⟨z.toNat,List.mem_range.2 h2,by omega⟩
theorem natsZ_len (n:Nat):(natsZ n).length=n:=by unfold natsZ;rw[List.length_map,List.length_range]
theorem natsZ_rise (n:Nat):(natsZ n).Pairwise (· <·):=by
 unfold natsZ
 rw[List.pairwise_map]
 exact List.pairwise_lt_range.imp fun h=>by omega
theorem len_all {g:Gr} (h:G12 g):lenW (alC g (compsL g).length)=g.n:=by
 have hm:∀ z,z∈elemsZ (alC g (compsL g).length)↔z∈natsZ g.n:=by
  intro z
  unfold alC
  rw[List.take_length,(foldl_un _ nilW .nil fun w hw=>compsL_ok h hw).2,elemsZ_nil,natsZ_mem]
  constructor
  ·rintro(q|⟨w,q1,q2⟩)
   ·cases q
   ·exact comp_rng h q1 q2
  ·rintro⟨q1,q2⟩
   obtain⟨p,hp,hz⟩:=(comps_Clss h).all z.toNat q2
   obtain⟨w,hw,rfl⟩:=List.mem_map.1 hp
   exact .inr ⟨w,hw,by rwa [show((z.toNat:Nat):Int)=z by omega]at hz⟩
 have hl:elemsZ (alC g (compsL g).length)=natsZ g.n:=riseZ (elemsZ_sorted _) (natsZ_rise _) hm
 have hn:=h.n
 rw[len_small (alC_ok h _) fun z hz=>by have:=natsZ_mem.1 ((hm z).1 hz);omega,hl,natsZ_len]
theorem len_sum {g:Gr} (h:G12 g):sumC g (compsL g).length=g.n:=by
 have C:=comps_Clss h
 have hn:=h.n
 have e1:∀ l:List (List Nat),(∀ w∈l,w∈compsL g)->(l.map lenW).sum=(((l.map elemsZ).flatten.length:Nat):Int):=by
  intro l
  induction l with
  |nil=>intro _;rfl
  |cons w l ih=>
   intro hl
   have hw:=hl w (by simp)
   rw[List.map_cons,List.sum_cons,ih fun x hx=>hl x (by simp[hx]),List.map_cons,List.flatten_cons,List.length_append,len_small (compsL_ok h hw) fun z hz=>by have:=comp_rng h hw hz;omega]
   omega
 have nd:(compsZ g).flatten.Nodup:=by
  show List.Pairwise (· ≠·) _
  rw[List.pairwise_flatten]
  refine⟨fun p hp=>?_,C.rise.imp_of_mem fun {p q} hp hq r x hx y hy e=>?_⟩
  ·obtain⟨r,c⟩:=C.each p hp
   exact c.rise.imp fun {a b} q e=>by omega
  ·subst e
   obtain⟨r1,c1⟩:=C.each p hp
   obtain⟨r2,c2⟩:=C.each q hq
   have:=c1.one c2 (((c1.mem x).1 hx).2.trans ((c2.mem x).1 hy).2.symm)
   rw[this]at r;omega
 have nd2:(natsZ g.n).Nodup:=(show List.Pairwise (· ≠·) _ from(natsZ_rise g.n).imp fun {a b} (q:a<b) (e:a=b)=>by omega)
 have hp:=(List.perm_ext_iff_of_nodup nd nd2).2 fun z=>by
  rw[List.mem_flatten,natsZ_mem]
  constructor
  ·rintro⟨p,q1,q2⟩;exact C.rng h q1 q2
  ·rintro⟨q1,q2⟩
   obtain⟨p,a,b⟩:=C.all z.toNat q2
   exact⟨p,a,by rwa [show((z.toNat:Nat):Int)=z by omega]at b⟩
 unfold sumC
 rw[List.take_length,e1 _ fun _ hw=>hw]
 have:=hp.length_eq
 rw[natsZ_len]at this
 unfold compsZ at this
 omega
end Go.Sym