import Derived.Test.YtfflknhillcblaaDoorX16
import Derived.Test.YtfflknhillcblaaDoorX11
namespace Go.Sym
set_option linter.unusedVariables false
set_option linter.unusedSimpArgs false
def SC (g:Gr) (a b:Nat):Prop:=Rc g a b/\Rc g b a
theorem SC.rfl' {g:Gr} (a:Nat):SC g a a:=⟨.one trivial,.one trivial⟩
theorem SC.symm {g:Gr} {a b:Nat} (h:SC g a b):SC g b a:=⟨h.2,h.1⟩
theorem SC.trans {g:Gr} {a b c:Nat} (h:SC g a b) (k:SC g b c):SC g a c:=⟨h.1.trans k.1,k.2.trans h.2⟩
theorem og_rev {g:Gr} {a b:Nat} (h:Og (revG g) a b):Og g b a:=by
 obtain⟨i,hi,ho,hf,ht⟩:=h
 have hi:i<g.es.length:=by have hi:i<(g.es.map revE).length:=hi;rwa [List.length_map]at hi
 have e1:frN (revG g) i=toN g i:=by unfold frN toN;rw[rev_at hi];rfl
 have e2:toN (revG g) i=frN g i:=by unfold frN toN;rw[rev_at hi];rfl
 have e3:opn (revG g) i=opn g i:=by unfold opn;rw[rev_at hi];rfl
 exact⟨i,hi,by rw[<- e3];exact ho,by rw[<- e2];exact ht,by rw[<- e1];exact hf⟩
theorem og_rev2 {g:Gr} {a b:Nat} (h:Og g a b):Og (revG g) b a:=og_rev (g:=revG g) (by rw[rev_rev];exact h)
structure FL (g:Gr) (L:List Nat):Prop where
 nd:L.Nodup
 fo:FO g L
 all:∀ v,v<g.n->v∈L
 rng:∀ x∈L,x<g.n
theorem at_pos {L:List Nat} {x:Nat} (h:x∈L):∃ p,p<L.length/\L.getD p 0=x:=by
 obtain⟨p,hp,e⟩:=List.getElem_of_mem h
 exact⟨p,hp,by rw[List.getD_eq_getElem?_getD,List.getElem?_eq_getElem hp];exact e⟩
theorem back_reach {g:Gr} (hg:GOk g) {L:List Nat} (F:FL g L) {pv:Nat} (hpv:pv<L.length) {A:Nat->Prop} (hA:∀ p,p<L.length->A (L.getD p 0)->p<=pv) {x:Nat} (h:Pth (Og (revG g)) A (L.getD pv 0) x):
  ∃ p,p<L.length/\L.getD p 0=x/\p<=pv/\∀ k,p<=k->k<=pv->Rc g (L.getD pv 0) (L.getD k 0):=by
 induction h with
 |one a=>exact⟨pv,hpv,rfl,Nat.le_refl _,fun k h1 h2=>by obtain rfl:k=pv:=(by omega);exact .one trivial⟩
 |@snoc b c _ e a ih=>
  obtain⟨pb,h1,h2,h3,h4⟩:=ih
  have e:=og_rev e
  have hc:c<g.n:=by obtain⟨i,hi,_,hf,_⟩:=e;rw[<- hf];exact(gok_e hg hi).1
  obtain⟨pc,hp,ec⟩:=at_pos (F.all c hc)
  have hle:=hA pc hp (by rw[ec];exact a)
  refine⟨pc,hp,ec,hle,fun k k1 k2=>?_⟩
  by_cases q:pb<=k
  ·exact h4 k q k2
  ·have r:=F.fo pc k pb k1 (by omega) h1 (by rw[ec,h2];exact e)
   exact(h4 pb (Nat.le_refl _) h3).trans r
theorem round_cls {g:Gr} (hg:GOk g) {L:List Nat} (F:FL g L) {s s':VSt} {post:List Nat} {pv:Nat} (hpv:pv<L.length) (D:DF (revG g) (L.getD pv 0) s s' post)
  (hs:∀ x,s.1.getD x default=true↔∃ p,pv<p/\p<L.length/\SC g x (L.getD p 0)) (x:Nat):x∈post↔SC g (L.getD pv 0) x:=by
 constructor
 ·intro hx
  have r:=D.rch x hx
  obtain⟨p,h1,h2,h3,h4⟩:=back_reach hg F hpv (A:=fun z=>s.1.getD z default=false) (fun p hp a=>by
   rcases Nat.lt_or_ge pv p with q|q
   ·have:=(hs (L.getD p 0)).2 ⟨p,q,hp,.rfl' _⟩
    rw[this]at a;cases a
   ·exact q) r
  refine⟨by have:=h4 p (Nat.le_refl _) h3;rwa [h2]at this,?_⟩
  exact(r.mono (Q:=fun _=>True) fun _ _=>trivial).flip fun _ _=>og_rev
 ·rintro⟨h1,h2⟩
  have h2:Pth (Og (revG g)) (fun _=>True) (L.getD pv 0) x:=Pth.flip (fun _ _=>og_rev2) h2
  have root:=D.root
  have key:∀ y,Pth (Og (revG g)) (fun _=>True) (L.getD pv 0) y->Rc g (L.getD pv 0) y->y∈post:=by
   intro y hy
   induction hy with
   |one _=>exact fun _=>root
   |@snoc b c hb e _ ih=>
    intro hc
    have mb:=ih (hc.snoc (og_rev e) trivial)
    rcases(D.vis c).1 (D.cl b mb c e)with q|q
    ·obtain⟨p,p1,p2,p3⟩:=(hs c).1 q
     have cb:Rc g c (L.getD pv 0):=(Pth.snoc hb e trivial).flip fun _ _=>og_rev
     have:=(hs (L.getD pv 0)).2 ⟨p,p1,p2,SC.trans ⟨hc,cb⟩ p3⟩
     rw[D.new _ root]at this;cases this
    ·exact q
  exact key x h2 h1
structure CR (g:Gr) (L:List Nat) (k:Nat) (s:CSt):Prop where
 vi:CI g.n s
 vis:∀ x,s.1.getD x default=true↔∃ p,L.length-k<=p/\p<L.length/\SC g x (L.getD p 0)
 cls:∀ w∈s.2,∃ p,L.length-k<=p/\p<L.length/\∀ z:Int,z∈elemsZ w↔0<=z/\SC g (L.getD p 0) z.toNat
 cov:∀ x:Nat,s.1.getD x default=true->∃ w∈s.2,(x:Int)∈elemsZ w
 dis:s.2.Pairwise fun a b=>∀ z,z∈elemsZ a->z∉elemsZ b
theorem nI_at {L:List Nat} {p:Nat} (h:p<L.length):(nI L).getD p default=((L.getD p 0:Nat):Int):=by
 unfold nI
 rw[List.getD_eq_getElem?_getD,List.getElem?_map,List.getD_eq_getElem?_getD,List.getElem?_eq_getElem h];rfl
theorem nI_len (L:List Nat):(nI L).length=L.length:=List.length_map _
theorem nI_mem {L:List Nat} {z:Int}:z∈nI L↔0<=z/\z.toNat∈L:=by
 unfold nI
 rw[List.mem_map]
 constructor
 ·rintro⟨a,ha,rfl⟩;exact⟨by omega,by rw[Int.toNat_natCast];exact ha⟩
 ·rintro⟨a,b⟩;exact⟨_,b,by omega⟩
theorem sc_rng {g:Gr} (hg:GOk g) {a b:Nat} (h:SC g a b) (ha:a<g.n):b<g.n:=h.1.rng hg ha
theorem compA_CR {g:Gr} (h:G12 g) {L:List Nat} (F:FL g L) (hl:finL g=nI L):∀ k,k<=L.length->CR g L k (compA (revG g) (finL g) k)
 |0,_=>by
  refine⟨compA_CI (rg:=revG g) ⟨h.n,revG_ok h.g⟩ (l:=finL g) (fun k hk=>finL_at h hk) 0 (by omega),fun x=>?_,fun w hw=>(by cases hw),fun x hx=>?_,List.Pairwise.nil⟩
  ·show(List.replicate _ false).getD x default=true↔_
   rw[getD_repF]
   exact⟨fun q=>(by cases q),fun⟨p,p1,p2,_⟩=>absurd p2 (by omega)⟩
  ·have hx:(List.replicate _ false).getD x default=true:=hx
   rw[getD_repF]at hx;cases hx
 |k+1,hk=>by
  have C:=compA_CR h F hl k (by omega)
  have hr:G12 (revG g):=⟨h.n,revG_ok h.g⟩
  have ll:(finL g).length=L.length:=by rw[hl,nI_len]
  have C1:=compA_CI (rg:=revG g) hr (l:=finL g) (fun k hk=>finL_at h hk) (k+1) (by omega)
  have hpv:L.length-1-k<L.length:=by omega
  have ev:(finL g).getD ((finL g).length-1-k) default=((L.getD (L.length-1-k) 0:Nat):Int):=by rw[ll,hl,nI_at hpv]
  rw[compA_succ,ev]at C1 ⊢
  generalize hpe:L.length-1-k=pv at*
  have p1:L.length-k=pv+1:=by omega
  have p2:L.length-(k+1)=pv:=by omega
  have hv:L.getD pv 0<g.n:=F.rng _ (getD_inN hpv)
  have split:∀ x,(∃ p,pv<=p/\p<L.length/\SC g x (L.getD p 0))↔((∃ p,L.length-k<=p/\p<L.length/\SC g x (L.getD p 0))∨SC g x (L.getD pv 0)):=fun x=>by
   constructor
   ·rintro⟨p,a,b,c⟩
    by_cases e:p=pv
    ·subst e;exact .inr c
    ·exact .inl ⟨p,by omega,b,c⟩
   ·rintro(⟨p,a,b,c⟩|c)
    ·exact⟨p,by omega,b,c⟩
    ·exact⟨pv,Nat.le_refl _,hpv,c⟩
  unfold compSt at C1 ⊢
  rw[Int.toNat_natCast]at C1 ⊢
  by_cases q:(compA (revG g) (finL g) k).1.getD (L.getD pv 0) default=false
  ·rw[if_pos q]at C1 ⊢
   have V:VI (revG g).n (unv (compA (revG g) (finL g) k).1) 12 ((compA (revG g) (finL g) k).1,[]):=⟨C.vi.len,by show 0+unv (compA (revG g) (finL g) k).1=_;omega,by have:=C.vi.cnt;have:=h.n;show unv (compA (revG g) (finL g) k).1<=12;omega⟩
   obtain⟨post,D⟩:=visF_DF hr.g 12 V (show L.getD pv 0<(revG g).n from hv) q
   have key:=round_cls h.g F hpv D (fun x=>by
    show(compA (revG g) (finL g) k).1.getD x default=true↔_
    rw[C.vis,p1]
    exact⟨fun⟨p,a,b,c⟩=>⟨p,by omega,b,c⟩,fun⟨p,a,b,c⟩=>⟨p,by omega,b,c⟩⟩)
   have er:(compR (revG g) (compA (revG g) (finL g) k) ((L.getD pv 0:Nat):Int))=visF (revG g) 12 (L.getD pv 0) ((compA (revG g) (finL g) k).1,[]):=by unfold compR;rw[Int.toNat_natCast]
   rw[er]at C1 ⊢
   have e2:(visF (revG g) 12 (L.getD pv 0) ((compA (revG g) (finL g) k).1,[])).2=nI post:=D.list
   rw[e2]at C1 ⊢
   have em:∀ z:Int,z∈elemsZ (ofW (nI post) (nI post).length)↔0<=z/\SC g (L.getD pv 0) z.toNat:=fun z=>by
    rw[ofW_mem,nI_mem,key]
    constructor
    ·exact fun a=>a.1
    ·rintro⟨a,b⟩
     have:=sc_rng h.g b hv
     have:=h.n
     exact⟨⟨a,b⟩,a,by omega⟩
   refine⟨C1,fun x=>?_,fun w hw=>?_,fun x hx=>?_,?_⟩
   ·show(visF _ _ _ _).1.getD x default=true↔_
    rw[D.vis,p2,split,key]
    show((compA (revG g) (finL g) k).1.getD x default=true∨_)↔_
    rw[C.vis]
    exact⟨fun a=>a.elim .inl fun b=>.inr b.symm,fun a=>a.elim .inl fun b=>.inr b.symm⟩
   ·rcases List.mem_append.1 hw with w1|w1
    ·obtain⟨p,a,b,c⟩:=C.cls w w1
     exact⟨p,by omega,b,c⟩
    ·obtain rfl:w=ofW (nI post) (nI post).length:=by simpa using w1
     exact⟨pv,by omega,hpv,em⟩
   ·have hx:(visF (revG g) 12 (L.getD pv 0) ((compA (revG g) (finL g) k).1,[])).1.getD x default=true:=hx
    rcases(D.vis x).1 hx with a|a
    ·obtain⟨w,w1,w2⟩:=C.cov x a
     exact⟨w,List.mem_append.2 (.inl w1),w2⟩
    ·exact⟨_,List.mem_append.2 (.inr (by simp)),(em x).2 ⟨by omega,by rw[Int.toNat_natCast];exact(key x).1 a⟩⟩
   ·rw[List.pairwise_append]
    refine⟨C.dis,by simp,fun a ha b hb z hz hz2=>?_⟩
    obtain rfl:b=ofW (nI post) (nI post).length:=by simpa using hb
    obtain⟨p,a1,a2,a3⟩:=C.cls a ha
    have s1:=(a3 z).1 hz
    have s2:=(em z).1 hz2
    have:=(C.vis (L.getD pv 0)).2 ⟨p,a1,a2,s2.2.trans s1.2.symm⟩
    rw[q]at this;cases this
  ·rw[if_neg q]at C1 ⊢
   have q:(compA (revG g) (finL g) k).1.getD (L.getD pv 0) default=true:=by
    cases w:(compA (revG g) (finL g) k).1.getD (L.getD pv 0) default with
    |true=>rfl
    |false=>exact absurd w q
   refine⟨C1,fun x=>?_,fun w hw=>?_,C.cov,C.dis⟩
   ·rw[C.vis,p2,split]
    refine⟨.inl,fun a=>a.elim id fun b=>?_⟩
    obtain⟨p,a1,a2,a3⟩:=(C.vis _).1 q
    exact⟨p,a1,a2,b.trans a3⟩
   ·obtain⟨p,a,b,c⟩:=C.cls w hw
    exact⟨p,by omega,b,c⟩
structure CC (g:Gr) (l:List (List Nat)):Prop where
 cls:∀ w∈l,∃ r,r<g.n/\∀ z:Int,z∈elemsZ w↔0<=z/\SC g r z.toNat
 cov:∀ x:Nat,x<g.n->∃ w∈l,(x:Int)∈elemsZ w
 dis:l.Pairwise fun a b=>∀ z,z∈elemsZ a->z∉elemsZ b
theorem comp_CC {g:Gr} (h:G12 g):CC g (compA (revG g) (finL g) (finL g).length).2:=by
 obtain⟨L,R⟩:=finA_FR h g.n (Nat.le_refl _)
 have hl:finL g=nI L:=R.list
 have F:FL g L:=⟨R.nd,R.fo,R.all,R.rng⟩
 have C:=compA_CR h F hl L.length (Nat.le_refl _)
 rw[show(finL g).length=L.length by rw[hl,nI_len]]
 refine⟨fun w hw=>?_,fun x hx=>?_,C.dis⟩
 ·obtain⟨p,_,b,c⟩:=C.cls w hw
  exact⟨_,F.rng _ (getD_inN b),c⟩
 ·obtain⟨p,hp,e⟩:=at_pos (F.all x hx)
  exact C.cov x ((C.vis x).2 ⟨p,by omega,hp,by rw[e];exact .rfl' x⟩)
end Go.Sym