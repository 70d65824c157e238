import Derived.Test.YtfflknhillcblaaDoorX5
import Derived.Test.YtfflknhillcblaaDoorXR
namespace Go.Sym
set_option linter.unusedVariables false
set_option linter.unusedSimpArgs false
def Og (g:Gr) (a b:Nat):Prop:=∃ i,i<g.es.length/\opn g i=true/\frN g i=a/\toN g i=b
inductive Pth (E:Nat->Nat->Prop) (P:Nat->Prop):Nat->Nat->Prop where
 |one {a:Nat}:P a->Pth E P a a
 |snoc {a b c:Nat}:Pth E P a b->E b c->P c->Pth E P a c
section
variable {E:Nat->Nat->Prop} {P Q:Nat->Prop} {a b c:Nat}
theorem Pth.trans (h:Pth E P a b) (k:Pth E P b c):Pth E P a c:=by
 induction k with
 |one _=>exact h
 |snoc _ e p ih=>exact .snoc ih e p
theorem Pth.mono (h:Pth E P a b) (m:∀ x,P x->Q x):Pth E Q a b:=by
 induction h with
 |one p=>exact .one (m _ p)
 |snoc _ e p ih=>exact .snoc ih e (m _ p)
theorem Pth.start (h:Pth E P a b):P a:=by
 induction h with
 |one p=>exact p
 |snoc _ _ _ ih=>exact ih
theorem Pth.fin (h:Pth E P a b):P b:=by
 cases h with
 |one p=>exact p
 |snoc _ _ p=>exact p
theorem Pth.cons (p:P a) (e:E a b) (h:Pth E P b c):Pth E P a c:=(Pth.snoc (.one p) e h.start).trans h
theorem Pth.flip {F:Nat->Nat->Prop} (hf:∀ x y,E x y->F y x) (h:Pth E P a b):Pth F P b a:=by
 induction h with
 |one p=>exact .one p
 |snoc h e p ih=>exact Pth.cons p (hf _ _ e) ih
end
abbrev Rc (g:Gr) (a b:Nat):Prop:=Pth (Og g) (fun _=>True) a b
def FO (g:Gr) (L:List Nat):Prop:=∀ i k j,i<=k->k<j->j<L.length->Og g (L.getD i 0) (L.getD j 0)->Rc g (L.getD j 0) (L.getD k 0)
theorem getD_app1 {L M:List Nat} {i:Nat} (h:i<L.length):(L++M).getD i 0=L.getD i 0:=by
 rw[List.getD_eq_getElem?_getD,List.getElem?_append_left h,List.getD_eq_getElem?_getD]
theorem getD_app2 {L M:List Nat} {i:Nat} (h:L.length<=i):(L++M).getD i 0=M.getD (i-L.length) 0:=by
 rw[List.getD_eq_getElem?_getD,List.getElem?_append_right h,List.getD_eq_getElem?_getD]
theorem getD_inN {L:List Nat} {i:Nat} (h:i<L.length):L.getD i 0∈L:=by
 rw[List.getD_eq_getElem?_getD,List.getElem?_eq_getElem h];exact List.getElem_mem _
theorem FO.app {g:Gr} {L M:List Nat} (h1:FO g L) (h2:FO g M) (hx:∀ x∈L,∀ y∈M,¬ Og g x y):FO g (L++M):=by
 intro i k j hik hkj hj he
 rw[List.length_append]at hj
 by_cases q:j<L.length
 ·rw[getD_app1 q,getD_app1 (by omega:i<L.length)]at he
  rw[getD_app1 q,getD_app1 (by omega:k<L.length)]
  exact h1 i k j hik hkj q he
 ·rw[getD_app2 (by omega:L.length<=j)]at he ⊢
  by_cases w:i<L.length
  ·rw[getD_app1 w]at he
   exact absurd he (hx _ (getD_inN w) _ (getD_inN (by omega)))
  ·rw[getD_app2 (by omega:L.length<=i)]at he
   rw[getD_app2 (by omega:L.length<=k)]
   exact h2 _ _ _ (by omega) (by omega) (by omega) he
theorem FO.last {g:Gr} {L:List Nat} {u:Nat} (h:FO g L) (hx:∀ x∈L,Rc g u x):FO g (L++[u]):=by
 intro i k j hik hkj hj he
 rw[List.length_append,List.length_singleton]at hj
 by_cases q:j<L.length
 ·rw[getD_app1 q,getD_app1 (by omega:i<L.length)]at he
  rw[getD_app1 q,getD_app1 (by omega:k<L.length)]
  exact h i k j hik hkj q he
 ·obtain rfl:j=L.length:=by omega
  rw[getD_app2 (Nat.le_refl _),Nat.sub_self,getD_app1 hkj]
  exact hx _ (getD_inN hkj)
def nI (L:List Nat):List Int:=L.map fun(v:Nat)=>(v:Int)
theorem nI_app (L M:List Nat):nI (L++M)=nI L++nI M:=List.map_append
structure DF (g:Gr) (u:Nat) (s s':VSt) (post:List Nat):Prop where
 list:s'.2=s.2++nI post
 vis:∀ x,s'.1.getD x default=true↔(s.1.getD x default=true∨x∈post)
 new:∀ x∈post,s.1.getD x default=false
 root:u∈post
 nd:post.Nodup
 rch:∀ x∈post,Pth (Og g) (fun z=>s.1.getD z default=false) u x
 cl:∀ x∈post,∀ y,Og g x y->s'.1.getD y default=true
 fo:FO g post
structure FD (g:Gr) (u m c:Nat) (s sk:VSt) (acc:List Nat):Prop where
 vi:VI g.n c m sk
 list:sk.2=s.2++nI acc
 vis:∀ x,sk.1.getD x default=true↔(s.1.getD x default=true∨x=u∨x∈acc)
 new:∀ x∈acc,s.1.getD x default=false/\x≠u
 nd:acc.Nodup
 rch:∀ x∈acc,Pth (Og g) (fun z=>s.1.getD z default=false) u x
 cl:∀ x∈acc,∀ y,Og g x y->sk.1.getD y default=true
 fo:FO g acc
theorem tf {b:Bool} (h:¬ b=true):b=false:=by cases b <;>simp_all
theorem FD.child {g:Gr} (hg:GOk g) {u m c:Nat} {s sk s':VSt} {acc post:List Nat} {i:Nat} (h:FD g u m c s sk acc) (h0:s.1.getD u default=false) (hi:i<g.es.length) (hu:frN g i=u) (ho:opn g i=true)
  (hv:sk.1.getD (toN g i) default=false) (hvi:VI g.n c m s') (D:DF g (toN g i) sk s' post):FD g u m c s s' (acc++post):=by
 have e:Og g u (toN g i):=⟨i,hi,ho,hu,rfl⟩
 have av:∀ x,sk.1.getD x default=false->s.1.getD x default=false/\x≠u:=fun x hx=>by
  refine⟨tf fun q=>?_,fun q=>?_⟩
  ·have:=(h.vis x).2 (.inl q);rw[hx]at this;cases this
  ·have:=(h.vis x).2 (.inr (.inl q));rw[hx]at this;cases this
 have ac:∀ x∈acc,sk.1.getD x default=true:=fun x hx=>(h.vis x).2 (.inr (.inr hx))
 refine⟨hvi,?_,fun x=>?_,fun x hx=>?_,?_,fun x hx=>?_,fun x hx y hy=>?_,?_⟩
 ·rw[D.list,h.list,nI_app,List.append_assoc]
 ·rw[D.vis,h.vis,List.mem_append]
  constructor
  ·rintro((a|a|a)|a)
   ·exact .inl a
   ·exact .inr (.inl a)
   ·exact .inr (.inr (.inl a))
   ·exact .inr (.inr (.inr a))
  ·rintro(a|a|a|a)
   ·exact .inl (.inl a)
   ·exact .inl (.inr (.inl a))
   ·exact .inl (.inr (.inr a))
   ·exact .inr a
 ·rcases List.mem_append.1 hx with q|q
  ·exact h.new x q
  ·exact av x (D.new x q)
 ·rw[List.nodup_append]
  refine⟨h.nd,D.nd,fun a ha b hb q=>?_⟩
  subst q
  have:=D.new a hb
  rw[ac a ha]at this;cases this
 ·rcases List.mem_append.1 hx with q|q
  ·exact h.rch x q
  ·exact Pth.cons h0 e ((D.rch x q).mono fun z hz=>(av z hz).1)
 ·rcases List.mem_append.1 hx with q|q
  ·exact(D.vis y).2 (.inl (h.cl x q y hy))
  ·exact D.cl x q y hy
 ·refine h.fo.app D.fo fun x hx y hy q=>?_
  have:=D.new y hy
  rw[h.cl x hx y q]at this;cases this
theorem visF_DF {g:Gr} (hg:GOk g):∀(m:Nat) {c u:Nat} {s:VSt},VI g.n c m s->u<g.n->s.1.getD u default=false->∃ post,DF g u s (visF g m u s) post
 |0,c,u,s,h,hu,h0=>by
  have:=unv_pos (l:=s.1) (by rw[h.len];exact hu) h0
  have:=h.un
  omega
 |m+1,c,u,s,h,hu,h0=>by
  rw[visF_succ]
  have q:=unv_set (l:=s.1) (u:=u) (by rw[h.len];exact hu) h0
  have hs:=h.sum
  have hb:=h.un
  have h1:VI g.n (c-1) m (s.1.set u true,s.2):=⟨by show(s.1.set u true).length=_;rw[List.length_set];exact h.len,by show s.2.length+unv (s.1.set u true)=_;omega,by show unv (s.1.set u true)<=_;omega⟩
  have start:FD g u m (c-1) s (s.1.set u true,s.2) []:=by
   refine⟨h1,by simp[nI],fun x=>?_,by simp,by simp,by simp,by simp,fun i k j _ _ hj _=>absurd hj (by simp)⟩
   show(s.1.set u true).getD x default=true↔_
   rw[getD_setB1]
   have hl:=h.len
   by_cases e:u=x
   ·subst e
    rw[if_pos ⟨rfl,by omega⟩];simp
   ·rw[if_neg (fun w=>e w.1)]
    constructor
    ·exact fun a=>.inl a
    ·rintro(a|a|a)
     ·exact a
     ·exact absurd a.symm e
     ·cases a
  have key:∀(L:List Nat) {sk:VSt} {acc:List Nat},(∀ i∈L,i<g.es.length/\frN g i=u)->FD g u m (c-1) s sk acc->
    ∃ acc',FD g u m (c-1) s (L.foldl (stepV g m) sk) acc'/\(∀ x,sk.1.getD x default=true->(L.foldl (stepV g m) sk).1.getD x default=true)/\∀ i∈L,opn g i=true->(L.foldl (stepV g m) sk).1.getD (toN g i) default=true:=by
   intro L
   induction L with
   |nil=>intro sk acc _ F;exact⟨acc,F,fun _ h=>h,fun i hi=>by cases hi⟩
   |cons a L ih=>
    intro sk acc hL F
    rw[List.foldl_cons]
    have ha:=hL a (by simp)
    have hr:∀ i∈L,i<g.es.length/\frN g i=u:=fun i hi=>hL i (List.mem_cons_of_mem _ hi)
    by_cases w:opn g a=true/\sk.1.getD (toN g a) default=false
    ·have e1:stepV g m sk a=visF g m (toN g a) sk:=if_pos w
     rw[e1]
     have et:=(gok_e hg ha.1).2.1
     obtain⟨post,D⟩:=visF_DF hg m F.vi et w.2
     obtain⟨acc',F',m1,m2⟩:=ih hr (F.child hg h0 ha.1 ha.2 w.1 w.2 (F.vi.vis hg m et w.2) D)
     refine⟨acc',F',fun x hx=>m1 x ((D.vis x).2 (.inl hx)),fun i hi ho=>?_⟩
     rcases List.mem_cons.1 hi with rfl|hi
     ·exact m1 _ ((D.vis _).2 (.inr D.root))
     ·exact m2 i hi ho
    ·have e1:stepV g m sk a=sk:=if_neg w
     rw[e1]
     obtain⟨acc',F',m1,m2⟩:=ih hr F
     refine⟨acc',F',m1,fun i hi ho=>?_⟩
     rcases List.mem_cons.1 hi with rfl|hi
     ·exact m1 _ (by cases hq:sk.1.getD (toN g i) default with
       |true=>rfl
       |false=>exact absurd ⟨ho,hq⟩ w)
     ·exact m2 i hi ho
  obtain⟨acc,F,_,hc⟩:=key (adjN g true u) (fun i hi=>by
   have w:=adjN_mem.1 hi
   have w2:(g.es.getD i default).f=(u:Int):=w.2
   exact⟨w.1,by unfold frN;omega⟩) start
  refine⟨acc++[u],?_,fun x=>?_,fun x hx=>?_,by simp,?_,fun x hx=>?_,fun x hx y hy=>?_,F.fo.last fun x hx=>(F.rch x hx).mono fun _ _=>trivial⟩
  ·show _++_=_
   rw[F.list,nI_app,List.append_assoc];rfl
  ·show((adjN g true u).foldl (stepV g m) (s.1.set u true,s.2)).1.getD x default=true↔_
   rw[F.vis,List.mem_append,List.mem_singleton]
   constructor
   ·rintro(a|a|a)
    ·exact .inl a
    ·exact .inr (.inr a)
    ·exact .inr (.inl a)
   ·rintro(a|a|a)
    ·exact .inl a
    ·exact .inr (.inr a)
    ·exact .inr (.inl a)
  ·rcases List.mem_append.1 hx with q|q
   ·exact(F.new x q).1
   ·obtain rfl:x=u:=by simpa using q
    exact h0
  ·rw[List.nodup_append]
   exact⟨F.nd,by simp,fun a ha b hb e=>by obtain rfl:b=u:=(by simpa using hb);exact(F.new a ha).2 e⟩
  ·rcases List.mem_append.1 hx with q|q
   ·exact F.rch x q
   ·obtain rfl:x=u:=by simpa using q
    exact .one h0
  ·show((adjN g true u).foldl (stepV g m) (s.1.set u true,s.2)).1.getD y default=true
   rcases List.mem_append.1 hx with q|q
   ·exact F.cl x q y hy
   ·obtain rfl:x=u:=by simpa using q
    obtain⟨i,hi,ho,hf,ht⟩:=hy
    rw[<- ht]
    refine hc i (adjN_mem.2 ⟨hi,?_⟩) ho
    show(g.es.getD i default).f=_
    have:=gok_e hg hi
    omega
structure FR (g:Gr) (k:Nat) (s:VSt) (L:List Nat):Prop where
 list:s.2=nI L
 vis:∀ x,s.1.getD x default=true↔x∈L
 nd:L.Nodup
 cl:∀ x∈L,∀ y,Og g x y->y∈L
 fo:FO g L
 all:∀ v,v<k->v∈L
 rng:∀ x∈L,x<g.n
theorem getD_repF (n x:Nat):(List.replicate n false).getD x default=false:=by
 rw[List.getD_eq_getElem?_getD,List.getElem?_replicate];split <;>rfl
theorem Pth.rng {g:Gr} (hg:GOk g) {P:Nat->Prop} {a b:Nat} (h:Pth (Og g) P a b) (ha:a<g.n):b<g.n:=by
 cases h with
 |one _=>exact ha
 |snoc _ e _=>obtain⟨i,hi,_,_,rfl⟩:=e;exact(gok_e hg hi).2.1
theorem finA_FR {g:Gr} (h:G12 g):∀ k,k<=g.n->∃ L,FR g k (finA g k) L
 |0,_=>⟨[],rfl,fun x=>by show(List.replicate g.n false).getD x default=true↔_;rw[getD_repF];simp,by simp,by simp,fun i k j _ _ hj _=>absurd hj (by simp),fun v hv=>absurd hv (by omega),by simp⟩
 |k+1,hk=>by
  obtain⟨L,F⟩:=finA_FR h k (by omega)
  have V:=finA_VI h k (by omega)
  rw[finA_succ]
  unfold finSt
  split
  ·rename_i q
   obtain⟨post,D⟩:=visF_DF h.g 12 V (by omega) q
   refine⟨L++post,?_,fun x=>?_,?_,fun x hx y hy=>?_,?_,fun v hv=>?_,fun x hx=>?_⟩
   ·rw[D.list,F.list,nI_app]
   ·rw[D.vis,F.vis,List.mem_append]
   ·rw[List.nodup_append]
    refine⟨F.nd,D.nd,fun a ha b hb e=>?_⟩
    subst e
    have:=D.new a hb
    rw[(F.vis a).2 ha]at this;cases this
   ·rw[List.mem_append]
    rcases List.mem_append.1 hx with w|w
    ·exact .inl (F.cl x w y hy)
    ·have:=(D.vis y).1 (D.cl x w y hy)
     rwa [F.vis]at this
   ·refine F.fo.app D.fo fun x hx y hy e=>?_
    have:=D.new y hy
    rw[(F.vis y).2 (F.cl x hx y e)]at this;cases this
   ·rw[List.mem_append]
    by_cases e:v=k
    ·subst e;exact .inr D.root
    ·exact .inl (F.all v (by omega))
   ·rcases List.mem_append.1 hx with w|w
    ·exact F.rng x w
    ·exact(D.rch x w).rng h.g (by omega)
  ·rename_i q
   refine⟨L,F.list,F.vis,F.nd,F.cl,F.fo,fun v hv=>?_,F.rng⟩
   by_cases e:v=k
   ·subst e
    exact(F.vis v).1 (by cases w:(finA g v).1.getD v default with
     |true=>rfl
     |false=>exact absurd w q)
   ·exact F.all v (by omega)
end Go.Sym