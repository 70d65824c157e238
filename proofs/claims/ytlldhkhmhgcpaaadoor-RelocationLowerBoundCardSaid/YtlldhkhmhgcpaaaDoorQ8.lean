import Derived.Test.YtlldhkhmhgcpaaaDoorR5
import Derived.Test.YtlldhkhmhgcpaaaDoorK6
import Derived.Test.YtlldhkhmhgcpaaaDoorR7
namespace Go.Sym
set_option linter.unusedVariables false
def minF (F:Int->Int) (l:List Int):Int:=l.foldl (fun m p=>min m (F p)) INF
theorem minF_go (F:Int->Int):∀(l:List Int) (m:Int),l.foldl (fun m p=>min m (F p)) m<=m/\(∀ p∈l,l.foldl (fun m p=>min m (F p)) m<=F p)/\(l.foldl (fun m p=>min m (F p)) m=m∨∃ p∈l,l.foldl (fun m p=>min m (F p)) m=F p)
 | [],m=>⟨Int.le_refl _,fun p hp=>(by cases hp),.inl rfl⟩
 |x::l,m=>by
  rw[List.foldl_cons]
  obtain⟨h1,h2,h3⟩:=minF_go F l (min m (F x))
  refine⟨by omega,fun p hp=>?_,?_⟩
  ·rcases List.mem_cons.1 hp with q|q
   ·subst q;omega
   ·exact h2 p q
  ·rcases h3 with q|⟨p,hp,q⟩
   ·rcases(show min m (F x)=m∨min m (F x)=F x by omega)with e|e
    ·exact .inl (q.trans e)
    ·exact .inr ⟨x,by simp,q.trans e⟩
   ·exact .inr ⟨p,List.mem_cons_of_mem _ hp,q⟩
theorem dist_min {g:Gr} (hg:GOk g) (ts:List Int) {l:List Int} (hl:∀ p∈l,0<=p/\p<g.n) {v:Nat} (hv:v<g.n):
  (distG g ts l true).getD v default=minF (fun p=>(distG g ts [((p.toNat:Nat):Int)] true).getD v default) l:=by
 have hN:=netG_ok hg (wsOk_tt g ts) true
 have H:Sol (netG g (ttL ts g.es.length) true) (fun v=>isSrc l v=true) (distG g ts l true):=distF_sol hN (isSrc l)
 have K:∀ p:Nat,Sol (netG g (ttL ts g.es.length) true) (fun v=>isSrc [((p:Nat):Int)] v=true) (distG g ts [((p:Nat):Int)] true):=fun p=>distF_sol hN _
 have spec:=fun v=>minF_go (fun p=>(distG g ts [((p.toNat:Nat):Int)] true).getD v default) l INF
 have hM:∀ v,v<g.n->at0 ((List.range g.n).map fun v=>minF (fun p=>(distG g ts [((p.toNat:Nat):Int)] true).getD v default) l) v=minF (fun p=>(distG g ts [((p.toNat:Nat):Int)] true).getD v default) l:=fun v hv=>getD_map_range hv
 apply Int.le_antisymm
 ·obtain⟨_,_,h3⟩:=spec v
  unfold minF
  rcases h3 with q|⟨p,hp,q⟩
  ·rw[q];exact H.le v hv
  ·rw[q]
   refine dist_mono hg ts true (fun u _ hs=>?_) hv
   have:=isSrc_iff.1 hs
   rw[List.mem_singleton]at this
   have h2:=(hl p hp).1
   exact isSrc_iff.2 (by rw[this,show((p.toNat:Nat):Int)=p by omega];exact hp)
 ·have:=H.least hN (e:=(List.range g.n).map fun v=>minF (fun p=>(distG g ts [((p.toNat:Nat):Int)] true).getD v default) l) (fun v hv=>by rw[hM v hv];exact(spec v).1)
   (fun v hv hs=>by
    rw[hM v hv]
    have hp:=isSrc_iff.1 hs
    have h1:=(spec v).2.1 _ hp
    have h2:=(K v).src v hv (isSrc_iff.2 (by simp))
    have h2:(distG g ts [((v:Nat):Int)] true).getD v default=0:=h2
    unfold minF
    exact Int.le_trans h1 (Int.le_of_eq h2))
   (fun i hi hw hs=>by
    have hsn:=hN.s i hi
    have htn:=hN.t i hi
    rw[hM _ hsn]at hs ⊢
    rw[hM _ htn]
    unfold minF at*
    rcases(spec ((netG g (ttL ts g.es.length) true).s i)).2.2 with q|⟨p,hp,q⟩
    ·rw[q]at hs;exact absurd hs (Int.lt_irrefl _)
    ·rw[q]at hs ⊢
     have h1:=(spec ((netG g (ttL ts g.es.length) true).t i)).2.1 p hp
     have h2:=(K p.toNat).clo i hi hw hs
     exact Int.le_trans h1 h2) v hv
  rw[hM v hv]at this
  exact this
theorem maxF_go (D:Int->Int):∀(l:List Int) (s:Int × Int),(∀ v∈l,0<=v/\0<=D v)->(s.2<0->s.1=0)->
  (l.foldl (fun(s:Int × Int) v=>if s.2<0∨s.1<D v then(D v,v)else s) s).1=l.foldl (fun w v=>max w (D v)) s.1
 | [],s,_,_=>rfl
 |x::l,s,hl,hs=>by
  rw[List.foldl_cons,List.foldl_cons]
  have hx:=hl x (by simp)
  rw[maxF_go D l _ (fun v hv=>hl v (List.mem_cons_of_mem _ hv))]
  ·congr 1
   split
   ·rename_i h
    rcases h with h|h
    ·have:=hs h;simp only;omega
    ·simp only;omega
   ·rename_i h
    have:¬ s.1<D x:=fun q=>h (.inr q)
    omega
  ·split
   ·intro h;simp only at h;omega
   ·exact hs
theorem wait_worst {g:Gr} (hg:GOk g) (ts of:List Int) {l:List Int} (hl:∀ p∈l,0<=p/\p<g.n):
  waitK (fun p=>distG g ts [((p:Nat):Int)] true) (nodesL g.n of) l=(worstR g ts l of).1:=by
 unfold waitK worstR worstF
 have hm:∀ v∈nodesL g.n of,0<=v/\v<g.n:=fun v hv=>nodesL_mem hv
 have:=maxF_go (fun v=>(distG g ts l true).getD v.toNat default) (nodesL g.n of) (0,-1) (fun v hv=>⟨(hm v hv).1,(dist_rng hg ts l true (by have:=hm v hv;omega)).1⟩) (fun _=>rfl)
 refine Eq.trans ?_ this.symm
 show _=(nodesL g.n of).foldl (fun w v=>max w ((distG g ts l true).getD v.toNat default)) 0
 have e:∀(ns:List Int) (w:Int),(∀ v∈ns,0<=v/\v<g.n)->ns.foldl (waitS (fun p=>distG g ts [((p:Nat):Int)] true) l) w=ns.foldl (fun w v=>max w ((distG g ts l true).getD v.toNat default)) w:=by
  intro ns
  induction ns with
  |nil=>intro w _;rfl
  |cons x ns ih=>
   intro w h
   rw[List.foldl_cons,List.foldl_cons,ih _ (fun v hv=>h v (List.mem_cons_of_mem _ hv))]
   congr 1
   have hx:=h x (by simp)
   show max w (nearK _ l x)=_
   rw[dist_min hg ts hl (v:=x.toNat) (by omega)]
   rfl
 exact e _ _ hm
def merge (st:ST) (r:Int × List Int):ST:=if st.found=false∨r.1<st.worst then⟨true,r.1,r.2⟩else st
theorem merge_step (st:ST) (q p:Int × List Int):merge (merge st q) p=merge st (if p.1<q.1 then p else q):=by
 unfold merge
 by_cases h:st.found=false∨q.1<st.worst
 ·rw[if_pos h]
  by_cases h2:p.1<q.1
  ·rw[if_pos h2,if_pos (Or.inr h2),if_pos (h.imp id (fun h=>by omega))]
  ·rw[if_neg h2,if_neg (fun q=>q.elim (fun q=>by cases q) h2),if_pos h]
 ·rw[if_neg h]
  have hf:¬ st.found=false:=fun q=>h (.inl q)
  have hq:¬ q.1<st.worst:=fun e=>h (.inr e)
  by_cases h2:p.1<q.1
  ·rw[if_pos h2]
  ·rw[if_neg h2,if_neg h,if_neg (fun q=>q.elim hf (fun q=>by omega))]
theorem putR_nn {g:Gr} (hg:GOk g) (ts of:List Int):∀(m:Nat) (there:List Int) (fr:Nat),fr<g.n->0<=(putR g ts of m there fr).1
 |0,there,fr,_=>(worstR_rng hg ts there of).1
 |m+1,there,fr,hfr=>by
  have h:∀ j,j<=g.n-fr->1<=j->0<=(putAt g ts of m there fr j).1:=by
   intro j
   induction j with
   |zero=>intro _ h;omega
   |succ j ih=>
    intro hj _
    rw[putAt_succ]
    unfold putStep
    have hp:=putR_nn hg ts of m (there++[((fr+j:Nat):Int)]) (fr+j) (by omega)
    split
    ·exact hp
    ·rename_i hn
     by_cases h0:j=0
     ·subst h0;exact absurd (.inl (by show(-1:Int)<0;omega)) hn
     ·exact ih (by omega) (by omega)
  exact h (g.n-fr) (Nat.le_refl _) (by omega)
theorem place_put {x:BWX} (h:BWok x) {of:List Int} (hw:nodesW x.g.n x.ws=nodesL x.g.n of):∀(m:Nat) (there:List Int) (fr:Nat) (st:ST),fr<x.g.n->(∀ p∈there,0<=p/\p<x.g.n)->
  placeR (srchOf x) m there fr st=merge st (putR x.g x.ts of m there fr)
 |0,there,fr,st,_,ht=>by
  show keepB _ _ _=merge st ((worstR x.g x.ts there of).1,there)
  have e:waitK (srchOf x).f (srchOf x).nodes there=(worstR x.g x.ts there of).1:=by
   rw[<- wait_worst h.g x.ts of ht,<- hw];rfl
  unfold keepB merge
  rw[e]
 |m+1,there,fr,st,hfr,ht=>by
  have key:∀ j,j<=x.g.n-fr->1<=j->placeAt (srchOf x) m there fr st j=merge st (putAt x.g x.ts of m there fr j):=by
   intro j
   induction j with
   |zero=>intro _ h;omega
   |succ j ih=>
    intro hj _
    have ht2:∀ p∈there++[((fr+j:Nat):Int)],0<=p/\p<x.g.n:=by
     intro p hp
     rcases List.mem_append.1 hp with q|q
     ·exact ht p q
     ·rw[List.mem_singleton]at q;subst q;omega
    have hp:=putR_nn h.g x.ts of m (there++[((fr+j:Nat):Int)]) (fr+j) (by omega)
    rw[placeAt_succ,place_put h hw m _ (fr+j) _ (by omega) ht2,putAt_succ]
    unfold putStep
    by_cases h0:j=0
    ·subst h0
     rw[if_pos (.inl (by show(-1:Int)<0;omega))]
     rfl
    ·rw[ih (by omega) (by omega),merge_step]
     have hq:0<=(putAt x.g x.ts of m there fr j).1:=by
      have:∀ j,j<=x.g.n-fr->1<=j->0<=(putAt x.g x.ts of m there fr j).1:=by
       intro j
       induction j with
       |zero=>intro _ h;omega
       |succ j ih=>
        intro hj _
        rw[putAt_succ]
        unfold putStep
        have hp:=putR_nn h.g x.ts of m (there++[((fr+j:Nat):Int)]) (fr+j) (by omega)
        split
        ·exact hp
        ·rename_i hn
         by_cases h0:j=0
         ·subst h0;exact absurd (.inl (by show(-1:Int)<0;omega)) hn
         ·exact ih (by omega) (by omega)
      exact this j (by omega) (by omega)
     congr 1
     by_cases h2:(putR x.g x.ts of m (there++[((fr+j:Nat):Int)]) (fr+j)).1<(putAt x.g x.ts of m there fr j).1
     ·rw[if_pos h2,if_pos (Or.inr h2)]
     ·rw[if_neg h2,if_neg (fun q=>q.elim (fun q=>by omega) h2)]
  exact key (x.g.n-fr) (Nat.le_refl _) (by omega)
theorem dist_none {g:Gr} (hg:GOk g) (ts:List Int) {v:Nat} (hv:v<g.n):(distG g ts [] true).getD v default=INF:=dist_min hg ts (l:=[]) (fun p hp=>by cases hp) hv
theorem worst_none {g:Gr} (hg:GOk g) (ts of:List Int):(worstR g ts [] of).1=if(nodesL g.n of).length=0 then 0 else INF:=by
 unfold worstR
 rcases worst_spec (D:=distG g ts [] true) (l:=nodesL g.n of) (fun v hv=>(nodesL_mem hv).1)with⟨e,q⟩|⟨ne,_,_,v,hv,q⟩
 ·rw[q,e];rfl
 ·rw[q,if_neg (fun e=>ne (List.length_eq_zero_iff.1 e)),dist_none hg ts (by have:=nodesL_mem hv;omega)]
theorem bound_same {g:Gr} (hg:GOk g) (hn:g.n<=12) (ts of:List Int) (u:Int):boundW ⟨g,ts,ofW of of.length,u⟩=boundR ⟨g,ts,of,u⟩:=by
 have hw:nodesW g.n (ofW of of.length)=nodesL g.n of:=rfl
 unfold boundW boundR
 by_cases h1:u<0∨4<u
 ·rw[if_pos h1,if_pos h1]
 ·rw[if_neg h1,if_neg h1]
  by_cases h2:u=0
  ·rw[if_pos h2,if_pos h2]
   show(_,_)=((worstR g ts [] of).1,_)
   rw[worst_none hg];rfl
  ·rw[if_neg h2,if_neg h2,place_put (x:=⟨g,ts,ofW of of.length,u⟩) ⟨hg,hn,ofW_ok _ _⟩ hw _ _ _ _ hg.n1 (fun p hp=>by cases hp)]
   rfl
end Go.Sym
namespace Go.Sym
set_option linter.unusedVariables false
theorem putAt_is {g:Gr} (hg:GOk g) (ts of:List Int) (m:Nat) (there:List Int) (fr:Nat):∀ j,j<=g.n-fr->1<=j->
  (∃ i,i<j/\putAt g ts of m there fr j=putR g ts of m (there++[((fr+i:Nat):Int)]) (fr+i))/\∀ i,i<j->(putAt g ts of m there fr j).1<=(putR g ts of m (there++[((fr+i:Nat):Int)]) (fr+i)).1:=by
 intro j
 induction j with
 |zero=>intro _ h;omega
 |succ j ih=>
  intro hj _
  by_cases h0:j=0
  ·subst h0
   have e:putAt g ts of m there fr (0+1)=putR g ts of m (there++[((fr+0:Nat):Int)]) (fr+0):=put_neg (show(-1:Int)<0 by omega)
   refine⟨⟨0,by omega,e⟩,fun i hi=>?_⟩
   obtain rfl:i=0:=by omega
   rw[e];exact Int.le_refl _
  ·obtain⟨⟨i0,hi0,e0⟩,hall⟩:=ih (by omega) (by omega)
   have hq:0<=(putAt g ts of m there fr j).1:=by rw[e0];exact putR_nn hg ts of m _ _ (by omega)
   by_cases h2:(putR g ts of m (there++[((fr+j:Nat):Int)]) (fr+j)).1<(putAt g ts of m there fr j).1
   ·rw[put_lt h2]
    refine⟨⟨j,by omega,rfl⟩,fun i hi=>?_⟩
    by_cases e:i=j
    ·subst e;exact Int.le_refl _
    ·have:=hall i (by omega);omega
   ·rw[put_no (by omega) h2]
    refine⟨⟨i0,by omega,e0⟩,fun i hi=>?_⟩
    by_cases e:i=j
    ·subst e;omega
    ·exact hall i (by omega)
theorem put_min {g:Gr} (hg:GOk g) (ts of:List Int):∀(m:Nat) (there l:List Int) (fr:Nat),l.length=m->l.Pairwise (· <=·)->(∀ p∈l,(fr:Int)<=p/\p<g.n)->
  fr<g.n->(putR g ts of m there fr).1<=(worstR g ts (there++l) of).1
 |0,there,l,fr,hl,_,_,_=>by
  obtain rfl:=List.length_eq_zero_iff.1 hl
  rw[List.append_nil];exact Int.le_refl _
 |m+1,there,[],fr,hl,_,_,_=>by simp at hl
 |m+1,there,k::l,fr,hl,hs,hr,hfr=>by
  have hk:=hr k (by simp)
  obtain⟨_,hall⟩:=putAt_is hg ts of m there fr (g.n-fr) (Nat.le_refl _) (by omega)
  have h1:=hall (k.toNat-fr) (by omega)
  have e:((fr+(k.toNat-fr):Nat):Int)=k:=by omega
  have h2:=put_min hg ts of m (there++[k]) l (fr+(k.toNat-fr)) (by simpa using hl) (List.pairwise_cons.1 hs).2 (fun p hp=>by
   have:=(List.pairwise_cons.1 hs).1 p hp
   have:=hr p (List.mem_cons_of_mem _ hp)
   omega) (by omega)
  rw[e]at h1
  rw[List.append_assoc]at h2
  exact Int.le_trans h1 h2
theorem worst_more {g:Gr} (hg:GOk g) (ts of:List Int) {a b:List Int} (h:∀ v,v<g.n->isSrc a v=true->isSrc b v=true):(worstR g ts b of).1<=(worstR g ts a of).1:=by
 unfold worstR
 exact worst_mono (fun v hv=>(nodesL_mem hv).1) fun v hv=>dist_mono hg ts true h (by have:=nodesL_mem hv;omega)
theorem bound_min {g:Gr} (hg:GOk g) (ts of:List Int) (l:List Int):(putR g ts of l.length [] 0).1<=(worstR g ts l of).1:=by
 have hn:=hg.n1
 let f:Int->Int:=fun p=>if 0<=p/\p<g.n then p else 0
 let s:=(l.map f).mergeSort (fun a b=>decide (a<=b))
 have hp:s.Perm (l.map f):=List.mergeSort_perm _ _
 have hf:∀ p,0<=f p/\f p<g.n:=by
  intro p
  show 0<=(if 0<=p/\p<g.n then p else 0)/\(if 0<=p/\p<g.n then p else 0)<(g.n:Int)
  split <;>omega
 have hs:s.Pairwise (· <=·):=by
  have:=List.pairwise_mergeSort (le:=fun(a b:Int)=>decide (a<=b)) (fun a b c h1 h2=>by simp only[decide_eq_true_eq]at *;omega) (fun a b=>by simp only[Bool.or_eq_true,decide_eq_true_eq];omega) (l.map f)
  exact this.imp fun h=>by simpa using h
 have h1:=put_min hg ts of l.length [] s 0 (by rw[hp.length_eq,List.length_map]) hs (fun p hq=>by
  obtain⟨x,_,rfl⟩:=List.mem_map.1 (hp.mem_iff.1 hq)
  have:=hf x;omega) (by omega)
 refine Int.le_trans h1 (worst_more hg ts of fun v hv h=>?_)
 rw[List.nil_append]
 have h:=isSrc_iff.1 h
 refine isSrc_iff.2 (hp.mem_iff.2 (List.mem_map.2 ⟨_,h,?_⟩))
 show(if 0<=((v:Nat):Int)/\((v:Nat):Int)<g.n then((v:Nat):Int)else 0)=_
 rw[if_pos (by omega)]
end Go.Sym