import Derived.Test.YtfflknhillcblaaDoorX0
namespace Go.Sym
set_option linter.unusedVariables false
set_option linter.unusedSimpArgs false
inductive Rch (g:Gr) (S:Int->Prop):Nat->Prop where
 |src {v:Nat}:v<g.n->S v->Rch g S v
 |step {i:Nat}:i<g.es.length->opn g i=true->Rch g S (frN g i)->Rch g S (toN g i)
theorem gok_e {g:Gr} (hg:GOk g) {i:Nat} (hi:i<g.es.length):frN g i<g.n/\toN g i<g.n/\((frN g i:Nat):Int)=(g.es.getD i default).f/\((toN g i:Nat):Int)=(g.es.getD i default).t:=by
 have e:=hg.e i hi
 unfold edOk at e
 unfold frN toN
 omega
theorem Rch.lt {g:Gr} (hg:GOk g) {S:Int->Prop} {v:Nat} (h:Rch g S v):v<g.n:=by
 cases h with
 |src h _=>exact h
 |step hi _ _=>exact(gok_e hg hi).2.1
theorem Rch.mono {g:Gr} {S S':Int->Prop} (h:∀ v:Nat,S v->S' v) {v:Nat} (r:Rch g S v):Rch g S' v:=by
 induction r with
 |src a b=>exact .src a (h _ b)
 |step a b _ ih=>exact .step a b ih
theorem Rch.least {g:Gr} {S:Int->Prop} {C:Nat->Prop} (h0:∀ v:Nat,v<g.n->S v->C v) (hc:∀ i,i<g.es.length->opn g i=true->C (frN g i)->C (toN g i)) {v:Nat} (r:Rch g S v):C v:=by
 induction r with
 |src a b=>exact h0 _ a b
 |step a b _ ih=>exact hc _ a b ih
theorem step_keep {g:Gr} {s:List Bool × List Int} {i v:Nat} (h:s.1.getD v default=true):(stepR g s i).1.getD v default=true:=by
 unfold stepR
 split
 ·show(s.1.set _ _).getD v default=true
  rw[getD_setB1]
  split
  ·rfl
  ·exact h
 ·exact h
theorem fold_keepR {g:Gr}:∀(L:List Nat) {s:List Bool × List Int} {v:Nat},s.1.getD v default=true->(L.foldl (stepR g) s).1.getD v default=true
 | [],_,_,h=>h
 |a::L,_,_,h=>by rw[List.foldl_cons];exact fold_keepR L (step_keep h)
theorem step_len {g:Gr} (s:List Bool × List Int) (i:Nat):(stepR g s i).1.length=s.1.length:=by
 unfold stepR;split
 ·exact List.length_set
 ·rfl
theorem fold_mark {g:Gr}:∀(L:List Nat) {s:List Bool × List Int} {i:Nat},i∈L->opn g i=true->toN g i<s.1.length->(L.foldl (stepR g) s).1.getD (toN g i) default=true
 | [],_,_,h,_,_=>by cases h
 |a::L,s,i,h,ho,hl=>by
  rw[List.foldl_cons]
  rcases List.mem_cons.1 h with rfl|h
  ·refine fold_keepR L ?_
   unfold stepR
   cases q:s.1.getD (toN g i) default with
   |true=>rw[if_neg (fun w=>by cases w.2)];exact q
   |false=>
    rw[if_pos ⟨ho,rfl⟩]
    show(s.1.set _ _).getD _ default=true
    rw[getD_setB1,if_pos ⟨rfl,hl⟩]
  ·exact fold_mark L h ho (by rw[step_len];exact hl)
theorem step_pre {g:Gr} (s:List Bool × List Int) (i:Nat):s.2 <+: (stepR g s i).2:=by
 unfold stepR;split
 ·exact List.prefix_append _ _
 ·exact List.prefix_refl _
theorem fold_pre {g:Gr}:∀(L:List Nat) (s:List Bool × List Int),s.2 <+: (L.foldl (stepR g) s).2
 | [],s=>List.prefix_refl _
 |a::L,s=>by rw[List.foldl_cons];exact(step_pre s a).trans (fold_pre L _)
theorem pre_getD {a b:List Int} (h:a <+: b) {j:Nat} (hj:j<a.length):b.getD j default=a.getD j default:=by
 obtain⟨t,rfl⟩:=h
 rw[List.getD_eq_getElem?_getD,List.getElem?_append_left hj,List.getD_eq_getElem?_getD]
theorem loop_clo {g:Gr} (hg:GOk g) {s:List Bool × List Int} (h:RIs g.n s):∀(k j:Nat),j<k->j<(loopR g s k).2.length->∀ i,i<g.es.length->opn g i=true->((frN g i:Nat):Int)=(loopR g s k).2.getD j default->(loopR g s k).1.getD (toN g i) default=true
 |0,j,hj,_,_,_,_,_=>absurd hj (by omega)
 |k+1,j,hj,hl,i,hi,ho,hf=>by
  have I:=h.loop hg k
  have IH:=loop_clo hg h k
  have e:=gok_e hg hi
  by_cases q:k<(loopR g s k).2.length
  ·have e1:loopR g s (k+1)=nodeR g (loopR g s k) ((loopR g s k).2.getD k default).toNat:=by
    show(if _ then _ else _)=_;rw[if_pos q]
   rw[e1]at hl hf ⊢
   have P:(loopR g s k).2 <+: (nodeR g (loopR g s k) ((loopR g s k).2.getD k default).toNat).2:=fold_pre _ _
   by_cases a:j=k
   ·subst a
    rw[pre_getD P q]at hf
    refine fold_mark _ (adjN_mem.2 ⟨hi,?_⟩) ho (by rw[I.len];exact e.2.1)
    show(g.es.getD i default).f=_
    omega
   ·rw[pre_getD P (by omega)]at hf
    exact fold_keepR _ (IH j (by omega) (by omega) i hi ho hf)
  ·have e1:loopR g s (k+1)=loopR g s k:=by
    show(if _ then _ else _)=_;rw[if_neg q]
   rw[e1]at hl hf ⊢
   exact IH j (by omega) hl i hi ho hf
theorem step_sound {g:Gr} (hg:GOk g) {S:Int->Prop} {s:List Bool × List Int} {i:Nat} (hi:i<g.es.length) (hf:Rch g S (frN g i)) (h:∀ z∈s.2,Rch g S z.toNat):∀ z∈(stepR g s i).2,Rch g S z.toNat:=by
 unfold stepR
 split
 ·rename_i q
  intro z hz
  rcases List.mem_append.1 hz with hz|hz
  ·exact h z hz
  ·obtain rfl:z=(g.es.getD i default).t:=by simpa using hz
   exact .step hi q.1 hf
 ·exact h
theorem fold_sound {g:Gr} (hg:GOk g) {S:Int->Prop} {u:Nat} (hu:Rch g S u):∀(L:List Nat),(∀ i∈L,i<g.es.length/\frN g i=u)->∀ {s:List Bool × List Int},(∀ z∈s.2,Rch g S z.toNat)->∀ z∈(L.foldl (stepR g) s).2,Rch g S z.toNat
 | [],_,_,h=>h
 |a::L,hL,s,h=>by
  rw[List.foldl_cons]
  have q:=hL a (by simp)
  exact fold_sound hg hu L (fun i hi=>hL i (List.mem_cons_of_mem _ hi)) (step_sound hg q.1 (q.2▸hu) h)
theorem loop_sound {g:Gr} (hg:GOk g) {S:Int->Prop} {s:List Bool × List Int} (h:∀ z∈s.2,Rch g S z.toNat):∀ k,∀ z∈(loopR g s k).2,Rch g S z.toNat
 |0=>h
 |k+1=>by
  have IH:=loop_sound hg h k
  unfold loopR
  split
  ·rename_i q
   have hm:(loopR g s k).2.getD k default∈(loopR g s k).2:=by rw[List.getD_eq_getElem?_getD,List.getElem?_eq_getElem q];exact List.getElem_mem _
   refine fold_sound hg (IH _ hm) _ (fun i hi=>?_) IH
   have w:=adjN_mem.1 hi
   refine⟨w.1,?_⟩
   have w2:(g.es.getD i default).f=(((loopR g s k).2.getD k default).toNat:Int):=w.2
   unfold frN;omega
  ·exact IH
theorem reach_iff {g:Gr} (hg:GOk g) {zs:List Int} (hs:zs.Nodup) (h0:∀ z∈zs,0<=z) {z:Int}:z∈reachQ g zs↔0<=z/\Rch g (· ∈zs) z.toNat:=by
 have R0:=startR_RI (n:=g.n) hs h0 zs.length
 have R:=R0.loop hg g.n
 constructor
 ·intro hz
  refine⟨(R.rng z hz).1,loop_sound hg (fun y hy=>?_) g.n z hz⟩
  have y1:=R0.rng y hy
  have y2:=startR_mem _ y hy
  rw[List.take_length]at y2
  exact .src (by omega) (by rw[show((y.toNat:Nat):Int)=y by omega];exact y2)
 ·rintro⟨hz,r⟩
  have key:∀ {v:Nat},Rch g (· ∈zs) v->(v:Int)∈reachQ g zs:=by
   intro v r
   refine r.least (C:=fun v=>(v:Int)∈reachQ g zs) (fun v hv hS=>?_) (fun i hi ho hc=>?_)
   ·have a:=startR_in (n:=g.n) zs.length (v:Int) (by rw[List.take_length];exact hS) (by omega)
    have P:∀ k,(startR g.n zs zs.length).2 <+: (loopR g (startR g.n zs zs.length) k).2:=by
     intro k
     induction k with
     |zero=>exact List.prefix_refl _
     |succ k ih=>
      unfold loopR
      split
      ·exact ih.trans (fold_pre _ _)
      ·exact ih
    exact(P g.n).subset a
   ·have e:=gok_e hg hi
    obtain⟨j,hj,ej⟩:=List.getElem_of_mem (show((frN g i:Nat):Int)∈(loopR g (startR g.n zs zs.length) g.n).2 from hc)
    have hle:=R.le
    have m:=loop_clo hg R0 g.n j (by omega) hj i hi ho (by rw[List.getD_eq_getElem?_getD,List.getElem?_eq_getElem hj];exact ej.symm)
    exact(R.iff _ e.2.1).1 m
  have:=key r
  rwa [show((z.toNat:Nat):Int)=z by omega]at this
def stA (n:Nat) (l:List Int) (z:Int):List Int:=if(0<=z/\z<n)/\z∉l then l++[z]else l
def startA (n:Nat) (fs:List Int) (k:Nat):List Int:=(fs.take k).foldl (stA n) []
def stepA (es:List Ed) (l:List Int) (i:Nat):List Int:=if(es.getD i default).d≠4611686018427387904/\(es.getD i default).f∈l/\(es.getD i default).t∉l then l++[(es.getD i default).t]else l
def rowA (es:List Ed) (l:List Int) (j:Nat):List Int:=(List.range j).foldl (stepA es) l
def rndA (es:List Ed) (l:List Int) (k:Nat):List Int:=(List.range k).foldl (fun l _=>rowA es l es.length) l
def outA (l:List Int) (k:Nat):List Int:=((List.range k).filter fun(v:Nat)=>decide ((v:Int)∈l)).map fun(v:Nat)=>(v:Int)
def aheadL (n:Nat) (es:List Ed) (fs:List Int):List Int:=outA (rndA es (startA n fs fs.length) n) n
structure AI (n:Nat) (l:List Int):Prop where
 rng:∀ z∈l,0<=z/\z<n
 nd:l.Nodup
theorem AI.push {n:Nat} {l:List Int} (h:AI n l) {z:Int} (hz:0<=z/\z<n) (hno:z∉l):AI n (l++[z]):=by
 refine⟨fun y hy=>?_,?_⟩
 ·rcases List.mem_append.1 hy with hy|hy
  ·exact h.rng y hy
  ·obtain rfl:y=z:=by simpa using hy
   exact hz
 ·rw[List.nodup_append]
  exact⟨h.nd,by simp,fun a ha b hb e=>by obtain rfl:b=z:=(by simpa using hb);exact hno (e▸ha)⟩
theorem startA_succ {n:Nat} {fs:List Int} {k:Nat} (h:k<fs.length):startA n fs (k+1)=stA n (startA n fs k) (fs.getD k default):=by
 unfold startA;rw[take_succ_getD (d:=default) h,List.foldl_append];rfl
theorem foldA_AI {n:Nat}:∀(L:List Int) {l:List Int},AI n l->AI n (L.foldl (stA n) l)
 | [],_,h=>h
 |a::L,l,h=>by
  rw[List.foldl_cons]
  refine foldA_AI L ?_
  unfold stA;split
  ·rename_i q;exact h.push q.1 q.2
  ·exact h
theorem startA_AI (n:Nat) (fs:List Int) (k:Nat):AI n (startA n fs k):=foldA_AI _ ⟨by simp,by simp⟩
theorem rowA_succ (es:List Ed) (l:List Int) (j:Nat):rowA es l (j+1)=stepA es (rowA es l j) j:=by unfold rowA;rw[List.range_succ,List.foldl_append];rfl
theorem rndA_succ (es:List Ed) (l:List Int) (k:Nat):rndA es l (k+1)=rowA es (rndA es l k) es.length:=by unfold rndA;rw[List.range_succ,List.foldl_append];rfl
theorem stepA_AI {g:Gr} (hg:GOk g) {l:List Int} (h:AI g.n l) {i:Nat} (hi:i<g.es.length):AI g.n (stepA g.es l i):=by
 unfold stepA;split
 ·rename_i q
  have e:=hg.e i hi
  unfold edOk at e
  exact h.push (by omega) q.2.2
 ·exact h
theorem rowA_AI {g:Gr} (hg:GOk g) {l:List Int} (h:AI g.n l):∀ j,j<=g.es.length->AI g.n (rowA g.es l j)
 |0,_=>h
 |j+1,hj=>by rw[rowA_succ];exact stepA_AI hg (rowA_AI hg h j (by omega)) (by omega)
theorem rndA_AI {g:Gr} (hg:GOk g) {l:List Int} (h:AI g.n l):∀ k,AI g.n (rndA g.es l k)
 |0=>h
 |k+1=>by rw[rndA_succ];exact rowA_AI hg (rndA_AI hg h k) _ (Nat.le_refl _)
end Go.Sym