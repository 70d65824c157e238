import Derived.Test.YtfflknhillcblaaDoorX0
namespace Go.Sym
set_option linter.unusedVariables false
set_option linter.unusedSimpArgs false
inductive Rch (g:Gr) (S:Int->Prop):Nat->Prop where
 |src {v:Nat}:v<g.n->S v->Rch g S v
 |step {i:Nat}:i<g.es.length->opn g i=true->Rch g S (frN g i)->Rch g S (toN g i)
theorem gok_e {g:Gr} (hg:GOk g) {i:Nat} (hi:i<g.es.length):frN g i<g.n/\toN g i<g.n/\((frN g i:Nat):Int)=(g.es.getD i default).f/\((toN g i:Nat):Int)=(g.es.getD i default).t:=by
 have e:=hg.e i hi
 unfold edOk at e
 unfold frN toN
 omega
theorem Rch.lt {g:Gr} (hg:GOk g) {S:Int->Prop} {v:Nat} (h:Rch g S v):v<g.n:=by
 cases h with
 |src h _=>exact h
 |step hi _ _=>exact(gok_e hg hi).2.1
theorem Rch.mono {g:Gr} {S S':Int->Prop} (h:∀ v:Nat,S v->S' v) {v:Nat} (r:Rch g S v):Rch g S' v:=by
 induction r with
 |src a b=>exact .src a (h _ b)
 |step a b _ ih=>exact .step a b ih
theorem Rch.least {g:Gr} {S:Int->Prop} {C:Nat->Prop} (h0:∀ v:Nat,v<g.n->S v->C v) (hc:∀ i,i<g.es.length->opn g i=true->C (frN g i)->C (toN g i)) {v:Nat} (r:Rch g S v):C v:=by
 induction r with
 |src a b=>exact h0 _ a b
 |step a b _ ih=>exact hc _ a b ih
theorem step_keep {g:Gr} {s:List Bool × List Int} {i v:Nat} (h:s.1.getD v default=true):(stepR g s i).1.getD v default=true:=by
 unfold stepR
 split
 ·show(s.1.set _ _).getD v default=true
  rw[getD_setB1]
  split
  ·rfl
  ·exact h
 ·exact h
theorem fold_keepR {g:Gr}:∀(L:List Nat) {s:List Bool × List Int} {v:Nat},s.1.getD v default=true->(L.foldl (stepR g) s).1.getD v default=true
 | [],_,_,h=>h
 |a::L,_,_,h=>by rw[List.foldl_cons];exact fold_keepR L (step_keep h)
theorem step_len {g:Gr} (s:List Bool × List Int) (i:Nat):(stepR g s i).1.length=s.1.length:=by
 unfold stepR;split
 ·exact List.length_set
 ·rfl
theorem fold_mark {g:Gr}:∀(L:List Nat) {s:List Bool × List Int} {i:Nat},i∈L->opn g i=true->toN g i<s.1.length->(L.foldl (stepR g) s).1.getD (toN g i) default=true
 | [],_,_,h,_,_=>by cases h
 |a::L,s,i,h,ho,hl=>by
  rw[List.foldl_cons]
  rcases List.mem_cons.1 h with rfl|h
  ·refine fold_keepR L ?_
   unfold stepR
   cases q:s.1.getD (toN g i) default with
   |true=>rw[if_neg (fun w=>by cases w.2)];exact q
   |false=>
    rw[if_pos ⟨ho,rfl⟩]
    show(s.1.set _ _).getD _ default=true
    rw[getD_setB1,if_pos ⟨rfl,hl⟩]
  ·exact fold_mark L h ho (by rw[step_len];exact hl)
theorem step_pre {g:Gr} (s:List Bool × List Int) (i:Nat):s.2 <+: (stepR g s i).2:=by
 unfold stepR;split
 ·exact List.prefix_append _ _
 ·exact List.prefix_refl _
theorem fold_pre {g:Gr}:∀(L:List Nat) (s:List Bool × List Int),s.2 <+: (L.foldl (stepR g) s).2
 | [],s=>List.prefix_refl _
 |a::L,s=>by rw[List.foldl_cons];exact(step_pre s a).trans (fold_pre L _)
theorem pre_getD {a b:List Int} (h:a <+: b) {j:Nat} (hj:j<a.length):b.getD j default=a.getD j default:=by
 obtain⟨t,rfl⟩:=h
 rw[List.getD_eq_getElem?_getD,List.getElem?_append_left hj,List.getD_eq_getElem?_getD]
theorem loop_clo {g:Gr} (hg:GOk g) {s:List Bool × List Int} (h:RIs g.n s):∀(k j:Nat),j<k->j<(loopR g s k).2.length->∀ i,i<g.es.length->opn g i=true->((frN g i:Nat):Int)=(loopR g s k).2.getD j default->(loopR g s k).1.getD (toN g i) default=true
 |0,j,hj,_,_,_,_,_=>absurd hj (by omega)
 |k+1,j,hj,hl,i,hi,ho,hf=>by
  have I:=h.loop hg k
  have IH:=loop_clo hg h k
  have e:=gok_e hg hi
  by_cases q:k<(loopR g s k).2.length
  ·have e1:loopR g s (k+1)=nodeR g (loopR g s k) ((loopR g s k).2.getD k default).toNat:=by
    show(if _ then _ else _)=_;rw[if_pos q]
   rw[e1]at hl hf ⊢
   have P:(loopR g s k).2 <+: (nodeR g (loopR g s k) ((loopR g s k).2.getD k default).toNat).2:=fold_pre _ _
   by_cases a:j=k
   ·subst a
    rw[pre_getD P q]at hf
    refine fold_mark _ (adjN_mem.2 ⟨hi,?_⟩) ho (by rw[I.len];exact e.2.1)
    show(g.es.getD i default).f=_
    omega
   ·rw[pre_getD P (by omega)]at hf
    exact fold_keepR _ (IH j (by omega) (by omega) i hi ho hf)
  ·have e1:loopR g s (k+1)=loopR g s k:=by
    show(if _ then _ else _)=_;rw[if_neg q]
   rw[e1]at hl hf ⊢
   exact IH j (by omega) hl i hi ho hf
theorem step_sound {g:Gr} (hg:GOk g) {S:Int->Prop} {s:List Bool × List Int} {i:Nat} (hi:i<g.es.length) (hf:Rch g S (frN g i)) (h:∀ z∈s.2,Rch g S z.toNat):∀ z∈(stepR g s i).2,Rch g S z.toNat:=by
 unfold stepR
 split
 ·rename_i q
  intro z hz
  rcases List.mem_append.1 hz with hz|hz
  ·exact h z hz
  ·obtain rfl:z=(g.es.getD i default).t:=by simpa using hz
   exact .step hi q.1 hf
 ·exact h
theorem fold_sound {g:Gr} (hg:GOk g) {S:Int->Prop} {u:Nat} (hu:Rch g S u):∀(L:List Nat),(∀ i∈L,i<g.es.length/\frN g i=u)->∀ {s:List Bool × List Int},(∀ z∈s.2,Rch g S z.toNat)->∀ z∈(L.foldl (stepR g) s).2,Rch g S z.toNat
 | [],_,_,h=>h
 |a::L,hL,s,h=>by
  rw[List.foldl_cons]
  have q:=hL a (by simp)
  exact fold_sound hg hu L (fun i hi=>hL i (List.mem_cons_of_mem _ hi)) (step_sound hg q.1 (q.2▸hu) h)
theorem loop_sound {g:Gr} (hg:GOk g) {S:Int->Prop} {s:List Bool × List Int} (h:∀ z∈s.2,Rch g S z.toNat):∀ k,∀ z∈(loopR g s k).2,Rch g S z.toNat
 |0=>h
 |k+1=>by
  have IH:=loop_sound hg h k
  unfold loopR
  split
  ·rename_i q
   have hm:(loopR g s k).2.getD k default∈(loopR g s k).2:=by rw[List.getD_eq_getElem?_getD,List.getElem?_eq_getElem q];exact List.getElem_mem _
   refine fold_sound hg (IH _ hm) _ (fun i hi=>?_) IH
   have w:=adjN_mem.1 hi
   refine⟨w.1,?_⟩
   have w2:(g.es.getD i default).f=(((loopR g s k).2.getD k default).toNat:Int):=w.2
   unfold frN;omega
  ·exact IH
theorem reach_iff {g:Gr} (hg:GOk g) {zs:List Int} (hs:zs.Nodup) (h0:∀ z∈zs,0<=z) {z:Int}:z∈reachQ g zs↔0<=z/\Rch g (· ∈zs) z.toNat:=by
 have R0:=startR_RI (n:=g.n) hs h0 zs.length
 have R:=R0.loop hg g.n
 constructor
 ·intro hz
  refine⟨(R.rng z hz).1,loop_sound hg (fun y hy=>?_) g.n z hz⟩
  have y1:=R0.rng y hy
  have y2:=startR_mem _ y hy
  rw[List.take_length]at y2
  exact .src (by omega) (by rw[show((y.toNat:Nat):Int)=y by omega];exact y2)
 ·rintro⟨hz,r⟩
  have key:∀ {v:Nat},Rch g (· ∈zs) v->(v:Int)∈reachQ g zs:=by
   intro v r
   refine r.least (C:=fun v=>(v:Int)∈reachQ g zs) (fun v hv hS=>?_) (fun i hi ho hc=>?_)
   ·have a:=startR_in (n:=g.n) zs.length (v:Int) (by rw[List.take_length];exact hS) (by omega)
    have P:∀ k,(startR g.n zs zs.length).2 <+: (loopR g (startR g.n zs zs.length) k).2:=by
     intro k
     induction k with
     |zero=>exact List.prefix_refl _
     |succ k ih=>
      unfold loopR
      split
      ·exact ih.trans (fold_pre _ _)
      ·exact ih
    exact(P g.n).subset a
   ·have e:=gok_e hg hi
    obtain⟨j,hj,ej⟩:=List.getElem_of_mem (show((frN g i:Nat):Int)∈(loopR g (startR g.n zs zs.length) g.n).2 from hc)
    have hle:=R.le
    have m:=loop_clo hg R0 g.n j (by omega) hj i hi ho (by rw[List.getD_eq_getElem?_getD,List.getElem?_eq_getElem hj];exact ej.symm)
    exact(R.iff _ e.2.1).1 m
  have:=key r
  rwa [show((z.toNat:Nat):Int)=z by omega]at this
def stA (n:Nat) (l:List Int) (z:Int):List Int:=if(0<=z/\z<n)/\z∉l then l++[z]else l
def startA (n:Nat) (fs:List Int) (k:Nat):List Int:=(fs.take k).foldl (stA n) []
def stepA (es:List Ed) (l:List Int) (i:Nat):List Int:=if(es.getD i default).d≠4611686018427387904/\(es.getD i default).f∈l/\(es.getD i default).t∉l then l++[(es.getD i default).t]else l
def rowA (es:List Ed) (l:List Int) (j:Nat):List Int:=(List.range j).foldl (stepA es) l
def rndA (es:List Ed) (l:List Int) (k:Nat):List Int:=(List.range k).foldl (fun l _=>rowA es l es.length) l
def outA (l:List Int) (k:Nat):List Int:=((List.range k).filter fun(v:Nat)=>decide ((v:Int)∈l)).map fun(v:Nat)=>(v:Int)
def aheadL (n:Nat) (es:List Ed) (fs:List Int):List Int:=outA (rndA es (startA n fs fs.length) n) n
structure AI (n:Nat) (l:List Int):Prop where
 rng:∀ z∈l,0<=z/\z<n
 nd:l.Nodup
theorem AI.push {n:Nat} {l:List Int} (h:AI n l) {z:Int} (hz:0<=z/\z<n) (hno:z∉l):AI n (l++[z]):=by
 refine⟨fun y hy=>?_,?_⟩
 ·rcases List.mem_append.1 hy with hy|hy
  ·exact h.rng y hy
  ·obtain rfl:y=z:=by simpa using hy
   exact hz
 ·rw[List.nodup_append]
  exact⟨h.nd,by simp,fun a ha b hb e=>by obtain rfl:b=z:=(by simpa using hb);exact hno (e▸ha)⟩
theorem startA_succ {n:Nat} {fs:List Int} {k:Nat} (h:k<fs.length):startA n fs (k+1)=stA n (startA n fs k) (fs.getD k default):=by
 unfold startA;rw[take_succ_getD (d:=default) h,List.foldl_append];rfl
theorem foldA_AI {n:Nat}:∀(L:List Int) {l:List Int},AI n l->AI n (L.foldl (stA n) l)
 | [],_,h=>h
 |a::L,l,h=>by
  rw[List.foldl_cons]
  refine foldA_AI L ?_
  unfold stA;split
  ·rename_i q;exact h.push q.1 q.2
  ·exact h
theorem foldA_mem {n:Nat}:∀(L:List Int) {l:List Int} {z:Int},z∈L.foldl (stA n) l↔z∈l∨(z∈L/\0<=z/\z<n)
 | [],l,z=>by simp
 |a::L,l,z=>by
  rw[List.foldl_cons,foldA_mem L,List.mem_cons]
  unfold stA
  split
  ·rename_i q
   rw[List.mem_append,List.mem_singleton]
   constructor
   ·rintro((h|h)|h)
    ·exact .inl h
    ·subst h;exact .inr ⟨.inl rfl,q.1⟩
    ·exact .inr ⟨.inr h.1,h.2⟩
   ·rintro(h|⟨h|h,h2⟩)
    ·exact .inl (.inl h)
    ·exact .inl (.inr h)
    ·exact .inr ⟨h,h2⟩
  ·rename_i q
   constructor
   ·rintro(h|h)
    ·exact .inl h
    ·exact .inr ⟨.inr h.1,h.2⟩
   ·rintro(h|⟨h|h,h2⟩)
    ·exact .inl h
    ·subst h
     rcases Classical.em (z∈l)with w|w
     ·exact .inl w
     ·exact absurd ⟨h2,w⟩ q
    ·exact .inr ⟨h,h2⟩
theorem startA_mem {n:Nat} {fs:List Int} {z:Int}:z∈startA n fs fs.length↔z∈fs/\0<=z/\z<n:=by
 unfold startA;rw[List.take_length,foldA_mem];simp
theorem startA_AI (n:Nat) (fs:List Int) (k:Nat):AI n (startA n fs k):=foldA_AI _ ⟨by simp,by simp⟩
theorem rowA_succ (es:List Ed) (l:List Int) (j:Nat):rowA es l (j+1)=stepA es (rowA es l j) j:=by unfold rowA;rw[List.range_succ,List.foldl_append];rfl
theorem rndA_succ (es:List Ed) (l:List Int) (k:Nat):rndA es l (k+1)=rowA es (rndA es l k) es.length:=by unfold rndA;rw[List.range_succ,List.foldl_append];rfl
theorem stepA_AI {g:Gr} (hg:GOk g) {l:List Int} (h:AI g.n l) {i:Nat} (hi:i<g.es.length):AI g.n (stepA g.es l i):=by
 unfold stepA;split
 ·rename_i q
  have e:=hg.e i hi
  unfold edOk at e
  exact h.push (by omega) q.2.2
 ·exact h
theorem rowA_AI {g:Gr} (hg:GOk g) {l:List Int} (h:AI g.n l):∀ j,j<=g.es.length->AI g.n (rowA g.es l j)
 |0,_=>h
 |j+1,hj=>by rw[rowA_succ];exact stepA_AI hg (rowA_AI hg h j (by omega)) (by omega)
theorem rndA_AI {g:Gr} (hg:GOk g) {l:List Int} (h:AI g.n l):∀ k,AI g.n (rndA g.es l k)
 |0=>h
 |k+1=>by rw[rndA_succ];exact rowA_AI hg (rndA_AI hg h k) _ (Nat.le_refl _)
theorem rowA_pre (es:List Ed) (l:List Int):∀ j,l <+: rowA es l j
 |0=>List.prefix_refl _
 |j+1=>by
  rw[rowA_succ]
  refine(rowA_pre es l j).trans ?_
  unfold stepA;split
  ·exact List.prefix_append _ _
  ·exact List.prefix_refl _
theorem rndA_pre (es:List Ed) (l:List Int) {j:Nat}:∀ d,rndA es l j <+: rndA es l (j+d)
 |0=>List.prefix_refl _
 |d+1=>by rw[<- Nat.add_assoc,rndA_succ];exact(rndA_pre es l d).trans (rowA_pre es _ _)
def CloA (es:List Ed) (l:List Int):Prop:=∀ i,i<es.length->(es.getD i default).d≠4611686018427387904->(es.getD i default).f∈l->(es.getD i default).t∈l
theorem rowA_same {es:List Ed} {l:List Int}:∀ j,(rowA es l j).length<=l.length->rowA es l j=l/\∀ i,i<j->¬ ((es.getD i default).d≠4611686018427387904/\(es.getD i default).f∈l/\(es.getD i default).t∉l)
 |0,_=>⟨rfl,fun i hi=>absurd hi (by omega)⟩
 |j+1,h=>by
  have p:=rowA_pre es l j
  have e:=p.length_le
  rw[rowA_succ]at h ⊢
  unfold stepA at h ⊢
  split at h
  ·rw[List.length_append,List.length_singleton]at h;omega
  ·rename_i q
   obtain⟨a,b⟩:=rowA_same j h
   rw[a]at q
   rw[a,if_neg q]
   refine⟨rfl,fun i hi=>?_⟩
   by_cases w:i=j
   ·subst w;exact q
   ·exact b i (by omega)
theorem rndA_grow {es:List Ed} {l:List Int} (k:Nat):(∃ j,j<k/\CloA es (rndA es l j))∨l.length+k<=(rndA es l k).length:=by
 induction k with
 |zero=>exact .inr (Nat.le_refl _)
 |succ k ih=>
  rcases ih with⟨j,hj,c⟩|h
  ·exact .inl ⟨j,by omega,c⟩
  ·by_cases q:(rowA es (rndA es l k) es.length).length<=(rndA es l k).length
   ·refine .inl ⟨k,by omega,fun i hi h1 h2=>?_⟩
    have:=(rowA_same es.length q).2 i hi
    rcases Classical.em ((es.getD i default).t∈rndA es l k)with w|w
    ·exact w
    ·exact absurd ⟨h1,h2,w⟩ this
   ·rw[rndA_succ];exact .inr (by omega)
theorem rowA_clo {es:List Ed} {l:List Int} (c:CloA es l):∀ j,j<=es.length->rowA es l j=l
 |0,_=>rfl
 |j+1,h=>by
  rw[rowA_succ,rowA_clo c j (by omega)]
  unfold stepA
  rw[if_neg (fun q=>q.2.2 (c j (by omega) q.1 q.2.1))]
theorem rndA_clo {es:List Ed} {l:List Int} {j:Nat} (c:CloA es (rndA es l j)):∀ d,rndA es l (j+d)=rndA es l j
 |0=>rfl
 |d+1=>by rw[<- Nat.add_assoc,rndA_succ,rndA_clo c d,rowA_clo c _ (Nat.le_refl _)]
theorem rndA_all {g:Gr} (hg:GOk g) {l:List Int} (h:AI g.n l):CloA g.es (rndA g.es l g.n):=by
 rcases rndA_grow (es:=g.es) (l:=l) g.n with⟨j,hj,c⟩|q
 ·have:=rndA_clo c (g.n-j)
  rw[show j+(g.n-j)=g.n by omega]at this
  rw[this];exact c
 ·have I:=rndA_AI hg h g.n
  have:=nodup_len I.rng I.nd
  have l0:l=[]:=List.eq_nil_of_length_eq_zero (by omega)
  subst l0
  have c0:CloA g.es (rndA g.es [] 0):=fun i _ _ w=>by cases w
  have:=rndA_clo c0 g.n
  rw[Nat.zero_add]at this
  rw[this];exact c0
theorem stepA_sound {g:Gr} (hg:GOk g) {S:Int->Prop} {l:List Int} {i:Nat} (hi:i<g.es.length) (h:∀ z∈l,Rch g S z.toNat):∀ z∈stepA g.es l i,Rch g S z.toNat:=by
 unfold stepA;split
 ·rename_i q
  intro z hz
  rcases List.mem_append.1 hz with hz|hz
  ·exact h z hz
  ·obtain rfl:z=(g.es.getD i default).t:=by simpa using hz
   exact .step hi (decide_eq_true q.1) (h _ q.2.1)
 ·exact h
theorem rowA_sound {g:Gr} (hg:GOk g) {S:Int->Prop} {l:List Int} (h:∀ z∈l,Rch g S z.toNat):∀ j,j<=g.es.length->∀ z∈rowA g.es l j,Rch g S z.toNat
 |0,_=>h
 |j+1,hj=>by rw[rowA_succ];exact stepA_sound hg (by omega) (rowA_sound hg h j (by omega))
theorem rndA_sound {g:Gr} (hg:GOk g) {S:Int->Prop} {l:List Int} (h:∀ z∈l,Rch g S z.toNat):∀ k,∀ z∈rndA g.es l k,Rch g S z.toNat
 |0=>h
 |k+1=>by rw[rndA_succ];exact rowA_sound hg (rndA_sound hg h k) _ (Nat.le_refl _)
theorem outA_mem {l:List Int} {k:Nat} {z:Int}:z∈outA l k↔0<=z/\z<k/\z∈l:=by
 unfold outA
 rw[List.mem_map]
 constructor
 ·rintro⟨v,hv,rfl⟩
  have a:=List.mem_filter.1 hv
  have b:=List.mem_range.1 a.1
  exact⟨by omega,by omega,of_decide_eq_true a.2⟩
 ·rintro⟨a,b,c⟩
  refine⟨z.toNat,List.mem_filter.2 ⟨List.mem_range.2 (by omega),decide_eq_true ?_⟩,by omega⟩
  rw[show((z.toNat:Nat):Int)=z by omega];exact c
theorem outA_sorted (l:List Int) (k:Nat):(outA l k).Pairwise (· <·):=by
 unfold outA
 rw[List.pairwise_map]
 exact((List.pairwise_lt_range (n:=k)).filter _).imp fun h=>by omega
theorem ahead_iff {g:Gr} (hg:GOk g) {fs:List Int} {z:Int}:z∈aheadL g.n g.es fs↔0<=z/\Rch g (· ∈fs) z.toNat:=by
 unfold aheadL
 rw[outA_mem]
 have I0:=startA_AI g.n fs fs.length
 have C:=rndA_all hg I0
 have I:=rndA_AI hg I0 g.n
 constructor
 ·rintro⟨a,b,c⟩
  refine⟨a,rndA_sound hg (fun y hy=>?_) g.n z c⟩
  have q:=startA_mem.1 hy
  exact .src (by omega) (by rw[show((y.toNat:Nat):Int)=y by omega];exact q.1)
 ·rintro⟨a,r⟩
  have key:(((z.toNat:Nat)):Int)∈rndA g.es (startA g.n fs fs.length) g.n:=by
   refine r.least (C:=fun v=>(v:Int)∈rndA g.es (startA g.n fs fs.length) g.n) (fun v hv hS=>?_) (fun i hi ho hc=>?_)
   ·have p:=rndA_pre g.es (startA g.n fs fs.length) (j:=0) g.n
    rw[Nat.zero_add]at p
    exact p.subset (startA_mem.2 ⟨hS,by omega,by omega⟩)
   ·have e:=gok_e hg hi
    rw[e.2.2.1]at hc
    rw[e.2.2.2]
    exact C i hi (of_decide_eq_true ho) hc
  rw[show((z.toNat:Nat):Int)=z by omega]at key
  exact⟨a,(I.rng z key).2,key⟩
end Go.Sym