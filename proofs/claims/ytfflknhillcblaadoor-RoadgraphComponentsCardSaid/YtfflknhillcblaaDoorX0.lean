import Derived.Test.YtfflknhillcblaaDoorG5
namespace Go.Sym
set_option linter.unusedVariables false
set_option linter.unusedSimpArgs false
def adjN (g:Gr) (s:Bool) (x:Nat):List Nat:=(List.range g.es.length).filter fun i=>cond s (g.es.getD i default).f (g.es.getD i default).t==(x:Int)
theorem adjG_eq (g:Gr) (s:Bool) (x:Nat):adjG g s x=(adjN g s x).map fun(i:Nat)=>(i:Int):=rfl
theorem adjN_mem {g:Gr} {s:Bool} {x i:Nat}:i∈adjN g s x↔i<g.es.length/\cond s (g.es.getD i default).f (g.es.getD i default).t=(x:Int):=by
 unfold adjN;rw[List.mem_filter,List.mem_range];simp
def opn (g:Gr) (i:Nat):Bool:=decide ((g.es.getD i default).d≠4611686018427387904)
def toN (g:Gr) (i:Nat):Nat:=(g.es.getD i default).t.toNat
def frN (g:Gr) (i:Nat):Nat:=(g.es.getD i default).f.toNat
def stepR (g:Gr) (s:List Bool × List Int) (i:Nat):List Bool × List Int:=
 if opn g i=true/\s.1.getD (toN g i) default=false then(s.1.set (toN g i) true,s.2++[(g.es.getD i default).t])else s
def startR (n:Nat) (zs:List Int) (k:Nat):List Bool × List Int:=
 (zs.take k).foldl (fun s z=>if z<(n:Int)then(s.1.set z.toNat true,s.2++[z])else s) (List.replicate n false,[])
def rowR (g:Gr) (s:List Bool × List Int) (u k:Nat):List Bool × List Int:=((adjN g true u).take k).foldl (stepR g) s
def nodeR (g:Gr) (s:List Bool × List Int) (u:Nat):List Bool × List Int:=(adjN g true u).foldl (stepR g) s
def loopR (g:Gr) (s:List Bool × List Int):Nat->List Bool × List Int
 |0=>s
 |k+1=>if k<(loopR g s k).2.length then nodeR g (loopR g s k) ((loopR g s k).2.getD k default).toNat else loopR g s k
def reachQ (g:Gr) (zs:List Int):List Int:=(loopR g (startR g.n zs zs.length) g.n).2
structure RIs (n:Nat) (s:List Bool × List Int):Prop where
 len:s.1.length=n
 rng:∀ z∈s.2,0<=z/\z<n
 iff:∀ v,v<n->(s.1.getD v default=true↔(v:Int)∈s.2)
 nd:s.2.Nodup
theorem nodup_len {n:Nat} {l:List Int} (h:∀ z∈l,0<=z/\z<n) (hn:l.Nodup):l.length<=n:=by
 have h1:(l.map Int.toNat).Nodup:=by
  refine(List.pairwise_map).2 (List.Pairwise.imp_of_mem ?_ hn)
  intro a b ha hb hab e
  have:=h a ha;have:=h b hb
  exact hab (by omega)
 have h2:(l.map Int.toNat) ⊆ List.range n:=by
  intro x hx
  obtain⟨z,hz,rfl⟩:=List.mem_map.1 hx
  have:=h z hz
  exact List.mem_range.2 (by omega)
 have:=h1.length_le_of_subset h2
 simpa using this
theorem RIs.le {n:Nat} {s:List Bool × List Int} (h:RIs n s):s.2.length<=n:=nodup_len h.rng h.nd
theorem getD_setB1 {s:List Bool} {v i:Nat} {b:Bool}:(s.set v b).getD i default=if v=i/\i<s.length then b else s.getD i default:=by
 simp only[List.getD_eq_getElem?_getD,List.getElem?_set]
 by_cases h:v=i
 ·subst h
  by_cases h2:v<s.length
  ·simp[h2]
  ·simp[h2]
 ·simp[h]
theorem RIs.push {n:Nat} {s:List Bool × List Int} (h:RIs n s) {z:Int} (hz:0<=z/\z<n) (h0:s.1.getD z.toNat default=false):RIs n (s.1.set z.toNat true,s.2++[z]):=by
 have hno:z∉s.2:=fun q=>by
  have:=(h.iff z.toNat (by omega)).2 (by rw[show((z.toNat:Nat):Int)=z by omega];exact q)
  rw[h0]at this;cases this
 refine⟨by show(s.1.set _ _).length=n;rw[List.length_set];exact h.len,?_,fun v hv=>?_,?_⟩
 ·intro y hy
  rcases List.mem_append.1 hy with hy|hy
  ·exact h.rng y hy
  ·obtain rfl:y=z:=by simpa using hy
   exact hz
 ·show(s.1.set _ _).getD v default=true↔(v:Int)∈s.2++[z]
  rw[getD_setB1,h.len,List.mem_append,List.mem_singleton]
  by_cases e:z.toNat=v
  ·rw[if_pos ⟨e,hv⟩];exact⟨fun _=>.inr (by omega),fun _=>rfl⟩
  ·rw[if_neg (fun q=>e q.1),h.iff v hv]
   exact⟨.inl,fun q=>q.elim id fun q=>absurd (by omega) e⟩
 ·show(s.2++[z]).Nodup
  rw[List.nodup_append]
  exact⟨h.nd,by simp,fun a ha b hb e=>by obtain rfl:b=z:=(by simpa using hb);exact hno (e▸ha)⟩
theorem RIs.step {g:Gr} (hg:GOk g) {s:List Bool × List Int} (h:RIs g.n s) {i:Nat} (hi:i<g.es.length):RIs g.n (stepR g s i):=by
 unfold stepR
 split
 ·rename_i q
  have e:=hg.e i hi
  unfold edOk at e
  exact h.push (z:=(g.es.getD i default).t) (by omega) q.2
 ·exact h
theorem fold_RI {g:Gr} (hg:GOk g):∀(L:List Nat) {s:List Bool × List Int},RIs g.n s->(∀ i∈L,i<g.es.length)->RIs g.n (L.foldl (stepR g) s)
 | [],_,h,_=>h
 |a::L,_,h,hL=>by rw[List.foldl_cons];exact fold_RI hg L (h.step hg (hL a (by simp))) fun i hi=>hL i (List.mem_cons_of_mem _ hi)
theorem RIs.row {g:Gr} (hg:GOk g) {s:List Bool × List Int} (h:RIs g.n s) (u k:Nat):RIs g.n (rowR g s u k):=fold_RI hg _ h fun i hi=>(adjN_mem.1 (List.mem_of_mem_take hi)).1
theorem RIs.node {g:Gr} (hg:GOk g) {s:List Bool × List Int} (h:RIs g.n s) (u:Nat):RIs g.n (nodeR g s u):=fold_RI hg _ h fun i hi=>(adjN_mem.1 hi).1
theorem RIs.loop {g:Gr} (hg:GOk g) {s:List Bool × List Int} (h:RIs g.n s):∀ k,RIs g.n (loopR g s k)
 |0=>h
 |k+1=>by
  unfold loopR
  split
  ·exact(h.loop hg k).node hg _
  ·exact h.loop hg k
theorem RIs.zero (n:Nat):RIs n (List.replicate n false,[]):=⟨by simp,by simp,fun v hv=>by simp[List.getD_eq_getElem?_getD,List.getElem?_replicate,hv],by simp⟩
theorem startR_succ {n:Nat} {zs:List Int} {k:Nat} (h:k<zs.length):startR n zs (k+1)=if zs.getD k default<(n:Int)then((startR n zs k).1.set (zs.getD k default).toNat true,(startR n zs k).2++[zs.getD k default])else startR n zs k:=by
 unfold startR;rw[take_succ_getD (d:=default) h,List.foldl_append];rfl
theorem startR_mem {n:Nat} {zs:List Int}:∀(k:Nat),∀ z∈(startR n zs k).2,z∈zs.take k
 |0,z,hz=>by simp[startR]at hz
 |k+1,z,hz=>by
  by_cases h:k<zs.length
  ·rw[startR_succ h]at hz
   rw[take_succ_getD (d:=default) h,List.mem_append]
   split at hz
   ·rcases List.mem_append.1 hz with q|q
    ·exact .inl (startR_mem k z q)
    ·exact .inr q
   ·exact .inl (startR_mem k z hz)
  ·have e:zs.take (k+1)=zs.take k:=by rw[List.take_of_length_le (by omega),List.take_of_length_le (by omega)]
   have e2:startR n zs (k+1)=startR n zs k:=by unfold startR;rw[e]
   rw[e2]at hz;rw[e];exact startR_mem k z hz
theorem startR_in {n:Nat} {zs:List Int}:∀(k:Nat),∀ z∈zs.take k,z<(n:Int)->z∈(startR n zs k).2
 |0,z,hz,_=>by simp at hz
 |k+1,z,hz,hn=>by
  by_cases h:k<zs.length
  ·rw[take_succ_getD (d:=default) h,List.mem_append]at hz
   rw[startR_succ h]
   rcases hz with q|q
   ·have:=startR_in k z q hn
    split
    ·exact List.mem_append.2 (.inl this)
    ·exact this
   ·obtain rfl:z=zs.getD k default:=by simpa using q
    rw[if_pos hn];exact List.mem_append.2 (.inr (by simp))
  ·have e:zs.take (k+1)=zs.take k:=by rw[List.take_of_length_le (by omega),List.take_of_length_le (by omega)]
   have e2:startR n zs (k+1)=startR n zs k:=by unfold startR;rw[e]
   rw[e]at hz;rw[e2];exact startR_in k z hz hn
theorem startR_RI {n:Nat} {zs:List Int} (hs:zs.Nodup) (h0:∀ z∈zs,0<=z):∀ k,RIs n (startR n zs k)
 |0=>RIs.zero n
 |k+1=>by
  have q:=startR_RI (n:=n) hs h0 k
  by_cases h:k<zs.length
  ·rw[startR_succ h]
   split
   ·rename_i hn
    have e:zs.getD k default=zs[k]:=by rw[List.getD_eq_getElem?_getD,List.getElem?_eq_getElem h];rfl
    have z0:=h0 _ (List.getElem_mem h)
    refine q.push ⟨by rw[e];exact z0,hn⟩ ?_
    cases w:(startR n zs k).1.getD (zs.getD k default).toNat default with
    |false=>rfl
    |true=>
     have m:=(q.iff (zs.getD k default).toNat (by omega)).1 w
     rw[show(((zs.getD k default).toNat:Nat):Int)=zs.getD k default by omega]at m
     have m:=startR_mem k _ m
     rw[e]at m
     obtain⟨j,hj,ej⟩:=List.getElem_of_mem m
     rw[List.length_take]at hj
     rw[List.getElem_take]at ej
     exact absurd ej (List.pairwise_iff_getElem.1 hs j k (by omega) h (by omega))
   ·exact q
  ·have e2:startR n zs (k+1)=startR n zs k:=by unfold startR;rw[List.take_of_length_le (by omega),List.take_of_length_le (by omega)]
   rw[e2];exact q
theorem loopR_stay {g:Gr} {s:List Bool × List Int} {k:Nat} (h:(loopR g s k).2.length<=k):∀ j,loopR g s (k+j)=loopR g s k
 |0=>rfl
 |j+1=>by
  have e:=loopR_stay h j
  show(if k+j<(loopR g s (k+j)).2.length then nodeR g (loopR g s (k+j)) ((loopR g s (k+j)).2.getD (k+j) default).toNat else loopR g s (k+j))=_
  rw[e,if_neg (by omega)]
theorem reachQ_is {g:Gr} (hg:GOk g) {zs:List Int} (h:RIs g.n (startR g.n zs zs.length)) {k:Nat} (hk:(loopR g (startR g.n zs zs.length) k).2.length<=k) (hn:k<=g.n):(loopR g (startR g.n zs zs.length) k).2=reachQ g zs:=by
 unfold reachQ
 have:=loopR_stay hk (g.n-k)
 rw[show k+(g.n-k)=g.n by omega]at this
 rw[this]
end Go.Sym