import Derived.Test.YtfflknhillcblaaDoorX0
namespace Go.Sym
set_option linter.unusedVariables false
set_option linter.unusedSimpArgs false
inductive Rch (g:Gr) (S:Int->Prop):Nat->Prop where
 |src {v:Nat}:v<g.n->S v->Rch g S v
 |step {i:Nat}:i<g.es.length->opn g i=true->Rch g S (frN g i)->Rch g S (toN g i)
theorem gok_e {g:Gr} (hg:GOk g) {i:Nat} (hi:i<g.es.length):frN g i<g.n/\toN g i<g.n/\((frN g i:Nat):Int)=(g.es.getD i default).f/\((toN g i:Nat):Int)=(g.es.getD i default).t:=by
 have e:=hg.e i hi
 unfold edOk at e
 unfold frN toN
 omega
theorem Rch.lt {g:Gr} (hg:GOk g) {S:Int->Prop} {v:Nat} (h:Rch g S v):v<g.n:=by
 cases h with
 |src h _=>exact h
 |step hi _ _=>exact(gok_e hg hi).2.1
theorem Rch.mono {g:Gr} {S S':Int->Prop} (h:∀ v:Nat,S v->S' v) {v:Nat} (r:Rch g S v):Rch g S' v:=by
 induction r with
 |src a b=>exact .src a (h _ b)
 |step a b _ ih=>exact .step a b ih
def stA (n:Nat) (l:List Int) (z:Int):List Int:=if(0<=z/\z<n)/\z∉l then l++[z]else l
def startA (n:Nat) (fs:List Int) (k:Nat):List Int:=(fs.take k).foldl (stA n) []
def stepA (es:List Ed) (l:List Int) (i:Nat):List Int:=if(es.getD i default).d≠4611686018427387904/\(es.getD i default).f∈l/\(es.getD i default).t∉l then l++[(es.getD i default).t]else l
def rowA (es:List Ed) (l:List Int) (j:Nat):List Int:=(List.range j).foldl (stepA es) l
def rndA (es:List Ed) (l:List Int) (k:Nat):List Int:=(List.range k).foldl (fun l _=>rowA es l es.length) l
def outA (l:List Int) (k:Nat):List Int:=((List.range k).filter fun(v:Nat)=>decide ((v:Int)∈l)).map fun(v:Nat)=>(v:Int)
def aheadL (n:Nat) (es:List Ed) (fs:List Int):List Int:=outA (rndA es (startA n fs fs.length) n) n
structure AI (n:Nat) (l:List Int):Prop where
 rng:∀ z∈l,0<=z/\z<n
 nd:l.Nodup
theorem AI.push {n:Nat} {l:List Int} (h:AI n l) {z:Int} (hz:0<=z/\z<n) (hno:z∉l):AI n (l++[z]):=by
 refine⟨fun y hy=>?_,?_⟩
 ·rcases List.mem_append.1 hy with hy|hy
  ·exact h.rng y hy
  ·obtain rfl:y=z:=by simpa using hy
   exact hz
 ·rw[List.nodup_append]
  exact⟨h.nd,by simp,fun a ha b hb e=>by obtain rfl:b=z:=(by simpa using hb);exact hno (e▸ha)⟩
theorem startA_succ {n:Nat} {fs:List Int} {k:Nat} (h:k<fs.length):startA n fs (k+1)=stA n (startA n fs k) (fs.getD k default):=by
 unfold startA;rw[take_succ_getD (d:=default) h,List.foldl_append];rfl
theorem foldA_AI {n:Nat}:∀(L:List Int) {l:List Int},AI n l->AI n (L.foldl (stA n) l)
 | [],_,h=>h
 |a::L,l,h=>by
  rw[List.foldl_cons]
  refine foldA_AI L ?_
  unfold stA;split
  ·rename_i q;exact h.push q.1 q.2
  ·exact h
theorem startA_AI (n:Nat) (fs:List Int) (k:Nat):AI n (startA n fs k):=foldA_AI _ ⟨by simp,by simp⟩
theorem rowA_succ (es:List Ed) (l:List Int) (j:Nat):rowA es l (j+1)=stepA es (rowA es l j) j:=by unfold rowA;rw[List.range_succ,List.foldl_append];rfl
theorem rndA_succ (es:List Ed) (l:List Int) (k:Nat):rndA es l (k+1)=rowA es (rndA es l k) es.length:=by unfold rndA;rw[List.range_succ,List.foldl_append];rfl
theorem stepA_AI {g:Gr} (hg:GOk g) {l:List Int} (h:AI g.n l) {i:Nat} (hi:i<g.es.length):AI g.n (stepA g.es l i):=by
 unfold stepA;split
 ·rename_i q
  have e:=hg.e i hi
  unfold edOk at e
  exact h.push (by omega) q.2.2
 ·exact h
theorem rowA_AI {g:Gr} (hg:GOk g) {l:List Int} (h:AI g.n l):∀ j,j<=g.es.length->AI g.n (rowA g.es l j)
 |0,_=>h
 |j+1,hj=>by rw[rowA_succ];exact stepA_AI hg (rowA_AI hg h j (by omega)) (by omega)
theorem rndA_AI {g:Gr} (hg:GOk g) {l:List Int} (h:AI g.n l):∀ k,AI g.n (rndA g.es l k)
 |0=>h
 |k+1=>by rw[rndA_succ];exact rowA_AI hg (rndA_AI hg h k) _ (Nat.le_refl _)
end Go.Sym