import Derived.Test.YtlldhkhmhgcpaaaDoorPL2
namespace Go.Sym
set_option linter.unusedVariables false
set_option linter.unusedSimpArgs false
def fndU (us:List Un) (id:Int):Int:=match us.findIdx? (fun u=>decide (u.id=id))with
 |some k=>(k:Int)
 |none=> -1
theorem fnd_some {us:List Un} {id:Int} {k:Nat} (hk:k<us.length) (h:(us.getD k default).id=id) (hn:∀ j,j<k->(us.getD j default).id≠id):fndU us id=k:=by
 have e:us.findIdx? (fun u=>decide (u.id=id))=some k:=by
  rw[List.findIdx?_eq_some_iff_getElem]
  have g:∀ j (hj:j<us.length),us.getD j default=us[j]:=fun j hj=>by rw[List.getD_eq_getElem?_getD,List.getElem?_eq_getElem hj];rfl
  refine⟨hk,?_,fun j hj=>?_⟩
  ·rw[g k hk]at h
   simpa using h
  ·have:=hn j hj
   rw[g j (by omega)]at this
   simpa using this
 unfold fndU
 rw[e]
theorem fnd_none {us:List Un} {id:Int} (hn:∀ j,j<us.length->(us.getD j default).id≠id):fndU us id= -1:=by
 have e:us.findIdx? (fun u=>decide (u.id=id))=none:=by
  rw[List.findIdx?_eq_none_iff]
  intro u hu
  obtain⟨j,hj,rfl⟩:=List.getElem_of_mem hu
  have:=hn j hj
  rw[List.getD_eq_getElem?_getD,List.getElem?_eq_getElem hj]at this
  simpa using this
 unfold fndU
 rw[e]
theorem fnd_cases (us:List Un) (id:Int):(∃ k,k<us.length/\fndU us id=(k:Int)/\(us.getD k default).id=id/\∀ j,j<k->(us.getD j default).id≠id)∨(fndU us id= -1/\∀ j,j<us.length->(us.getD j default).id≠id):=by
 by_cases h:∃ j,j<us.length/\(us.getD j default).id=id
 ·have hx:∃ k,(k<us.length/\(us.getD k default).id=id)/\∀ j,j<k->¬ (j<us.length/\(us.getD j default).id=id):=by
   obtain⟨j,hj⟩:=h
   induction j using Nat.strongRecOn with
   |_ j ih=>
    by_cases q:∃ i,i<j/\(i<us.length/\(us.getD i default).id=id)
    ·obtain⟨i,hi,hq⟩:=q
     exact ih i hi hq
    ·exact⟨j,hj,fun i hi hq=>q ⟨i,hi,hq⟩⟩
  obtain⟨k,⟨h1,h2⟩,h3⟩:=hx
  have h4:∀ j,j<k->(us.getD j default).id≠id:=fun j hj e=>h3 j hj ⟨by omega,e⟩
  exact .inl ⟨k,h1,fnd_some h1 h2 h4,h2,h4⟩
 ·have h1:∀ j,j<us.length->(us.getD j default).id≠id:=fun j hj e=>h ⟨j,hj,e⟩
  exact .inr ⟨fnd_none h1,h1⟩
def dstU (us:List Un):Bool:=decide (us.map (·.id)).Nodup
def okM (us:List Un) (l:List Mv) (i:Nat):Prop:=
 0<=fndU us (l.getD i default).1/\(us.getD (fndU us (l.getD i default).1).toNat default).st=1/\(i=0∨(l.getD (i-1) default).1<(l.getD i default).1)/\
 (0<=(l.getD i default).2/\(l.getD i default).2<4096)/\(l.getD i default).2≠(us.getD (fndU us (l.getD i default).1).toNat default).nd
instance (us:List Un) (l:List Mv) (i:Nat):Decidable (okM us l i):=by unfold okM;infer_instance
def ERRI:Int:=1
def okMs (us:List Un) (l:List Mv):Bool:=dstU us&&decide (∀ i,i<l.length->okM us l i)
def idxA (us:List Un) (l:List Mv) (n:Nat):List Int:=(l.take n).map fun m=>fndU us m.1
def putU (us:List Un) (o:List Un) (m:Mv):List Un:=o.set (fndU us m.1).toNat { o.getD (fndU us m.1).toNat default with nd:=m.2 }
def appA (us:List Un) (l:List Mv) (n:Nat):List Un:=(l.take n).foldl (putU us) us
def appU (us:List Un) (l:List Mv):List Un:=if okMs us l then appA us l l.length else []
def appE2 (us:List Un) (l:List Mv):Int:=if okMs us l then 0 else ERRI
end Go.Sym