import Derived.Test.YtcghhlodddpmaaaDoorP2
namespace Go.Sym
set_option linter.unusedVariables false
theorem sorted_ext:∀ {a b:List Int},a.Pairwise (· <·)->b.Pairwise (· <·)->(∀ x,x∈a↔x∈b)->a=b
 | [],b,_,_,h=>by
  cases b with
  |nil=>rfl
  |cons y b=>exact absurd ((h y).2 (by simp)) (by simp)
 |x::a,[],_,_,h=>absurd ((h x).1 (by simp)) (by simp)
 |x::a,y::b,ha,hb,h=>by
  rw[List.pairwise_cons]at ha hb
  have e:x=y:=by
   rcases List.mem_cons.1 ((h x).1 (by simp))with q|q
   ·exact q
   ·rcases List.mem_cons.1 ((h y).2 (by simp))with r|r
    ·exact r.symm
    ·have:=ha.1 y r;have:=hb.1 x q;omega
  subst e
  congr 1
  refine sorted_ext ha.2 hb.2 fun z=>?_
  constructor
  ·intro hz
   rcases List.mem_cons.1 ((h z).1 (by simp[hz]))with q|q
   ·subst q;exact absurd (ha.1 z hz) (by omega)
   ·exact q
  ·intro hz
   rcases List.mem_cons.1 ((h z).2 (by simp[hz]))with q|q
   ·subst q;exact absurd (hb.1 z hz) (by omega)
   ·exact q
theorem elemsZ_mem {ws:List Nat} {x:Int}:x∈elemsZ ws↔0<=x/\x<4096/\hasW ws x.toNat=true:=by
 unfold elemsZ
 rw[List.mem_map]
 constructor
 ·rintro⟨k,hk,rfl⟩
  have:=elemsW_mem.1 hk
  exact⟨by omega,by omega,by simpa using this.2⟩
 ·rintro⟨h1,h2,h3⟩
  exact⟨x.toNat,elemsW_mem.2 ⟨by omega,h3⟩,by omega⟩
theorem elemsZ_sorted (ws:List Nat):(elemsZ ws).Pairwise (· <·):=by
 unfold elemsZ
 rw[List.pairwise_map]
 exact(elemsW_sorted ws).imp (fun h=>by omega)
theorem mem_addOk {ws:List Nat} (h:WOk ws) {a x:Int}:x∈elemsZ (addOk ws a)↔x∈elemsZ ws∨(x=a/\0<=a/\a<4096):=by
 unfold addOk
 split
 ·rename_i ha
  rw[elemsZ_mem,elemsZ_mem,hasW_add h ha,Bool.or_eq_true,decide_eq_true_eq]
  constructor
  ·rintro⟨h1,h2,h3|h3⟩
   ·exact .inl ⟨h1,h2,h3⟩
   ·exact .inr ⟨by omega,ha⟩
  ·rintro(⟨h1,h2,h3⟩|⟨h1,h2⟩)
   ·exact⟨h1,h2,.inl h3⟩
   ·subst h1;exact⟨h2.1,h2.2,.inr rfl⟩
 ·rename_i ha
  exact⟨.inl,fun q=>q.elim id fun q=>absurd q.2 ha⟩
theorem mem_ofW (l:List Int):∀(ws:List Nat),WOk ws->∀ x:Int,x∈elemsZ (l.foldl addOk ws)↔x∈elemsZ ws∨(x∈l/\0<=x/\x<4096):=by
 induction l with
 |nil=>intro ws h x;simp
 |cons a l ih=>
  intro ws h x
  rw[List.foldl_cons,ih _ (h.addOk a),mem_addOk h,List.mem_cons]
  constructor
  ·rintro((h1|⟨h1,h2⟩)|⟨h1,h2⟩)
   ·exact .inl h1
   ·exact .inr ⟨.inl h1,h1▸h2⟩
   ·exact .inr ⟨.inr h1,h2⟩
  ·rintro(h1|⟨h1|h1,h2⟩)
   ·exact .inl (.inl h1)
   ·exact .inl (.inr ⟨h1,h1▸h2⟩)
   ·exact .inr ⟨h1,h2⟩
theorem ofW_mem {l:List Int} {x:Int}:x∈elemsZ (ofW l l.length)↔x∈l/\0<=x/\x<4096:=by
 unfold ofW
 rw[List.take_length,mem_ofW l _ .nil x]
 have:elemsZ nilW=[]:=by unfold elemsZ;rw[nilW_elems];rfl
 rw[this];simp
theorem ofW_sorted {l:List Int} (hs:l.Pairwise (· <·)) (h:∀ x∈l,0<=x/\x<4096):elemsZ (ofW l l.length)=l:=
 sorted_ext (elemsZ_sorted _) hs fun x=>ofW_mem.trans ⟨fun q=>q.1,fun q=>⟨q,h x q⟩⟩
end Go.Sym