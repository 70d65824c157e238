import Derived.Test.YtlldhkhmhgcpaaaDoorR3
import Derived.Test.YtlldhkhmhgcpaaaDoorXD
import Derived.Test.YtlldhkhmhgcpaaaDoorRP
namespace Go.Sym
set_option linter.unusedVariables false
set_option linter.unusedSimpArgs false
open Go.Proofs
set_option maxRecDepth 100000
set_option maxHeartbeats 4000000
theorem getD_map_range {n v:Nat} {f:Nat->Int} (h:v<n):((List.range n).map f).getD v default=f v:=by
 rw[List.getD_eq_getElem?_getD,List.getElem?_map,List.getElem?_range h];rfl
end Go.Sym
namespace Go.Sym
set_option linter.unusedVariables false
set_option linter.unusedSimpArgs false
open Go.Proofs
set_option maxRecDepth 100000
set_option maxHeartbeats 4000000
structure LIX where
 l:List Int
 n:Int
end Go.Sym
namespace Go.Sym
set_option linter.unusedVariables false
set_option linter.unusedSimpArgs false
open Go.Proofs
set_option maxRecDepth 100000
set_option maxHeartbeats 4000000
theorem sorted_ext:∀ {a b:List Int},a.Pairwise (· <·)->b.Pairwise (· <·)->(∀ x,x∈a↔x∈b)->a=b
 | [],b,_,_,h=>by
  cases b with
  |nil=>rfl
  |cons y b=>exact absurd ((h y).2 (by simp)) (by simp)
 |x::a,[],_,_,h=>absurd ((h x).1 (by simp)) (by simp)
 |x::a,y::b,ha,hb,h=>by
  rw[List.pairwise_cons]at ha hb
  have e:x=y:=by
   rcases List.mem_cons.1 ((h x).1 (by simp))with q|q
   ·exact q
   ·rcases List.mem_cons.1 ((h y).2 (by simp))with r|r
    ·exact r.symm
    ·have:=ha.1 y r;have:=hb.1 x q;omega
  subst e
  congr 1
  refine sorted_ext ha.2 hb.2 fun z=>?_
  constructor
  ·intro hz
   rcases List.mem_cons.1 ((h z).1 (by simp[hz]))with q|q
   ·subst q;exact absurd (ha.1 z hz) (by omega)
   ·exact q
  ·intro hz
   rcases List.mem_cons.1 ((h z).2 (by simp[hz]))with q|q
   ·subst q;exact absurd (hb.1 z hz) (by omega)
   ·exact q
theorem elemsZ_mem {ws:List Nat} {x:Int}:x∈elemsZ ws↔0<=x/\x<4096/\hasW ws x.toNat=true:=by
 unfold elemsZ
 rw[List.mem_map]
 constructor
 ·rintro⟨k,hk,rfl⟩
  have:=elemsW_mem.1 hk
  exact⟨by omega,by omega,by simpa using this.2⟩
 ·rintro⟨h1,h2,h3⟩
  exact⟨x.toNat,elemsW_mem.2 ⟨by omega,h3⟩,by omega⟩
theorem elemsZ_sorted (ws:List Nat):(elemsZ ws).Pairwise (· <·):=by
 unfold elemsZ
 rw[List.pairwise_map]
 exact(elemsW_sorted ws).imp (fun h=>by omega)
def ofZ (l:List Int) (k:Nat):List Int:=elemsZ (ofW l k)
theorem pushL_rows {l:List Int} {c:Int}:RowsEq k1 (l++[c]).length (appRows l.length (encL encI l) 0 (litRows [[.i c]])) (encL encI (l++[c])):=
 rowsEq_push rfl (by simp) (by simp only[rowEq,Kd.eqv,k1];exact⟨rfl,trivial⟩)
end Go.Sym