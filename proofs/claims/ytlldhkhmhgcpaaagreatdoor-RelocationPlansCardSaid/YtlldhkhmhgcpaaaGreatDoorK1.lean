import Derived.Test.YtlldhkhmhgcpaaaGreatDoorR5
import Derived.Test.YtlldhkhmhgcpaaaGreatDoorI2
import Derived.Test.YtlldhkhmhgcpaaaGreatDoorXD
import Derived.Test.YtlldhkhmhgcpaaaGreatDoorAP
namespace Go.Sym
set_option linter.unusedVariables false
set_option linter.unusedSimpArgs false
open Go.Proofs
set_option maxRecDepth 100000
set_option maxHeartbeats 4000000
theorem hasW_all:∀(k:Nat),k<=4096->∀ i,hasW (allW k) i=decide (i<k)
 |0,_,i=>by show hasW nilW i=_;rw[hasW_nil];simp
 |k+1,h,i=>by
  rw[allW_succ,hasW_add (allW_ok k) (by omega),hasW_all k (by omega)]
  by_cases h1:i<k
  ·simp[h1];omega
  ·by_cases h2:i=k
   ·simp[h2]
   ·have:¬ i<k+1:=by omega
    simp[h1,h2,this]
def nodesW (n:Nat) (ws:List Nat):List Int:=(elemsZ ws).filter fun x=>decide (x<n)
theorem elems_both {ws:List Nat} (h:WOk ws) {n:Nat} (hn:n<=4096):elemsZ (bothW ws (allW n))=nodesW n ws:=by
 unfold nodesW
 refine sorted_ext (elemsZ_sorted _) ((elemsZ_sorted _).filter _) fun x=>?_
 rw[elemsZ_mem,List.mem_filter,elemsZ_mem,hasW_both h,hasW_all n hn]
 constructor
 ·rintro⟨a,b,c⟩
  rw[Bool.and_eq_true]at c
  have:=of_decide_eq_true c.2
  exact⟨⟨a,b,c.1⟩,decide_eq_true (by omega)⟩
 ·rintro⟨⟨a,b,c⟩,d⟩
  have:=of_decide_eq_true d
  exact⟨a,b,by rw[Bool.and_eq_true];exact⟨c,decide_eq_true (by omega)⟩⟩
structure GWX where
 g:Gr
 ws:List Nat
structure GWok (x:GWX):Prop where
 n:x.g.n<=4096
 w:WOk x.ws
theorem minN {n:Nat} (h:n<=4096):(min (n:Int) 4096).toNat=n:=by omega
theorem elems_min {ws:List Nat} (h:WOk ws) {n:Nat} (hn:n<=4096):elemsZ (bothW ws (allW (min (n:Int) 4096).toNat))=nodesW n ws:=by rw[minN hn];exact elems_both h hn
end Go.Sym
namespace Go.Sym
set_option linter.unusedVariables false
set_option linter.unusedSimpArgs false
open Go.Proofs
set_option maxRecDepth 100000
set_option maxHeartbeats 4000000
structure YX where
 g:Gr
 ts:List Int
 us:List Un
 ws:List Nat
 t:Int
structure YXok (x:YX):Prop where
 u:UXok ⟨x.g,x.ts,x.us,[]⟩
 w:WOk x.ws
theorem YXok.g {x:YX} (h:YXok x):GWok ⟨x.g,x.ws⟩:=⟨h.u.g.n,h.w⟩
def worstW (g:Gr) (ts:List Int) (us:List Un) (ws:List Nat):Int × Int:=worstF (distG g ts (freeL us) true) (nodesW g.n ws)
end Go.Sym
namespace Go.Sym
set_option linter.unusedVariables false
set_option linter.unusedSimpArgs false
open Go.Proofs Go.RowKit
set_option maxRecDepth 100000
set_option maxHeartbeats 8000000
structure GnX where
 g:Gr
 ts:List Int
 us:List Un
 ws:List Nat
 l:List Mv
structure GnOk (x:GnX):Prop where
 g:GOk x.g
 n:x.g.n<=12
 us:x.us.length<=1000
 ws:WOk x.ws
 l:x.l.length<=1000
def wb (x:GnX):Int × Int:=worstW x.g x.ts x.us x.ws
def wa (x:GnX):Int × Int:=worstW x.g x.ts (appU x.us x.l) x.ws
def GnX.i (x:GnX):IdX:=⟨x.us,x.l⟩
end Go.Sym