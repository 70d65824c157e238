import Derived.Test.YtlldhkhmhgcpaaaDoorR5
import Derived.Test.YtlldhkhmhgcpaaaDoorXD
namespace Go.Sym
set_option linter.unusedVariables false
set_option linter.unusedSimpArgs false
open Go.Proofs
set_option maxRecDepth 100000
set_option maxHeartbeats 4000000
def putStep (f:Nat->Int × List Int) (s:Int × List Int) (k:Nat):Int × List Int:=if s.1<0∨(f k).1<s.1 then f k else s
def putR (g:Gr) (ts of:List Int):Nat->List Int->Nat->Int × List Int
 |0,there,_=>((worstR g ts there of).1,there)
 |m+1,there,fr=>(List.range (g.n-fr)).foldl (fun s i=>putStep (fun k=>putR g ts of m (there++[(k:Int)]) k) s (fr+i)) (-1,there)
def putAt (g:Gr) (ts of:List Int) (m:Nat) (there:List Int) (fr j:Nat):Int × List Int:=
 (List.range j).foldl (fun s i=>putStep (fun k=>putR g ts of m (there++[(k:Int)]) k) s (fr+i)) (-1,there)
theorem putAt_succ {g:Gr} {ts of:List Int} {m:Nat} {there:List Int} {fr j:Nat}:putAt g ts of m there fr (j+1)=putStep (fun k=>putR g ts of m (there++[(k:Int)]) k) (putAt g ts of m there fr j) (fr+j):=by
 unfold putAt;rw[List.range_succ,List.foldl_append];rfl
structure PX where
 g:Gr
 ts:List Int
 of:List Int
 there:List Int
 from_:Nat
 more:Nat
structure PXok (x:PX):Prop where
 g:GOk x.g
 n:x.g.n<=12
 of:x.of.length<=1048576
 t:x.there.length+x.more<=4
theorem PXok.w {x:PX} (h:PXok x):WXok ⟨x.g,x.ts,x.there,x.of⟩:=⟨⟨h.g,h.n,by have:=h.t;show x.there.length<=_;omega⟩,h.of⟩
theorem put_lt {g:Gr} {ts of:List Int} {m:Nat} {there:List Int} {fr j:Nat} (h:(putR g ts of m (there++[((fr+j:Nat):Int)]) (fr+j)).1<(putAt g ts of m there fr j).1):
  putAt g ts of m there fr (j+1)=putR g ts of m (there++[((fr+j:Nat):Int)]) (fr+j):=by rw[putAt_succ];exact if_pos (.inr h)
theorem put_neg {g:Gr} {ts of:List Int} {m:Nat} {there:List Int} {fr j:Nat} (h:(putAt g ts of m there fr j).1<0):
  putAt g ts of m there fr (j+1)=putR g ts of m (there++[((fr+j:Nat):Int)]) (fr+j):=by rw[putAt_succ];exact if_pos (.inl h)
theorem put_no {g:Gr} {ts of:List Int} {m:Nat} {there:List Int} {fr j:Nat} (h1:¬ (putAt g ts of m there fr j).1<0) (h:¬ (putR g ts of m (there++[((fr+j:Nat):Int)]) (fr+j)).1<(putAt g ts of m there fr j).1):
  putAt g ts of m there fr (j+1)=putAt g ts of m there fr j:=by rw[putAt_succ];exact if_neg (fun q=>q.elim h1 h)
end Go.Sym
namespace Go.Sym
set_option linter.unusedVariables false
set_option linter.unusedSimpArgs false
open Go.Proofs
set_option maxRecDepth 100000
set_option maxHeartbeats 4000000
structure BX where
 g:Gr
 ts:List Int
 of:List Int
 u:Int
def boundR (x:BX):Int × List Int:=if x.u<0∨4<x.u then(0,[])else if x.u=0 then((worstR x.g x.ts [] x.of).1,[])else putR x.g x.ts x.of x.u.toNat [] 0
structure BXok (x:BX):Prop where
 g:GOk x.g
 n:x.g.n<=12
 of:x.of.length<=1048576
end Go.Sym