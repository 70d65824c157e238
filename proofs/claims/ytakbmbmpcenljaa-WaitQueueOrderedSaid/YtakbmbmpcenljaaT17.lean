import Derived.Test.YtakbmbmpcenljaaT16
namespace Go.Sym
set_option linter.unusedVariables false
set_option linter.unusedSimpArgs false
open Go.Proofs
set_option maxRecDepth 100000
set_option maxHeartbeats 4000000
theorem both_b {P:Program} [Glob] {f:Nat} {X:Type} {pre:X->Prop} {t:X->Bool} {a:X->List SV} {g:X->List (Nat × Blk)} {r:X->SV} {g1:X->List (Nat × Blk)} (h1:Good P f ⟨X,fun x=>pre x/\t x=true,a,g,r,g1⟩) (h2:Good P f ⟨X,fun x=>pre x/\t x=false,a,g,r,g1⟩):
  Good P f ⟨X,pre,a,g,r,g1⟩:=by
 intro x hx
 cases h:t x with
 |true=>exact h1 x ⟨hx,h⟩
 |false=>exact h2 x ⟨hx,h⟩
structure Lwx where
 n:Nx
 l:List Act
 now:Int
def Lwx.r (x:Lwx):Rux:=⟨x.n,x.l⟩
def Lwx.q (x:Lwx):Qs:=enF x.r
end Go.Sym