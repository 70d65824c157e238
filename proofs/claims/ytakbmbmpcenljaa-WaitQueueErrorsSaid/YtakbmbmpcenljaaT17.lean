import Derived.Test.YtakbmbmpcenljaaT16
namespace Go.Sym
set_option linter.unusedVariables false
set_option linter.unusedSimpArgs false
open Go.Proofs
set_option maxRecDepth 100000
set_option maxHeartbeats 4000000
theorem both_b {P:Program} [Glob] {f:Nat} {X:Type} {pre:X->Prop} {t:X->Bool} {a:X->List SV} {g:X->List (Nat × Blk)} {r:X->SV} {g1:X->List (Nat × Blk)} (h1:Good P f ⟨X,fun x=>pre x/\t x=true,a,g,r,g1⟩) (h2:Good P f ⟨X,fun x=>pre x/\t x=false,a,g,r,g1⟩):
  Good P f ⟨X,pre,a,g,r,g1⟩:=by
 intro x hx
 cases h:t x with
 |true=>exact h1 x ⟨hx,h⟩
 |false=>exact h2 x ⟨hx,h⟩
structure Lwx where
 n:Nx
 l:List Act
 now:Int
def Lwx.r (x:Lwx):Rux:=⟨x.n,x.l⟩
def Lwx.q (x:Lwx):Qs:=enF x.r
def okL (x:Lwx):Bool:=decide (okN x.n/\x.l.length<=30)
theorem okL_y {x:Lwx} (h:okL x=true):okN x.n/\x.l.length<=30:=of_decide_eq_true h
theorem okL_n {x:Lwx} (h:okL x=false):¬ (okN x.n/\x.l.length<=30):=of_decide_eq_false h
theorem okL_q {x:Lwx} (h:okL x=true):QOk x.q/\x.q.l.length<=30:=en_ok (x:=x.r) (okL_y h)
theorem okL_m (x:Lwx):x.q.most=x.n.most/\x.q.ages=x.n.ages:=en_most x.r
theorem okL_f {x:Lwx} (h:okL x=true):0<=x.n.most/\x.q.most=x.n.most/\x.l.length<=30/\x.r.l.length=x.l.length/\x.q.l.length<=30/\(overF x.q x.now).length=x.q.l.length-x.q.most.toNat/\(orderF x.q x.now).length=x.q.l.length:=by
 have a:=okL_y h
 exact⟨a.1.1,(okL_m x).1,a.2,rfl,(okL_q h).2,over_len _ _,orderF_len _ _⟩
end Go.Sym