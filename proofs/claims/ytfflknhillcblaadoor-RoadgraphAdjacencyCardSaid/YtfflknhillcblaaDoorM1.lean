import Derived.Test.YtfflknhillcblaaDoorG4
namespace Go.Sym
set_option linter.unusedVariables false
set_option linter.unusedSimpArgs false
open Go.Proofs
set_option maxRecDepth 100000
theorem good_say [Glob] {P:Program} {f:Nat} {ct ct':CT} (φ:ct'.X->ct.X) (h:Good P f ct) (hp:∀ x,ct'.pre x->ct.pre (φ x)) (ha:∀ x,ct'.args x=ct.args (φ x)) (h0:∀ x,ct'.g0 x=ct.g0 (φ x))
  (h1:∀ x,ct'.pre x->ct.g1 (φ x)=ct'.g1 x) (hr:∀ x,ct'.pre x->∀ ρ v,Den ρ (ct.res (φ x)) v->Den ρ (ct'.res x) v) (hs:∀ x,ctSt ct' x=true):Good P f ct':=by
 intro x hx
 obtain⟨_,h2⟩:=h (φ x) (hp x hx)
 refine⟨hs x,fun ρ w vals a b c=>?_⟩
 rw[ha]at b
 rw[h0]at c ⊢
 refine(h2 ρ w vals a b c).mono ?_
 rw[h1 x hx]
 rintro e w' ⟨v,ρ',e1,e2,e3⟩
 exact⟨v,ρ',e1,hr x hx ρ' v e2,e3⟩
theorem both_b {P:Program} [Glob] {f:Nat} {X:Type} {pre:X->Prop} {t:X->Bool} {a:X->List SV} {g:X->List (Nat × Blk)} {r:X->SV} {g1:X->List (Nat × Blk)} (h1:Good P f ⟨X,fun x=>pre x/\t x=true,a,g,r,g1⟩) (h2:Good P f ⟨X,fun x=>pre x/\t x=false,a,g,r,g1⟩):
  Good P f ⟨X,pre,a,g,r,g1⟩:=by
 intro x hx
 cases h:t x with
 |true=>exact h1 x ⟨hx,h⟩
 |false=>exact h2 x ⟨hx,h⟩
end Go.Sym