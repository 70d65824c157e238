import Derived.Test.YtakbmbmpcenljaaA1
import Derived.Test.YtakbmbmpcenljaaXD
namespace Go.Sym
set_option linter.unusedVariables false
open Go.Proofs
set_option maxRecDepth 100000
def cfgN0:Cfg:=⟨T,[],[],noInv,40,{}⟩
theorem conN0:ConOk Try.prog cfgN0:=ConL.ok .nil
def k1:List Kd:=[.int .i64]
theorem take_succ_getD {α:Type} {xs:List α} {k:Nat} {d:α} (h:k<xs.length):xs.take (k+1)=xs.take k++[xs.getD k d]:=by
 rw[List.take_succ_eq_append_getElem h];simp[List.getD_eq_getElem?_getD,h]
theorem nat0 (k:Nat):0+((k:Nat):Int).toNat=k:=by simp
theorem rowsEq0 {ks:List Kd} {f g:Nat->Nat->D}:RowsEq ks 0 f g:=⟨fun r hr=>absurd hr (Nat.not_lt_zero r)⟩
end Go.Sym