import Derived.Test.YtmomlgnnbpkgcaaA1
import Derived.Test.YtmomlgnnbpkgcaaXD
namespace Go.Sym
set_option linter.unusedVariables false
open Go.Proofs
def cfgN0 : Cfg := ⟨T, [], [], noInv, 40, {}⟩
theorem conN0 : ConOk Try.prog cfgN0 := ConL.ok .nil
def k1 : List Kd := [.int .i64]
theorem take_succ_getD {α : Type} {xs : List α} {k : Nat} {d : α} (h : k < xs.length) : xs.take (k + 1) = xs.take k ++ [xs.getD k d] := by
 rw [List.take_succ_eq_append_getElem h]; simp [List.getD_eq_getElem?_getD, h]
theorem nat0 (k : Nat) : 0 + ((k : Nat) : Int).toNat = k := by simp
def rf0 (fn : Func) (i : Nat) : Operand × Array Tmp × Code × Code := (rfsF fn).getD i (.tmp 0, #[], .skip, .skip)
theorem rowsEq0 {ks : List Kd} {f g : Nat -> Nat -> D} : RowsEq ks 0 f g := ⟨fun r hr => absurd hr (Nat.not_lt_zero r)⟩
theorem one_loop {P : Program} [Glob] {fn : Func} {p : Nat} {lc : LC} {q : Operand × Array Tmp × Code × Code} (h0 : rfsF fn = [q]) (hg : LoopGood P fn.ntmps q lc) :
  ∀ q ∈ rfsF fn, ∀ lc', lget [(p, lc)] (ps0 q.2.1) = some lc' -> LoopGood P fn.ntmps q lc' := by
 intro q' hq lc' hl
 rw [h0] at hq
 obtain rfl := List.mem_singleton.1 hq
 unfold lget at hl
 split at hl
 ·cases hl; exact hg
 ·cases hl
end Go.Sym