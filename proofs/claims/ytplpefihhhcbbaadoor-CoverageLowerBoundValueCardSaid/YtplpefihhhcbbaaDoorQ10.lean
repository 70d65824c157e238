import Derived.Test.YtplpefihhhcbbaaDoorL1
import Derived.Test.YtplpefihhhcbbaaDoorQ8
namespace Go.Sym
set_option linter.unusedVariables false
theorem bound_sameL {x : LaX} (h : LaOk x) : boundW ⟨x.g, x.ts, ofW x.of x.of.length, x.u⟩ = boundR ⟨x.g, x.ts, x.of, x.u⟩ := bound_same h.g h.n x.ts x.of x.u
theorem LaOk.bw {x : LaX} (h : LaOk x) {ws : List Nat} (hw : WOk ws) (u : Int) : BWok ⟨x.g, x.ts, ws, u⟩ := ⟨h.g, h.n, hw⟩
theorem LaOk.bx {x : LaX} (h : LaOk x) {of : List Int} (ho : of.length <= 60) (u : Int) : BXok ⟨x.g, x.ts, of, u⟩ := ⟨h.g, h.n, by show of.length <= _; omega⟩
theorem boundW_len (x : BWX) : (boundW x).2.length <= 4 := by
 unfold boundW
 split
 ·exact Nat.zero_le _
 ·split
  ·exact Nat.zero_le _
  ·exact placeR_b _ _ _ _ (by show 0 + x.u.toNat <= 4; omega) (Nat.zero_le _)
end Go.Sym