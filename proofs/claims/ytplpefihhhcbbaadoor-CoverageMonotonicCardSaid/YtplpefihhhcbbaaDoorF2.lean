import Derived.Test.YtplpefihhhcbbaaDoorF1
import Derived.Test.YtplpefihhhcbbaaDoorL5
namespace Go.Sym
set_option linter.unusedVariables false
set_option linter.unusedSimpArgs false
open Go.Proofs Go.ChangeShapes Go.WideShapes Go.RowKit
theorem unit_in {H : Type} {enc : TypeId × Value -> H} {w : World} {cs : Array Value} {d : DataW H} {p : List MemPlace} (hs : cs.size = 10) (h : DataW.Trod enc Tryd.prog w 0 (fun _ => true) true 49 (.agg cs) d p) :
    ∃ u : Un, cs = #[.int .i64 u.id, .int .i64 u.b, .int .i64 u.c, .int .i64 u.st, .int .i64 u.nd, .int .i64 u.f, .int .i64 u.g, .int .i64 u.h, .int .i64 u.i, .int .i64 u.j] := by
  obtain ⟨g, hg⟩ := struct_in (ks := kU) tok (by kernel_rfl) h
  have hk : ∀ j, j < 10 -> cs[j]? = some (.int .i64 (g j).toI) := by
    intro j hj
    obtain ⟨u, a, b, _⟩ := hg j hj
    have e : kU[j]'hj = .int .i64 := by
      match j, hj with
      | 0, _ | 1, _ | 2, _ | 3, _ | 4, _ | 5, _ | 6, _ | 7, _ | 8, _ | 9, _ => rfl
    rw [e] at b
    simp only [DenD] at b
    rw [a, b]
  refine ⟨decU10 g, ?_⟩
  apply Array.ext_getElem?
  intro i
  by_cases hi : i < 10
  · rw [hk i hi]
    match i, hi with
    | 0, _ | 1, _ | 2, _ | 3, _ | 4, _ | 5, _ | 6, _ | 7, _ | 8, _ | 9, _ => rfl
  · rw [Array.getElem?_eq_none (by omega), Array.getElem?_eq_none (by simp; omega)]
theorem unit_den (ρ : Env) (u : Un) : Den ρ (unA u) (.agg #[.int .i64 u.id, .int .i64 u.b, .int .i64 u.c, .int .i64 u.st, .int .i64 u.nd, .int .i64 u.f, .int .i64 u.g, .int .i64 u.h, .int .i64 u.i, .int .i64 u.j]) := by
  unfold unA
  rw [Den]
  exact ⟨_, rfl, by simp [DenL, Den]⟩
end Go.Sym