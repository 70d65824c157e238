import Derived.Test.YtpommejalaechaaA1
import Derived.WalkKit
import Derived.Test.YtpommejalaechaaXD
namespace Go.Sym
set_option linter.unusedVariables false
open Go.Proofs Go.RowKit
set_option maxHeartbeats 4000000
set_option maxRecDepth 100000
theorem len64_run (x : Nat) (hx : x <= 12) (w : World) : Calls Try.prog 57 #[.int .u64 x] w fun e w' => (∃ k : Int, e = .returned (.int .i64 k)) /\ w' = w := by
 rcases (show x = 0 ∨ x = 1 ∨ x = 2 ∨ x = 3 ∨ x = 4 ∨ x = 5 ∨ x = 6 ∨ x = 7 ∨ x = 8 ∨ x = 9 ∨ x = 10 ∨ x = 11 ∨ x = 12 by omega) with h | h | h | h | h | h | h | h | h | h | h | h | h <;> subst h <;> (go_enter Try.func57, Try.ntmps57; go_wp2; (try go_ret); exact ⟨⟨_, rfl⟩, rfl⟩)
theorem good_pure {P : Program} {f : Nat} {ct : CT} [Glob] (hst : ∀ x, ct.pre x -> ctSt ct x = true) (h0 : ∀ x, ct.g0 x = []) (h1 : ∀ x, ct.g1 x = [])
  (h : ∀ x, ct.pre x -> ∀ (ρ : Env) (w : World) (vals : List Value), Glob.ok ρ -> DenL ρ (ct.args x) vals -> (∀ b o, ρ.z b = some o -> w.heap[b]? = some o) -> Calls P f vals.toArray w fun e w' => (∃ v, e = .returned v /\ Den ρ (ct.res x) v) /\ w' = w) : Good P f ct := by
 intro x hx
 refine ⟨hst x hx, fun ρ w vals hg hv H => (h x hx ρ w vals hg hv H.zok).mono ?_⟩
 rintro e w' ⟨⟨v, rfl, hd⟩, rfl⟩
 rw [h0] at H
 have e0 : appH (ct.g1 x) (ct.g0 x) = [] := by rw [h0, h1]; rfl
 refine ⟨v, ρ, rfl, hd, by rw [e0]; exact H, ⟨rfl, rfl, rfl, Nat.le_refl _, fun _ _ _ => rfl⟩, ?_, fun _ _ => rfl⟩
 rw [e0]
 refine ⟨fun l b pl h => (by cases h), fun l b pl h => (by cases h), fun _ _ h => h, fun _ h => .inl h, fun b h => h.elim .inr fun ⟨l, blk, pl, h1, _⟩ => (by rw [h0] at h1; cases h1)⟩
def len64C : CT where
 X := Nat
 pre := fun n => n <= 12
 args := fun n => [.i .u64 n]
 g0 := fun _ => []
 res := fun _ => .u
 g1 := fun _ => []
theorem len64_good : Good Try.prog 57 len64C /\ FnOk Try.prog 57 := by
 refine ⟨good_pure (fun _ _ => rfl) (fun _ => rfl) (fun _ => rfl) fun x hx ρ w vals hg hv hz => ?_, Try.f57, rfl, by decide +kernel, rfl⟩
 simp only [len64C, DenL, Den] at hv
 obtain ⟨v, r, rfl, rfl, rfl⟩ := hv
 exact (len64_run x hx w).mono fun e w' ⟨⟨k, h1⟩, h2⟩ => ⟨⟨_, h1, by simp only [len64C, Den]⟩, h2⟩
end Go.Sym