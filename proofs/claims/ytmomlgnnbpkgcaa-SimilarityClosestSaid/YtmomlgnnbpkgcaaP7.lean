import Derived.Test.YtmomlgnnbpkgcaaS3
namespace Go.Sym
set_option linter.unusedVariables false
theorem distF_len {N : WNet} (hN : N.Ok) (S : Nat -> Bool) : (distF N S).length = N.n := (distF_sol hN S).len
theorem dist_rng {g : Gr} (hg : GOk g) (ts src : List Int) (fwd : Bool) {v : Nat} (hv : v < g.n) : 0 <= (distG g ts src fwd).getD v default /\ (distG g ts src fwd).getD v default <= 4611686018427387904 := by
 have h := distF_sol (netG_ok hg (wsOk_tt g ts) fwd) (isSrc src)
 exact ⟨h.nn v hv, h.le v hv⟩
theorem isSrc_iff {l : List Int} {v : Nat} : isSrc l v = true ↔ (v : Int) ∈ l := by
 unfold isSrc; rw [List.any_eq_true]
 constructor
 ·rintro ⟨x, hx, e⟩; rw [beq_iff_eq] at e; exact e ▸ hx
 ·intro h; exact ⟨_, h, by simp⟩
end Go.Sym