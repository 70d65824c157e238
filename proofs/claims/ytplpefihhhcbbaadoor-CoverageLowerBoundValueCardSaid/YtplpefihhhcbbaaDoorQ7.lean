import Derived.Test.YtplpefihhhcbbaaDoorP6
namespace Go.Sym
set_option linter.unusedVariables false
theorem dist_mono {g : Gr} (hg : GOk g) (ts : List Int) {a b : List Int} (fwd : Bool) (h : ∀ v, v < g.n -> isSrc a v = true -> isSrc b v = true) {v : Nat} (hv : v < g.n) : (distG g ts b fwd).getD v default <= (distG g ts a fwd).getD v default := by
 have hN := netG_ok hg (wsOk_tt g ts) fwd
 have Ha := distF_sol hN (isSrc a)
 have Hb := distF_sol hN (isSrc b)
 exact Ha.least hN Hb.le (fun v hv hs => by rw [Hb.src v hv (h v hv hs)]; exact Int.le_refl _) Hb.clo v hv
theorem worst_mono {D E l : List Int} (hl : ∀ v ∈ l, 0 <= v) (h : ∀ v ∈ l, D.getD v.toNat default <= E.getD v.toNat default) : (worstF D l).1 <= (worstF E l).1 := by
 rcases worst_spec (D := D) hl with ⟨e, q⟩ | ⟨ne, _, _, v, hv, q⟩
 ·subst e; exact Int.le_refl _
 ·rcases worst_spec (D := E) hl with ⟨e, _⟩ | ⟨_, _, q2, _⟩
  ·exact absurd e ne
  ·rw [q]; exact Int.le_trans (h v hv) (q2 v hv)
end Go.Sym