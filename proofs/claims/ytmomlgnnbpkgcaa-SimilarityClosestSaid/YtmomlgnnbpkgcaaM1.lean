import Derived.Test.YtmomlgnnbpkgcaaG4
import Derived.Test.YtmomlgnnbpkgcaaR3
namespace Go.Sym
set_option linter.unusedVariables false
set_option linter.unusedSimpArgs false
open Go.Proofs
theorem good_say [Glob] {P : Program} {f : Nat} {ct ct' : CT} (φ : ct'.X -> ct.X) (h : Good P f ct) (hp : ∀ x, ct'.pre x -> ct.pre (φ x)) (ha : ∀ x, ct'.args x = ct.args (φ x)) (h0 : ∀ x, ct'.g0 x = ct.g0 (φ x))
  (h1 : ∀ x, ct'.pre x -> ct.g1 (φ x) = ct'.g1 x) (hr : ∀ x, ct'.pre x -> ∀ ρ v, Den ρ (ct.res (φ x)) v -> Den ρ (ct'.res x) v) (hs : ∀ x, ctSt ct' x = true) : Good P f ct' := by
 intro x hx
 obtain ⟨_, h2⟩ := h (φ x) (hp x hx)
 refine ⟨hs x, fun ρ w vals a b c => ?_⟩
 rw [ha] at b
 rw [h0] at c ⊢
 refine (h2 ρ w vals a b c).mono ?_
 rw [h1 x hx]
 rintro e w' ⟨v, ρ', e1, e2, e3⟩
 exact ⟨v, ρ', e1, hr x hx ρ' v e2, e3⟩
theorem den_q1 {ρ : Env} {l : Nat} {b : SV} {v : Value} (h : Den ρ (.tup [.q l 1, b]) v) : Den ρ (.tup [.p l 0 0, b]) v := by
 simp only [Den, DenL] at h ⊢
 obtain ⟨vs, e1, u, r, e2, e3, e4⟩ := h
 refine ⟨vs, e1, u, r, e2, ?_, e4⟩
 rcases e3 with ⟨q, _⟩ | ⟨pl, _, q1, q2⟩
 ·cases q
 ·exact ⟨pl, q1, q2⟩
theorem den_q0 {ρ : Env} {l : Nat} {b : SV} {v : Value} (h : Den ρ (.tup [.q l 0, b]) v) : Den ρ (.tup [.np, b]) v := by
 simp only [Den, DenL] at h ⊢
 obtain ⟨vs, e1, u, r, e2, e3, e4⟩ := h
 refine ⟨vs, e1, u, r, e2, ?_, e4⟩
 rcases e3 with ⟨_, q⟩ | ⟨pl, q, _⟩
 ·exact q
 ·exact absurd rfl q
def newOkC : CT where
 X := NewX
 pre := fun x => x.es.length <= 1073741824 /\ errN x = 0
 args := newC.args
 g0 := newC.g0
 res := fun x => .tup [.p 1 0 0, .i .i64 0]
 g1 := fun x => [(1, .rows .own kG 1 (encG x.g))]
theorem newOk_good : Good Try.prog 24 newOkC /\ FnOk Try.prog 24 := by
 refine ⟨good_say (ct := newC) (ct' := newOkC) (fun x => x) new_good.1 (fun x h => h.1) (fun _ => rfl) (fun _ => rfl) (fun x h => ?_) (fun x h ρ v hd => ?_) (fun x => rfl), new_good.2⟩
 ·have e : szN x = 1 := if_pos h.2
  show [(1, Blk.rows .own kG (szN x) (encG x.g))] = _
  rw [e]; rfl
 ·have e : szN x = 1 := if_pos h.2
  have hd : Den ρ (.tup [.q 1 (szN x), .i .i64 (errN x)]) v := hd
  rw [e, h.2] at hd
  exact den_q1 hd
theorem right_err {x : NewX} (h : rightB x = true) : errN x = 0 := by
 unfold rightB at h
 rw [Bool.and_eq_true] at h
 have := of_decide_eq_true h.1
 exact err_ok (by omega) (by omega) (by omega) h.2
theorem both_b {P : Program} [Glob] {f : Nat} {X : Type} {pre : X -> Prop} {t : X -> Bool} {a : X -> List SV} {g : X -> List (Nat × Blk)} {r : X -> SV} {g1 : X -> List (Nat × Blk)} (h1 : Good P f ⟨X, fun x => pre x /\ t x = true, a, g, r, g1⟩) (h2 : Good P f ⟨X, fun x => pre x /\ t x = false, a, g, r, g1⟩) :
  Good P f ⟨X, pre, a, g, r, g1⟩ := by
 intro x hx
 cases h : t x with
 | true => exact h1 x ⟨hx, h⟩
 | false => exact h2 x ⟨hx, h⟩
end Go.Sym