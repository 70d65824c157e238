import Derived.Test.YtmomlgnnbpkgcaaA1
import Derived.Lib.CutLaws
import Derived.Lib.Strings
import Derived.WalkKit
import Derived.Test.YtmomlgnnbpkgcaaXD
namespace Go.Sym
set_option linter.unusedVariables false
open Go.Proofs Go.RowKit
set_option maxHeartbeats 1000000
theorem idxB_run (s : ByteArray) (c : Int) (w : World) : Calls Try.prog 64 #[.string s, .int .u8 c] w fun e w' => e = .returned (.int .i64 (Lib.indexByte s.data.toList c.toNat.toUInt8)) /\ w' = w := by
 go_enter Try.func64, Try.ntmps64
 go_wp2
 rw [run_callFunc_extern Try.func69 (by kernel_rfl) (by kernel_rfl) (by kernel_rfl) (e := Extern.BytealgIndexByte.indexByte) (by kernel_rfl), Lib.run_indexByteString]
 simp only [Result.andThen]
 rw [Oper.upon_value]
 go_wp2
 go_ret
 exact ⟨rfl, rfl⟩
theorem idx_run (s sub : ByteArray) (h0 : (((sub.size : Nat) : Int) == 0) = false) (h1 : (((sub.size : Nat) : Int) == 1) = true) (w : World) : Calls Try.prog 62 #[.string s, .string sub] w fun e w' => e = .returned (.int .i64 (Lib.index s.data.toList sub.data.toList)) /\ w' = w := by
 go_enter Try.func62, Try.ntmps62
 go_wp2_with (first | (exfalso; exact absurd (h1.symm.trans (by assumption : (((sub.size : Nat) : Int) == 1) = false)) (by decide)) | (go_at_call 64; refine (idxB_run _ _ _).mono ?_; rintro e w' ⟨rfl, rfl⟩))
 ·go_ret
  refine ⟨?_, rfl⟩
  rw [show Lib.index s.data.toList sub.data.toList = 0 from Lib.zero s sub (.inr (by assumption))]
  rfl
 ·have hs2 : sub.size = 1 := by have := beq_iff_eq.1 h1; omega
  go_ret
  refine ⟨?_, rfl⟩
  rw [show Lib.index s.data.toList sub.data.toList = _ from Lib.one s sub hs2]
  first | rfl | (refine congrArg Ending.returned (congrArg (Value.int IntKind.i64) ?_); first | rfl | simp)
 ·exfalso
  have := beq_iff_eq.1 h1
  omega
def ix (s : ByteArray) : Int := Lib.indexByte s.data.toList 45
theorem ix_hit : ∀ {l : List UInt8} {k : Nat}, k < l.length -> l.getD k 0 = 45 -> (∀ j, j < k -> l.getD j 0 ≠ 45) -> Lib.indexByte l 45 = k
 | [], k, h, _, _ => by simp at h
 | b :: l, 0, _, h, _ => by
  have : b = 45 := by simpa using h
  simp [Lib.indexByte, this]
 | b :: l, k + 1, h, h1, h2 => by
  have e : b ≠ 45 := by simpa using h2 0 (by omega)
  have := ix_hit (l := l) (k := k) (by simpa using h) (by simpa using h1) (fun j hj => by simpa using h2 (j + 1) (by omega))
  simp only [Lib.indexByte, this]
  rw [if_neg (by simpa using e), if_neg (by first | (simp; done) | (simp; omega))]
  omega
theorem ix_miss : ∀ {l : List UInt8}, (∀ j, j < l.length -> l.getD j 0 ≠ 45) -> Lib.indexByte l 45 = -1
 | [], _ => rfl
 | b :: l, h => by
  have e : b ≠ 45 := by simpa using h 0 (by simp)
  have := ix_miss (l := l) (fun j hj => by simpa using h (j + 1) (by simpa using hj))
  simp [Lib.indexByte, this, e]
theorem ix_lt : ∀ (l : List UInt8), Lib.indexByte l 45 < l.length
 | [] => by decide
 | b :: l => by
  have := ix_lt l
  unfold Lib.indexByte
  rw [List.length_cons]
  split
  ·omega
  ·split <;> omega
theorem ix_rng (s : ByteArray) : -1 <= ix s /\ ix s < s.size := ⟨Lib.indexByte_ge _ _, by have := ix_lt s.data.toList; rw [<- Lib.size_eq] at this; exact this⟩
theorem good_pure {P : Program} {f : Nat} {ct : CT} [Glob] (hst : ∀ x, ct.pre x -> ctSt ct x = true) (h0 : ∀ x, ct.g0 x = []) (h1 : ∀ x, ct.g1 x = [])
  (h : ∀ x, ct.pre x -> ∀ (ρ : Env) (w : World) (vals : List Value), Glob.ok ρ -> DenL ρ (ct.args x) vals -> (∀ b o, ρ.z b = some o -> w.heap[b]? = some o) -> Calls P f vals.toArray w fun e w' => (∃ v, e = .returned v /\ Den ρ (ct.res x) v) /\ w' = w) : Good P f ct := by
 intro x hx
 refine ⟨hst x hx, fun ρ w vals hg hv H => (h x hx ρ w vals hg hv H.zok).mono ?_⟩
 rintro e w' ⟨⟨v, rfl, hd⟩, rfl⟩
 rw [h0] at H
 have e0 : appH (ct.g1 x) (ct.g0 x) = [] := by rw [h0, h1]; rfl
 refine ⟨v, ρ, rfl, hd, by rw [e0]; exact H, ⟨rfl, rfl, rfl, Nat.le_refl _, fun _ _ _ => rfl⟩, ?_, fun _ _ => rfl⟩
 rw [e0]
 refine ⟨fun l b pl h => (by cases h), fun l b pl h => (by cases h), fun _ _ h => h, fun _ h => .inl h, fun b h => h.elim .inr fun ⟨l, blk, pl, h1, _⟩ => (by rw [h0] at h1; cases h1)⟩
def idxC : CT where
 X := ByteArray
 pre := fun _ => True
 args := fun s => [.s s, .s ⟨#[45]⟩]
 g0 := fun _ => []
 res := fun s => .i .i64 (ix s)
 g1 := fun _ => []
theorem idx_good : Good Try.prog 62 idxC /\ FnOk Try.prog 62 := by
 refine ⟨good_pure (fun _ _ => rfl) (fun _ => rfl) (fun _ => rfl) fun x hx ρ w vals hg hv hz => ?_, Try.f62, rfl, by decide +kernel, rfl⟩
 simp only [idxC, DenL, Den] at hv
 obtain ⟨v, r, rfl, rfl, v2, r2, rfl, rfl, rfl⟩ := hv
 refine (idx_run x ⟨#[45]⟩ (by decide) (by decide) w).mono fun e w' ⟨h1, h2⟩ => ⟨⟨_, h1, ?_⟩, h2⟩
 simp only [idxC, Den]
 rw [show Lib.index x.data.toList (ByteArray.mk #[45]).data.toList = _ from Lib.one x ⟨#[45]⟩ rfl]
 rfl
end Go.Sym