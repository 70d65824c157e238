import Derived.Test.YtmomlgnnbpkgcaaU8
namespace Go.Sym
set_option linter.unusedVariables false
set_option linter.unusedSimpArgs false
open Go.Proofs
theorem den_p1 {ρ : Env} {l : Nat} {v : Value} (h : Den ρ (.q l 1) v) : Den ρ (.p l 0 0) v := by
 simp only [Den] at h ⊢
 rcases h with ⟨q, _⟩ | ⟨pl, _, q1, q2⟩
 ·cases q
 ·exact ⟨pl, q1, q2⟩
theorem den_p0 {ρ : Env} {l : Nat} {v : Value} (h : Den ρ (.q l 0) v) : Den ρ .np v := by
 simp only [Den] at h ⊢
 rcases h with ⟨_, q⟩ | ⟨pl, q, _⟩
 ·exact q
 ·exact absurd rfl q
def tYesC : CT where
 X := Twn
 pre := fun x => twOk x = true
 args := fun x => [twA x]
 g0 := twH
 res := fun x => .p 1 0 0
 g1 := fun x => [(1, .rows .own kG 1 (encG ⟨x.n.toNat, x.es⟩))]
def tNoC : CT where
 X := Twn
 pre := fun x => twOk x = false
 args := fun x => [twA x]
 g0 := twH
 res := fun x => .np
 g1 := fun x => [(1, .rows .own kG 0 (encG ⟨x.n.toNat, x.es⟩))]
theorem tYes_good : Good Try.prog 9 tYesC /\ FnOk Try.prog 9 := by
 refine ⟨good_say (ct := tnetC) (ct' := tYesC) (fun x => x) tnet_good.1 (fun x h => trivial) (fun _ => rfl) (fun _ => rfl) (fun x h => ?_) (fun x h ρ v hd => ?_) (fun x => rfl), tnet_good.2⟩
 ·have e : twSz x = 1 := if_pos h
  show [(1, Blk.rows .own kG (twSz x) (encG ⟨x.n.toNat, x.es⟩))] = _
  rw [e]; rfl
 ·have e : twSz x = 1 := if_pos h
  have hd : Den ρ (.q 1 (twSz x)) v := hd
  rw [e] at hd
  exact den_p1 hd
theorem tNo_good : Good Try.prog 9 tNoC /\ FnOk Try.prog 9 := by
 refine ⟨good_say (ct := tnetC) (ct' := tNoC) (fun x => x) tnet_good.1 (fun x h => trivial) (fun _ => rfl) (fun _ => rfl) (fun x h => ?_) (fun x h ρ v hd => ?_) (fun x => rfl), tnet_good.2⟩
 ·have e : twSz x = 0 := if_neg (by rw [h]; decide)
  show [(1, Blk.rows .own kG (twSz x) (encG ⟨x.n.toNat, x.es⟩))] = _
  rw [e]; rfl
 ·have e : twSz x = 0 := if_neg (by rw [h]; decide)
  have hd : Den ρ (.q 1 (twSz x)) v := hd
  rw [e] at hd
  exact den_p0 hd
def Twn.g (x : Twn) : Gr := ⟨x.n.toNat, x.es⟩
structure TwOk (x : Twn) : Prop where
 g : GOk x.g
 n : x.g.n <= 12
 e : ((x.g.n : Nat) : Int) = x.n
 ts : x.ts.length <= 60
theorem tw_ok {x : Twn} (h : twOk x = true) : TwOk x := by
 unfold twOk rightB at h
 rw [Bool.and_eq_true, Bool.and_eq_true] at h
 obtain ⟨⟨a, b⟩, c⟩ := h
 have a : 1 <= x.n /\ x.n <= 12 /\ x.es.length <= 40 := of_decide_eq_true a
 have c : x.ts.length <= 60 := of_decide_eq_true c
 exact ⟨gok (x := ⟨x.n, x.es⟩) (by show ¬ x.n < 1; omega) (by show ¬ 4096 < x.n; omega) (by show ¬ 16384 < x.es.length; omega) b, by show x.n.toNat <= 12; omega, by show ((x.n.toNat : Nat) : Int) = x.n; omega, c⟩
theorem few2_ok {x : ICx} (h : few2 x = true) : x.x.nodes.length <= 30 /\ x.x.code.size <= 100 /\ x.t.nodes.length <= 30 /\ x.t.code.size <= 100 := by
 unfold few2 fewB at h
 rw [Bool.and_eq_true] at h
 have h := List.all_eq_true.1 h.2
 have a := of_decide_eq_true (h x.x (by simp))
 have b := of_decide_eq_true (h (ofT x.t) (by simp))
 exact ⟨a.1, a.2, b.1, b.2⟩
theorem few_ok {l : List Inc} (h : fewB l = true) : l.length <= 12 /\ ∀ y ∈ l, y.nodes.length <= 30 /\ y.code.size <= 100 := by
 unfold fewB at h
 rw [Bool.and_eq_true] at h
 exact ⟨of_decide_eq_true h.1, fun y hy => of_decide_eq_true (List.all_eq_true.1 h.2 y hy)⟩
end Go.Sym