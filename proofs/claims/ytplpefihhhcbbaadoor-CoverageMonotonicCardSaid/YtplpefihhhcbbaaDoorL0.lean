import Derived.Test.YtplpefihhhcbbaaDoorL1
namespace Go.Sym
set_option linter.unusedVariables false
set_option linter.unusedSimpArgs false
open Go.Proofs
structure LaX where
  n : Int
  es : List Ed
  ts : List Int
  us : List Un
  of : List Int
  u : Int
  v : Un
def LaX.c (x : LaX) : CaX := ⟨x.n, x.es, x.ts, x.us⟩
def LaX.g (x : LaX) : Gr := ⟨x.n.toNat, x.es⟩
structure LaOk (x : LaX) : Prop where
  g : GOk x.g
  n : x.g.n <= 12
  e : ((x.g.n : Nat) : Int) = x.n
  us : x.us.length <= 12
  ts : x.ts.length <= 60
theorem la_ok {x : LaX} (h : netOk x.c = true) : LaOk x := by
  unfold netOk rightB at h
  rw [Bool.and_eq_true, Bool.and_eq_true] at h
  obtain ⟨⟨a, b⟩, c⟩ := h
  have a : 1 <= x.n /\ x.n <= 12 /\ x.es.length <= 40 := of_decide_eq_true a
  have c : x.ts.length <= 60 /\ x.us.length <= 12 := of_decide_eq_true c
  exact ⟨gok (x := ⟨x.n, x.es⟩) (by show ¬ x.n < 1; omega) (by show ¬ 4096 < x.n; omega) (by show ¬ 16384 < x.es.length; omega) b, by show x.n.toNat <= 12; omega, by show ((x.n.toNat : Nat) : Int) = x.n; omega, c.2, c.1⟩
theorem LaOk.u {x : LaX} (h : LaOk x) {of : List Int} (ho : of.length <= 60) : UXok ⟨x.g, x.ts, x.us, of⟩ := ⟨h.g, h.n, by have := h.us; show x.us.length <= _; omega, by show of.length <= _; omega⟩
theorem LaOk.y {x : LaX} (h : LaOk x) {ws : List Nat} (hw : WOk ws) (t : Int) : YXok ⟨x.g, x.ts, x.us, ws, t⟩ := ⟨h.u (of := []) (Nat.zero_le _), hw⟩
def laA (x : LaX) : List SV := [caseA x.c, .sl 100003 0 x.of.length]
def laH (x : LaX) : List (Nat × Blk) := [(100000, .rows .bor kE x.es.length (encL encE x.es)), (100001, .rows .bor k1 x.ts.length (encL encI x.ts)), (100002, .rows .bor kU x.us.length (encL encU x.us)), (100003, .rows .bor k1 x.of.length (encL encI x.of))]
theorem both_b {P : Program} [Glob] {f : Nat} {X : Type} {pre : X -> Prop} {t : X -> Bool} {a : X -> List SV} {g : X -> List (Nat × Blk)} {r : X -> SV} {g1 : X -> List (Nat × Blk)} (h1 : Good P f ⟨X, fun x => pre x /\ t x = true, a, g, r, g1⟩) (h2 : Good P f ⟨X, fun x => pre x /\ t x = false, a, g, r, g1⟩) :
    Good P f ⟨X, pre, a, g, r, g1⟩ := by
  intro x hx
  cases h : t x with
  | true => exact h1 x ⟨hx, h⟩
  | false => exact h2 x ⟨hx, h⟩
end Go.Sym