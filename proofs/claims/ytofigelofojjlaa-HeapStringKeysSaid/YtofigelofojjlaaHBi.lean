/- The heap of numbers with keys of kind i: contracts and walks. Printed by gen/heap.py. -/
import Derived.Test.YtofigelofojjlaaHAi
import Derived.Test.YtofigelofojjlaaXD
namespace Go.Sym
set_option linter.unusedVariables false
set_option linter.unusedSimpArgs false
open Go.Proofs
theorem kidi_big {l : List (El Int)} {i : Nat} (h : 2 * i + 2 < l.length) (hs : El.less lti (l.getD (2 * i + 2) default) (l.getD (2 * i + 1) default) = true) : kid lti l i = 2 * i + 2 := by
  unfold kid; rw [if_pos ⟨h, hs⟩]
theorem kidi_small {l : List (El Int)} {i : Nat} (h : ¬ 2 * i + 2 < l.length ∨ El.less lti (l.getD (2 * i + 2) default) (l.getD (2 * i + 1) default) = false) : kid lti l i = 2 * i + 1 := by
  unfold kid
  rw [if_neg]
  rintro ⟨h1, h2⟩
  rcases h with h | h
  · exact h h1
  · rw [h] at h2; cases h2
theorem downi_end {l : List (El Int)} {i : Nat} (h : ¬ 2 * i + 1 < l.length) : downF lti l i = l := by
  rw [downF, dif_neg h]
theorem downi_stop {l : List (El Int)} {i c : Nat} (hk : kid lti l i = c) (hs : El.less lti (l.getD c default) (l.getD i default) = false) : downF lti l i = l := by
  rw [downF]
  split
  · rw [hk, hs]; simp
  · rfl
theorem downi_step {l : List (El Int)} {i c : Nat} (hk : kid lti l i = c) (h : 2 * i + 1 < l.length) (hs : El.less lti (l.getD c default) (l.getD i default) = true) : downF lti (swp l i c) c = downF lti l i := by
  rw [downF.eq_def lti l i, dif_pos h, hk, if_pos hs]
def downiC : CT where
  X := LIi
  pre := fun x => x.Ok
  args := fun x => [.p 100000 0 0, .i .i64 x.i]
  g0 := fun x => heapHi .own x.l
  res := fun x => .tup []
  g1 := fun x => heapGi (downF lti x.l x.i.toNat)
def downiI (x : LIi) (id : Nat) : Option Inv := match id with
  | 0 => some { X := List (El Int) × Nat, ok := fun y => y.2 < y.1.length ∧ y.1.length = x.l.length ∧ (ids y.1).Nodup ∧ downF lti y.1 y.2 = downF lti x.l x.i.toNat, fr := fun y => [(1, .i .i64 y.2)], hp := fun y => heapGi y.1, me := fun y => y.1.length - y.2 }
  | _ => none
set_option maxRecDepth 100000 in
theorem downi_keeps : Keeps ⟨T, [], C1i, noInv, 5⟩ Try.f30 downiC downiI := Eq.mp (show ((∀ x1 : LIi,
 ((LIi.Ok x1) →
 (∃ x3 : List (El Int) × Nat,
 ((((Prod.snd x3 < List.length (Prod.fst x3)) ∧
 ((List.length (Prod.fst x3) = List.length (LIi.l x1)) ∧
 ((List.Nodup (ids (Prod.fst x3))) ∧
 (downF lti (Prod.fst x3) (Prod.snd x3) = downF lti (LIi.l x1) (Int.toNat (LIi.i x1)))))) ∧
 (((LIi.i x1 = (↑(Prod.snd x3) : Int)) ∧
 ((((0 : Nat) = (0 : Nat)) ∧
 ((0 : Nat) = (0 : Nat))) ∧
 (True))) ∧
 (((RLe (List.length (Prod.fst x3)) (List.length (LIi.l x1))) ∧
 (RowsEq (Kd.int IntKind.i64 :: Kd.int IntKind.i64 :: @List.nil Kd) (List.length (Prod.fst x3)) (encL encEi (LIi.l x1)) (encL encEi (Prod.fst x3)))) ∧
 ((MapEq (Kd.int IntKind.i64 :: @List.nil Kd) (ids (LIi.l x1)) (ids (Prod.fst x3)) (posD (LIi.l x1)) (posD (Prod.fst x3))) ∧
 (((((0 : Nat) = (0 : Nat)) ∧
 (List.length (LIi.l x1) = List.length (LIi.l x1))) ∧
 ((True) ∧
 (True))) ∧
 (True)))))) ∧
 (∀ x4 : List (El Int) × Nat,
 ((Prod.snd x4 < List.length (Prod.fst x4) ∧ List.length (Prod.fst x4) = List.length (LIi.l x1) ∧ List.Nodup (ids (Prod.fst x4)) ∧ downF lti (Prod.fst x4) (Prod.snd x4) = downF lti (LIi.l x1) (Int.toNat (LIi.i x1))) →
 ((((-9223372036854775808 : Int) ≤ (2 : Int) * (↑(Prod.snd x4) : Int)) ∧
 ((2 : Int) * (↑(Prod.snd x4) : Int) ≤ (9223372036854775807 : Int))) ∧
 ((((-9223372036854775808 : Int) ≤ (2 : Int) * (↑(Prod.snd x4) : Int) + (1 : Int)) ∧
 ((2 : Int) * (↑(Prod.snd x4) : Int) + (1 : Int) ≤ (9223372036854775807 : Int))) ∧
 (((decide ((↑(List.length (LIi.l x1)) : Int) ≤ (2 : Int) * (↑(Prod.snd x4) : Int) + (1 : Int)) = true) →
 ((True) ∧
 (((RLe (List.length (downF lti (LIi.l x1) (Int.toNat (LIi.i x1)))) (List.length (Prod.fst x4))) ∧
 (RowsEq (Kd.int IntKind.i64 :: Kd.int IntKind.i64 :: @List.nil Kd) (List.length (downF lti (LIi.l x1) (Int.toNat (LIi.i x1)))) (encL encEi (Prod.fst x4)) (encL encEi (downF lti (LIi.l x1) (Int.toNat (LIi.i x1)))))) ∧
 ((MapEq (Kd.int IntKind.i64 :: @List.nil Kd) (ids (Prod.fst x4)) (ids (downF lti (LIi.l x1) (Int.toNat (LIi.i x1)))) (posD (Prod.fst x4)) (posD (downF lti (LIi.l x1) (Int.toNat (LIi.i x1))))) ∧
 (True))))) ∧
 ((decide ((↑(List.length (LIi.l x1)) : Int) ≤ (2 : Int) * (↑(Prod.snd x4) : Int) + (1 : Int)) = false) →
 ((((-9223372036854775808 : Int) ≤ (2 : Int) * (↑(Prod.snd x4) : Int) + (1 : Int) + (1 : Int)) ∧
 ((2 : Int) * (↑(Prod.snd x4) : Int) + (1 : Int) + (1 : Int) ≤ (9223372036854775807 : Int))) ∧
 (((decide ((2 : Int) * (↑(Prod.snd x4) : Int) + (1 : Int) + (1 : Int) < (↑(List.length (LIi.l x1)) : Int)) = true) →
 ((((-9223372036854775808 : Int) ≤ (2 : Int) * (↑(Prod.snd x4) : Int) + (1 : Int) + (1 : Int)) ∧
 ((2 : Int) * (↑(Prod.snd x4) : Int) + (1 : Int) + (1 : Int) ≤ (9223372036854775807 : Int))) ∧
 (∃ x9 : LIJi,
 ((LIJi.Ok x9) ∧
 (((((0 : Nat) = (0 : Nat)) ∧
 ((0 : Nat) = (0 : Nat))) ∧
 (((2 : Int) * (↑(Prod.snd x4) : Int) + (1 : Int) + (1 : Int) = LIJi.i x9) ∧
 (((2 : Int) * (↑(Prod.snd x4) : Int) + (1 : Int) = LIJi.j x9) ∧
 (True)))) ∧
 ((((((0 : Nat) = (0 : Nat)) ∧
 (List.length (LIi.l x1) = List.length (LIJi.l x9))) ∧
 ((True) ∧
 (True))) ∧
 (((RLe (List.length (LIJi.l x9)) (List.length (Prod.fst x4))) ∧
 (RowsEq (Kd.int IntKind.i64 :: Kd.int IntKind.i64 :: @List.nil Kd) (List.length (LIJi.l x9)) (encL encEi (Prod.fst x4)) (encL encEi (LIJi.l x9)))) ∧
 ((MapEq (Kd.int IntKind.i64 :: @List.nil Kd) (ids (Prod.fst x4)) (ids (LIJi.l x9)) (posD (Prod.fst x4)) (posD (LIJi.l x9))) ∧
 (True)))) ∧
 (((El.less lti (List.getD (LIJi.l x9) (Int.toNat (LIJi.i x9)) default) (List.getD (LIJi.l x9) (Int.toNat (LIJi.j x9)) default) = true) →
 ((((-9223372036854775808 : Int) ≤ (2 : Int) * (↑(Prod.snd x4) : Int) + (1 : Int) + (1 : Int)) ∧
 ((2 : Int) * (↑(Prod.snd x4) : Int) + (1 : Int) + (1 : Int) ≤ (9223372036854775807 : Int))) ∧
 (∃ x11 : LIJi,
 ((LIJi.Ok x11) ∧
 (((((0 : Nat) = (0 : Nat)) ∧
 ((0 : Nat) = (0 : Nat))) ∧
 (((2 : Int) * (↑(Prod.snd x4) : Int) + (1 : Int) + (1 : Int) = LIJi.i x11) ∧
 (((↑(Prod.snd x4) : Int) = LIJi.j x11) ∧
 (True)))) ∧
 ((((((0 : Nat) = (0 : Nat)) ∧
 (List.length (LIi.l x1) = List.length (LIJi.l x11))) ∧
 ((True) ∧
 (True))) ∧
 (((RLe (List.length (LIJi.l x11)) (List.length (Prod.fst x4))) ∧
 (RowsEq (Kd.int IntKind.i64 :: Kd.int IntKind.i64 :: @List.nil Kd) (List.length (LIJi.l x11)) (encL encEi (Prod.fst x4)) (encL encEi (LIJi.l x11)))) ∧
 ((MapEq (Kd.int IntKind.i64 :: @List.nil Kd) (ids (Prod.fst x4)) (ids (LIJi.l x11)) (posD (Prod.fst x4)) (posD (LIJi.l x11))) ∧
 (True)))) ∧
 ((((!El.less lti (List.getD (LIJi.l x11) (Int.toNat (LIJi.i x11)) default) (List.getD (LIJi.l x11) (Int.toNat (LIJi.j x11)) default)) = true) →
 ((True) ∧
 (((RLe (List.length (downF lti (LIi.l x1) (Int.toNat (LIi.i x1)))) (List.length (Prod.fst x4))) ∧
 (RowsEq (Kd.int IntKind.i64 :: Kd.int IntKind.i64 :: @List.nil Kd) (List.length (downF lti (LIi.l x1) (Int.toNat (LIi.i x1)))) (encL encEi (Prod.fst x4)) (encL encEi (downF lti (LIi.l x1) (Int.toNat (LIi.i x1)))))) ∧
 ((MapEq (Kd.int IntKind.i64 :: @List.nil Kd) (ids (Prod.fst x4)) (ids (downF lti (LIi.l x1) (Int.toNat (LIi.i x1)))) (posD (Prod.fst x4)) (posD (downF lti (LIi.l x1) (Int.toNat (LIi.i x1))))) ∧
 (True))))) ∧
 (((!El.less lti (List.getD (LIJi.l x11) (Int.toNat (LIJi.i x11)) default) (List.getD (LIJi.l x11) (Int.toNat (LIJi.j x11)) default)) = false) →
 (∃ x14 : LIJi,
 ((LIJi.Ok x14) ∧
 (((((0 : Nat) = (0 : Nat)) ∧
 ((0 : Nat) = (0 : Nat))) ∧
 (((↑(Prod.snd x4) : Int) = LIJi.i x14) ∧
 (((2 : Int) * (↑(Prod.snd x4) : Int) + (1 : Int) + (1 : Int) = LIJi.j x14) ∧
 (True)))) ∧
 ((((((0 : Nat) = (0 : Nat)) ∧
 (List.length (LIi.l x1) = List.length (LIJi.l x14))) ∧
 ((True) ∧
 (True))) ∧
 (((RLe (List.length (LIJi.l x14)) (List.length (Prod.fst x4))) ∧
 (RowsEq (Kd.int IntKind.i64 :: Kd.int IntKind.i64 :: @List.nil Kd) (List.length (LIJi.l x14)) (encL encEi (Prod.fst x4)) (encL encEi (LIJi.l x14)))) ∧
 ((MapEq (Kd.int IntKind.i64 :: @List.nil Kd) (ids (Prod.fst x4)) (ids (LIJi.l x14)) (posD (Prod.fst x4)) (posD (LIJi.l x14))) ∧
 (True)))) ∧
 (∃ x15 : List (El Int) × Nat,
 ((List.length (Prod.fst x15) - Prod.snd x15 < List.length (Prod.fst x4) - Prod.snd x4) ∧
 (((Prod.snd x15 < List.length (Prod.fst x15)) ∧
 ((List.length (Prod.fst x15) = List.length (LIi.l x1)) ∧
 ((List.Nodup (ids (Prod.fst x15))) ∧
 (downF lti (Prod.fst x15) (Prod.snd x15) = downF lti (LIi.l x1) (Int.toNat (LIi.i x1)))))) ∧
 ((((2 : Int) * (↑(Prod.snd x4) : Int) + (1 : Int) + (1 : Int) = (↑(Prod.snd x15) : Int)) ∧
 ((((0 : Nat) = (0 : Nat)) ∧
 ((0 : Nat) = (0 : Nat))) ∧
 (True))) ∧
 (((RLe (List.length (Prod.fst x15)) (List.length (swp (LIJi.l x14) (Int.toNat (LIJi.i x14)) (Int.toNat (LIJi.j x14))))) ∧
 (RowsEq (Kd.int IntKind.i64 :: Kd.int IntKind.i64 :: @List.nil Kd) (List.length (Prod.fst x15)) (encL encEi (swp (LIJi.l x14) (Int.toNat (LIJi.i x14)) (Int.toNat (LIJi.j x14)))) (encL encEi (Prod.fst x15)))) ∧
 ((MapEq (Kd.int IntKind.i64 :: @List.nil Kd) (ids (swp (LIJi.l x14) (Int.toNat (LIJi.i x14)) (Int.toNat (LIJi.j x14)))) (ids (Prod.fst x15)) (posD (swp (LIJi.l x14) (Int.toNat (LIJi.i x14)) (Int.toNat (LIJi.j x14)))) (posD (Prod.fst x15))) ∧
 (((((0 : Nat) = (0 : Nat)) ∧
 (List.length (LIi.l x1) = List.length (LIi.l x1))) ∧
 ((True) ∧
 (True))) ∧
 (True)))))))))))))))))))) ∧
 ((El.less lti (List.getD (LIJi.l x9) (Int.toNat (LIJi.i x9)) default) (List.getD (LIJi.l x9) (Int.toNat (LIJi.j x9)) default) = false) →
 (∃ x17 : LIJi,
 ((LIJi.Ok x17) ∧
 (((((0 : Nat) = (0 : Nat)) ∧
 ((0 : Nat) = (0 : Nat))) ∧
 (((2 : Int) * (↑(Prod.snd x4) : Int) + (1 : Int) = LIJi.i x17) ∧
 (((↑(Prod.snd x4) : Int) = LIJi.j x17) ∧
 (True)))) ∧
 ((((((0 : Nat) = (0 : Nat)) ∧
 (List.length (LIi.l x1) = List.length (LIJi.l x17))) ∧
 ((True) ∧
 (True))) ∧
 (((RLe (List.length (LIJi.l x17)) (List.length (Prod.fst x4))) ∧
 (RowsEq (Kd.int IntKind.i64 :: Kd.int IntKind.i64 :: @List.nil Kd) (List.length (LIJi.l x17)) (encL encEi (Prod.fst x4)) (encL encEi (LIJi.l x17)))) ∧
 ((MapEq (Kd.int IntKind.i64 :: @List.nil Kd) (ids (Prod.fst x4)) (ids (LIJi.l x17)) (posD (Prod.fst x4)) (posD (LIJi.l x17))) ∧
 (True)))) ∧
 ((((!El.less lti (List.getD (LIJi.l x17) (Int.toNat (LIJi.i x17)) default) (List.getD (LIJi.l x17) (Int.toNat (LIJi.j x17)) default)) = true) →
 ((True) ∧
 (((RLe (List.length (downF lti (LIi.l x1) (Int.toNat (LIi.i x1)))) (List.length (Prod.fst x4))) ∧
 (RowsEq (Kd.int IntKind.i64 :: Kd.int IntKind.i64 :: @List.nil Kd) (List.length (downF lti (LIi.l x1) (Int.toNat (LIi.i x1)))) (encL encEi (Prod.fst x4)) (encL encEi (downF lti (LIi.l x1) (Int.toNat (LIi.i x1)))))) ∧
 ((MapEq (Kd.int IntKind.i64 :: @List.nil Kd) (ids (Prod.fst x4)) (ids (downF lti (LIi.l x1) (Int.toNat (LIi.i x1)))) (posD (Prod.fst x4)) (posD (downF lti (LIi.l x1) (Int.toNat (LIi.i x1))))) ∧
 (True))))) ∧
 (((!El.less lti (List.getD (LIJi.l x17) (Int.toNat (LIJi.i x17)) default) (List.getD (LIJi.l x17) (Int.toNat (LIJi.j x17)) default)) = false) →
 (∃ x20 : LIJi,
 ((LIJi.Ok x20) ∧
 (((((0 : Nat) = (0 : Nat)) ∧
 ((0 : Nat) = (0 : Nat))) ∧
 (((↑(Prod.snd x4) : Int) = LIJi.i x20) ∧
 (((2 : Int) * (↑(Prod.snd x4) : Int) + (1 : Int) = LIJi.j x20) ∧
 (True)))) ∧
 ((((((0 : Nat) = (0 : Nat)) ∧
 (List.length (LIi.l x1) = List.length (LIJi.l x20))) ∧
 ((True) ∧
 (True))) ∧
 (((RLe (List.length (LIJi.l x20)) (List.length (Prod.fst x4))) ∧
 (RowsEq (Kd.int IntKind.i64 :: Kd.int IntKind.i64 :: @List.nil Kd) (List.length (LIJi.l x20)) (encL encEi (Prod.fst x4)) (encL encEi (LIJi.l x20)))) ∧
 ((MapEq (Kd.int IntKind.i64 :: @List.nil Kd) (ids (Prod.fst x4)) (ids (LIJi.l x20)) (posD (Prod.fst x4)) (posD (LIJi.l x20))) ∧
 (True)))) ∧
 (∃ x21 : List (El Int) × Nat,
 ((List.length (Prod.fst x21) - Prod.snd x21 < List.length (Prod.fst x4) - Prod.snd x4) ∧
 (((Prod.snd x21 < List.length (Prod.fst x21)) ∧
 ((List.length (Prod.fst x21) = List.length (LIi.l x1)) ∧
 ((List.Nodup (ids (Prod.fst x21))) ∧
 (downF lti (Prod.fst x21) (Prod.snd x21) = downF lti (LIi.l x1) (Int.toNat (LIi.i x1)))))) ∧
 ((((2 : Int) * (↑(Prod.snd x4) : Int) + (1 : Int) = (↑(Prod.snd x21) : Int)) ∧
 ((((0 : Nat) = (0 : Nat)) ∧
 ((0 : Nat) = (0 : Nat))) ∧
 (True))) ∧
 (((RLe (List.length (Prod.fst x21)) (List.length (swp (LIJi.l x20) (Int.toNat (LIJi.i x20)) (Int.toNat (LIJi.j x20))))) ∧
 (RowsEq (Kd.int IntKind.i64 :: Kd.int IntKind.i64 :: @List.nil Kd) (List.length (Prod.fst x21)) (encL encEi (swp (LIJi.l x20) (Int.toNat (LIJi.i x20)) (Int.toNat (LIJi.j x20)))) (encL encEi (Prod.fst x21)))) ∧
 ((MapEq (Kd.int IntKind.i64 :: @List.nil Kd) (ids (swp (LIJi.l x20) (Int.toNat (LIJi.i x20)) (Int.toNat (LIJi.j x20)))) (ids (Prod.fst x21)) (posD (swp (LIJi.l x20) (Int.toNat (LIJi.i x20)) (Int.toNat (LIJi.j x20)))) (posD (Prod.fst x21))) ∧
 (((((0 : Nat) = (0 : Nat)) ∧
 (List.length (LIi.l x1) = List.length (LIi.l x1))) ∧
 ((True) ∧
 (True))) ∧
 (True)))))))))))))))))))))))))) ∧
 ((decide ((2 : Int) * (↑(Prod.snd x4) : Int) + (1 : Int) + (1 : Int) < (↑(List.length (LIi.l x1)) : Int)) = false) →
 (∃ x23 : LIJi,
 ((LIJi.Ok x23) ∧
 (((((0 : Nat) = (0 : Nat)) ∧
 ((0 : Nat) = (0 : Nat))) ∧
 (((2 : Int) * (↑(Prod.snd x4) : Int) + (1 : Int) = LIJi.i x23) ∧
 (((↑(Prod.snd x4) : Int) = LIJi.j x23) ∧
 (True)))) ∧
 ((((((0 : Nat) = (0 : Nat)) ∧
 (List.length (LIi.l x1) = List.length (LIJi.l x23))) ∧
 ((True) ∧
 (True))) ∧
 (((RLe (List.length (LIJi.l x23)) (List.length (Prod.fst x4))) ∧
 (RowsEq (Kd.int IntKind.i64 :: Kd.int IntKind.i64 :: @List.nil Kd) (List.length (LIJi.l x23)) (encL encEi (Prod.fst x4)) (encL encEi (LIJi.l x23)))) ∧
 ((MapEq (Kd.int IntKind.i64 :: @List.nil Kd) (ids (Prod.fst x4)) (ids (LIJi.l x23)) (posD (Prod.fst x4)) (posD (LIJi.l x23))) ∧
 (True)))) ∧
 ((((!El.less lti (List.getD (LIJi.l x23) (Int.toNat (LIJi.i x23)) default) (List.getD (LIJi.l x23) (Int.toNat (LIJi.j x23)) default)) = true) →
 ((True) ∧
 (((RLe (List.length (downF lti (LIi.l x1) (Int.toNat (LIi.i x1)))) (List.length (Prod.fst x4))) ∧
 (RowsEq (Kd.int IntKind.i64 :: Kd.int IntKind.i64 :: @List.nil Kd) (List.length (downF lti (LIi.l x1) (Int.toNat (LIi.i x1)))) (encL encEi (Prod.fst x4)) (encL encEi (downF lti (LIi.l x1) (Int.toNat (LIi.i x1)))))) ∧
 ((MapEq (Kd.int IntKind.i64 :: @List.nil Kd) (ids (Prod.fst x4)) (ids (downF lti (LIi.l x1) (Int.toNat (LIi.i x1)))) (posD (Prod.fst x4)) (posD (downF lti (LIi.l x1) (Int.toNat (LIi.i x1))))) ∧
 (True))))) ∧
 (((!El.less lti (List.getD (LIJi.l x23) (Int.toNat (LIJi.i x23)) default) (List.getD (LIJi.l x23) (Int.toNat (LIJi.j x23)) default)) = false) →
 (∃ x26 : LIJi,
 ((LIJi.Ok x26) ∧
 (((((0 : Nat) = (0 : Nat)) ∧
 ((0 : Nat) = (0 : Nat))) ∧
 (((↑(Prod.snd x4) : Int) = LIJi.i x26) ∧
 (((2 : Int) * (↑(Prod.snd x4) : Int) + (1 : Int) = LIJi.j x26) ∧
 (True)))) ∧
 ((((((0 : Nat) = (0 : Nat)) ∧
 (List.length (LIi.l x1) = List.length (LIJi.l x26))) ∧
 ((True) ∧
 (True))) ∧
 (((RLe (List.length (LIJi.l x26)) (List.length (Prod.fst x4))) ∧
 (RowsEq (Kd.int IntKind.i64 :: Kd.int IntKind.i64 :: @List.nil Kd) (List.length (LIJi.l x26)) (encL encEi (Prod.fst x4)) (encL encEi (LIJi.l x26)))) ∧
 ((MapEq (Kd.int IntKind.i64 :: @List.nil Kd) (ids (Prod.fst x4)) (ids (LIJi.l x26)) (posD (Prod.fst x4)) (posD (LIJi.l x26))) ∧
 (True)))) ∧
 (∃ x27 : List (El Int) × Nat,
 ((List.length (Prod.fst x27) - Prod.snd x27 < List.length (Prod.fst x4) - Prod.snd x4) ∧
 (((Prod.snd x27 < List.length (Prod.fst x27)) ∧
 ((List.length (Prod.fst x27) = List.length (LIi.l x1)) ∧
 ((List.Nodup (ids (Prod.fst x27))) ∧
 (downF lti (Prod.fst x27) (Prod.snd x27) = downF lti (LIi.l x1) (Int.toNat (LIi.i x1)))))) ∧
 ((((2 : Int) * (↑(Prod.snd x4) : Int) + (1 : Int) = (↑(Prod.snd x27) : Int)) ∧
 ((((0 : Nat) = (0 : Nat)) ∧
 ((0 : Nat) = (0 : Nat))) ∧
 (True))) ∧
 (((RLe (List.length (Prod.fst x27)) (List.length (swp (LIJi.l x26) (Int.toNat (LIJi.i x26)) (Int.toNat (LIJi.j x26))))) ∧
 (RowsEq (Kd.int IntKind.i64 :: Kd.int IntKind.i64 :: @List.nil Kd) (List.length (Prod.fst x27)) (encL encEi (swp (LIJi.l x26) (Int.toNat (LIJi.i x26)) (Int.toNat (LIJi.j x26)))) (encL encEi (Prod.fst x27)))) ∧
 ((MapEq (Kd.int IntKind.i64 :: @List.nil Kd) (ids (swp (LIJi.l x26) (Int.toNat (LIJi.i x26)) (Int.toNat (LIJi.j x26)))) (ids (Prod.fst x27)) (posD (swp (LIJi.l x26) (Int.toNat (LIJi.i x26)) (Int.toNat (LIJi.j x26)))) (posD (Prod.fst x27))) ∧
 (((((0 : Nat) = (0 : Nat)) ∧
 (List.length (LIi.l x1) = List.length (LIi.l x1))) ∧
 ((True) ∧
 (True))) ∧
 (True)))))))))))))))))))))))))))))))) = Keeps ⟨T, [], C1i, noInv, 5⟩ Try.f30 downiC downiI by kernel_rfl) (fun x1 => fun h2 => ⟨((LIi.l x1, Int.toNat (LIi.i x1))),
 ⟨⟨(by (try dsimp only at *); (obtain ⟨p1, p2, p3, p4⟩ := h2; first | omega | exact p3)),
 rfl,
 (by (try dsimp only at *); (obtain ⟨p1, p2, p3, p4⟩ := h2; first | omega | exact p3)),
 rfl⟩,
 ⟨(by (try dsimp only at *); (obtain ⟨p1, p2, p3, p4⟩ := h2; first | omega | exact p3)),
 ⟨rfl,
 rfl⟩,
 trivial⟩,
 ⟨⟨Nat.le_refl _⟩,
 RowsEq.rfl'⟩,
 (by (try dsimp only at *); exact MapEq.rfl'),
 ⟨⟨rfl,
 rfl⟩,
 trivial,
 trivial⟩,
 trivial⟩,
 fun x4 => fun h5 => ⟨⟨(by (try dsimp only at *); omega),
 (by (try dsimp only at *); (obtain ⟨p1, p2, p3, p4⟩ := h2; first | omega | exact p3))⟩,
 ⟨(by (try dsimp only at *); omega),
 (by (try dsimp only at *); (obtain ⟨p1, p2, p3, p4⟩ := h2; first | omega | exact p3))⟩,
 fun g6 => have h6 := of_decide_eq_true g6; ⟨trivial,
 ⟨⟨(by (try dsimp only at *); (obtain ⟨q1, q2, q3, q4⟩ := h5; rw [← q4, downi_end (by omega)]; first | exact Nat.le_refl _ | exact MapEq.rfl' | exact RowsEq.rfl'))⟩,
 (by (try dsimp only at *); (obtain ⟨q1, q2, q3, q4⟩ := h5; rw [← q4, downi_end (by omega)]; first | exact Nat.le_refl _ | exact MapEq.rfl' | exact RowsEq.rfl'))⟩,
 (by (try dsimp only at *); (obtain ⟨q1, q2, q3, q4⟩ := h5; rw [← q4, downi_end (by omega)]; first | exact Nat.le_refl _ | exact MapEq.rfl' | exact RowsEq.rfl')),
 trivial⟩,
 fun g7 => have h7 := of_decide_eq_false g7; ⟨⟨(by (try dsimp only at *); omega),
 (by (try dsimp only at *); (obtain ⟨p1, p2, p3, p4⟩ := h2; first | omega | exact p3))⟩,
 fun g8 => have h8 := of_decide_eq_true g8; ⟨⟨(by (try dsimp only at *); omega),
 (by (try dsimp only at *); (obtain ⟨p1, p2, p3, p4⟩ := h2; first | omega | exact p3))⟩,
 ({ l := Prod.fst x4, i := (2 : Int) * (↑(Prod.snd x4) : Int) + (1 : Int) + (1 : Int), j := (2 : Int) * (↑(Prod.snd x4) : Int) + (1 : Int) : LIJi }),
 (by (try dsimp only at *); (obtain ⟨p1, p2, p3, p4⟩ := h2; obtain ⟨q1, q2, q3, q4⟩ := h5; first | omega | (refine ⟨?_, ?_, ?_, ?_, q3⟩ <;> dsimp only <;> omega) | (simp only [swp_length]; done) | (simp only [swp_length]; omega) | exact swp_nodupi q3 (by omega) (by omega))),
 ⟨⟨rfl,
 rfl⟩,
 rfl,
 rfl,
 trivial⟩,
 ⟨⟨⟨rfl,
 (by (try dsimp only at *); omega)⟩,
 trivial,
 trivial⟩,
 ⟨⟨Nat.le_refl _⟩,
 RowsEq.rfl'⟩,
 (by (try dsimp only at *); exact MapEq.rfl'),
 trivial⟩,
 fun h10 => ⟨⟨(by (try dsimp only at *); omega),
 (by (try dsimp only at *); (obtain ⟨p1, p2, p3, p4⟩ := h2; first | omega | exact p3))⟩,
 ({ l := Prod.fst x4, i := (2 : Int) * (↑(Prod.snd x4) : Int) + (1 : Int) + (1 : Int), j := (↑(Prod.snd x4) : Int) : LIJi }),
 (by (try dsimp only at *); (obtain ⟨p1, p2, p3, p4⟩ := h2; obtain ⟨q1, q2, q3, q4⟩ := h5; first | omega | (refine ⟨?_, ?_, ?_, ?_, q3⟩ <;> dsimp only <;> omega) | (simp only [swp_length]; done) | (simp only [swp_length]; omega) | exact swp_nodupi q3 (by omega) (by omega))),
 ⟨⟨rfl,
 rfl⟩,
 rfl,
 rfl,
 trivial⟩,
 ⟨⟨⟨rfl,
 (by (try dsimp only at *); omega)⟩,
 trivial,
 trivial⟩,
 ⟨⟨Nat.le_refl _⟩,
 RowsEq.rfl'⟩,
 (by (try dsimp only at *); exact MapEq.rfl'),
 trivial⟩,
 fun h12 => ⟨trivial,
 ⟨⟨(by (try dsimp only at *); (obtain ⟨q1, q2, q3, q4⟩ := h5; have e1 : (2 * (x4.2 : Int) + 1 + 1).toNat = 2 * x4.2 + 2 := (by omega); have e2 : (2 * (x4.2 : Int) + 1).toNat = 2 * x4.2 + 1 := (by omega); have e3 : 2 * x4.2 + 1 + 1 = 2 * x4.2 + 2 := rfl; simp only [e1, e2, e3, Int.toNat_natCast, Bool.not_eq_true', Bool.not_eq_false'] at *; rw [← q4, downi_stop (c := 2 * x4.2 + 2) (by first | exact kidi_big (by omega) (by assumption) | exact kidi_small (.inr (by assumption)) | exact kidi_small (.inl (by omega))) (by assumption)]; first | exact Nat.le_refl _ | exact MapEq.rfl' | exact RowsEq.rfl'))⟩,
 (by (try dsimp only at *); (obtain ⟨q1, q2, q3, q4⟩ := h5; have e1 : (2 * (x4.2 : Int) + 1 + 1).toNat = 2 * x4.2 + 2 := (by omega); have e2 : (2 * (x4.2 : Int) + 1).toNat = 2 * x4.2 + 1 := (by omega); have e3 : 2 * x4.2 + 1 + 1 = 2 * x4.2 + 2 := rfl; simp only [e1, e2, e3, Int.toNat_natCast, Bool.not_eq_true', Bool.not_eq_false'] at *; rw [← q4, downi_stop (c := 2 * x4.2 + 2) (by first | exact kidi_big (by omega) (by assumption) | exact kidi_small (.inr (by assumption)) | exact kidi_small (.inl (by omega))) (by assumption)]; first | exact Nat.le_refl _ | exact MapEq.rfl' | exact RowsEq.rfl'))⟩,
 (by (try dsimp only at *); (obtain ⟨q1, q2, q3, q4⟩ := h5; have e1 : (2 * (x4.2 : Int) + 1 + 1).toNat = 2 * x4.2 + 2 := (by omega); have e2 : (2 * (x4.2 : Int) + 1).toNat = 2 * x4.2 + 1 := (by omega); have e3 : 2 * x4.2 + 1 + 1 = 2 * x4.2 + 2 := rfl; simp only [e1, e2, e3, Int.toNat_natCast, Bool.not_eq_true', Bool.not_eq_false'] at *; rw [← q4, downi_stop (c := 2 * x4.2 + 2) (by first | exact kidi_big (by omega) (by assumption) | exact kidi_small (.inr (by assumption)) | exact kidi_small (.inl (by omega))) (by assumption)]; first | exact Nat.le_refl _ | exact MapEq.rfl' | exact RowsEq.rfl')),
 trivial⟩,
 fun h13 => ⟨({ l := Prod.fst x4, i := (↑(Prod.snd x4) : Int), j := (2 : Int) * (↑(Prod.snd x4) : Int) + (1 : Int) + (1 : Int) : LIJi }),
 (by (try dsimp only at *); (obtain ⟨p1, p2, p3, p4⟩ := h2; obtain ⟨q1, q2, q3, q4⟩ := h5; first | omega | (refine ⟨?_, ?_, ?_, ?_, q3⟩ <;> dsimp only <;> omega) | (simp only [swp_length]; done) | (simp only [swp_length]; omega) | exact swp_nodupi q3 (by omega) (by omega))),
 ⟨⟨rfl,
 rfl⟩,
 rfl,
 rfl,
 trivial⟩,
 ⟨⟨⟨rfl,
 (by (try dsimp only at *); omega)⟩,
 trivial,
 trivial⟩,
 ⟨⟨Nat.le_refl _⟩,
 RowsEq.rfl'⟩,
 (by (try dsimp only at *); exact MapEq.rfl'),
 trivial⟩,
 ((swp (Prod.fst x4) (Int.toNat (↑(Prod.snd x4) : Int)) (Int.toNat ((2 : Int) * (↑(Prod.snd x4) : Int) + (1 : Int) + (1 : Int))), (2 : Nat) * Prod.snd x4 + (1 : Nat) + (1 : Nat))),
 (by (try dsimp only at *); (obtain ⟨p1, p2, p3, p4⟩ := h2; obtain ⟨q1, q2, q3, q4⟩ := h5; first | omega | (refine ⟨?_, ?_, ?_, ?_, q3⟩ <;> dsimp only <;> omega) | (simp only [swp_length]; done) | (simp only [swp_length]; omega) | exact swp_nodupi q3 (by omega) (by omega))),
 ⟨(by (try dsimp only at *); (obtain ⟨p1, p2, p3, p4⟩ := h2; obtain ⟨q1, q2, q3, q4⟩ := h5; first | omega | (refine ⟨?_, ?_, ?_, ?_, q3⟩ <;> dsimp only <;> omega) | (simp only [swp_length]; done) | (simp only [swp_length]; omega) | exact swp_nodupi q3 (by omega) (by omega))),
 (by (try dsimp only at *); (obtain ⟨p1, p2, p3, p4⟩ := h2; obtain ⟨q1, q2, q3, q4⟩ := h5; first | omega | (refine ⟨?_, ?_, ?_, ?_, q3⟩ <;> dsimp only <;> omega) | (simp only [swp_length]; done) | (simp only [swp_length]; omega) | exact swp_nodupi q3 (by omega) (by omega))),
 (by (try dsimp only at *); (obtain ⟨p1, p2, p3, p4⟩ := h2; obtain ⟨q1, q2, q3, q4⟩ := h5; first | omega | (refine ⟨?_, ?_, ?_, ?_, q3⟩ <;> dsimp only <;> omega) | (simp only [swp_length]; done) | (simp only [swp_length]; omega) | exact swp_nodupi q3 (by omega) (by omega))),
 (by (try dsimp only at *); (obtain ⟨q1, q2, q3, q4⟩ := h5; have e1 : (2 * (x4.2 : Int) + 1 + 1).toNat = 2 * x4.2 + 2 := (by omega); have e2 : (2 * (x4.2 : Int) + 1).toNat = 2 * x4.2 + 1 := (by omega); have e3 : 2 * x4.2 + 1 + 1 = 2 * x4.2 + 2 := rfl; simp only [e1, e2, e3, Int.toNat_natCast, Bool.not_eq_true', Bool.not_eq_false'] at *; rw [downi_step (by first | exact kidi_big (by omega) (by assumption) | exact kidi_small (.inr (by assumption)) | exact kidi_small (.inl (by omega))) (by omega) (by assumption)]; exact q4))⟩,
 ⟨(by (try dsimp only at *); omega),
 ⟨rfl,
 rfl⟩,
 trivial⟩,
 ⟨⟨Nat.le_refl _⟩,
 RowsEq.rfl'⟩,
 (by (try dsimp only at *); exact MapEq.rfl'),
 ⟨⟨rfl,
 rfl⟩,
 trivial,
 trivial⟩,
 trivial⟩⟩,
 fun h16 => ⟨({ l := Prod.fst x4, i := (2 : Int) * (↑(Prod.snd x4) : Int) + (1 : Int), j := (↑(Prod.snd x4) : Int) : LIJi }),
 (by (try dsimp only at *); (obtain ⟨p1, p2, p3, p4⟩ := h2; obtain ⟨q1, q2, q3, q4⟩ := h5; first | omega | (refine ⟨?_, ?_, ?_, ?_, q3⟩ <;> dsimp only <;> omega) | (simp only [swp_length]; done) | (simp only [swp_length]; omega) | exact swp_nodupi q3 (by omega) (by omega))),
 ⟨⟨rfl,
 rfl⟩,
 rfl,
 rfl,
 trivial⟩,
 ⟨⟨⟨rfl,
 (by (try dsimp only at *); omega)⟩,
 trivial,
 trivial⟩,
 ⟨⟨Nat.le_refl _⟩,
 RowsEq.rfl'⟩,
 (by (try dsimp only at *); exact MapEq.rfl'),
 trivial⟩,
 fun h18 => ⟨trivial,
 ⟨⟨(by (try dsimp only at *); (obtain ⟨q1, q2, q3, q4⟩ := h5; have e1 : (2 * (x4.2 : Int) + 1 + 1).toNat = 2 * x4.2 + 2 := (by omega); have e2 : (2 * (x4.2 : Int) + 1).toNat = 2 * x4.2 + 1 := (by omega); have e3 : 2 * x4.2 + 1 + 1 = 2 * x4.2 + 2 := rfl; simp only [e1, e2, e3, Int.toNat_natCast, Bool.not_eq_true', Bool.not_eq_false'] at *; rw [← q4, downi_stop (c := 2 * x4.2 + 1) (by first | exact kidi_big (by omega) (by assumption) | exact kidi_small (.inr (by assumption)) | exact kidi_small (.inl (by omega))) (by assumption)]; first | exact Nat.le_refl _ | exact MapEq.rfl' | exact RowsEq.rfl'))⟩,
 (by (try dsimp only at *); (obtain ⟨q1, q2, q3, q4⟩ := h5; have e1 : (2 * (x4.2 : Int) + 1 + 1).toNat = 2 * x4.2 + 2 := (by omega); have e2 : (2 * (x4.2 : Int) + 1).toNat = 2 * x4.2 + 1 := (by omega); have e3 : 2 * x4.2 + 1 + 1 = 2 * x4.2 + 2 := rfl; simp only [e1, e2, e3, Int.toNat_natCast, Bool.not_eq_true', Bool.not_eq_false'] at *; rw [← q4, downi_stop (c := 2 * x4.2 + 1) (by first | exact kidi_big (by omega) (by assumption) | exact kidi_small (.inr (by assumption)) | exact kidi_small (.inl (by omega))) (by assumption)]; first | exact Nat.le_refl _ | exact MapEq.rfl' | exact RowsEq.rfl'))⟩,
 (by (try dsimp only at *); (obtain ⟨q1, q2, q3, q4⟩ := h5; have e1 : (2 * (x4.2 : Int) + 1 + 1).toNat = 2 * x4.2 + 2 := (by omega); have e2 : (2 * (x4.2 : Int) + 1).toNat = 2 * x4.2 + 1 := (by omega); have e3 : 2 * x4.2 + 1 + 1 = 2 * x4.2 + 2 := rfl; simp only [e1, e2, e3, Int.toNat_natCast, Bool.not_eq_true', Bool.not_eq_false'] at *; rw [← q4, downi_stop (c := 2 * x4.2 + 1) (by first | exact kidi_big (by omega) (by assumption) | exact kidi_small (.inr (by assumption)) | exact kidi_small (.inl (by omega))) (by assumption)]; first | exact Nat.le_refl _ | exact MapEq.rfl' | exact RowsEq.rfl')),
 trivial⟩,
 fun h19 => ⟨({ l := Prod.fst x4, i := (↑(Prod.snd x4) : Int), j := (2 : Int) * (↑(Prod.snd x4) : Int) + (1 : Int) : LIJi }),
 (by (try dsimp only at *); (obtain ⟨p1, p2, p3, p4⟩ := h2; obtain ⟨q1, q2, q3, q4⟩ := h5; first | omega | (refine ⟨?_, ?_, ?_, ?_, q3⟩ <;> dsimp only <;> omega) | (simp only [swp_length]; done) | (simp only [swp_length]; omega) | exact swp_nodupi q3 (by omega) (by omega))),
 ⟨⟨rfl,
 rfl⟩,
 rfl,
 rfl,
 trivial⟩,
 ⟨⟨⟨rfl,
 (by (try dsimp only at *); omega)⟩,
 trivial,
 trivial⟩,
 ⟨⟨Nat.le_refl _⟩,
 RowsEq.rfl'⟩,
 (by (try dsimp only at *); exact MapEq.rfl'),
 trivial⟩,
 ((swp (Prod.fst x4) (Int.toNat (↑(Prod.snd x4) : Int)) (Int.toNat ((2 : Int) * (↑(Prod.snd x4) : Int) + (1 : Int))), (2 : Nat) * Prod.snd x4 + (1 : Nat))),
 (by (try dsimp only at *); (obtain ⟨p1, p2, p3, p4⟩ := h2; obtain ⟨q1, q2, q3, q4⟩ := h5; first | omega | (refine ⟨?_, ?_, ?_, ?_, q3⟩ <;> dsimp only <;> omega) | (simp only [swp_length]; done) | (simp only [swp_length]; omega) | exact swp_nodupi q3 (by omega) (by omega))),
 ⟨(by (try dsimp only at *); (obtain ⟨p1, p2, p3, p4⟩ := h2; obtain ⟨q1, q2, q3, q4⟩ := h5; first | omega | (refine ⟨?_, ?_, ?_, ?_, q3⟩ <;> dsimp only <;> omega) | (simp only [swp_length]; done) | (simp only [swp_length]; omega) | exact swp_nodupi q3 (by omega) (by omega))),
 (by (try dsimp only at *); (obtain ⟨p1, p2, p3, p4⟩ := h2; obtain ⟨q1, q2, q3, q4⟩ := h5; first | omega | (refine ⟨?_, ?_, ?_, ?_, q3⟩ <;> dsimp only <;> omega) | (simp only [swp_length]; done) | (simp only [swp_length]; omega) | exact swp_nodupi q3 (by omega) (by omega))),
 (by (try dsimp only at *); (obtain ⟨p1, p2, p3, p4⟩ := h2; obtain ⟨q1, q2, q3, q4⟩ := h5; first | omega | (refine ⟨?_, ?_, ?_, ?_, q3⟩ <;> dsimp only <;> omega) | (simp only [swp_length]; done) | (simp only [swp_length]; omega) | exact swp_nodupi q3 (by omega) (by omega))),
 (by (try dsimp only at *); (obtain ⟨q1, q2, q3, q4⟩ := h5; have e1 : (2 * (x4.2 : Int) + 1 + 1).toNat = 2 * x4.2 + 2 := (by omega); have e2 : (2 * (x4.2 : Int) + 1).toNat = 2 * x4.2 + 1 := (by omega); have e3 : 2 * x4.2 + 1 + 1 = 2 * x4.2 + 2 := rfl; simp only [e1, e2, e3, Int.toNat_natCast, Bool.not_eq_true', Bool.not_eq_false'] at *; rw [downi_step (by first | exact kidi_big (by omega) (by assumption) | exact kidi_small (.inr (by assumption)) | exact kidi_small (.inl (by omega))) (by omega) (by assumption)]; exact q4))⟩,
 ⟨(by (try dsimp only at *); omega),
 ⟨rfl,
 rfl⟩,
 trivial⟩,
 ⟨⟨Nat.le_refl _⟩,
 RowsEq.rfl'⟩,
 (by (try dsimp only at *); exact MapEq.rfl'),
 ⟨⟨rfl,
 rfl⟩,
 trivial,
 trivial⟩,
 trivial⟩⟩⟩,
 fun g22 => have h22 := of_decide_eq_false g22; ⟨({ l := Prod.fst x4, i := (2 : Int) * (↑(Prod.snd x4) : Int) + (1 : Int), j := (↑(Prod.snd x4) : Int) : LIJi }),
 (by (try dsimp only at *); (obtain ⟨p1, p2, p3, p4⟩ := h2; obtain ⟨q1, q2, q3, q4⟩ := h5; first | omega | (refine ⟨?_, ?_, ?_, ?_, q3⟩ <;> dsimp only <;> omega) | (simp only [swp_length]; done) | (simp only [swp_length]; omega) | exact swp_nodupi q3 (by omega) (by omega))),
 ⟨⟨rfl,
 rfl⟩,
 rfl,
 rfl,
 trivial⟩,
 ⟨⟨⟨rfl,
 (by (try dsimp only at *); omega)⟩,
 trivial,
 trivial⟩,
 ⟨⟨Nat.le_refl _⟩,
 RowsEq.rfl'⟩,
 (by (try dsimp only at *); exact MapEq.rfl'),
 trivial⟩,
 fun h24 => ⟨trivial,
 ⟨⟨(by (try dsimp only at *); (obtain ⟨q1, q2, q3, q4⟩ := h5; have e1 : (2 * (x4.2 : Int) + 1 + 1).toNat = 2 * x4.2 + 2 := (by omega); have e2 : (2 * (x4.2 : Int) + 1).toNat = 2 * x4.2 + 1 := (by omega); have e3 : 2 * x4.2 + 1 + 1 = 2 * x4.2 + 2 := rfl; simp only [e1, e2, e3, Int.toNat_natCast, Bool.not_eq_true', Bool.not_eq_false'] at *; rw [← q4, downi_stop (c := 2 * x4.2 + 1) (by first | exact kidi_big (by omega) (by assumption) | exact kidi_small (.inr (by assumption)) | exact kidi_small (.inl (by omega))) (by assumption)]; first | exact Nat.le_refl _ | exact MapEq.rfl' | exact RowsEq.rfl'))⟩,
 (by (try dsimp only at *); (obtain ⟨q1, q2, q3, q4⟩ := h5; have e1 : (2 * (x4.2 : Int) + 1 + 1).toNat = 2 * x4.2 + 2 := (by omega); have e2 : (2 * (x4.2 : Int) + 1).toNat = 2 * x4.2 + 1 := (by omega); have e3 : 2 * x4.2 + 1 + 1 = 2 * x4.2 + 2 := rfl; simp only [e1, e2, e3, Int.toNat_natCast, Bool.not_eq_true', Bool.not_eq_false'] at *; rw [← q4, downi_stop (c := 2 * x4.2 + 1) (by first | exact kidi_big (by omega) (by assumption) | exact kidi_small (.inr (by assumption)) | exact kidi_small (.inl (by omega))) (by assumption)]; first | exact Nat.le_refl _ | exact MapEq.rfl' | exact RowsEq.rfl'))⟩,
 (by (try dsimp only at *); (obtain ⟨q1, q2, q3, q4⟩ := h5; have e1 : (2 * (x4.2 : Int) + 1 + 1).toNat = 2 * x4.2 + 2 := (by omega); have e2 : (2 * (x4.2 : Int) + 1).toNat = 2 * x4.2 + 1 := (by omega); have e3 : 2 * x4.2 + 1 + 1 = 2 * x4.2 + 2 := rfl; simp only [e1, e2, e3, Int.toNat_natCast, Bool.not_eq_true', Bool.not_eq_false'] at *; rw [← q4, downi_stop (c := 2 * x4.2 + 1) (by first | exact kidi_big (by omega) (by assumption) | exact kidi_small (.inr (by assumption)) | exact kidi_small (.inl (by omega))) (by assumption)]; first | exact Nat.le_refl _ | exact MapEq.rfl' | exact RowsEq.rfl')),
 trivial⟩,
 fun h25 => ⟨({ l := Prod.fst x4, i := (↑(Prod.snd x4) : Int), j := (2 : Int) * (↑(Prod.snd x4) : Int) + (1 : Int) : LIJi }),
 (by (try dsimp only at *); (obtain ⟨p1, p2, p3, p4⟩ := h2; obtain ⟨q1, q2, q3, q4⟩ := h5; first | omega | (refine ⟨?_, ?_, ?_, ?_, q3⟩ <;> dsimp only <;> omega) | (simp only [swp_length]; done) | (simp only [swp_length]; omega) | exact swp_nodupi q3 (by omega) (by omega))),
 ⟨⟨rfl,
 rfl⟩,
 rfl,
 rfl,
 trivial⟩,
 ⟨⟨⟨rfl,
 (by (try dsimp only at *); omega)⟩,
 trivial,
 trivial⟩,
 ⟨⟨Nat.le_refl _⟩,
 RowsEq.rfl'⟩,
 (by (try dsimp only at *); exact MapEq.rfl'),
 trivial⟩,
 ((swp (Prod.fst x4) (Int.toNat (↑(Prod.snd x4) : Int)) (Int.toNat ((2 : Int) * (↑(Prod.snd x4) : Int) + (1 : Int))), (2 : Nat) * Prod.snd x4 + (1 : Nat))),
 (by (try dsimp only at *); (obtain ⟨p1, p2, p3, p4⟩ := h2; obtain ⟨q1, q2, q3, q4⟩ := h5; first | omega | (refine ⟨?_, ?_, ?_, ?_, q3⟩ <;> dsimp only <;> omega) | (simp only [swp_length]; done) | (simp only [swp_length]; omega) | exact swp_nodupi q3 (by omega) (by omega))),
 ⟨(by (try dsimp only at *); (obtain ⟨p1, p2, p3, p4⟩ := h2; obtain ⟨q1, q2, q3, q4⟩ := h5; first | omega | (refine ⟨?_, ?_, ?_, ?_, q3⟩ <;> dsimp only <;> omega) | (simp only [swp_length]; done) | (simp only [swp_length]; omega) | exact swp_nodupi q3 (by omega) (by omega))),
 (by (try dsimp only at *); (obtain ⟨p1, p2, p3, p4⟩ := h2; obtain ⟨q1, q2, q3, q4⟩ := h5; first | omega | (refine ⟨?_, ?_, ?_, ?_, q3⟩ <;> dsimp only <;> omega) | (simp only [swp_length]; done) | (simp only [swp_length]; omega) | exact swp_nodupi q3 (by omega) (by omega))),
 (by (try dsimp only at *); (obtain ⟨p1, p2, p3, p4⟩ := h2; obtain ⟨q1, q2, q3, q4⟩ := h5; first | omega | (refine ⟨?_, ?_, ?_, ?_, q3⟩ <;> dsimp only <;> omega) | (simp only [swp_length]; done) | (simp only [swp_length]; omega) | exact swp_nodupi q3 (by omega) (by omega))),
 (by (try dsimp only at *); (obtain ⟨q1, q2, q3, q4⟩ := h5; have e1 : (2 * (x4.2 : Int) + 1 + 1).toNat = 2 * x4.2 + 2 := (by omega); have e2 : (2 * (x4.2 : Int) + 1).toNat = 2 * x4.2 + 1 := (by omega); have e3 : 2 * x4.2 + 1 + 1 = 2 * x4.2 + 2 := rfl; simp only [e1, e2, e3, Int.toNat_natCast, Bool.not_eq_true', Bool.not_eq_false'] at *; rw [downi_step (by first | exact kidi_big (by omega) (by assumption) | exact kidi_small (.inr (by assumption)) | exact kidi_small (.inl (by omega))) (by omega) (by assumption)]; exact q4))⟩,
 ⟨(by (try dsimp only at *); omega),
 ⟨rfl,
 rfl⟩,
 trivial⟩,
 ⟨⟨Nat.le_refl _⟩,
 RowsEq.rfl'⟩,
 (by (try dsimp only at *); exact MapEq.rfl'),
 ⟨⟨rfl,
 rfl⟩,
 trivial,
 trivial⟩,
 trivial⟩⟩⟩⟩⟩)

theorem downi_good : Good Try.prog 30 downiC ∧ FnOk Try.prog 30 := good_of (c := ⟨T, [], C1i, noInv, 5⟩) tok (ConL.ok con1i) (fn := Try.f30) rfl (by decide +kernel) (fun _ => rfl) downi_keeps

structure LKi where
  l : List (El Int)
  id : Int
  key : Int
def heapOwni (l : List (El Int)) : List (Nat × Blk) := [(100000, .one .own [.sl 100001 0 l.length, .mp 100002]), (100001, .rows .own kEi l.length (encL encEi l)), (100002, .map .own .i64 kMap false (ids l) (posD l))]
def newiC : CT where
  X := Unit
  pre := fun _ => True
  args := fun _ => []
  g0 := fun _ => []
  res := fun _ => .p 1 0 0
  g1 := fun _ => [(1, .one .own [.sl 2 0 0, .mp 3]), (2, .rows .own kEi 0 (encL encEi [])), (3, .map .own .i64 kMap false [] (posD ([] : List (El Int))))]
set_option maxRecDepth 100000 in
theorem newi_keeps : Keeps cfg0 Try.f16 newiC noIv := Eq.mp (show ((∀ x1 : Unit,
 ((True) →
 ((((0 : Nat) = (0 : Nat)) ∧
 ((0 : Nat) = (0 : Nat))) ∧
 ((((True) ∧
 (((0 : Nat) = (0 : Nat)) ∧
 ((0 : Nat) = (0 : Nat)))) ∧
 ((True) ∧
 (True))) ∧
 (((0 : Nat) = (0 : Nat)) ∧
 ((MapEq (Kd.int IntKind.i64 :: @List.nil Kd) (@List.nil Int) (@List.nil Int) (fun (x : Int) (j : Nat) => zRow (Kd.int IntKind.i64 :: @List.nil Kd) j) (posD (@List.nil (El Int)))) ∧
 (True)))))))) = Keeps cfg0 Try.f16 newiC noIv by kernel_rfl) (fun x1 => fun h2 => ⟨⟨rfl,
 rfl⟩,
 ⟨⟨trivial,
 rfl,
 rfl⟩,
 trivial,
 trivial⟩,
 rfl,
 (by exact ⟨List.Perm.refl _, fun k hk => by cases hk⟩),
 trivial⟩)

theorem newi_good : Good Try.prog 16 newiC ∧ FnOk Try.prog 16 := good_of tok con0 (fn := Try.f16) rfl (by decide +kernel) (fun _ => rfl) newi_keeps
def miniC : CT where
  X := List (El Int)
  pre := fun _ => True
  args := fun l => [.p 100000 0 0]
  g0 := fun l => heapHi .bor l
  res := fun l => .tup [.i .i64 (l.getD 0 default).id, .i .i64 (l.getD 0 default).key, .b (decide (l.length ≠ 0))]
  g1 := fun _ => []
set_option maxRecDepth 100000 in
theorem mini_keeps : Keeps cfg0 Try.f27 miniC noIv := Eq.mp (show ((∀ x1 : List (El Int),
 ((True) →
 (((decide ((↑(List.length x1) : Int) = (0 : Int)) = true) →
 ((((0 : Int) = El.id (List.getD x1 (0 : Nat) default)) ∧
 (((0 : Int) = El.key (List.getD x1 (0 : Nat) default)) ∧
 ((false = decide (List.length x1 ≠ (0 : Nat))) ∧
 (True)))) ∧
 (True))) ∧
 ((decide ((↑(List.length x1) : Int) = (0 : Int)) = false) →
 ((((0 : Int) ≤ (0 : Int)) ∧
 ((0 : Int) < (↑(List.length x1) : Int))) ∧
 (((0 : Nat) + Int.toNat (0 : Int) < List.length x1) ∧
 ((((0 : Int) ≤ (0 : Int)) ∧
 ((0 : Int) < (↑(List.length x1) : Int))) ∧
 (((0 : Nat) + Int.toNat (0 : Int) < List.length x1) ∧
 (((El.id (List.getD x1 ((0 : Nat) + Int.toNat (0 : Int)) default) = El.id (List.getD x1 (0 : Nat) default)) ∧
 ((El.key (List.getD x1 ((0 : Nat) + Int.toNat (0 : Int)) default) = El.key (List.getD x1 (0 : Nat) default)) ∧
 ((true = decide (List.length x1 ≠ (0 : Nat))) ∧
 (True)))) ∧
 (True))))))))))) = Keeps cfg0 Try.f27 miniC noIv by kernel_rfl) (fun x1 => fun h2 => ⟨fun g3 => have h3 := of_decide_eq_true g3; ⟨⟨(by (have e : x1.length = 0 := (by omega); have e2 := List.length_eq_zero_iff.1 e; subst e2; rfl)),
 (by (have e : x1.length = 0 := (by omega); have e2 := List.length_eq_zero_iff.1 e; subst e2; rfl)),
 (by grind),
 trivial⟩,
 trivial⟩,
 fun g4 => have h4 := of_decide_eq_false g4; ⟨⟨(by omega),
 (by omega)⟩,
 (by omega),
 ⟨(by omega),
 (by omega)⟩,
 (by omega),
 ⟨(by grind),
 (by grind),
 (by grind),
 trivial⟩,
 trivial⟩⟩)

theorem mini_good : Good Try.prog 27 miniC ∧ FnOk Try.prog 27 := good_of tok con0 (fn := Try.f27) rfl (by decide +kernel) (fun _ => rfl) mini_keeps
def leniC : CT where
  X := List (El Int)
  pre := fun _ => True
  args := fun l => [.p 100000 0 0]
  g0 := fun l => heapHi .bor l
  res := fun l => .i .i64 l.length
  g1 := fun _ => []
set_option maxRecDepth 100000 in
theorem leni_keeps : Keeps cfg0 Try.f15 leniC noIv := Eq.mp (show ((∀ x1 : List (El Int),
 ((True) →
 (((↑(List.length x1) : Int) = (↑(List.length x1) : Int)) ∧
 (True))))) = Keeps cfg0 Try.f15 leniC noIv by kernel_rfl) (fun x1 => fun h2 => ⟨rfl,
 trivial⟩)

theorem leni_good : Good Try.prog 15 leniC ∧ FnOk Try.prog 15 := good_of tok con0 (fn := Try.f15) rfl (by decide +kernel) (fun _ => rfl) leni_keeps

def keyOfi (l : List (El Int)) (id : Int) : Int := if id ∈ ids l then (l.getD (posOf l id) default).key else default
def keyiC : CT where
  X := LKi
  pre := fun _ => True
  args := fun x => [.p 100000 0 0, .i .i64 x.id]
  g0 := fun x => heapHi .bor x.l
  res := fun x => .tup [.i .i64 (keyOfi x.l x.id), .b (decide (x.id ∈ ids x.l))]
  g1 := fun _ => []
set_option maxRecDepth 100000 in
theorem keyi_keeps : Keeps cfg0 Try.f24 keyiC noIv := Eq.mp (show ((∀ x1 : LKi,
 ((True) →
 ((((!decide (LKi.id x1 ∈ ids (LKi.l x1))) = true) →
 ((((0 : Int) = keyOfi (LKi.l x1) (LKi.id x1)) ∧
 ((false = decide (LKi.id x1 ∈ ids (LKi.l x1))) ∧
 (True))) ∧
 (True))) ∧
 (((!decide (LKi.id x1 ∈ ids (LKi.l x1))) = false) →
 ((((0 : Int) ≤ D.toI (if LKi.id x1 ∈ ids (LKi.l x1) then posD (LKi.l x1) (LKi.id x1) (0 : Nat) else D.i (0 : Int))) ∧
 (D.toI (if LKi.id x1 ∈ ids (LKi.l x1) then posD (LKi.l x1) (LKi.id x1) (0 : Nat) else D.i (0 : Int)) < (↑(List.length (LKi.l x1)) : Int))) ∧
 (((0 : Nat) + Int.toNat (D.toI (if LKi.id x1 ∈ ids (LKi.l x1) then posD (LKi.l x1) (LKi.id x1) (0 : Nat) else D.i (0 : Int))) < List.length (LKi.l x1)) ∧
 (((El.key (List.getD (LKi.l x1) ((0 : Nat) + Int.toNat (D.toI (if LKi.id x1 ∈ ids (LKi.l x1) then posD (LKi.l x1) (LKi.id x1) (0 : Nat) else D.i (0 : Int)))) default) = keyOfi (LKi.l x1) (LKi.id x1)) ∧
 ((true = decide (LKi.id x1 ∈ ids (LKi.l x1))) ∧
 (True))) ∧
 (True))))))))) = Keeps cfg0 Try.f24 keyiC noIv by kernel_rfl) (fun x1 => fun h2 => ⟨fun h3 => ⟨⟨(by (have e : x1.id ∉ ids x1.l := (by simp_all); simp [keyOfi, e]; done)),
 (by grind),
 trivial⟩,
 trivial⟩,
 fun h4 => ⟨⟨(by (have e : x1.id ∈ ids x1.l := (by simp_all); have e2 := (posOf_lt e).1; simp only [mget1, e, if_true, posD, D.toI, Nat.zero_add, Int.toNat_natCast] at *; first | omega | (simp [keyOfi, e]; done))),
 (by (have e : x1.id ∈ ids x1.l := (by simp_all); have e2 := (posOf_lt e).1; simp only [mget1, e, if_true, posD, D.toI, Nat.zero_add, Int.toNat_natCast] at *; first | omega | (simp [keyOfi, e]; done)))⟩,
 (by (have e : x1.id ∈ ids x1.l := (by simp_all); have e2 := (posOf_lt e).1; simp only [mget1, e, if_true, posD, D.toI, Nat.zero_add, Int.toNat_natCast] at *; first | omega | (simp [keyOfi, e]; done))),
 ⟨(by (have e : x1.id ∈ ids x1.l := (by simp_all); have e2 := (posOf_lt e).1; rw [if_pos e]; simp [keyOfi, e, posD, D.toI]; done)),
 (by grind),
 trivial⟩,
 trivial⟩⟩)

theorem keyi_good : Good Try.prog 24 keyiC ∧ FnOk Try.prog 24 := good_of tok con0 (fn := Try.f24) rfl (by decide +kernel) (fun _ => rfl) keyi_keeps

end Go.Sym
