/- The heap of numbers with keys of kind s: contracts and walks. Printed by gen/heap.py. -/
import Derived.Test.YtofigelofojjlaaHAs
import Derived.Test.YtofigelofojjlaaXD
namespace Go.Sym
set_option linter.unusedVariables false
set_option linter.unusedSimpArgs false
open Go.Proofs
theorem kids_big {l : List (El ByteArray)} {i : Nat} (h : 2 * i + 2 < l.length) (hs : El.less lts (l.getD (2 * i + 2) default) (l.getD (2 * i + 1) default) = true) : kid lts l i = 2 * i + 2 := by
  unfold kid; rw [if_pos ⟨h, hs⟩]
theorem kids_small {l : List (El ByteArray)} {i : Nat} (h : ¬ 2 * i + 2 < l.length ∨ El.less lts (l.getD (2 * i + 2) default) (l.getD (2 * i + 1) default) = false) : kid lts l i = 2 * i + 1 := by
  unfold kid
  rw [if_neg]
  rintro ⟨h1, h2⟩
  rcases h with h | h
  · exact h h1
  · rw [h] at h2; cases h2
theorem downs_end {l : List (El ByteArray)} {i : Nat} (h : ¬ 2 * i + 1 < l.length) : downF lts l i = l := by
  rw [downF, dif_neg h]
theorem downs_stop {l : List (El ByteArray)} {i c : Nat} (hk : kid lts l i = c) (hs : El.less lts (l.getD c default) (l.getD i default) = false) : downF lts l i = l := by
  rw [downF]
  split
  · rw [hk, hs]; simp
  · rfl
theorem downs_step {l : List (El ByteArray)} {i c : Nat} (hk : kid lts l i = c) (h : 2 * i + 1 < l.length) (hs : El.less lts (l.getD c default) (l.getD i default) = true) : downF lts (swp l i c) c = downF lts l i := by
  rw [downF.eq_def lts l i, dif_pos h, hk, if_pos hs]
def downsC : CT where
  X := LIs
  pre := fun x => x.Ok
  args := fun x => [.p 100000 0 0, .i .i64 x.i]
  g0 := fun x => heapHs .own x.l
  res := fun x => .tup []
  g1 := fun x => heapGs (downF lts x.l x.i.toNat)
def downsI (x : LIs) (id : Nat) : Option Inv := match id with
  | 0 => some { X := List (El ByteArray) × Nat, ok := fun y => y.2 < y.1.length ∧ y.1.length = x.l.length ∧ (ids y.1).Nodup ∧ downF lts y.1 y.2 = downF lts x.l x.i.toNat, fr := fun y => [(1, .i .i64 y.2)], hp := fun y => heapGs y.1, me := fun y => y.1.length - y.2 }
  | _ => none
set_option maxRecDepth 100000 in
theorem downs_keeps : Keeps ⟨T, [], C1s, noInv, 5⟩ Try.f32 downsC downsI := Eq.mp (show ((∀ x1 : LIs,
 ((LIs.Ok x1) →
 (∃ x3 : List (El ByteArray) × Nat,
 ((((Prod.snd x3 < List.length (Prod.fst x3)) ∧
 ((List.length (Prod.fst x3) = List.length (LIs.l x1)) ∧
 ((List.Nodup (ids (Prod.fst x3))) ∧
 (downF lts (Prod.fst x3) (Prod.snd x3) = downF lts (LIs.l x1) (Int.toNat (LIs.i x1)))))) ∧
 (((LIs.i x1 = (↑(Prod.snd x3) : Int)) ∧
 ((((0 : Nat) = (0 : Nat)) ∧
 ((0 : Nat) = (0 : Nat))) ∧
 (True))) ∧
 (((RLe (List.length (Prod.fst x3)) (List.length (LIs.l x1))) ∧
 (RowsEq (Kd.int IntKind.i64 :: Kd.str :: @List.nil Kd) (List.length (Prod.fst x3)) (encL encEs (LIs.l x1)) (encL encEs (Prod.fst x3)))) ∧
 ((MapEq (Kd.int IntKind.i64 :: @List.nil Kd) (ids (LIs.l x1)) (ids (Prod.fst x3)) (posD (LIs.l x1)) (posD (Prod.fst x3))) ∧
 (((((0 : Nat) = (0 : Nat)) ∧
 (List.length (LIs.l x1) = List.length (LIs.l x1))) ∧
 ((True) ∧
 (True))) ∧
 (True)))))) ∧
 (∀ x4 : List (El ByteArray) × Nat,
 ((Prod.snd x4 < List.length (Prod.fst x4) ∧ List.length (Prod.fst x4) = List.length (LIs.l x1) ∧ List.Nodup (ids (Prod.fst x4)) ∧ downF lts (Prod.fst x4) (Prod.snd x4) = downF lts (LIs.l x1) (Int.toNat (LIs.i x1))) →
 ((((-9223372036854775808 : Int) ≤ (2 : Int) * (↑(Prod.snd x4) : Int)) ∧
 ((2 : Int) * (↑(Prod.snd x4) : Int) ≤ (9223372036854775807 : Int))) ∧
 ((((-9223372036854775808 : Int) ≤ (2 : Int) * (↑(Prod.snd x4) : Int) + (1 : Int)) ∧
 ((2 : Int) * (↑(Prod.snd x4) : Int) + (1 : Int) ≤ (9223372036854775807 : Int))) ∧
 (((decide ((↑(List.length (LIs.l x1)) : Int) ≤ (2 : Int) * (↑(Prod.snd x4) : Int) + (1 : Int)) = true) →
 ((True) ∧
 (((RLe (List.length (downF lts (LIs.l x1) (Int.toNat (LIs.i x1)))) (List.length (Prod.fst x4))) ∧
 (RowsEq (Kd.int IntKind.i64 :: Kd.str :: @List.nil Kd) (List.length (downF lts (LIs.l x1) (Int.toNat (LIs.i x1)))) (encL encEs (Prod.fst x4)) (encL encEs (downF lts (LIs.l x1) (Int.toNat (LIs.i x1)))))) ∧
 ((MapEq (Kd.int IntKind.i64 :: @List.nil Kd) (ids (Prod.fst x4)) (ids (downF lts (LIs.l x1) (Int.toNat (LIs.i x1)))) (posD (Prod.fst x4)) (posD (downF lts (LIs.l x1) (Int.toNat (LIs.i x1))))) ∧
 (True))))) ∧
 ((decide ((↑(List.length (LIs.l x1)) : Int) ≤ (2 : Int) * (↑(Prod.snd x4) : Int) + (1 : Int)) = false) →
 ((((-9223372036854775808 : Int) ≤ (2 : Int) * (↑(Prod.snd x4) : Int) + (1 : Int) + (1 : Int)) ∧
 ((2 : Int) * (↑(Prod.snd x4) : Int) + (1 : Int) + (1 : Int) ≤ (9223372036854775807 : Int))) ∧
 (((decide ((2 : Int) * (↑(Prod.snd x4) : Int) + (1 : Int) + (1 : Int) < (↑(List.length (LIs.l x1)) : Int)) = true) →
 ((((-9223372036854775808 : Int) ≤ (2 : Int) * (↑(Prod.snd x4) : Int) + (1 : Int) + (1 : Int)) ∧
 ((2 : Int) * (↑(Prod.snd x4) : Int) + (1 : Int) + (1 : Int) ≤ (9223372036854775807 : Int))) ∧
 (∃ x9 : LIJs,
 ((LIJs.Ok x9) ∧
 (((((0 : Nat) = (0 : Nat)) ∧
 ((0 : Nat) = (0 : Nat))) ∧
 (((2 : Int) * (↑(Prod.snd x4) : Int) + (1 : Int) + (1 : Int) = LIJs.i x9) ∧
 (((2 : Int) * (↑(Prod.snd x4) : Int) + (1 : Int) = LIJs.j x9) ∧
 (True)))) ∧
 ((((((0 : Nat) = (0 : Nat)) ∧
 (List.length (LIs.l x1) = List.length (LIJs.l x9))) ∧
 ((True) ∧
 (True))) ∧
 (((RLe (List.length (LIJs.l x9)) (List.length (Prod.fst x4))) ∧
 (RowsEq (Kd.int IntKind.i64 :: Kd.str :: @List.nil Kd) (List.length (LIJs.l x9)) (encL encEs (Prod.fst x4)) (encL encEs (LIJs.l x9)))) ∧
 ((MapEq (Kd.int IntKind.i64 :: @List.nil Kd) (ids (Prod.fst x4)) (ids (LIJs.l x9)) (posD (Prod.fst x4)) (posD (LIJs.l x9))) ∧
 (True)))) ∧
 (((El.less lts (List.getD (LIJs.l x9) (Int.toNat (LIJs.i x9)) default) (List.getD (LIJs.l x9) (Int.toNat (LIJs.j x9)) default) = true) →
 ((((-9223372036854775808 : Int) ≤ (2 : Int) * (↑(Prod.snd x4) : Int) + (1 : Int) + (1 : Int)) ∧
 ((2 : Int) * (↑(Prod.snd x4) : Int) + (1 : Int) + (1 : Int) ≤ (9223372036854775807 : Int))) ∧
 (∃ x11 : LIJs,
 ((LIJs.Ok x11) ∧
 (((((0 : Nat) = (0 : Nat)) ∧
 ((0 : Nat) = (0 : Nat))) ∧
 (((2 : Int) * (↑(Prod.snd x4) : Int) + (1 : Int) + (1 : Int) = LIJs.i x11) ∧
 (((↑(Prod.snd x4) : Int) = LIJs.j x11) ∧
 (True)))) ∧
 ((((((0 : Nat) = (0 : Nat)) ∧
 (List.length (LIs.l x1) = List.length (LIJs.l x11))) ∧
 ((True) ∧
 (True))) ∧
 (((RLe (List.length (LIJs.l x11)) (List.length (Prod.fst x4))) ∧
 (RowsEq (Kd.int IntKind.i64 :: Kd.str :: @List.nil Kd) (List.length (LIJs.l x11)) (encL encEs (Prod.fst x4)) (encL encEs (LIJs.l x11)))) ∧
 ((MapEq (Kd.int IntKind.i64 :: @List.nil Kd) (ids (Prod.fst x4)) (ids (LIJs.l x11)) (posD (Prod.fst x4)) (posD (LIJs.l x11))) ∧
 (True)))) ∧
 ((((!El.less lts (List.getD (LIJs.l x11) (Int.toNat (LIJs.i x11)) default) (List.getD (LIJs.l x11) (Int.toNat (LIJs.j x11)) default)) = true) →
 ((True) ∧
 (((RLe (List.length (downF lts (LIs.l x1) (Int.toNat (LIs.i x1)))) (List.length (Prod.fst x4))) ∧
 (RowsEq (Kd.int IntKind.i64 :: Kd.str :: @List.nil Kd) (List.length (downF lts (LIs.l x1) (Int.toNat (LIs.i x1)))) (encL encEs (Prod.fst x4)) (encL encEs (downF lts (LIs.l x1) (Int.toNat (LIs.i x1)))))) ∧
 ((MapEq (Kd.int IntKind.i64 :: @List.nil Kd) (ids (Prod.fst x4)) (ids (downF lts (LIs.l x1) (Int.toNat (LIs.i x1)))) (posD (Prod.fst x4)) (posD (downF lts (LIs.l x1) (Int.toNat (LIs.i x1))))) ∧
 (True))))) ∧
 (((!El.less lts (List.getD (LIJs.l x11) (Int.toNat (LIJs.i x11)) default) (List.getD (LIJs.l x11) (Int.toNat (LIJs.j x11)) default)) = false) →
 (∃ x14 : LIJs,
 ((LIJs.Ok x14) ∧
 (((((0 : Nat) = (0 : Nat)) ∧
 ((0 : Nat) = (0 : Nat))) ∧
 (((↑(Prod.snd x4) : Int) = LIJs.i x14) ∧
 (((2 : Int) * (↑(Prod.snd x4) : Int) + (1 : Int) + (1 : Int) = LIJs.j x14) ∧
 (True)))) ∧
 ((((((0 : Nat) = (0 : Nat)) ∧
 (List.length (LIs.l x1) = List.length (LIJs.l x14))) ∧
 ((True) ∧
 (True))) ∧
 (((RLe (List.length (LIJs.l x14)) (List.length (Prod.fst x4))) ∧
 (RowsEq (Kd.int IntKind.i64 :: Kd.str :: @List.nil Kd) (List.length (LIJs.l x14)) (encL encEs (Prod.fst x4)) (encL encEs (LIJs.l x14)))) ∧
 ((MapEq (Kd.int IntKind.i64 :: @List.nil Kd) (ids (Prod.fst x4)) (ids (LIJs.l x14)) (posD (Prod.fst x4)) (posD (LIJs.l x14))) ∧
 (True)))) ∧
 (∃ x15 : List (El ByteArray) × Nat,
 ((List.length (Prod.fst x15) - Prod.snd x15 < List.length (Prod.fst x4) - Prod.snd x4) ∧
 (((Prod.snd x15 < List.length (Prod.fst x15)) ∧
 ((List.length (Prod.fst x15) = List.length (LIs.l x1)) ∧
 ((List.Nodup (ids (Prod.fst x15))) ∧
 (downF lts (Prod.fst x15) (Prod.snd x15) = downF lts (LIs.l x1) (Int.toNat (LIs.i x1)))))) ∧
 ((((2 : Int) * (↑(Prod.snd x4) : Int) + (1 : Int) + (1 : Int) = (↑(Prod.snd x15) : Int)) ∧
 ((((0 : Nat) = (0 : Nat)) ∧
 ((0 : Nat) = (0 : Nat))) ∧
 (True))) ∧
 (((RLe (List.length (Prod.fst x15)) (List.length (swp (LIJs.l x14) (Int.toNat (LIJs.i x14)) (Int.toNat (LIJs.j x14))))) ∧
 (RowsEq (Kd.int IntKind.i64 :: Kd.str :: @List.nil Kd) (List.length (Prod.fst x15)) (encL encEs (swp (LIJs.l x14) (Int.toNat (LIJs.i x14)) (Int.toNat (LIJs.j x14)))) (encL encEs (Prod.fst x15)))) ∧
 ((MapEq (Kd.int IntKind.i64 :: @List.nil Kd) (ids (swp (LIJs.l x14) (Int.toNat (LIJs.i x14)) (Int.toNat (LIJs.j x14)))) (ids (Prod.fst x15)) (posD (swp (LIJs.l x14) (Int.toNat (LIJs.i x14)) (Int.toNat (LIJs.j x14)))) (posD (Prod.fst x15))) ∧
 (((((0 : Nat) = (0 : Nat)) ∧
 (List.length (LIs.l x1) = List.length (LIs.l x1))) ∧
 ((True) ∧
 (True))) ∧
 (True)))))))))))))))))))) ∧
 ((El.less lts (List.getD (LIJs.l x9) (Int.toNat (LIJs.i x9)) default) (List.getD (LIJs.l x9) (Int.toNat (LIJs.j x9)) default) = false) →
 (∃ x17 : LIJs,
 ((LIJs.Ok x17) ∧
 (((((0 : Nat) = (0 : Nat)) ∧
 ((0 : Nat) = (0 : Nat))) ∧
 (((2 : Int) * (↑(Prod.snd x4) : Int) + (1 : Int) = LIJs.i x17) ∧
 (((↑(Prod.snd x4) : Int) = LIJs.j x17) ∧
 (True)))) ∧
 ((((((0 : Nat) = (0 : Nat)) ∧
 (List.length (LIs.l x1) = List.length (LIJs.l x17))) ∧
 ((True) ∧
 (True))) ∧
 (((RLe (List.length (LIJs.l x17)) (List.length (Prod.fst x4))) ∧
 (RowsEq (Kd.int IntKind.i64 :: Kd.str :: @List.nil Kd) (List.length (LIJs.l x17)) (encL encEs (Prod.fst x4)) (encL encEs (LIJs.l x17)))) ∧
 ((MapEq (Kd.int IntKind.i64 :: @List.nil Kd) (ids (Prod.fst x4)) (ids (LIJs.l x17)) (posD (Prod.fst x4)) (posD (LIJs.l x17))) ∧
 (True)))) ∧
 ((((!El.less lts (List.getD (LIJs.l x17) (Int.toNat (LIJs.i x17)) default) (List.getD (LIJs.l x17) (Int.toNat (LIJs.j x17)) default)) = true) →
 ((True) ∧
 (((RLe (List.length (downF lts (LIs.l x1) (Int.toNat (LIs.i x1)))) (List.length (Prod.fst x4))) ∧
 (RowsEq (Kd.int IntKind.i64 :: Kd.str :: @List.nil Kd) (List.length (downF lts (LIs.l x1) (Int.toNat (LIs.i x1)))) (encL encEs (Prod.fst x4)) (encL encEs (downF lts (LIs.l x1) (Int.toNat (LIs.i x1)))))) ∧
 ((MapEq (Kd.int IntKind.i64 :: @List.nil Kd) (ids (Prod.fst x4)) (ids (downF lts (LIs.l x1) (Int.toNat (LIs.i x1)))) (posD (Prod.fst x4)) (posD (downF lts (LIs.l x1) (Int.toNat (LIs.i x1))))) ∧
 (True))))) ∧
 (((!El.less lts (List.getD (LIJs.l x17) (Int.toNat (LIJs.i x17)) default) (List.getD (LIJs.l x17) (Int.toNat (LIJs.j x17)) default)) = false) →
 (∃ x20 : LIJs,
 ((LIJs.Ok x20) ∧
 (((((0 : Nat) = (0 : Nat)) ∧
 ((0 : Nat) = (0 : Nat))) ∧
 (((↑(Prod.snd x4) : Int) = LIJs.i x20) ∧
 (((2 : Int) * (↑(Prod.snd x4) : Int) + (1 : Int) = LIJs.j x20) ∧
 (True)))) ∧
 ((((((0 : Nat) = (0 : Nat)) ∧
 (List.length (LIs.l x1) = List.length (LIJs.l x20))) ∧
 ((True) ∧
 (True))) ∧
 (((RLe (List.length (LIJs.l x20)) (List.length (Prod.fst x4))) ∧
 (RowsEq (Kd.int IntKind.i64 :: Kd.str :: @List.nil Kd) (List.length (LIJs.l x20)) (encL encEs (Prod.fst x4)) (encL encEs (LIJs.l x20)))) ∧
 ((MapEq (Kd.int IntKind.i64 :: @List.nil Kd) (ids (Prod.fst x4)) (ids (LIJs.l x20)) (posD (Prod.fst x4)) (posD (LIJs.l x20))) ∧
 (True)))) ∧
 (∃ x21 : List (El ByteArray) × Nat,
 ((List.length (Prod.fst x21) - Prod.snd x21 < List.length (Prod.fst x4) - Prod.snd x4) ∧
 (((Prod.snd x21 < List.length (Prod.fst x21)) ∧
 ((List.length (Prod.fst x21) = List.length (LIs.l x1)) ∧
 ((List.Nodup (ids (Prod.fst x21))) ∧
 (downF lts (Prod.fst x21) (Prod.snd x21) = downF lts (LIs.l x1) (Int.toNat (LIs.i x1)))))) ∧
 ((((2 : Int) * (↑(Prod.snd x4) : Int) + (1 : Int) = (↑(Prod.snd x21) : Int)) ∧
 ((((0 : Nat) = (0 : Nat)) ∧
 ((0 : Nat) = (0 : Nat))) ∧
 (True))) ∧
 (((RLe (List.length (Prod.fst x21)) (List.length (swp (LIJs.l x20) (Int.toNat (LIJs.i x20)) (Int.toNat (LIJs.j x20))))) ∧
 (RowsEq (Kd.int IntKind.i64 :: Kd.str :: @List.nil Kd) (List.length (Prod.fst x21)) (encL encEs (swp (LIJs.l x20) (Int.toNat (LIJs.i x20)) (Int.toNat (LIJs.j x20)))) (encL encEs (Prod.fst x21)))) ∧
 ((MapEq (Kd.int IntKind.i64 :: @List.nil Kd) (ids (swp (LIJs.l x20) (Int.toNat (LIJs.i x20)) (Int.toNat (LIJs.j x20)))) (ids (Prod.fst x21)) (posD (swp (LIJs.l x20) (Int.toNat (LIJs.i x20)) (Int.toNat (LIJs.j x20)))) (posD (Prod.fst x21))) ∧
 (((((0 : Nat) = (0 : Nat)) ∧
 (List.length (LIs.l x1) = List.length (LIs.l x1))) ∧
 ((True) ∧
 (True))) ∧
 (True)))))))))))))))))))))))))) ∧
 ((decide ((2 : Int) * (↑(Prod.snd x4) : Int) + (1 : Int) + (1 : Int) < (↑(List.length (LIs.l x1)) : Int)) = false) →
 (∃ x23 : LIJs,
 ((LIJs.Ok x23) ∧
 (((((0 : Nat) = (0 : Nat)) ∧
 ((0 : Nat) = (0 : Nat))) ∧
 (((2 : Int) * (↑(Prod.snd x4) : Int) + (1 : Int) = LIJs.i x23) ∧
 (((↑(Prod.snd x4) : Int) = LIJs.j x23) ∧
 (True)))) ∧
 ((((((0 : Nat) = (0 : Nat)) ∧
 (List.length (LIs.l x1) = List.length (LIJs.l x23))) ∧
 ((True) ∧
 (True))) ∧
 (((RLe (List.length (LIJs.l x23)) (List.length (Prod.fst x4))) ∧
 (RowsEq (Kd.int IntKind.i64 :: Kd.str :: @List.nil Kd) (List.length (LIJs.l x23)) (encL encEs (Prod.fst x4)) (encL encEs (LIJs.l x23)))) ∧
 ((MapEq (Kd.int IntKind.i64 :: @List.nil Kd) (ids (Prod.fst x4)) (ids (LIJs.l x23)) (posD (Prod.fst x4)) (posD (LIJs.l x23))) ∧
 (True)))) ∧
 ((((!El.less lts (List.getD (LIJs.l x23) (Int.toNat (LIJs.i x23)) default) (List.getD (LIJs.l x23) (Int.toNat (LIJs.j x23)) default)) = true) →
 ((True) ∧
 (((RLe (List.length (downF lts (LIs.l x1) (Int.toNat (LIs.i x1)))) (List.length (Prod.fst x4))) ∧
 (RowsEq (Kd.int IntKind.i64 :: Kd.str :: @List.nil Kd) (List.length (downF lts (LIs.l x1) (Int.toNat (LIs.i x1)))) (encL encEs (Prod.fst x4)) (encL encEs (downF lts (LIs.l x1) (Int.toNat (LIs.i x1)))))) ∧
 ((MapEq (Kd.int IntKind.i64 :: @List.nil Kd) (ids (Prod.fst x4)) (ids (downF lts (LIs.l x1) (Int.toNat (LIs.i x1)))) (posD (Prod.fst x4)) (posD (downF lts (LIs.l x1) (Int.toNat (LIs.i x1))))) ∧
 (True))))) ∧
 (((!El.less lts (List.getD (LIJs.l x23) (Int.toNat (LIJs.i x23)) default) (List.getD (LIJs.l x23) (Int.toNat (LIJs.j x23)) default)) = false) →
 (∃ x26 : LIJs,
 ((LIJs.Ok x26) ∧
 (((((0 : Nat) = (0 : Nat)) ∧
 ((0 : Nat) = (0 : Nat))) ∧
 (((↑(Prod.snd x4) : Int) = LIJs.i x26) ∧
 (((2 : Int) * (↑(Prod.snd x4) : Int) + (1 : Int) = LIJs.j x26) ∧
 (True)))) ∧
 ((((((0 : Nat) = (0 : Nat)) ∧
 (List.length (LIs.l x1) = List.length (LIJs.l x26))) ∧
 ((True) ∧
 (True))) ∧
 (((RLe (List.length (LIJs.l x26)) (List.length (Prod.fst x4))) ∧
 (RowsEq (Kd.int IntKind.i64 :: Kd.str :: @List.nil Kd) (List.length (LIJs.l x26)) (encL encEs (Prod.fst x4)) (encL encEs (LIJs.l x26)))) ∧
 ((MapEq (Kd.int IntKind.i64 :: @List.nil Kd) (ids (Prod.fst x4)) (ids (LIJs.l x26)) (posD (Prod.fst x4)) (posD (LIJs.l x26))) ∧
 (True)))) ∧
 (∃ x27 : List (El ByteArray) × Nat,
 ((List.length (Prod.fst x27) - Prod.snd x27 < List.length (Prod.fst x4) - Prod.snd x4) ∧
 (((Prod.snd x27 < List.length (Prod.fst x27)) ∧
 ((List.length (Prod.fst x27) = List.length (LIs.l x1)) ∧
 ((List.Nodup (ids (Prod.fst x27))) ∧
 (downF lts (Prod.fst x27) (Prod.snd x27) = downF lts (LIs.l x1) (Int.toNat (LIs.i x1)))))) ∧
 ((((2 : Int) * (↑(Prod.snd x4) : Int) + (1 : Int) = (↑(Prod.snd x27) : Int)) ∧
 ((((0 : Nat) = (0 : Nat)) ∧
 ((0 : Nat) = (0 : Nat))) ∧
 (True))) ∧
 (((RLe (List.length (Prod.fst x27)) (List.length (swp (LIJs.l x26) (Int.toNat (LIJs.i x26)) (Int.toNat (LIJs.j x26))))) ∧
 (RowsEq (Kd.int IntKind.i64 :: Kd.str :: @List.nil Kd) (List.length (Prod.fst x27)) (encL encEs (swp (LIJs.l x26) (Int.toNat (LIJs.i x26)) (Int.toNat (LIJs.j x26)))) (encL encEs (Prod.fst x27)))) ∧
 ((MapEq (Kd.int IntKind.i64 :: @List.nil Kd) (ids (swp (LIJs.l x26) (Int.toNat (LIJs.i x26)) (Int.toNat (LIJs.j x26)))) (ids (Prod.fst x27)) (posD (swp (LIJs.l x26) (Int.toNat (LIJs.i x26)) (Int.toNat (LIJs.j x26)))) (posD (Prod.fst x27))) ∧
 (((((0 : Nat) = (0 : Nat)) ∧
 (List.length (LIs.l x1) = List.length (LIs.l x1))) ∧
 ((True) ∧
 (True))) ∧
 (True)))))))))))))))))))))))))))))))) = Keeps ⟨T, [], C1s, noInv, 5⟩ Try.f32 downsC downsI by kernel_rfl) (fun x1 => fun h2 => ⟨((LIs.l x1, Int.toNat (LIs.i x1))),
 ⟨⟨(by (try dsimp only at *); (obtain ⟨p1, p2, p3, p4⟩ := h2; first | omega | exact p3)),
 rfl,
 (by (try dsimp only at *); (obtain ⟨p1, p2, p3, p4⟩ := h2; first | omega | exact p3)),
 rfl⟩,
 ⟨(by (try dsimp only at *); (obtain ⟨p1, p2, p3, p4⟩ := h2; first | omega | exact p3)),
 ⟨rfl,
 rfl⟩,
 trivial⟩,
 ⟨⟨Nat.le_refl _⟩,
 RowsEq.rfl'⟩,
 (by (try dsimp only at *); exact MapEq.rfl'),
 ⟨⟨rfl,
 rfl⟩,
 trivial,
 trivial⟩,
 trivial⟩,
 fun x4 => fun h5 => ⟨⟨(by (try dsimp only at *); omega),
 (by (try dsimp only at *); (obtain ⟨p1, p2, p3, p4⟩ := h2; first | omega | exact p3))⟩,
 ⟨(by (try dsimp only at *); omega),
 (by (try dsimp only at *); (obtain ⟨p1, p2, p3, p4⟩ := h2; first | omega | exact p3))⟩,
 fun g6 => have h6 := of_decide_eq_true g6; ⟨trivial,
 ⟨⟨(by (try dsimp only at *); (obtain ⟨q1, q2, q3, q4⟩ := h5; rw [← q4, downs_end (by omega)]; first | exact Nat.le_refl _ | exact MapEq.rfl' | exact RowsEq.rfl'))⟩,
 (by (try dsimp only at *); (obtain ⟨q1, q2, q3, q4⟩ := h5; rw [← q4, downs_end (by omega)]; first | exact Nat.le_refl _ | exact MapEq.rfl' | exact RowsEq.rfl'))⟩,
 (by (try dsimp only at *); (obtain ⟨q1, q2, q3, q4⟩ := h5; rw [← q4, downs_end (by omega)]; first | exact Nat.le_refl _ | exact MapEq.rfl' | exact RowsEq.rfl')),
 trivial⟩,
 fun g7 => have h7 := of_decide_eq_false g7; ⟨⟨(by (try dsimp only at *); omega),
 (by (try dsimp only at *); (obtain ⟨p1, p2, p3, p4⟩ := h2; first | omega | exact p3))⟩,
 fun g8 => have h8 := of_decide_eq_true g8; ⟨⟨(by (try dsimp only at *); omega),
 (by (try dsimp only at *); (obtain ⟨p1, p2, p3, p4⟩ := h2; first | omega | exact p3))⟩,
 ({ l := Prod.fst x4, i := (2 : Int) * (↑(Prod.snd x4) : Int) + (1 : Int) + (1 : Int), j := (2 : Int) * (↑(Prod.snd x4) : Int) + (1 : Int) : LIJs }),
 (by (try dsimp only at *); (obtain ⟨p1, p2, p3, p4⟩ := h2; obtain ⟨q1, q2, q3, q4⟩ := h5; first | omega | (refine ⟨?_, ?_, ?_, ?_, q3⟩ <;> dsimp only <;> omega) | (simp only [swp_length]; done) | (simp only [swp_length]; omega) | exact swp_nodups q3 (by omega) (by omega))),
 ⟨⟨rfl,
 rfl⟩,
 rfl,
 rfl,
 trivial⟩,
 ⟨⟨⟨rfl,
 (by (try dsimp only at *); omega)⟩,
 trivial,
 trivial⟩,
 ⟨⟨Nat.le_refl _⟩,
 RowsEq.rfl'⟩,
 (by (try dsimp only at *); exact MapEq.rfl'),
 trivial⟩,
 fun h10 => ⟨⟨(by (try dsimp only at *); omega),
 (by (try dsimp only at *); (obtain ⟨p1, p2, p3, p4⟩ := h2; first | omega | exact p3))⟩,
 ({ l := Prod.fst x4, i := (2 : Int) * (↑(Prod.snd x4) : Int) + (1 : Int) + (1 : Int), j := (↑(Prod.snd x4) : Int) : LIJs }),
 (by (try dsimp only at *); (obtain ⟨p1, p2, p3, p4⟩ := h2; obtain ⟨q1, q2, q3, q4⟩ := h5; first | omega | (refine ⟨?_, ?_, ?_, ?_, q3⟩ <;> dsimp only <;> omega) | (simp only [swp_length]; done) | (simp only [swp_length]; omega) | exact swp_nodups q3 (by omega) (by omega))),
 ⟨⟨rfl,
 rfl⟩,
 rfl,
 rfl,
 trivial⟩,
 ⟨⟨⟨rfl,
 (by (try dsimp only at *); omega)⟩,
 trivial,
 trivial⟩,
 ⟨⟨Nat.le_refl _⟩,
 RowsEq.rfl'⟩,
 (by (try dsimp only at *); exact MapEq.rfl'),
 trivial⟩,
 fun h12 => ⟨trivial,
 ⟨⟨(by (try dsimp only at *); (obtain ⟨q1, q2, q3, q4⟩ := h5; have e1 : (2 * (x4.2 : Int) + 1 + 1).toNat = 2 * x4.2 + 2 := (by omega); have e2 : (2 * (x4.2 : Int) + 1).toNat = 2 * x4.2 + 1 := (by omega); have e3 : 2 * x4.2 + 1 + 1 = 2 * x4.2 + 2 := rfl; simp only [e1, e2, e3, Int.toNat_natCast, Bool.not_eq_true', Bool.not_eq_false'] at *; rw [← q4, downs_stop (c := 2 * x4.2 + 2) (by first | exact kids_big (by omega) (by assumption) | exact kids_small (.inr (by assumption)) | exact kids_small (.inl (by omega))) (by assumption)]; first | exact Nat.le_refl _ | exact MapEq.rfl' | exact RowsEq.rfl'))⟩,
 (by (try dsimp only at *); (obtain ⟨q1, q2, q3, q4⟩ := h5; have e1 : (2 * (x4.2 : Int) + 1 + 1).toNat = 2 * x4.2 + 2 := (by omega); have e2 : (2 * (x4.2 : Int) + 1).toNat = 2 * x4.2 + 1 := (by omega); have e3 : 2 * x4.2 + 1 + 1 = 2 * x4.2 + 2 := rfl; simp only [e1, e2, e3, Int.toNat_natCast, Bool.not_eq_true', Bool.not_eq_false'] at *; rw [← q4, downs_stop (c := 2 * x4.2 + 2) (by first | exact kids_big (by omega) (by assumption) | exact kids_small (.inr (by assumption)) | exact kids_small (.inl (by omega))) (by assumption)]; first | exact Nat.le_refl _ | exact MapEq.rfl' | exact RowsEq.rfl'))⟩,
 (by (try dsimp only at *); (obtain ⟨q1, q2, q3, q4⟩ := h5; have e1 : (2 * (x4.2 : Int) + 1 + 1).toNat = 2 * x4.2 + 2 := (by omega); have e2 : (2 * (x4.2 : Int) + 1).toNat = 2 * x4.2 + 1 := (by omega); have e3 : 2 * x4.2 + 1 + 1 = 2 * x4.2 + 2 := rfl; simp only [e1, e2, e3, Int.toNat_natCast, Bool.not_eq_true', Bool.not_eq_false'] at *; rw [← q4, downs_stop (c := 2 * x4.2 + 2) (by first | exact kids_big (by omega) (by assumption) | exact kids_small (.inr (by assumption)) | exact kids_small (.inl (by omega))) (by assumption)]; first | exact Nat.le_refl _ | exact MapEq.rfl' | exact RowsEq.rfl')),
 trivial⟩,
 fun h13 => ⟨({ l := Prod.fst x4, i := (↑(Prod.snd x4) : Int), j := (2 : Int) * (↑(Prod.snd x4) : Int) + (1 : Int) + (1 : Int) : LIJs }),
 (by (try dsimp only at *); (obtain ⟨p1, p2, p3, p4⟩ := h2; obtain ⟨q1, q2, q3, q4⟩ := h5; first | omega | (refine ⟨?_, ?_, ?_, ?_, q3⟩ <;> dsimp only <;> omega) | (simp only [swp_length]; done) | (simp only [swp_length]; omega) | exact swp_nodups q3 (by omega) (by omega))),
 ⟨⟨rfl,
 rfl⟩,
 rfl,
 rfl,
 trivial⟩,
 ⟨⟨⟨rfl,
 (by (try dsimp only at *); omega)⟩,
 trivial,
 trivial⟩,
 ⟨⟨Nat.le_refl _⟩,
 RowsEq.rfl'⟩,
 (by (try dsimp only at *); exact MapEq.rfl'),
 trivial⟩,
 ((swp (Prod.fst x4) (Int.toNat (↑(Prod.snd x4) : Int)) (Int.toNat ((2 : Int) * (↑(Prod.snd x4) : Int) + (1 : Int) + (1 : Int))), (2 : Nat) * Prod.snd x4 + (1 : Nat) + (1 : Nat))),
 (by (try dsimp only at *); (obtain ⟨p1, p2, p3, p4⟩ := h2; obtain ⟨q1, q2, q3, q4⟩ := h5; first | omega | (refine ⟨?_, ?_, ?_, ?_, q3⟩ <;> dsimp only <;> omega) | (simp only [swp_length]; done) | (simp only [swp_length]; omega) | exact swp_nodups q3 (by omega) (by omega))),
 ⟨(by (try dsimp only at *); (obtain ⟨p1, p2, p3, p4⟩ := h2; obtain ⟨q1, q2, q3, q4⟩ := h5; first | omega | (refine ⟨?_, ?_, ?_, ?_, q3⟩ <;> dsimp only <;> omega) | (simp only [swp_length]; done) | (simp only [swp_length]; omega) | exact swp_nodups q3 (by omega) (by omega))),
 (by (try dsimp only at *); (obtain ⟨p1, p2, p3, p4⟩ := h2; obtain ⟨q1, q2, q3, q4⟩ := h5; first | omega | (refine ⟨?_, ?_, ?_, ?_, q3⟩ <;> dsimp only <;> omega) | (simp only [swp_length]; done) | (simp only [swp_length]; omega) | exact swp_nodups q3 (by omega) (by omega))),
 (by (try dsimp only at *); (obtain ⟨p1, p2, p3, p4⟩ := h2; obtain ⟨q1, q2, q3, q4⟩ := h5; first | omega | (refine ⟨?_, ?_, ?_, ?_, q3⟩ <;> dsimp only <;> omega) | (simp only [swp_length]; done) | (simp only [swp_length]; omega) | exact swp_nodups q3 (by omega) (by omega))),
 (by (try dsimp only at *); (obtain ⟨q1, q2, q3, q4⟩ := h5; have e1 : (2 * (x4.2 : Int) + 1 + 1).toNat = 2 * x4.2 + 2 := (by omega); have e2 : (2 * (x4.2 : Int) + 1).toNat = 2 * x4.2 + 1 := (by omega); have e3 : 2 * x4.2 + 1 + 1 = 2 * x4.2 + 2 := rfl; simp only [e1, e2, e3, Int.toNat_natCast, Bool.not_eq_true', Bool.not_eq_false'] at *; rw [downs_step (by first | exact kids_big (by omega) (by assumption) | exact kids_small (.inr (by assumption)) | exact kids_small (.inl (by omega))) (by omega) (by assumption)]; exact q4))⟩,
 ⟨(by (try dsimp only at *); omega),
 ⟨rfl,
 rfl⟩,
 trivial⟩,
 ⟨⟨Nat.le_refl _⟩,
 RowsEq.rfl'⟩,
 (by (try dsimp only at *); exact MapEq.rfl'),
 ⟨⟨rfl,
 rfl⟩,
 trivial,
 trivial⟩,
 trivial⟩⟩,
 fun h16 => ⟨({ l := Prod.fst x4, i := (2 : Int) * (↑(Prod.snd x4) : Int) + (1 : Int), j := (↑(Prod.snd x4) : Int) : LIJs }),
 (by (try dsimp only at *); (obtain ⟨p1, p2, p3, p4⟩ := h2; obtain ⟨q1, q2, q3, q4⟩ := h5; first | omega | (refine ⟨?_, ?_, ?_, ?_, q3⟩ <;> dsimp only <;> omega) | (simp only [swp_length]; done) | (simp only [swp_length]; omega) | exact swp_nodups q3 (by omega) (by omega))),
 ⟨⟨rfl,
 rfl⟩,
 rfl,
 rfl,
 trivial⟩,
 ⟨⟨⟨rfl,
 (by (try dsimp only at *); omega)⟩,
 trivial,
 trivial⟩,
 ⟨⟨Nat.le_refl _⟩,
 RowsEq.rfl'⟩,
 (by (try dsimp only at *); exact MapEq.rfl'),
 trivial⟩,
 fun h18 => ⟨trivial,
 ⟨⟨(by (try dsimp only at *); (obtain ⟨q1, q2, q3, q4⟩ := h5; have e1 : (2 * (x4.2 : Int) + 1 + 1).toNat = 2 * x4.2 + 2 := (by omega); have e2 : (2 * (x4.2 : Int) + 1).toNat = 2 * x4.2 + 1 := (by omega); have e3 : 2 * x4.2 + 1 + 1 = 2 * x4.2 + 2 := rfl; simp only [e1, e2, e3, Int.toNat_natCast, Bool.not_eq_true', Bool.not_eq_false'] at *; rw [← q4, downs_stop (c := 2 * x4.2 + 1) (by first | exact kids_big (by omega) (by assumption) | exact kids_small (.inr (by assumption)) | exact kids_small (.inl (by omega))) (by assumption)]; first | exact Nat.le_refl _ | exact MapEq.rfl' | exact RowsEq.rfl'))⟩,
 (by (try dsimp only at *); (obtain ⟨q1, q2, q3, q4⟩ := h5; have e1 : (2 * (x4.2 : Int) + 1 + 1).toNat = 2 * x4.2 + 2 := (by omega); have e2 : (2 * (x4.2 : Int) + 1).toNat = 2 * x4.2 + 1 := (by omega); have e3 : 2 * x4.2 + 1 + 1 = 2 * x4.2 + 2 := rfl; simp only [e1, e2, e3, Int.toNat_natCast, Bool.not_eq_true', Bool.not_eq_false'] at *; rw [← q4, downs_stop (c := 2 * x4.2 + 1) (by first | exact kids_big (by omega) (by assumption) | exact kids_small (.inr (by assumption)) | exact kids_small (.inl (by omega))) (by assumption)]; first | exact Nat.le_refl _ | exact MapEq.rfl' | exact RowsEq.rfl'))⟩,
 (by (try dsimp only at *); (obtain ⟨q1, q2, q3, q4⟩ := h5; have e1 : (2 * (x4.2 : Int) + 1 + 1).toNat = 2 * x4.2 + 2 := (by omega); have e2 : (2 * (x4.2 : Int) + 1).toNat = 2 * x4.2 + 1 := (by omega); have e3 : 2 * x4.2 + 1 + 1 = 2 * x4.2 + 2 := rfl; simp only [e1, e2, e3, Int.toNat_natCast, Bool.not_eq_true', Bool.not_eq_false'] at *; rw [← q4, downs_stop (c := 2 * x4.2 + 1) (by first | exact kids_big (by omega) (by assumption) | exact kids_small (.inr (by assumption)) | exact kids_small (.inl (by omega))) (by assumption)]; first | exact Nat.le_refl _ | exact MapEq.rfl' | exact RowsEq.rfl')),
 trivial⟩,
 fun h19 => ⟨({ l := Prod.fst x4, i := (↑(Prod.snd x4) : Int), j := (2 : Int) * (↑(Prod.snd x4) : Int) + (1 : Int) : LIJs }),
 (by (try dsimp only at *); (obtain ⟨p1, p2, p3, p4⟩ := h2; obtain ⟨q1, q2, q3, q4⟩ := h5; first | omega | (refine ⟨?_, ?_, ?_, ?_, q3⟩ <;> dsimp only <;> omega) | (simp only [swp_length]; done) | (simp only [swp_length]; omega) | exact swp_nodups q3 (by omega) (by omega))),
 ⟨⟨rfl,
 rfl⟩,
 rfl,
 rfl,
 trivial⟩,
 ⟨⟨⟨rfl,
 (by (try dsimp only at *); omega)⟩,
 trivial,
 trivial⟩,
 ⟨⟨Nat.le_refl _⟩,
 RowsEq.rfl'⟩,
 (by (try dsimp only at *); exact MapEq.rfl'),
 trivial⟩,
 ((swp (Prod.fst x4) (Int.toNat (↑(Prod.snd x4) : Int)) (Int.toNat ((2 : Int) * (↑(Prod.snd x4) : Int) + (1 : Int))), (2 : Nat) * Prod.snd x4 + (1 : Nat))),
 (by (try dsimp only at *); (obtain ⟨p1, p2, p3, p4⟩ := h2; obtain ⟨q1, q2, q3, q4⟩ := h5; first | omega | (refine ⟨?_, ?_, ?_, ?_, q3⟩ <;> dsimp only <;> omega) | (simp only [swp_length]; done) | (simp only [swp_length]; omega) | exact swp_nodups q3 (by omega) (by omega))),
 ⟨(by (try dsimp only at *); (obtain ⟨p1, p2, p3, p4⟩ := h2; obtain ⟨q1, q2, q3, q4⟩ := h5; first | omega | (refine ⟨?_, ?_, ?_, ?_, q3⟩ <;> dsimp only <;> omega) | (simp only [swp_length]; done) | (simp only [swp_length]; omega) | exact swp_nodups q3 (by omega) (by omega))),
 (by (try dsimp only at *); (obtain ⟨p1, p2, p3, p4⟩ := h2; obtain ⟨q1, q2, q3, q4⟩ := h5; first | omega | (refine ⟨?_, ?_, ?_, ?_, q3⟩ <;> dsimp only <;> omega) | (simp only [swp_length]; done) | (simp only [swp_length]; omega) | exact swp_nodups q3 (by omega) (by omega))),
 (by (try dsimp only at *); (obtain ⟨p1, p2, p3, p4⟩ := h2; obtain ⟨q1, q2, q3, q4⟩ := h5; first | omega | (refine ⟨?_, ?_, ?_, ?_, q3⟩ <;> dsimp only <;> omega) | (simp only [swp_length]; done) | (simp only [swp_length]; omega) | exact swp_nodups q3 (by omega) (by omega))),
 (by (try dsimp only at *); (obtain ⟨q1, q2, q3, q4⟩ := h5; have e1 : (2 * (x4.2 : Int) + 1 + 1).toNat = 2 * x4.2 + 2 := (by omega); have e2 : (2 * (x4.2 : Int) + 1).toNat = 2 * x4.2 + 1 := (by omega); have e3 : 2 * x4.2 + 1 + 1 = 2 * x4.2 + 2 := rfl; simp only [e1, e2, e3, Int.toNat_natCast, Bool.not_eq_true', Bool.not_eq_false'] at *; rw [downs_step (by first | exact kids_big (by omega) (by assumption) | exact kids_small (.inr (by assumption)) | exact kids_small (.inl (by omega))) (by omega) (by assumption)]; exact q4))⟩,
 ⟨(by (try dsimp only at *); omega),
 ⟨rfl,
 rfl⟩,
 trivial⟩,
 ⟨⟨Nat.le_refl _⟩,
 RowsEq.rfl'⟩,
 (by (try dsimp only at *); exact MapEq.rfl'),
 ⟨⟨rfl,
 rfl⟩,
 trivial,
 trivial⟩,
 trivial⟩⟩⟩,
 fun g22 => have h22 := of_decide_eq_false g22; ⟨({ l := Prod.fst x4, i := (2 : Int) * (↑(Prod.snd x4) : Int) + (1 : Int), j := (↑(Prod.snd x4) : Int) : LIJs }),
 (by (try dsimp only at *); (obtain ⟨p1, p2, p3, p4⟩ := h2; obtain ⟨q1, q2, q3, q4⟩ := h5; first | omega | (refine ⟨?_, ?_, ?_, ?_, q3⟩ <;> dsimp only <;> omega) | (simp only [swp_length]; done) | (simp only [swp_length]; omega) | exact swp_nodups q3 (by omega) (by omega))),
 ⟨⟨rfl,
 rfl⟩,
 rfl,
 rfl,
 trivial⟩,
 ⟨⟨⟨rfl,
 (by (try dsimp only at *); omega)⟩,
 trivial,
 trivial⟩,
 ⟨⟨Nat.le_refl _⟩,
 RowsEq.rfl'⟩,
 (by (try dsimp only at *); exact MapEq.rfl'),
 trivial⟩,
 fun h24 => ⟨trivial,
 ⟨⟨(by (try dsimp only at *); (obtain ⟨q1, q2, q3, q4⟩ := h5; have e1 : (2 * (x4.2 : Int) + 1 + 1).toNat = 2 * x4.2 + 2 := (by omega); have e2 : (2 * (x4.2 : Int) + 1).toNat = 2 * x4.2 + 1 := (by omega); have e3 : 2 * x4.2 + 1 + 1 = 2 * x4.2 + 2 := rfl; simp only [e1, e2, e3, Int.toNat_natCast, Bool.not_eq_true', Bool.not_eq_false'] at *; rw [← q4, downs_stop (c := 2 * x4.2 + 1) (by first | exact kids_big (by omega) (by assumption) | exact kids_small (.inr (by assumption)) | exact kids_small (.inl (by omega))) (by assumption)]; first | exact Nat.le_refl _ | exact MapEq.rfl' | exact RowsEq.rfl'))⟩,
 (by (try dsimp only at *); (obtain ⟨q1, q2, q3, q4⟩ := h5; have e1 : (2 * (x4.2 : Int) + 1 + 1).toNat = 2 * x4.2 + 2 := (by omega); have e2 : (2 * (x4.2 : Int) + 1).toNat = 2 * x4.2 + 1 := (by omega); have e3 : 2 * x4.2 + 1 + 1 = 2 * x4.2 + 2 := rfl; simp only [e1, e2, e3, Int.toNat_natCast, Bool.not_eq_true', Bool.not_eq_false'] at *; rw [← q4, downs_stop (c := 2 * x4.2 + 1) (by first | exact kids_big (by omega) (by assumption) | exact kids_small (.inr (by assumption)) | exact kids_small (.inl (by omega))) (by assumption)]; first | exact Nat.le_refl _ | exact MapEq.rfl' | exact RowsEq.rfl'))⟩,
 (by (try dsimp only at *); (obtain ⟨q1, q2, q3, q4⟩ := h5; have e1 : (2 * (x4.2 : Int) + 1 + 1).toNat = 2 * x4.2 + 2 := (by omega); have e2 : (2 * (x4.2 : Int) + 1).toNat = 2 * x4.2 + 1 := (by omega); have e3 : 2 * x4.2 + 1 + 1 = 2 * x4.2 + 2 := rfl; simp only [e1, e2, e3, Int.toNat_natCast, Bool.not_eq_true', Bool.not_eq_false'] at *; rw [← q4, downs_stop (c := 2 * x4.2 + 1) (by first | exact kids_big (by omega) (by assumption) | exact kids_small (.inr (by assumption)) | exact kids_small (.inl (by omega))) (by assumption)]; first | exact Nat.le_refl _ | exact MapEq.rfl' | exact RowsEq.rfl')),
 trivial⟩,
 fun h25 => ⟨({ l := Prod.fst x4, i := (↑(Prod.snd x4) : Int), j := (2 : Int) * (↑(Prod.snd x4) : Int) + (1 : Int) : LIJs }),
 (by (try dsimp only at *); (obtain ⟨p1, p2, p3, p4⟩ := h2; obtain ⟨q1, q2, q3, q4⟩ := h5; first | omega | (refine ⟨?_, ?_, ?_, ?_, q3⟩ <;> dsimp only <;> omega) | (simp only [swp_length]; done) | (simp only [swp_length]; omega) | exact swp_nodups q3 (by omega) (by omega))),
 ⟨⟨rfl,
 rfl⟩,
 rfl,
 rfl,
 trivial⟩,
 ⟨⟨⟨rfl,
 (by (try dsimp only at *); omega)⟩,
 trivial,
 trivial⟩,
 ⟨⟨Nat.le_refl _⟩,
 RowsEq.rfl'⟩,
 (by (try dsimp only at *); exact MapEq.rfl'),
 trivial⟩,
 ((swp (Prod.fst x4) (Int.toNat (↑(Prod.snd x4) : Int)) (Int.toNat ((2 : Int) * (↑(Prod.snd x4) : Int) + (1 : Int))), (2 : Nat) * Prod.snd x4 + (1 : Nat))),
 (by (try dsimp only at *); (obtain ⟨p1, p2, p3, p4⟩ := h2; obtain ⟨q1, q2, q3, q4⟩ := h5; first | omega | (refine ⟨?_, ?_, ?_, ?_, q3⟩ <;> dsimp only <;> omega) | (simp only [swp_length]; done) | (simp only [swp_length]; omega) | exact swp_nodups q3 (by omega) (by omega))),
 ⟨(by (try dsimp only at *); (obtain ⟨p1, p2, p3, p4⟩ := h2; obtain ⟨q1, q2, q3, q4⟩ := h5; first | omega | (refine ⟨?_, ?_, ?_, ?_, q3⟩ <;> dsimp only <;> omega) | (simp only [swp_length]; done) | (simp only [swp_length]; omega) | exact swp_nodups q3 (by omega) (by omega))),
 (by (try dsimp only at *); (obtain ⟨p1, p2, p3, p4⟩ := h2; obtain ⟨q1, q2, q3, q4⟩ := h5; first | omega | (refine ⟨?_, ?_, ?_, ?_, q3⟩ <;> dsimp only <;> omega) | (simp only [swp_length]; done) | (simp only [swp_length]; omega) | exact swp_nodups q3 (by omega) (by omega))),
 (by (try dsimp only at *); (obtain ⟨p1, p2, p3, p4⟩ := h2; obtain ⟨q1, q2, q3, q4⟩ := h5; first | omega | (refine ⟨?_, ?_, ?_, ?_, q3⟩ <;> dsimp only <;> omega) | (simp only [swp_length]; done) | (simp only [swp_length]; omega) | exact swp_nodups q3 (by omega) (by omega))),
 (by (try dsimp only at *); (obtain ⟨q1, q2, q3, q4⟩ := h5; have e1 : (2 * (x4.2 : Int) + 1 + 1).toNat = 2 * x4.2 + 2 := (by omega); have e2 : (2 * (x4.2 : Int) + 1).toNat = 2 * x4.2 + 1 := (by omega); have e3 : 2 * x4.2 + 1 + 1 = 2 * x4.2 + 2 := rfl; simp only [e1, e2, e3, Int.toNat_natCast, Bool.not_eq_true', Bool.not_eq_false'] at *; rw [downs_step (by first | exact kids_big (by omega) (by assumption) | exact kids_small (.inr (by assumption)) | exact kids_small (.inl (by omega))) (by omega) (by assumption)]; exact q4))⟩,
 ⟨(by (try dsimp only at *); omega),
 ⟨rfl,
 rfl⟩,
 trivial⟩,
 ⟨⟨Nat.le_refl _⟩,
 RowsEq.rfl'⟩,
 (by (try dsimp only at *); exact MapEq.rfl'),
 ⟨⟨rfl,
 rfl⟩,
 trivial,
 trivial⟩,
 trivial⟩⟩⟩⟩⟩)

theorem downs_good : Good Try.prog 32 downsC ∧ FnOk Try.prog 32 := good_of (c := ⟨T, [], C1s, noInv, 5⟩) tok (ConL.ok con1s) (fn := Try.f32) rfl (by decide +kernel) (fun _ => rfl) downs_keeps

structure LKs where
  l : List (El ByteArray)
  id : Int
  key : ByteArray
def heapOwns (l : List (El ByteArray)) : List (Nat × Blk) := [(100000, .one .own [.sl 100001 0 l.length, .mp 100002]), (100001, .rows .own kEs l.length (encL encEs l)), (100002, .map .own .i64 kMap false (ids l) (posD l))]
def newsC : CT where
  X := Unit
  pre := fun _ => True
  args := fun _ => []
  g0 := fun _ => []
  res := fun _ => .p 1 0 0
  g1 := fun _ => [(1, .one .own [.sl 2 0 0, .mp 3]), (2, .rows .own kEs 0 (encL encEs [])), (3, .map .own .i64 kMap false [] (posD ([] : List (El ByteArray))))]
set_option maxRecDepth 100000 in
theorem news_keeps : Keeps cfg0 Try.f18 newsC noIv := Eq.mp (show ((∀ x1 : Unit,
 ((True) →
 ((((0 : Nat) = (0 : Nat)) ∧
 ((0 : Nat) = (0 : Nat))) ∧
 ((((True) ∧
 (((0 : Nat) = (0 : Nat)) ∧
 ((0 : Nat) = (0 : Nat)))) ∧
 ((True) ∧
 (True))) ∧
 (((0 : Nat) = (0 : Nat)) ∧
 ((MapEq (Kd.int IntKind.i64 :: @List.nil Kd) (@List.nil Int) (@List.nil Int) (fun (x : Int) (j : Nat) => zRow (Kd.int IntKind.i64 :: @List.nil Kd) j) (posD (@List.nil (El ByteArray)))) ∧
 (True)))))))) = Keeps cfg0 Try.f18 newsC noIv by kernel_rfl) (fun x1 => fun h2 => ⟨⟨rfl,
 rfl⟩,
 ⟨⟨trivial,
 rfl,
 rfl⟩,
 trivial,
 trivial⟩,
 rfl,
 (by exact ⟨List.Perm.refl _, fun k hk => by cases hk⟩),
 trivial⟩)

theorem news_good : Good Try.prog 18 newsC ∧ FnOk Try.prog 18 := good_of tok con0 (fn := Try.f18) rfl (by decide +kernel) (fun _ => rfl) news_keeps
def minsC : CT where
  X := List (El ByteArray)
  pre := fun _ => True
  args := fun l => [.p 100000 0 0]
  g0 := fun l => heapHs .bor l
  res := fun l => .tup [.i .i64 (l.getD 0 default).id, .s (l.getD 0 default).key, .b (decide (l.length ≠ 0))]
  g1 := fun _ => []
set_option maxRecDepth 100000 in
theorem mins_keeps : Keeps cfg0 Try.f33 minsC noIv := Eq.mp (show ((∀ x1 : List (El ByteArray),
 ((True) →
 (((decide ((↑(List.length x1) : Int) = (0 : Int)) = true) →
 ((((0 : Int) = El.id (List.getD x1 (0 : Nat) default)) ∧
 (({ data := List.toArray (@List.nil UInt8) : ByteArray } = El.key (List.getD x1 (0 : Nat) default)) ∧
 ((false = decide (List.length x1 ≠ (0 : Nat))) ∧
 (True)))) ∧
 (True))) ∧
 ((decide ((↑(List.length x1) : Int) = (0 : Int)) = false) →
 ((((0 : Int) ≤ (0 : Int)) ∧
 ((0 : Int) < (↑(List.length x1) : Int))) ∧
 (((0 : Nat) + Int.toNat (0 : Int) < List.length x1) ∧
 ((((0 : Int) ≤ (0 : Int)) ∧
 ((0 : Int) < (↑(List.length x1) : Int))) ∧
 (((0 : Nat) + Int.toNat (0 : Int) < List.length x1) ∧
 (((El.id (List.getD x1 ((0 : Nat) + Int.toNat (0 : Int)) default) = El.id (List.getD x1 (0 : Nat) default)) ∧
 ((El.key (List.getD x1 ((0 : Nat) + Int.toNat (0 : Int)) default) = El.key (List.getD x1 (0 : Nat) default)) ∧
 ((true = decide (List.length x1 ≠ (0 : Nat))) ∧
 (True)))) ∧
 (True))))))))))) = Keeps cfg0 Try.f33 minsC noIv by kernel_rfl) (fun x1 => fun h2 => ⟨fun g3 => have h3 := of_decide_eq_true g3; ⟨⟨(by (have e : x1.length = 0 := (by omega); have e2 := List.length_eq_zero_iff.1 e; subst e2; rfl)),
 (by (have e : x1.length = 0 := (by omega); have e2 := List.length_eq_zero_iff.1 e; subst e2; rfl)),
 (by grind),
 trivial⟩,
 trivial⟩,
 fun g4 => have h4 := of_decide_eq_false g4; ⟨⟨(by omega),
 (by omega)⟩,
 (by omega),
 ⟨(by omega),
 (by omega)⟩,
 (by omega),
 ⟨(by grind),
 (by grind),
 (by grind),
 trivial⟩,
 trivial⟩⟩)

theorem mins_good : Good Try.prog 33 minsC ∧ FnOk Try.prog 33 := good_of tok con0 (fn := Try.f33) rfl (by decide +kernel) (fun _ => rfl) mins_keeps
def lensC : CT where
  X := List (El ByteArray)
  pre := fun _ => True
  args := fun l => [.p 100000 0 0]
  g0 := fun l => heapHs .bor l
  res := fun l => .i .i64 l.length
  g1 := fun _ => []
set_option maxRecDepth 100000 in
theorem lens_keeps : Keeps cfg0 Try.f23 lensC noIv := Eq.mp (show ((∀ x1 : List (El ByteArray),
 ((True) →
 (((↑(List.length x1) : Int) = (↑(List.length x1) : Int)) ∧
 (True))))) = Keeps cfg0 Try.f23 lensC noIv by kernel_rfl) (fun x1 => fun h2 => ⟨rfl,
 trivial⟩)

theorem lens_good : Good Try.prog 23 lensC ∧ FnOk Try.prog 23 := good_of tok con0 (fn := Try.f23) rfl (by decide +kernel) (fun _ => rfl) lens_keeps

end Go.Sym
