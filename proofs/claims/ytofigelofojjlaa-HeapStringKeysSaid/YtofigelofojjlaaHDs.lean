/- The heap of numbers with keys of kind s: contracts and walks. Printed by gen/heap.py. -/
import Derived.Test.YtofigelofojjlaaHCs
import Derived.Test.YtofigelofojjlaaXD
namespace Go.Sym
set_option linter.unusedVariables false
set_option linter.unusedSimpArgs false
open Go.Proofs
theorem take_rowss {l : List (El ByteArray)} {n m : Nat} {ds : List D} (h : m ≤ n) : RowsEq kEs m (setRow (encL encEs l) n 0 ds) (encL encEs (l.take n)) := by
  refine ⟨fun r hr => ?_⟩
  have e1 : r ≠ n := by omega
  unfold setRow encL
  rw [getD_take (by omega)]
  simp only [e1, if_false]
  exact rowEq_rfl _ _ _
theorem cut_ok1s {l : List (El ByteArray)} {i : Int} (hn : (ids l).Nodup) (hl : l.length ≤ 1000000) (h0 : 0 ≤ i) (h : i.toNat < l.length - 1) : LIs.Ok ⟨cutF l i.toNat, i⟩ := by
  have h1 := cutF_length l i.toNat
  exact ⟨h0, by dsimp only; omega, cutF_nodup hn (by omega), by dsimp only; omega⟩
theorem cut_ok2s {l : List (El ByteArray)} {i : Int} (hn : (ids l).Nodup) (hl : l.length ≤ 1000000) (h : i.toNat < l.length - 1) : LIs.Ok ⟨upF lts (cutF l i.toNat) i.toNat, posOf (upF lts (cutF l i.toNat) i.toNat) ((cutF l i.toNat).getD i.toNat default).id⟩ := by
  have h1 := cutF_length l i.toNat
  have h2 := upF_length (lt := lts) i.toNat (cutF l i.toNat)
  have h3 := (posOf_lt (cut_in (lt := lts) h)).1
  refine ⟨by dsimp only; omega, by dsimp only; omega, ?_, by dsimp only; omega⟩
  exact (ids_perm (upF_perm (lt := lts) _ _ (by rw [h1]; exact h))).nodup_iff.2 (cutF_nodup hn (by omega))
def heapCuts (l : List (El ByteArray)) : List (Nat × Blk) := [(100000, .one .own [.sl 100001 0 l.length, .mp 100002]), (100001, .rows .own kEs l.length (encL encEs l)), (100002, .map .own .i64 kMap false (ids l) (posD l))]
def remAtsC : CT where
  X := LIs
  pre := fun x => x.Ok
  args := fun x => [.p 100000 0 0, .i .i64 x.i]
  g0 := fun x => heapOwns x.l
  res := fun x => .tup []
  g1 := fun x => heapCuts (removeF lts x.l x.i.toNat)
set_option maxHeartbeats 1000000 in
set_option maxRecDepth 100000 in
theorem remAts_keeps : Keeps ⟨T, [], C3s, noInv, 6⟩ Try.f34 remAtsC noIv := Eq.mp (show ((∀ x1 : LIs,
 ((LIs.Ok x1) →
 ((((-9223372036854775808 : Int) ≤ (↑(List.length (LIs.l x1)) : Int) - (1 : Int)) ∧
 ((↑(List.length (LIs.l x1)) : Int) - (1 : Int) ≤ (9223372036854775807 : Int))) ∧
 (((decide (LIs.i x1 < (↑(List.length (LIs.l x1)) : Int) - (1 : Int)) = true) →
 (∃ x4 : LIJs,
 ((LIJs.Ok x4) ∧
 (((((0 : Nat) = (0 : Nat)) ∧
 ((0 : Nat) = (0 : Nat))) ∧
 ((LIs.i x1 = LIJs.i x4) ∧
 (((↑(List.length (LIs.l x1)) : Int) - (1 : Int) = LIJs.j x4) ∧
 (True)))) ∧
 ((((((0 : Nat) = (0 : Nat)) ∧
 (List.length (LIs.l x1) = List.length (LIJs.l x4))) ∧
 ((True) ∧
 (True))) ∧
 (((RLe (List.length (LIJs.l x4)) (List.length (LIs.l x1))) ∧
 (RowsEq (Kd.int IntKind.i64 :: Kd.str :: @List.nil Kd) (List.length (LIJs.l x4)) (encL encEs (LIs.l x1)) (encL encEs (LIJs.l x4)))) ∧
 ((MapEq (Kd.int IntKind.i64 :: @List.nil Kd) (ids (LIs.l x1)) (ids (LIJs.l x4)) (posD (LIs.l x1)) (posD (LIJs.l x4))) ∧
 (True)))) ∧
 ((((0 : Int) ≤ (↑(List.length (LIs.l x1)) : Int) - (1 : Int)) ∧
 ((↑(List.length (LIs.l x1)) : Int) - (1 : Int) < (↑(List.length (LIs.l x1)) : Int))) ∧
 (((0 : Nat) + Int.toNat ((↑(List.length (LIs.l x1)) : Int) - (1 : Int)) < List.length (swp (LIJs.l x4) (Int.toNat (LIJs.i x4)) (Int.toNat (LIJs.j x4)))) ∧
 ((((0 : Int) ≤ (↑(List.length (LIs.l x1)) : Int) - (1 : Int)) ∧
 ((↑(List.length (LIs.l x1)) : Int) - (1 : Int) < (↑(List.length (LIs.l x1)) : Int))) ∧
 ((((0 : Nat) + Int.toNat ((↑(List.length (LIs.l x1)) : Int) - (1 : Int)) < List.length (swp (LIJs.l x4) (Int.toNat (LIJs.i x4)) (Int.toNat (LIJs.j x4)))) ∧
 ((True) ∧
 ((True) ∧
 (True)))) ∧
 ((((0 : Int) ≤ (0 : Int)) ∧
 (((0 : Int) ≤ (↑(List.length (LIs.l x1)) : Int) - (1 : Int)) ∧
 ((↑(List.length (LIs.l x1)) : Int) - (1 : Int) ≤ (↑(List.length (LIs.l x1)) : Int)))) ∧
 (((decide (LIs.i x1 < (↑(List.length (LIs.l x1)) : Int) - (1 : Int)) = true) →
 ((((0 : Int) ≤ LIs.i x1) ∧
 (LIs.i x1 < (↑(Int.toNat ((↑(List.length (LIs.l x1)) : Int) - (1 : Int)) - Int.toNat (0 : Int)) : Int))) ∧
 (((0 : Nat) + Int.toNat (0 : Int) + Int.toNat (LIs.i x1) < List.length (swp (LIJs.l x4) (Int.toNat (LIJs.i x4)) (Int.toNat (LIJs.j x4)))) ∧
 (∃ x6 : LIs,
 ((LIs.Ok x6) ∧
 (((((0 : Nat) = (0 : Nat)) ∧
 ((0 : Nat) = (0 : Nat))) ∧
 ((LIs.i x1 = LIs.i x6) ∧
 (True))) ∧
 ((((((0 : Nat) + Int.toNat (0 : Int) = (0 : Nat)) ∧
 (Int.toNat ((↑(List.length (LIs.l x1)) : Int) - (1 : Int)) - Int.toNat (0 : Int) = List.length (LIs.l x6))) ∧
 ((True) ∧
 (True))) ∧
 (((RLe (List.length (LIs.l x6)) (List.length (swp (LIJs.l x4) (Int.toNat (LIJs.i x4)) (Int.toNat (LIJs.j x4))))) ∧
 (RowsEq (Kd.int IntKind.i64 :: Kd.str :: @List.nil Kd) (List.length (LIs.l x6)) (setRow (encL encEs (swp (LIJs.l x4) (Int.toNat (LIJs.i x4)) (Int.toNat (LIJs.j x4)))) ((0 : Nat) + Int.toNat ((↑(List.length (LIs.l x1)) : Int) - (1 : Int))) (0 : Nat) (D.i (0 : Int) :: D.s ByteArray.empty :: @List.nil D)) (encL encEs (LIs.l x6)))) ∧
 ((MapEq (Kd.int IntKind.i64 :: @List.nil Kd) (mdel (ids (swp (LIJs.l x4) (Int.toNat (LIJs.i x4)) (Int.toNat (LIJs.j x4)))) (El.id (List.getD (swp (LIJs.l x4) (Int.toNat (LIJs.i x4)) (Int.toNat (LIJs.j x4))) ((0 : Nat) + Int.toNat ((↑(List.length (LIs.l x1)) : Int) - (1 : Int))) default))) (ids (LIs.l x6)) (posD (swp (LIJs.l x4) (Int.toNat (LIJs.i x4)) (Int.toNat (LIJs.j x4)))) (posD (LIs.l x6))) ∧
 (True)))) ∧
 (∃ x7 : LIs,
 ((LIs.Ok x7) ∧
 (((((0 : Nat) = (0 : Nat)) ∧
 ((0 : Nat) = (0 : Nat))) ∧
 ((D.toI (if D.toI (if (0 : Nat) + Int.toNat (0 : Int) + Int.toNat (LIs.i x1) = (0 : Nat) + Int.toNat ((↑(List.length (LIs.l x1)) : Int) - (1 : Int)) then D.i (0 : Int) else D.i (El.id (List.getD (swp (LIJs.l x4) (Int.toNat (LIJs.i x4)) (Int.toNat (LIJs.j x4))) ((0 : Nat) + Int.toNat (0 : Int) + Int.toNat (LIs.i x1)) default))) ∈ ids (upF lts (LIs.l x6) (Int.toNat (LIs.i x6))) then posD (upF lts (LIs.l x6) (Int.toNat (LIs.i x6))) (D.toI (if (0 : Nat) + Int.toNat (0 : Int) + Int.toNat (LIs.i x1) = (0 : Nat) + Int.toNat ((↑(List.length (LIs.l x1)) : Int) - (1 : Int)) then D.i (0 : Int) else D.i (El.id (List.getD (swp (LIJs.l x4) (Int.toNat (LIJs.i x4)) (Int.toNat (LIJs.j x4))) ((0 : Nat) + Int.toNat (0 : Int) + Int.toNat (LIs.i x1)) default)))) (0 : Nat) else D.i (0 : Int)) = LIs.i x7) ∧
 (True))) ∧
 ((((((0 : Nat) + Int.toNat (0 : Int) = (0 : Nat)) ∧
 (Int.toNat ((↑(List.length (LIs.l x1)) : Int) - (1 : Int)) - Int.toNat (0 : Int) = List.length (LIs.l x7))) ∧
 ((True) ∧
 (True))) ∧
 (((RLe (List.length (LIs.l x7)) (List.length (upF lts (LIs.l x6) (Int.toNat (LIs.i x6))))) ∧
 (RowsEq (Kd.int IntKind.i64 :: Kd.str :: @List.nil Kd) (List.length (LIs.l x7)) (encL encEs (upF lts (LIs.l x6) (Int.toNat (LIs.i x6)))) (encL encEs (LIs.l x7)))) ∧
 ((MapEq (Kd.int IntKind.i64 :: @List.nil Kd) (ids (upF lts (LIs.l x6) (Int.toNat (LIs.i x6)))) (ids (LIs.l x7)) (posD (upF lts (LIs.l x6) (Int.toNat (LIs.i x6)))) (posD (LIs.l x7))) ∧
 (True)))) ∧
 ((True) ∧
 (((((0 : Nat) + Int.toNat (0 : Int) = (0 : Nat)) ∧
 (Int.toNat ((↑(List.length (LIs.l x1)) : Int) - (1 : Int)) - Int.toNat (0 : Int) = List.length (removeF lts (LIs.l x1) (Int.toNat (LIs.i x1))))) ∧
 ((True) ∧
 (True))) ∧
 (((RLe (List.length (removeF lts (LIs.l x1) (Int.toNat (LIs.i x1)))) (List.length (downF lts (LIs.l x7) (Int.toNat (LIs.i x7))))) ∧
 (RowsEq (Kd.int IntKind.i64 :: Kd.str :: @List.nil Kd) (List.length (removeF lts (LIs.l x1) (Int.toNat (LIs.i x1)))) (encL encEs (downF lts (LIs.l x7) (Int.toNat (LIs.i x7)))) (encL encEs (removeF lts (LIs.l x1) (Int.toNat (LIs.i x1)))))) ∧
 ((MapEq (Kd.int IntKind.i64 :: @List.nil Kd) (ids (downF lts (LIs.l x7) (Int.toNat (LIs.i x7)))) (ids (removeF lts (LIs.l x1) (Int.toNat (LIs.i x1)))) (posD (downF lts (LIs.l x7) (Int.toNat (LIs.i x7)))) (posD (removeF lts (LIs.l x1) (Int.toNat (LIs.i x1))))) ∧
 (True)))))))))))))))) ∧
 ((decide (LIs.i x1 < (↑(List.length (LIs.l x1)) : Int) - (1 : Int)) = false) →
 ((True) ∧
 (((((0 : Nat) + Int.toNat (0 : Int) = (0 : Nat)) ∧
 (Int.toNat ((↑(List.length (LIs.l x1)) : Int) - (1 : Int)) - Int.toNat (0 : Int) = List.length (removeF lts (LIs.l x1) (Int.toNat (LIs.i x1))))) ∧
 ((True) ∧
 (True))) ∧
 (((RLe (List.length (removeF lts (LIs.l x1) (Int.toNat (LIs.i x1)))) (List.length (swp (LIJs.l x4) (Int.toNat (LIJs.i x4)) (Int.toNat (LIJs.j x4))))) ∧
 (RowsEq (Kd.int IntKind.i64 :: Kd.str :: @List.nil Kd) (List.length (removeF lts (LIs.l x1) (Int.toNat (LIs.i x1)))) (setRow (encL encEs (swp (LIJs.l x4) (Int.toNat (LIJs.i x4)) (Int.toNat (LIJs.j x4)))) ((0 : Nat) + Int.toNat ((↑(List.length (LIs.l x1)) : Int) - (1 : Int))) (0 : Nat) (D.i (0 : Int) :: D.s ByteArray.empty :: @List.nil D)) (encL encEs (removeF lts (LIs.l x1) (Int.toNat (LIs.i x1)))))) ∧
 ((MapEq (Kd.int IntKind.i64 :: @List.nil Kd) (mdel (ids (swp (LIJs.l x4) (Int.toNat (LIJs.i x4)) (Int.toNat (LIJs.j x4)))) (El.id (List.getD (swp (LIJs.l x4) (Int.toNat (LIJs.i x4)) (Int.toNat (LIJs.j x4))) ((0 : Nat) + Int.toNat ((↑(List.length (LIs.l x1)) : Int) - (1 : Int))) default))) (ids (removeF lts (LIs.l x1) (Int.toNat (LIs.i x1)))) (posD (swp (LIJs.l x4) (Int.toNat (LIJs.i x4)) (Int.toNat (LIJs.j x4)))) (posD (removeF lts (LIs.l x1) (Int.toNat (LIs.i x1))))) ∧
 (True))))))))))))))))) ∧
 ((decide (LIs.i x1 < (↑(List.length (LIs.l x1)) : Int) - (1 : Int)) = false) →
 ((((0 : Int) ≤ (↑(List.length (LIs.l x1)) : Int) - (1 : Int)) ∧
 ((↑(List.length (LIs.l x1)) : Int) - (1 : Int) < (↑(List.length (LIs.l x1)) : Int))) ∧
 (((0 : Nat) + Int.toNat ((↑(List.length (LIs.l x1)) : Int) - (1 : Int)) < List.length (LIs.l x1)) ∧
 ((((0 : Int) ≤ (↑(List.length (LIs.l x1)) : Int) - (1 : Int)) ∧
 ((↑(List.length (LIs.l x1)) : Int) - (1 : Int) < (↑(List.length (LIs.l x1)) : Int))) ∧
 ((((0 : Nat) + Int.toNat ((↑(List.length (LIs.l x1)) : Int) - (1 : Int)) < List.length (LIs.l x1)) ∧
 ((True) ∧
 ((True) ∧
 (True)))) ∧
 ((((0 : Int) ≤ (0 : Int)) ∧
 (((0 : Int) ≤ (↑(List.length (LIs.l x1)) : Int) - (1 : Int)) ∧
 ((↑(List.length (LIs.l x1)) : Int) - (1 : Int) ≤ (↑(List.length (LIs.l x1)) : Int)))) ∧
 (((decide (LIs.i x1 < (↑(List.length (LIs.l x1)) : Int) - (1 : Int)) = true) →
 ((((0 : Int) ≤ LIs.i x1) ∧
 (LIs.i x1 < (↑(Int.toNat ((↑(List.length (LIs.l x1)) : Int) - (1 : Int)) - Int.toNat (0 : Int)) : Int))) ∧
 (((0 : Nat) + Int.toNat (0 : Int) + Int.toNat (LIs.i x1) < List.length (LIs.l x1)) ∧
 (∃ x11 : LIs,
 ((LIs.Ok x11) ∧
 (((((0 : Nat) = (0 : Nat)) ∧
 ((0 : Nat) = (0 : Nat))) ∧
 ((LIs.i x1 = LIs.i x11) ∧
 (True))) ∧
 ((((((0 : Nat) + Int.toNat (0 : Int) = (0 : Nat)) ∧
 (Int.toNat ((↑(List.length (LIs.l x1)) : Int) - (1 : Int)) - Int.toNat (0 : Int) = List.length (LIs.l x11))) ∧
 ((True) ∧
 (True))) ∧
 (((RLe (List.length (LIs.l x11)) (List.length (LIs.l x1))) ∧
 (RowsEq (Kd.int IntKind.i64 :: Kd.str :: @List.nil Kd) (List.length (LIs.l x11)) (setRow (encL encEs (LIs.l x1)) ((0 : Nat) + Int.toNat ((↑(List.length (LIs.l x1)) : Int) - (1 : Int))) (0 : Nat) (D.i (0 : Int) :: D.s ByteArray.empty :: @List.nil D)) (encL encEs (LIs.l x11)))) ∧
 ((MapEq (Kd.int IntKind.i64 :: @List.nil Kd) (mdel (ids (LIs.l x1)) (El.id (List.getD (LIs.l x1) ((0 : Nat) + Int.toNat ((↑(List.length (LIs.l x1)) : Int) - (1 : Int))) default))) (ids (LIs.l x11)) (posD (LIs.l x1)) (posD (LIs.l x11))) ∧
 (True)))) ∧
 (∃ x12 : LIs,
 ((LIs.Ok x12) ∧
 (((((0 : Nat) = (0 : Nat)) ∧
 ((0 : Nat) = (0 : Nat))) ∧
 ((D.toI (if D.toI (if (0 : Nat) + Int.toNat (0 : Int) + Int.toNat (LIs.i x1) = (0 : Nat) + Int.toNat ((↑(List.length (LIs.l x1)) : Int) - (1 : Int)) then D.i (0 : Int) else D.i (El.id (List.getD (LIs.l x1) ((0 : Nat) + Int.toNat (0 : Int) + Int.toNat (LIs.i x1)) default))) ∈ ids (upF lts (LIs.l x11) (Int.toNat (LIs.i x11))) then posD (upF lts (LIs.l x11) (Int.toNat (LIs.i x11))) (D.toI (if (0 : Nat) + Int.toNat (0 : Int) + Int.toNat (LIs.i x1) = (0 : Nat) + Int.toNat ((↑(List.length (LIs.l x1)) : Int) - (1 : Int)) then D.i (0 : Int) else D.i (El.id (List.getD (LIs.l x1) ((0 : Nat) + Int.toNat (0 : Int) + Int.toNat (LIs.i x1)) default)))) (0 : Nat) else D.i (0 : Int)) = LIs.i x12) ∧
 (True))) ∧
 ((((((0 : Nat) + Int.toNat (0 : Int) = (0 : Nat)) ∧
 (Int.toNat ((↑(List.length (LIs.l x1)) : Int) - (1 : Int)) - Int.toNat (0 : Int) = List.length (LIs.l x12))) ∧
 ((True) ∧
 (True))) ∧
 (((RLe (List.length (LIs.l x12)) (List.length (upF lts (LIs.l x11) (Int.toNat (LIs.i x11))))) ∧
 (RowsEq (Kd.int IntKind.i64 :: Kd.str :: @List.nil Kd) (List.length (LIs.l x12)) (encL encEs (upF lts (LIs.l x11) (Int.toNat (LIs.i x11)))) (encL encEs (LIs.l x12)))) ∧
 ((MapEq (Kd.int IntKind.i64 :: @List.nil Kd) (ids (upF lts (LIs.l x11) (Int.toNat (LIs.i x11)))) (ids (LIs.l x12)) (posD (upF lts (LIs.l x11) (Int.toNat (LIs.i x11)))) (posD (LIs.l x12))) ∧
 (True)))) ∧
 ((True) ∧
 (((((0 : Nat) + Int.toNat (0 : Int) = (0 : Nat)) ∧
 (Int.toNat ((↑(List.length (LIs.l x1)) : Int) - (1 : Int)) - Int.toNat (0 : Int) = List.length (removeF lts (LIs.l x1) (Int.toNat (LIs.i x1))))) ∧
 ((True) ∧
 (True))) ∧
 (((RLe (List.length (removeF lts (LIs.l x1) (Int.toNat (LIs.i x1)))) (List.length (downF lts (LIs.l x12) (Int.toNat (LIs.i x12))))) ∧
 (RowsEq (Kd.int IntKind.i64 :: Kd.str :: @List.nil Kd) (List.length (removeF lts (LIs.l x1) (Int.toNat (LIs.i x1)))) (encL encEs (downF lts (LIs.l x12) (Int.toNat (LIs.i x12)))) (encL encEs (removeF lts (LIs.l x1) (Int.toNat (LIs.i x1)))))) ∧
 ((MapEq (Kd.int IntKind.i64 :: @List.nil Kd) (ids (downF lts (LIs.l x12) (Int.toNat (LIs.i x12)))) (ids (removeF lts (LIs.l x1) (Int.toNat (LIs.i x1)))) (posD (downF lts (LIs.l x12) (Int.toNat (LIs.i x12)))) (posD (removeF lts (LIs.l x1) (Int.toNat (LIs.i x1))))) ∧
 (True)))))))))))))))) ∧
 ((decide (LIs.i x1 < (↑(List.length (LIs.l x1)) : Int) - (1 : Int)) = false) →
 ((True) ∧
 (((((0 : Nat) + Int.toNat (0 : Int) = (0 : Nat)) ∧
 (Int.toNat ((↑(List.length (LIs.l x1)) : Int) - (1 : Int)) - Int.toNat (0 : Int) = List.length (removeF lts (LIs.l x1) (Int.toNat (LIs.i x1))))) ∧
 ((True) ∧
 (True))) ∧
 (((RLe (List.length (removeF lts (LIs.l x1) (Int.toNat (LIs.i x1)))) (List.length (LIs.l x1))) ∧
 (RowsEq (Kd.int IntKind.i64 :: Kd.str :: @List.nil Kd) (List.length (removeF lts (LIs.l x1) (Int.toNat (LIs.i x1)))) (setRow (encL encEs (LIs.l x1)) ((0 : Nat) + Int.toNat ((↑(List.length (LIs.l x1)) : Int) - (1 : Int))) (0 : Nat) (D.i (0 : Int) :: D.s ByteArray.empty :: @List.nil D)) (encL encEs (removeF lts (LIs.l x1) (Int.toNat (LIs.i x1)))))) ∧
 ((MapEq (Kd.int IntKind.i64 :: @List.nil Kd) (mdel (ids (LIs.l x1)) (El.id (List.getD (LIs.l x1) ((0 : Nat) + Int.toNat ((↑(List.length (LIs.l x1)) : Int) - (1 : Int))) default))) (ids (removeF lts (LIs.l x1) (Int.toNat (LIs.i x1)))) (posD (LIs.l x1)) (posD (removeF lts (LIs.l x1) (Int.toNat (LIs.i x1))))) ∧
 (True)))))))))))))))))) = Keeps ⟨T, [], C3s, noInv, 6⟩ Try.f34 remAtsC noIv by kernel_rfl) (fun x1 => fun h2 => ⟨⟨(by omega),
 (by (obtain ⟨p1, p2, p3, p4⟩ := h2; first | omega | (refine ⟨?_, ?_, ?_, ?_, p3⟩ <;> dsimp only <;> omega)))⟩,
 fun g3 => have h3 := of_decide_eq_true g3; ⟨({ l := LIs.l x1, i := LIs.i x1, j := (↑(List.length (LIs.l x1)) : Int) - (1 : Int) : LIJs }),
 (by (try dsimp only at *); (obtain ⟨p1, p2, p3, p4⟩ := h2; first | omega | (refine ⟨?_, ?_, ?_, ?_, p3⟩ <;> dsimp only <;> omega))),
 ⟨⟨rfl,
 rfl⟩,
 rfl,
 rfl,
 trivial⟩,
 ⟨⟨⟨rfl,
 rfl⟩,
 trivial,
 trivial⟩,
 ⟨⟨Nat.le_refl _⟩,
 RowsEq.rfl'⟩,
 (by (try dsimp only at *); exact MapEq.rfl'),
 trivial⟩,
 ⟨(by (try dsimp only at *); (obtain ⟨p1, p2, p3, p4⟩ := h2; first | omega | (refine ⟨?_, ?_, ?_, ?_, p3⟩ <;> dsimp only <;> omega))),
 (by (try dsimp only at *); omega)⟩,
 (by (try dsimp only at *); (obtain ⟨p1, p2, p3, p4⟩ := h2; have n0 : ((x1.l.length : Int) - 1).toNat = x1.l.length - 1 := (by omega); have z0 : Int.toNat 0 = 0 := rfl; have hb : x1.i.toNat < x1.l.length - 1 := (by omega); have sl := swp_length x1.l x1.i.toNat (x1.l.length - 1); have cl := cutF_length x1.l x1.i.toNat; have ul := upF_length (lt := lts) x1.i.toNat (cutF x1.l x1.i.toNat); have rl := removeF_length lts (l := x1.l) (i := x1.i.toNat) (by omega); have sn := swp_nodups p3 (i := x1.i.toNat) (j := x1.l.length - 1) (by omega) (by omega); have nn : x1.l.length - 1 + 1 = x1.l.length := (by omega); have tm := take_map sn (n := x1.l.length - 1) (by omega); simp only [n0, z0, Nat.zero_add, Nat.sub_zero, Int.toNat_natCast, ← cutF_big hb, ← removeF_big hb] at *; first | omega | exact cut_ok1s p3 p4 p1 hb | exact cut_ok2s p3 p4 hb | exact tm | (rw [cutF_big hb]; exact take_rowss (by rw [List.length_take]; omega)) | (simp only [cut_id hb]; exact posD_if (cut_in hb)) | exact MapEq.rfl' | exact RowsEq.rfl')),
 ⟨(by (try dsimp only at *); (obtain ⟨p1, p2, p3, p4⟩ := h2; first | omega | (refine ⟨?_, ?_, ?_, ?_, p3⟩ <;> dsimp only <;> omega))),
 (by (try dsimp only at *); omega)⟩,
 ⟨(by (try dsimp only at *); (obtain ⟨p1, p2, p3, p4⟩ := h2; have n0 : ((x1.l.length : Int) - 1).toNat = x1.l.length - 1 := (by omega); have z0 : Int.toNat 0 = 0 := rfl; have hb : x1.i.toNat < x1.l.length - 1 := (by omega); have sl := swp_length x1.l x1.i.toNat (x1.l.length - 1); have cl := cutF_length x1.l x1.i.toNat; have ul := upF_length (lt := lts) x1.i.toNat (cutF x1.l x1.i.toNat); have rl := removeF_length lts (l := x1.l) (i := x1.i.toNat) (by omega); have sn := swp_nodups p3 (i := x1.i.toNat) (j := x1.l.length - 1) (by omega) (by omega); have nn : x1.l.length - 1 + 1 = x1.l.length := (by omega); have tm := take_map sn (n := x1.l.length - 1) (by omega); simp only [n0, z0, Nat.zero_add, Nat.sub_zero, Int.toNat_natCast, ← cutF_big hb, ← removeF_big hb] at *; first | omega | exact cut_ok1s p3 p4 p1 hb | exact cut_ok2s p3 p4 hb | exact tm | (rw [cutF_big hb]; exact take_rowss (by rw [List.length_take]; omega)) | (simp only [cut_id hb]; exact posD_if (cut_in hb)) | exact MapEq.rfl' | exact RowsEq.rfl')),
 trivial,
 trivial,
 trivial⟩,
 ⟨(by (try dsimp only at *); omega),
 (by (try dsimp only at *); (obtain ⟨p1, p2, p3, p4⟩ := h2; first | omega | (refine ⟨?_, ?_, ?_, ?_, p3⟩ <;> dsimp only <;> omega))),
 (by (try dsimp only at *); omega)⟩,
 fun g5 => have h5 := of_decide_eq_true g5; ⟨⟨(by (try dsimp only at *); (obtain ⟨p1, p2, p3, p4⟩ := h2; first | omega | (refine ⟨?_, ?_, ?_, ?_, p3⟩ <;> dsimp only <;> omega))),
 (by (try dsimp only at *); omega)⟩,
 (by (try dsimp only at *); (obtain ⟨p1, p2, p3, p4⟩ := h2; have n0 : ((x1.l.length : Int) - 1).toNat = x1.l.length - 1 := (by omega); have z0 : Int.toNat 0 = 0 := rfl; have hb : x1.i.toNat < x1.l.length - 1 := (by omega); have sl := swp_length x1.l x1.i.toNat (x1.l.length - 1); have cl := cutF_length x1.l x1.i.toNat; have ul := upF_length (lt := lts) x1.i.toNat (cutF x1.l x1.i.toNat); have rl := removeF_length lts (l := x1.l) (i := x1.i.toNat) (by omega); have sn := swp_nodups p3 (i := x1.i.toNat) (j := x1.l.length - 1) (by omega) (by omega); have nn : x1.l.length - 1 + 1 = x1.l.length := (by omega); have tm := take_map sn (n := x1.l.length - 1) (by omega); simp only [n0, z0, Nat.zero_add, Nat.sub_zero, Int.toNat_natCast, ← cutF_big hb, ← removeF_big hb] at *; first | omega | exact cut_ok1s p3 p4 p1 hb | exact cut_ok2s p3 p4 hb | exact tm | (rw [cutF_big hb]; exact take_rowss (by rw [List.length_take]; omega)) | (simp only [cut_id hb]; exact posD_if (cut_in hb)) | exact MapEq.rfl' | exact RowsEq.rfl')),
 ({ l := cutF (LIs.l x1) (Int.toNat (LIs.i x1)), i := LIs.i x1 : LIs }),
 (by (try dsimp only at *); (obtain ⟨p1, p2, p3, p4⟩ := h2; have n0 : ((x1.l.length : Int) - 1).toNat = x1.l.length - 1 := (by omega); have z0 : Int.toNat 0 = 0 := rfl; have hb : x1.i.toNat < x1.l.length - 1 := (by omega); have sl := swp_length x1.l x1.i.toNat (x1.l.length - 1); have cl := cutF_length x1.l x1.i.toNat; have ul := upF_length (lt := lts) x1.i.toNat (cutF x1.l x1.i.toNat); have rl := removeF_length lts (l := x1.l) (i := x1.i.toNat) (by omega); have sn := swp_nodups p3 (i := x1.i.toNat) (j := x1.l.length - 1) (by omega) (by omega); have nn : x1.l.length - 1 + 1 = x1.l.length := (by omega); have tm := take_map sn (n := x1.l.length - 1) (by omega); simp only [n0, z0, Nat.zero_add, Nat.sub_zero, Int.toNat_natCast, ← cutF_big hb, ← removeF_big hb] at *; first | omega | exact cut_ok1s p3 p4 p1 hb | exact cut_ok2s p3 p4 hb | exact tm | (rw [cutF_big hb]; exact take_rowss (by rw [List.length_take]; omega)) | (simp only [cut_id hb]; exact posD_if (cut_in hb)) | exact MapEq.rfl' | exact RowsEq.rfl')),
 ⟨⟨rfl,
 rfl⟩,
 rfl,
 trivial⟩,
 ⟨⟨⟨(by (try dsimp only at *); omega),
 (by (try dsimp only at *); (obtain ⟨p1, p2, p3, p4⟩ := h2; have n0 : ((x1.l.length : Int) - 1).toNat = x1.l.length - 1 := (by omega); have z0 : Int.toNat 0 = 0 := rfl; have hb : x1.i.toNat < x1.l.length - 1 := (by omega); have sl := swp_length x1.l x1.i.toNat (x1.l.length - 1); have cl := cutF_length x1.l x1.i.toNat; have ul := upF_length (lt := lts) x1.i.toNat (cutF x1.l x1.i.toNat); have rl := removeF_length lts (l := x1.l) (i := x1.i.toNat) (by omega); have sn := swp_nodups p3 (i := x1.i.toNat) (j := x1.l.length - 1) (by omega) (by omega); have nn : x1.l.length - 1 + 1 = x1.l.length := (by omega); have tm := take_map sn (n := x1.l.length - 1) (by omega); simp only [n0, z0, Nat.zero_add, Nat.sub_zero, Int.toNat_natCast, ← cutF_big hb, ← removeF_big hb] at *; first | omega | exact cut_ok1s p3 p4 p1 hb | exact cut_ok2s p3 p4 hb | exact tm | (rw [cutF_big hb]; exact take_rowss (by rw [List.length_take]; omega)) | (simp only [cut_id hb]; exact posD_if (cut_in hb)) | exact MapEq.rfl' | exact RowsEq.rfl'))⟩,
 trivial,
 trivial⟩,
 ⟨⟨(by (try dsimp only at *); (obtain ⟨p1, p2, p3, p4⟩ := h2; have n0 : ((x1.l.length : Int) - 1).toNat = x1.l.length - 1 := (by omega); have z0 : Int.toNat 0 = 0 := rfl; have hb : x1.i.toNat < x1.l.length - 1 := (by omega); have sl := swp_length x1.l x1.i.toNat (x1.l.length - 1); have cl := cutF_length x1.l x1.i.toNat; have ul := upF_length (lt := lts) x1.i.toNat (cutF x1.l x1.i.toNat); have rl := removeF_length lts (l := x1.l) (i := x1.i.toNat) (by omega); have sn := swp_nodups p3 (i := x1.i.toNat) (j := x1.l.length - 1) (by omega) (by omega); have nn : x1.l.length - 1 + 1 = x1.l.length := (by omega); have tm := take_map sn (n := x1.l.length - 1) (by omega); simp only [n0, z0, Nat.zero_add, Nat.sub_zero, Int.toNat_natCast, ← cutF_big hb, ← removeF_big hb] at *; first | omega | exact cut_ok1s p3 p4 p1 hb | exact cut_ok2s p3 p4 hb | exact tm | (rw [cutF_big hb]; exact take_rowss (by rw [List.length_take]; omega)) | (simp only [cut_id hb]; exact posD_if (cut_in hb)) | exact MapEq.rfl' | exact RowsEq.rfl'))⟩,
 (by (try dsimp only at *); (obtain ⟨p1, p2, p3, p4⟩ := h2; have n0 : ((x1.l.length : Int) - 1).toNat = x1.l.length - 1 := (by omega); have z0 : Int.toNat 0 = 0 := rfl; have hb : x1.i.toNat < x1.l.length - 1 := (by omega); have sl := swp_length x1.l x1.i.toNat (x1.l.length - 1); have cl := cutF_length x1.l x1.i.toNat; have ul := upF_length (lt := lts) x1.i.toNat (cutF x1.l x1.i.toNat); have rl := removeF_length lts (l := x1.l) (i := x1.i.toNat) (by omega); have sn := swp_nodups p3 (i := x1.i.toNat) (j := x1.l.length - 1) (by omega) (by omega); have nn : x1.l.length - 1 + 1 = x1.l.length := (by omega); have tm := take_map sn (n := x1.l.length - 1) (by omega); simp only [n0, z0, Nat.zero_add, Nat.sub_zero, Int.toNat_natCast, ← cutF_big hb, ← removeF_big hb] at *; first | omega | exact cut_ok1s p3 p4 p1 hb | exact cut_ok2s p3 p4 hb | exact tm | (rw [cutF_big hb]; exact take_rowss (by rw [List.length_take]; omega)) | (simp only [cut_id hb]; exact posD_if (cut_in hb)) | exact MapEq.rfl' | exact RowsEq.rfl'))⟩,
 (by (try dsimp only at *); (obtain ⟨p1, p2, p3, p4⟩ := h2; have n0 : ((x1.l.length : Int) - 1).toNat = x1.l.length - 1 := (by omega); have z0 : Int.toNat 0 = 0 := rfl; have hb : x1.i.toNat < x1.l.length - 1 := (by omega); have sl := swp_length x1.l x1.i.toNat (x1.l.length - 1); have cl := cutF_length x1.l x1.i.toNat; have ul := upF_length (lt := lts) x1.i.toNat (cutF x1.l x1.i.toNat); have rl := removeF_length lts (l := x1.l) (i := x1.i.toNat) (by omega); have sn := swp_nodups p3 (i := x1.i.toNat) (j := x1.l.length - 1) (by omega) (by omega); have nn : x1.l.length - 1 + 1 = x1.l.length := (by omega); have tm := take_map sn (n := x1.l.length - 1) (by omega); simp only [n0, z0, Nat.zero_add, Nat.sub_zero, Int.toNat_natCast, ← cutF_big hb, ← removeF_big hb] at *; first | omega | exact cut_ok1s p3 p4 p1 hb | exact cut_ok2s p3 p4 hb | exact tm | (rw [cutF_big hb]; exact take_rowss (by rw [List.length_take]; omega)) | (simp only [cut_id hb]; exact posD_if (cut_in hb)) | exact MapEq.rfl' | exact RowsEq.rfl')),
 trivial⟩,
 ({ l := upF lts (cutF (LIs.l x1) (Int.toNat (LIs.i x1))) (Int.toNat (LIs.i x1)), i := (↑(posOf (upF lts (cutF (LIs.l x1) (Int.toNat (LIs.i x1))) (Int.toNat (LIs.i x1))) (El.id (List.getD (cutF (LIs.l x1) (Int.toNat (LIs.i x1))) (Int.toNat (LIs.i x1)) default))) : Int) : LIs }),
 (by (try dsimp only at *); (obtain ⟨p1, p2, p3, p4⟩ := h2; have n0 : ((x1.l.length : Int) - 1).toNat = x1.l.length - 1 := (by omega); have z0 : Int.toNat 0 = 0 := rfl; have hb : x1.i.toNat < x1.l.length - 1 := (by omega); have sl := swp_length x1.l x1.i.toNat (x1.l.length - 1); have cl := cutF_length x1.l x1.i.toNat; have ul := upF_length (lt := lts) x1.i.toNat (cutF x1.l x1.i.toNat); have rl := removeF_length lts (l := x1.l) (i := x1.i.toNat) (by omega); have sn := swp_nodups p3 (i := x1.i.toNat) (j := x1.l.length - 1) (by omega) (by omega); have nn : x1.l.length - 1 + 1 = x1.l.length := (by omega); have tm := take_map sn (n := x1.l.length - 1) (by omega); simp only [n0, z0, Nat.zero_add, Nat.sub_zero, Int.toNat_natCast, ← cutF_big hb, ← removeF_big hb] at *; first | omega | exact cut_ok1s p3 p4 p1 hb | exact cut_ok2s p3 p4 hb | exact tm | (rw [cutF_big hb]; exact take_rowss (by rw [List.length_take]; omega)) | (simp only [cut_id hb]; exact posD_if (cut_in hb)) | exact MapEq.rfl' | exact RowsEq.rfl')),
 ⟨⟨rfl,
 rfl⟩,
 (by (try dsimp only at *); (obtain ⟨p1, p2, p3, p4⟩ := h2; have n0 : ((x1.l.length : Int) - 1).toNat = x1.l.length - 1 := (by omega); have z0 : Int.toNat 0 = 0 := rfl; have hb : x1.i.toNat < x1.l.length - 1 := (by omega); have sl := swp_length x1.l x1.i.toNat (x1.l.length - 1); have cl := cutF_length x1.l x1.i.toNat; have ul := upF_length (lt := lts) x1.i.toNat (cutF x1.l x1.i.toNat); have rl := removeF_length lts (l := x1.l) (i := x1.i.toNat) (by omega); have sn := swp_nodups p3 (i := x1.i.toNat) (j := x1.l.length - 1) (by omega) (by omega); have nn : x1.l.length - 1 + 1 = x1.l.length := (by omega); have tm := take_map sn (n := x1.l.length - 1) (by omega); simp only [n0, z0, Nat.zero_add, Nat.sub_zero, Int.toNat_natCast, ← cutF_big hb, ← removeF_big hb] at *; first | omega | exact cut_ok1s p3 p4 p1 hb | exact cut_ok2s p3 p4 hb | exact tm | (rw [cutF_big hb]; exact take_rowss (by rw [List.length_take]; omega)) | (simp only [cut_id hb]; exact posD_if (cut_in hb)) | exact MapEq.rfl' | exact RowsEq.rfl')),
 trivial⟩,
 ⟨⟨⟨(by (try dsimp only at *); omega),
 (by (try dsimp only at *); (obtain ⟨p1, p2, p3, p4⟩ := h2; have n0 : ((x1.l.length : Int) - 1).toNat = x1.l.length - 1 := (by omega); have z0 : Int.toNat 0 = 0 := rfl; have hb : x1.i.toNat < x1.l.length - 1 := (by omega); have sl := swp_length x1.l x1.i.toNat (x1.l.length - 1); have cl := cutF_length x1.l x1.i.toNat; have ul := upF_length (lt := lts) x1.i.toNat (cutF x1.l x1.i.toNat); have rl := removeF_length lts (l := x1.l) (i := x1.i.toNat) (by omega); have sn := swp_nodups p3 (i := x1.i.toNat) (j := x1.l.length - 1) (by omega) (by omega); have nn : x1.l.length - 1 + 1 = x1.l.length := (by omega); have tm := take_map sn (n := x1.l.length - 1) (by omega); simp only [n0, z0, Nat.zero_add, Nat.sub_zero, Int.toNat_natCast, ← cutF_big hb, ← removeF_big hb] at *; first | omega | exact cut_ok1s p3 p4 p1 hb | exact cut_ok2s p3 p4 hb | exact tm | (rw [cutF_big hb]; exact take_rowss (by rw [List.length_take]; omega)) | (simp only [cut_id hb]; exact posD_if (cut_in hb)) | exact MapEq.rfl' | exact RowsEq.rfl'))⟩,
 trivial,
 trivial⟩,
 ⟨⟨Nat.le_refl _⟩,
 RowsEq.rfl'⟩,
 (by (try dsimp only at *); exact MapEq.rfl'),
 trivial⟩,
 trivial,
 ⟨⟨(by (try dsimp only at *); omega),
 (by (try dsimp only at *); (obtain ⟨p1, p2, p3, p4⟩ := h2; have n0 : ((x1.l.length : Int) - 1).toNat = x1.l.length - 1 := (by omega); have z0 : Int.toNat 0 = 0 := rfl; have hb : x1.i.toNat < x1.l.length - 1 := (by omega); have sl := swp_length x1.l x1.i.toNat (x1.l.length - 1); have cl := cutF_length x1.l x1.i.toNat; have ul := upF_length (lt := lts) x1.i.toNat (cutF x1.l x1.i.toNat); have rl := removeF_length lts (l := x1.l) (i := x1.i.toNat) (by omega); have sn := swp_nodups p3 (i := x1.i.toNat) (j := x1.l.length - 1) (by omega) (by omega); have nn : x1.l.length - 1 + 1 = x1.l.length := (by omega); have tm := take_map sn (n := x1.l.length - 1) (by omega); simp only [n0, z0, Nat.zero_add, Nat.sub_zero, Int.toNat_natCast, ← cutF_big hb, ← removeF_big hb] at *; first | omega | exact cut_ok1s p3 p4 p1 hb | exact cut_ok2s p3 p4 hb | exact tm | (rw [cutF_big hb]; exact take_rowss (by rw [List.length_take]; omega)) | (simp only [cut_id hb]; exact posD_if (cut_in hb)) | exact MapEq.rfl' | exact RowsEq.rfl'))⟩,
 trivial,
 trivial⟩,
 ⟨⟨(by (try dsimp only at *); (obtain ⟨p1, p2, p3, p4⟩ := h2; have n0 : ((x1.l.length : Int) - 1).toNat = x1.l.length - 1 := (by omega); have z0 : Int.toNat 0 = 0 := rfl; have hb : x1.i.toNat < x1.l.length - 1 := (by omega); have sl := swp_length x1.l x1.i.toNat (x1.l.length - 1); have cl := cutF_length x1.l x1.i.toNat; have ul := upF_length (lt := lts) x1.i.toNat (cutF x1.l x1.i.toNat); have rl := removeF_length lts (l := x1.l) (i := x1.i.toNat) (by omega); have sn := swp_nodups p3 (i := x1.i.toNat) (j := x1.l.length - 1) (by omega) (by omega); have nn : x1.l.length - 1 + 1 = x1.l.length := (by omega); have tm := take_map sn (n := x1.l.length - 1) (by omega); simp only [n0, z0, Nat.zero_add, Nat.sub_zero, Int.toNat_natCast, ← cutF_big hb, ← removeF_big hb] at *; first | omega | exact cut_ok1s p3 p4 p1 hb | exact cut_ok2s p3 p4 hb | exact tm | (rw [cutF_big hb]; exact take_rowss (by rw [List.length_take]; omega)) | (simp only [cut_id hb]; exact posD_if (cut_in hb)) | exact MapEq.rfl' | exact RowsEq.rfl'))⟩,
 (by (try dsimp only at *); (obtain ⟨p1, p2, p3, p4⟩ := h2; have n0 : ((x1.l.length : Int) - 1).toNat = x1.l.length - 1 := (by omega); have z0 : Int.toNat 0 = 0 := rfl; have hb : x1.i.toNat < x1.l.length - 1 := (by omega); have sl := swp_length x1.l x1.i.toNat (x1.l.length - 1); have cl := cutF_length x1.l x1.i.toNat; have ul := upF_length (lt := lts) x1.i.toNat (cutF x1.l x1.i.toNat); have rl := removeF_length lts (l := x1.l) (i := x1.i.toNat) (by omega); have sn := swp_nodups p3 (i := x1.i.toNat) (j := x1.l.length - 1) (by omega) (by omega); have nn : x1.l.length - 1 + 1 = x1.l.length := (by omega); have tm := take_map sn (n := x1.l.length - 1) (by omega); simp only [n0, z0, Nat.zero_add, Nat.sub_zero, Int.toNat_natCast, ← cutF_big hb, ← removeF_big hb] at *; first | omega | exact cut_ok1s p3 p4 p1 hb | exact cut_ok2s p3 p4 hb | exact tm | (rw [cutF_big hb]; exact take_rowss (by rw [List.length_take]; omega)) | (simp only [cut_id hb]; exact posD_if (cut_in hb)) | exact MapEq.rfl' | exact RowsEq.rfl'))⟩,
 (by (try dsimp only at *); (obtain ⟨p1, p2, p3, p4⟩ := h2; have n0 : ((x1.l.length : Int) - 1).toNat = x1.l.length - 1 := (by omega); have z0 : Int.toNat 0 = 0 := rfl; have hb : x1.i.toNat < x1.l.length - 1 := (by omega); have sl := swp_length x1.l x1.i.toNat (x1.l.length - 1); have cl := cutF_length x1.l x1.i.toNat; have ul := upF_length (lt := lts) x1.i.toNat (cutF x1.l x1.i.toNat); have rl := removeF_length lts (l := x1.l) (i := x1.i.toNat) (by omega); have sn := swp_nodups p3 (i := x1.i.toNat) (j := x1.l.length - 1) (by omega) (by omega); have nn : x1.l.length - 1 + 1 = x1.l.length := (by omega); have tm := take_map sn (n := x1.l.length - 1) (by omega); simp only [n0, z0, Nat.zero_add, Nat.sub_zero, Int.toNat_natCast, ← cutF_big hb, ← removeF_big hb] at *; first | omega | exact cut_ok1s p3 p4 p1 hb | exact cut_ok2s p3 p4 hb | exact tm | (rw [cutF_big hb]; exact take_rowss (by rw [List.length_take]; omega)) | (simp only [cut_id hb]; exact posD_if (cut_in hb)) | exact MapEq.rfl' | exact RowsEq.rfl')),
 trivial⟩,
 fun g8 => have h8 := of_decide_eq_false g8; ⟨trivial,
 ⟨⟨(by (try dsimp only at *); omega),
 (by (try dsimp only at *); omega)⟩,
 trivial,
 trivial⟩,
 ⟨⟨(by (try dsimp only at *); omega)⟩,
 (by (try dsimp only at *); omega)⟩,
 (by (try dsimp only at *); omega),
 trivial⟩⟩,
 fun g9 => have h9 := of_decide_eq_false g9; ⟨⟨(by (try dsimp only at *); (obtain ⟨p1, p2, p3, p4⟩ := h2; first | omega | (refine ⟨?_, ?_, ?_, ?_, p3⟩ <;> dsimp only <;> omega))),
 (by (try dsimp only at *); omega)⟩,
 (by (try dsimp only at *); (obtain ⟨p1, p2, p3, p4⟩ := h2; first | omega | (refine ⟨?_, ?_, ?_, ?_, p3⟩ <;> dsimp only <;> omega))),
 ⟨(by (try dsimp only at *); (obtain ⟨p1, p2, p3, p4⟩ := h2; first | omega | (refine ⟨?_, ?_, ?_, ?_, p3⟩ <;> dsimp only <;> omega))),
 (by (try dsimp only at *); omega)⟩,
 ⟨(by (try dsimp only at *); (obtain ⟨p1, p2, p3, p4⟩ := h2; first | omega | (refine ⟨?_, ?_, ?_, ?_, p3⟩ <;> dsimp only <;> omega))),
 trivial,
 trivial,
 trivial⟩,
 ⟨(by (try dsimp only at *); omega),
 (by (try dsimp only at *); (obtain ⟨p1, p2, p3, p4⟩ := h2; first | omega | (refine ⟨?_, ?_, ?_, ?_, p3⟩ <;> dsimp only <;> omega))),
 (by (try dsimp only at *); omega)⟩,
 fun g10 => have h10 := of_decide_eq_true g10; ⟨⟨(by (try dsimp only at *); omega),
 (by (try dsimp only at *); omega)⟩,
 (by (try dsimp only at *); omega),
 (x1),
 (by (try dsimp only at *); omega),
 ⟨⟨rfl,
 rfl⟩,
 rfl,
 trivial⟩,
 ⟨⟨⟨(by (try dsimp only at *); omega),
 (by (try dsimp only at *); omega)⟩,
 trivial,
 trivial⟩,
 ⟨⟨Nat.le_refl _⟩,
 (by (try dsimp only at *); omega)⟩,
 (by (try dsimp only at *); omega),
 trivial⟩,
 ({ l := upF lts (LIs.l x1) (Int.toNat (LIs.i x1)), i := D.toI (if D.toI (if (0 : Nat) + Int.toNat (0 : Int) + Int.toNat (LIs.i x1) = (0 : Nat) + Int.toNat ((↑(List.length (LIs.l x1)) : Int) - (1 : Int)) then D.i (0 : Int) else D.i (El.id (List.getD (LIs.l x1) ((0 : Nat) + Int.toNat (0 : Int) + Int.toNat (LIs.i x1)) default))) ∈ ids (upF lts (LIs.l x1) (Int.toNat (LIs.i x1))) then posD (upF lts (LIs.l x1) (Int.toNat (LIs.i x1))) (D.toI (if (0 : Nat) + Int.toNat (0 : Int) + Int.toNat (LIs.i x1) = (0 : Nat) + Int.toNat ((↑(List.length (LIs.l x1)) : Int) - (1 : Int)) then D.i (0 : Int) else D.i (El.id (List.getD (LIs.l x1) ((0 : Nat) + Int.toNat (0 : Int) + Int.toNat (LIs.i x1)) default)))) (0 : Nat) else D.i (0 : Int)) : LIs }),
 (by (try dsimp only at *); omega),
 ⟨⟨rfl,
 rfl⟩,
 rfl,
 trivial⟩,
 ⟨⟨⟨(by (try dsimp only at *); omega),
 (by (try dsimp only at *); omega)⟩,
 trivial,
 trivial⟩,
 ⟨⟨Nat.le_refl _⟩,
 RowsEq.rfl'⟩,
 (by (try dsimp only at *); omega),
 trivial⟩,
 trivial,
 ⟨⟨(by (try dsimp only at *); omega),
 (by (try dsimp only at *); omega)⟩,
 trivial,
 trivial⟩,
 ⟨⟨(by (try dsimp only at *); omega)⟩,
 (by (try dsimp only at *); omega)⟩,
 (by (try dsimp only at *); omega),
 trivial⟩,
 fun g13 => have h13 := of_decide_eq_false g13; ⟨trivial,
 ⟨⟨(by (try dsimp only at *); omega),
 (by (try dsimp only at *); (obtain ⟨p1, p2, p3, p4⟩ := h2; have n0 : ((x1.l.length : Int) - 1).toNat = x1.l.length - 1 := (by omega); have z0 : Int.toNat 0 = 0 := rfl; have hb : ¬ x1.i.toNat < x1.l.length - 1 := (by omega); have rl := removeF_length lts (l := x1.l) (i := x1.i.toNat) (by omega); have tm := take_map p3 (n := x1.l.length - 1) (by omega); simp only [n0, z0, Nat.zero_add, Nat.sub_zero, Int.toNat_natCast] at *; first | omega | (rw [removeF_small hb]; exact tm) | (rw [removeF_small hb]; exact take_rowss (by rw [List.length_take]; omega))))⟩,
 trivial,
 trivial⟩,
 ⟨⟨(by (try dsimp only at *); (obtain ⟨p1, p2, p3, p4⟩ := h2; have n0 : ((x1.l.length : Int) - 1).toNat = x1.l.length - 1 := (by omega); have z0 : Int.toNat 0 = 0 := rfl; have hb : ¬ x1.i.toNat < x1.l.length - 1 := (by omega); have rl := removeF_length lts (l := x1.l) (i := x1.i.toNat) (by omega); have tm := take_map p3 (n := x1.l.length - 1) (by omega); simp only [n0, z0, Nat.zero_add, Nat.sub_zero, Int.toNat_natCast] at *; first | omega | (rw [removeF_small hb]; exact tm) | (rw [removeF_small hb]; exact take_rowss (by rw [List.length_take]; omega))))⟩,
 (by (try dsimp only at *); (obtain ⟨p1, p2, p3, p4⟩ := h2; have n0 : ((x1.l.length : Int) - 1).toNat = x1.l.length - 1 := (by omega); have z0 : Int.toNat 0 = 0 := rfl; have hb : ¬ x1.i.toNat < x1.l.length - 1 := (by omega); have rl := removeF_length lts (l := x1.l) (i := x1.i.toNat) (by omega); have tm := take_map p3 (n := x1.l.length - 1) (by omega); simp only [n0, z0, Nat.zero_add, Nat.sub_zero, Int.toNat_natCast] at *; first | omega | (rw [removeF_small hb]; exact tm) | (rw [removeF_small hb]; exact take_rowss (by rw [List.length_take]; omega))))⟩,
 (by (try dsimp only at *); (obtain ⟨p1, p2, p3, p4⟩ := h2; have n0 : ((x1.l.length : Int) - 1).toNat = x1.l.length - 1 := (by omega); have z0 : Int.toNat 0 = 0 := rfl; have hb : ¬ x1.i.toNat < x1.l.length - 1 := (by omega); have rl := removeF_length lts (l := x1.l) (i := x1.i.toNat) (by omega); have tm := take_map p3 (n := x1.l.length - 1) (by omega); simp only [n0, z0, Nat.zero_add, Nat.sub_zero, Int.toNat_natCast] at *; first | omega | (rw [removeF_small hb]; exact tm) | (rw [removeF_small hb]; exact take_rowss (by rw [List.length_take]; omega)))),
 trivial⟩⟩⟩)

theorem remAts_good : Good Try.prog 34 remAtsC ∧ FnOk Try.prog 34 := good_of (c := ⟨T, [], C3s, noInv, 6⟩) tok (ConL.ok con3s) (fn := Try.f34) rfl (by decide +kernel) (fun _ => rfl) remAts_keeps

end Go.Sym
