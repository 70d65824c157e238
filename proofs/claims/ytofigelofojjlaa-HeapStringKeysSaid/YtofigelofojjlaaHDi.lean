/- The heap of numbers with keys of kind i: contracts and walks. Printed by gen/heap.py. -/
import Derived.Test.YtofigelofojjlaaHCi
import Derived.Test.YtofigelofojjlaaXD
namespace Go.Sym
set_option linter.unusedVariables false
set_option linter.unusedSimpArgs false
open Go.Proofs
theorem posOf_take {α : Type} [Inhabited α] {m : List (El α)} (hn : (ids m).Nodup) {n : Nat} {k : Int} (hk : k ∈ ids (m.take n)) : posOf (m.take n) k = posOf m k := by
  obtain ⟨j, hj, rfl⟩ : ∃ j, j < (m.take n).length ∧ k = ((m.take n).getD j default).id := by
    obtain ⟨h1, h2⟩ := posOf_lt hk
    exact ⟨_, h1, h2.symm⟩
  have hn' : (ids (m.take n)).Nodup := by
    unfold ids at hn ⊢
    rw [List.map_take]
    exact hn.sublist (List.take_sublist _ _)
  have h3 : j < n ∧ j < m.length := by simp at hj; omega
  rw [posOf_get hn' hj, getD_take h3.1, posOf_get hn h3.2]
theorem take_map {α : Type} [Inhabited α] {m : List (El α)} (hn : (ids m).Nodup) {n : Nat} (hm : m.length = n + 1) : MapEq kMap (mdel (ids m) (m.getD n default).id) (ids (m.take n)) (posD m) (posD (m.take n)) := by
  have e : ids m = ids (m.take n) ++ [(m.getD n default).id] := by
    have h1 : m = m.take n ++ [m.getD n default] := by
      rw [List.getD_eq_getElem?_getD, List.getElem?_eq_getElem (by omega)]
      simp only [Option.getD_some]
      rw [List.take_append_getElem (by omega), ← hm, List.take_length]
    have h2 := congrArg ids h1
    simpa [ids] using h2
  have hx : (m.getD n default).id ∉ ids (m.take n) := by
    rw [e, List.nodup_append] at hn
    exact fun h => hn.2.2 _ h _ (by simp) rfl
  refine ⟨?_, fun k hk => ?_⟩
  · rw [mdel, e, List.erase_append_right _ hx]; simp
  · simp only [kMap, rowEq, Kd.eqv, and_true, posD]
    rw [posOf_take hn hk]
theorem cutF_big {α : Type} [Inhabited α] {l : List (El α)} {i : Nat} (h : i < l.length - 1) : cutF l i = (swp l i (l.length - 1)).take (l.length - 1) := by unfold cutF; rw [if_pos h]
theorem cutF_small {α : Type} [Inhabited α] {l : List (El α)} {i : Nat} (h : ¬ i < l.length - 1) : cutF l i = l.take (l.length - 1) := by unfold cutF; rw [if_neg h]
theorem removeF_big {α : Type} [Inhabited α] {lt : α → α → Bool} {l : List (El α)} {i : Nat} (h : i < l.length - 1) : removeF lt l i = downF lt (upF lt (cutF l i) i) (posOf (upF lt (cutF l i) i) ((cutF l i).getD i default).id) := by unfold removeF; rw [if_pos h]; rfl
theorem removeF_small {α : Type} [Inhabited α] {lt : α → α → Bool} {l : List (El α)} {i : Nat} (h : ¬ i < l.length - 1) : removeF lt l i = l.take (l.length - 1) := by unfold removeF; rw [if_neg h, cutF_small h]
theorem cut_in {α : Type} [Inhabited α] {lt : α → α → Bool} {l : List (El α)} {i : Nat} (h : i < l.length - 1) : ((cutF l i).getD i default).id ∈ ids (upF lt (cutF l i) i) :=
  (ids_perm (upF_perm _ _ (by rw [cutF_length]; exact h))).symm.mem_iff.1 (mem_ids (by rw [cutF_length]; exact h))
theorem cut_id {α : Type} [Inhabited α] {l : List (El α)} {i : Nat} (h : i < l.length - 1) : (if i = l.length - 1 then D.i 0 else D.i ((swp l i (l.length - 1)).getD i default).id).toI = ((cutF l i).getD i default).id := by
  rw [if_neg (by omega), cutF_big h, getD_take h]; rfl

theorem take_rowsi {l : List (El Int)} {n m : Nat} {ds : List D} (h : m ≤ n) : RowsEq kEi m (setRow (encL encEi l) n 0 ds) (encL encEi (l.take n)) := by
  refine ⟨fun r hr => ?_⟩
  have e1 : r ≠ n := by omega
  unfold setRow encL
  rw [getD_take (by omega)]
  simp only [e1, if_false]
  exact rowEq_rfl _ _ _
theorem cut_ok1i {l : List (El Int)} {i : Int} (hn : (ids l).Nodup) (hl : l.length ≤ 1000000) (h0 : 0 ≤ i) (h : i.toNat < l.length - 1) : LIi.Ok ⟨cutF l i.toNat, i⟩ := by
  have h1 := cutF_length l i.toNat
  exact ⟨h0, by dsimp only; omega, cutF_nodup hn (by omega), by dsimp only; omega⟩
theorem cut_ok2i {l : List (El Int)} {i : Int} (hn : (ids l).Nodup) (hl : l.length ≤ 1000000) (h : i.toNat < l.length - 1) : LIi.Ok ⟨upF lti (cutF l i.toNat) i.toNat, posOf (upF lti (cutF l i.toNat) i.toNat) ((cutF l i.toNat).getD i.toNat default).id⟩ := by
  have h1 := cutF_length l i.toNat
  have h2 := upF_length (lt := lti) i.toNat (cutF l i.toNat)
  have h3 := (posOf_lt (cut_in (lt := lti) h)).1
  refine ⟨by dsimp only; omega, by dsimp only; omega, ?_, by dsimp only; omega⟩
  exact (ids_perm (upF_perm (lt := lti) _ _ (by rw [h1]; exact h))).nodup_iff.2 (cutF_nodup hn (by omega))
def heapCuti (l : List (El Int)) : List (Nat × Blk) := [(100000, .one .own [.sl 100001 0 l.length, .mp 100002]), (100001, .rows .own kEi l.length (encL encEi l)), (100002, .map .own .i64 kMap false (ids l) (posD l))]
def remAtiC : CT where
  X := LIi
  pre := fun x => x.Ok
  args := fun x => [.p 100000 0 0, .i .i64 x.i]
  g0 := fun x => heapOwni x.l
  res := fun x => .tup []
  g1 := fun x => heapCuti (removeF lti x.l x.i.toNat)
set_option maxHeartbeats 1000000 in
set_option maxRecDepth 100000 in
theorem remAti_keeps : Keeps ⟨T, [], C3i, noInv, 6⟩ Try.f28 remAtiC noIv := Eq.mp (show ((∀ x1 : LIi,
 ((LIi.Ok x1) →
 ((((-9223372036854775808 : Int) ≤ (↑(List.length (LIi.l x1)) : Int) - (1 : Int)) ∧
 ((↑(List.length (LIi.l x1)) : Int) - (1 : Int) ≤ (9223372036854775807 : Int))) ∧
 (((decide (LIi.i x1 < (↑(List.length (LIi.l x1)) : Int) - (1 : Int)) = true) →
 (∃ x4 : LIJi,
 ((LIJi.Ok x4) ∧
 (((((0 : Nat) = (0 : Nat)) ∧
 ((0 : Nat) = (0 : Nat))) ∧
 ((LIi.i x1 = LIJi.i x4) ∧
 (((↑(List.length (LIi.l x1)) : Int) - (1 : Int) = LIJi.j x4) ∧
 (True)))) ∧
 ((((((0 : Nat) = (0 : Nat)) ∧
 (List.length (LIi.l x1) = List.length (LIJi.l x4))) ∧
 ((True) ∧
 (True))) ∧
 (((RLe (List.length (LIJi.l x4)) (List.length (LIi.l x1))) ∧
 (RowsEq (Kd.int IntKind.i64 :: Kd.int IntKind.i64 :: @List.nil Kd) (List.length (LIJi.l x4)) (encL encEi (LIi.l x1)) (encL encEi (LIJi.l x4)))) ∧
 ((MapEq (Kd.int IntKind.i64 :: @List.nil Kd) (ids (LIi.l x1)) (ids (LIJi.l x4)) (posD (LIi.l x1)) (posD (LIJi.l x4))) ∧
 (True)))) ∧
 ((((0 : Int) ≤ (↑(List.length (LIi.l x1)) : Int) - (1 : Int)) ∧
 ((↑(List.length (LIi.l x1)) : Int) - (1 : Int) < (↑(List.length (LIi.l x1)) : Int))) ∧
 (((0 : Nat) + Int.toNat ((↑(List.length (LIi.l x1)) : Int) - (1 : Int)) < List.length (swp (LIJi.l x4) (Int.toNat (LIJi.i x4)) (Int.toNat (LIJi.j x4)))) ∧
 ((((0 : Int) ≤ (↑(List.length (LIi.l x1)) : Int) - (1 : Int)) ∧
 ((↑(List.length (LIi.l x1)) : Int) - (1 : Int) < (↑(List.length (LIi.l x1)) : Int))) ∧
 ((((0 : Nat) + Int.toNat ((↑(List.length (LIi.l x1)) : Int) - (1 : Int)) < List.length (swp (LIJi.l x4) (Int.toNat (LIJi.i x4)) (Int.toNat (LIJi.j x4)))) ∧
 ((True) ∧
 ((True) ∧
 (True)))) ∧
 ((((0 : Int) ≤ (0 : Int)) ∧
 (((0 : Int) ≤ (↑(List.length (LIi.l x1)) : Int) - (1 : Int)) ∧
 ((↑(List.length (LIi.l x1)) : Int) - (1 : Int) ≤ (↑(List.length (LIi.l x1)) : Int)))) ∧
 (((decide (LIi.i x1 < (↑(List.length (LIi.l x1)) : Int) - (1 : Int)) = true) →
 ((((0 : Int) ≤ LIi.i x1) ∧
 (LIi.i x1 < (↑(Int.toNat ((↑(List.length (LIi.l x1)) : Int) - (1 : Int)) - Int.toNat (0 : Int)) : Int))) ∧
 (((0 : Nat) + Int.toNat (0 : Int) + Int.toNat (LIi.i x1) < List.length (swp (LIJi.l x4) (Int.toNat (LIJi.i x4)) (Int.toNat (LIJi.j x4)))) ∧
 (∃ x6 : LIi,
 ((LIi.Ok x6) ∧
 (((((0 : Nat) = (0 : Nat)) ∧
 ((0 : Nat) = (0 : Nat))) ∧
 ((LIi.i x1 = LIi.i x6) ∧
 (True))) ∧
 ((((((0 : Nat) + Int.toNat (0 : Int) = (0 : Nat)) ∧
 (Int.toNat ((↑(List.length (LIi.l x1)) : Int) - (1 : Int)) - Int.toNat (0 : Int) = List.length (LIi.l x6))) ∧
 ((True) ∧
 (True))) ∧
 (((RLe (List.length (LIi.l x6)) (List.length (swp (LIJi.l x4) (Int.toNat (LIJi.i x4)) (Int.toNat (LIJi.j x4))))) ∧
 (RowsEq (Kd.int IntKind.i64 :: Kd.int IntKind.i64 :: @List.nil Kd) (List.length (LIi.l x6)) (setRow (encL encEi (swp (LIJi.l x4) (Int.toNat (LIJi.i x4)) (Int.toNat (LIJi.j x4)))) ((0 : Nat) + Int.toNat ((↑(List.length (LIi.l x1)) : Int) - (1 : Int))) (0 : Nat) (D.i (0 : Int) :: D.i (0 : Int) :: @List.nil D)) (encL encEi (LIi.l x6)))) ∧
 ((MapEq (Kd.int IntKind.i64 :: @List.nil Kd) (mdel (ids (swp (LIJi.l x4) (Int.toNat (LIJi.i x4)) (Int.toNat (LIJi.j x4)))) (El.id (List.getD (swp (LIJi.l x4) (Int.toNat (LIJi.i x4)) (Int.toNat (LIJi.j x4))) ((0 : Nat) + Int.toNat ((↑(List.length (LIi.l x1)) : Int) - (1 : Int))) default))) (ids (LIi.l x6)) (posD (swp (LIJi.l x4) (Int.toNat (LIJi.i x4)) (Int.toNat (LIJi.j x4)))) (posD (LIi.l x6))) ∧
 (True)))) ∧
 (∃ x7 : LIi,
 ((LIi.Ok x7) ∧
 (((((0 : Nat) = (0 : Nat)) ∧
 ((0 : Nat) = (0 : Nat))) ∧
 ((D.toI (if D.toI (if (0 : Nat) + Int.toNat (0 : Int) + Int.toNat (LIi.i x1) = (0 : Nat) + Int.toNat ((↑(List.length (LIi.l x1)) : Int) - (1 : Int)) then D.i (0 : Int) else D.i (El.id (List.getD (swp (LIJi.l x4) (Int.toNat (LIJi.i x4)) (Int.toNat (LIJi.j x4))) ((0 : Nat) + Int.toNat (0 : Int) + Int.toNat (LIi.i x1)) default))) ∈ ids (upF lti (LIi.l x6) (Int.toNat (LIi.i x6))) then posD (upF lti (LIi.l x6) (Int.toNat (LIi.i x6))) (D.toI (if (0 : Nat) + Int.toNat (0 : Int) + Int.toNat (LIi.i x1) = (0 : Nat) + Int.toNat ((↑(List.length (LIi.l x1)) : Int) - (1 : Int)) then D.i (0 : Int) else D.i (El.id (List.getD (swp (LIJi.l x4) (Int.toNat (LIJi.i x4)) (Int.toNat (LIJi.j x4))) ((0 : Nat) + Int.toNat (0 : Int) + Int.toNat (LIi.i x1)) default)))) (0 : Nat) else D.i (0 : Int)) = LIi.i x7) ∧
 (True))) ∧
 ((((((0 : Nat) + Int.toNat (0 : Int) = (0 : Nat)) ∧
 (Int.toNat ((↑(List.length (LIi.l x1)) : Int) - (1 : Int)) - Int.toNat (0 : Int) = List.length (LIi.l x7))) ∧
 ((True) ∧
 (True))) ∧
 (((RLe (List.length (LIi.l x7)) (List.length (upF lti (LIi.l x6) (Int.toNat (LIi.i x6))))) ∧
 (RowsEq (Kd.int IntKind.i64 :: Kd.int IntKind.i64 :: @List.nil Kd) (List.length (LIi.l x7)) (encL encEi (upF lti (LIi.l x6) (Int.toNat (LIi.i x6)))) (encL encEi (LIi.l x7)))) ∧
 ((MapEq (Kd.int IntKind.i64 :: @List.nil Kd) (ids (upF lti (LIi.l x6) (Int.toNat (LIi.i x6)))) (ids (LIi.l x7)) (posD (upF lti (LIi.l x6) (Int.toNat (LIi.i x6)))) (posD (LIi.l x7))) ∧
 (True)))) ∧
 ((True) ∧
 (((((0 : Nat) + Int.toNat (0 : Int) = (0 : Nat)) ∧
 (Int.toNat ((↑(List.length (LIi.l x1)) : Int) - (1 : Int)) - Int.toNat (0 : Int) = List.length (removeF lti (LIi.l x1) (Int.toNat (LIi.i x1))))) ∧
 ((True) ∧
 (True))) ∧
 (((RLe (List.length (removeF lti (LIi.l x1) (Int.toNat (LIi.i x1)))) (List.length (downF lti (LIi.l x7) (Int.toNat (LIi.i x7))))) ∧
 (RowsEq (Kd.int IntKind.i64 :: Kd.int IntKind.i64 :: @List.nil Kd) (List.length (removeF lti (LIi.l x1) (Int.toNat (LIi.i x1)))) (encL encEi (downF lti (LIi.l x7) (Int.toNat (LIi.i x7)))) (encL encEi (removeF lti (LIi.l x1) (Int.toNat (LIi.i x1)))))) ∧
 ((MapEq (Kd.int IntKind.i64 :: @List.nil Kd) (ids (downF lti (LIi.l x7) (Int.toNat (LIi.i x7)))) (ids (removeF lti (LIi.l x1) (Int.toNat (LIi.i x1)))) (posD (downF lti (LIi.l x7) (Int.toNat (LIi.i x7)))) (posD (removeF lti (LIi.l x1) (Int.toNat (LIi.i x1))))) ∧
 (True)))))))))))))))) ∧
 ((decide (LIi.i x1 < (↑(List.length (LIi.l x1)) : Int) - (1 : Int)) = false) →
 ((True) ∧
 (((((0 : Nat) + Int.toNat (0 : Int) = (0 : Nat)) ∧
 (Int.toNat ((↑(List.length (LIi.l x1)) : Int) - (1 : Int)) - Int.toNat (0 : Int) = List.length (removeF lti (LIi.l x1) (Int.toNat (LIi.i x1))))) ∧
 ((True) ∧
 (True))) ∧
 (((RLe (List.length (removeF lti (LIi.l x1) (Int.toNat (LIi.i x1)))) (List.length (swp (LIJi.l x4) (Int.toNat (LIJi.i x4)) (Int.toNat (LIJi.j x4))))) ∧
 (RowsEq (Kd.int IntKind.i64 :: Kd.int IntKind.i64 :: @List.nil Kd) (List.length (removeF lti (LIi.l x1) (Int.toNat (LIi.i x1)))) (setRow (encL encEi (swp (LIJi.l x4) (Int.toNat (LIJi.i x4)) (Int.toNat (LIJi.j x4)))) ((0 : Nat) + Int.toNat ((↑(List.length (LIi.l x1)) : Int) - (1 : Int))) (0 : Nat) (D.i (0 : Int) :: D.i (0 : Int) :: @List.nil D)) (encL encEi (removeF lti (LIi.l x1) (Int.toNat (LIi.i x1)))))) ∧
 ((MapEq (Kd.int IntKind.i64 :: @List.nil Kd) (mdel (ids (swp (LIJi.l x4) (Int.toNat (LIJi.i x4)) (Int.toNat (LIJi.j x4)))) (El.id (List.getD (swp (LIJi.l x4) (Int.toNat (LIJi.i x4)) (Int.toNat (LIJi.j x4))) ((0 : Nat) + Int.toNat ((↑(List.length (LIi.l x1)) : Int) - (1 : Int))) default))) (ids (removeF lti (LIi.l x1) (Int.toNat (LIi.i x1)))) (posD (swp (LIJi.l x4) (Int.toNat (LIJi.i x4)) (Int.toNat (LIJi.j x4)))) (posD (removeF lti (LIi.l x1) (Int.toNat (LIi.i x1))))) ∧
 (True))))))))))))))))) ∧
 ((decide (LIi.i x1 < (↑(List.length (LIi.l x1)) : Int) - (1 : Int)) = false) →
 ((((0 : Int) ≤ (↑(List.length (LIi.l x1)) : Int) - (1 : Int)) ∧
 ((↑(List.length (LIi.l x1)) : Int) - (1 : Int) < (↑(List.length (LIi.l x1)) : Int))) ∧
 (((0 : Nat) + Int.toNat ((↑(List.length (LIi.l x1)) : Int) - (1 : Int)) < List.length (LIi.l x1)) ∧
 ((((0 : Int) ≤ (↑(List.length (LIi.l x1)) : Int) - (1 : Int)) ∧
 ((↑(List.length (LIi.l x1)) : Int) - (1 : Int) < (↑(List.length (LIi.l x1)) : Int))) ∧
 ((((0 : Nat) + Int.toNat ((↑(List.length (LIi.l x1)) : Int) - (1 : Int)) < List.length (LIi.l x1)) ∧
 ((True) ∧
 ((True) ∧
 (True)))) ∧
 ((((0 : Int) ≤ (0 : Int)) ∧
 (((0 : Int) ≤ (↑(List.length (LIi.l x1)) : Int) - (1 : Int)) ∧
 ((↑(List.length (LIi.l x1)) : Int) - (1 : Int) ≤ (↑(List.length (LIi.l x1)) : Int)))) ∧
 (((decide (LIi.i x1 < (↑(List.length (LIi.l x1)) : Int) - (1 : Int)) = true) →
 ((((0 : Int) ≤ LIi.i x1) ∧
 (LIi.i x1 < (↑(Int.toNat ((↑(List.length (LIi.l x1)) : Int) - (1 : Int)) - Int.toNat (0 : Int)) : Int))) ∧
 (((0 : Nat) + Int.toNat (0 : Int) + Int.toNat (LIi.i x1) < List.length (LIi.l x1)) ∧
 (∃ x11 : LIi,
 ((LIi.Ok x11) ∧
 (((((0 : Nat) = (0 : Nat)) ∧
 ((0 : Nat) = (0 : Nat))) ∧
 ((LIi.i x1 = LIi.i x11) ∧
 (True))) ∧
 ((((((0 : Nat) + Int.toNat (0 : Int) = (0 : Nat)) ∧
 (Int.toNat ((↑(List.length (LIi.l x1)) : Int) - (1 : Int)) - Int.toNat (0 : Int) = List.length (LIi.l x11))) ∧
 ((True) ∧
 (True))) ∧
 (((RLe (List.length (LIi.l x11)) (List.length (LIi.l x1))) ∧
 (RowsEq (Kd.int IntKind.i64 :: Kd.int IntKind.i64 :: @List.nil Kd) (List.length (LIi.l x11)) (setRow (encL encEi (LIi.l x1)) ((0 : Nat) + Int.toNat ((↑(List.length (LIi.l x1)) : Int) - (1 : Int))) (0 : Nat) (D.i (0 : Int) :: D.i (0 : Int) :: @List.nil D)) (encL encEi (LIi.l x11)))) ∧
 ((MapEq (Kd.int IntKind.i64 :: @List.nil Kd) (mdel (ids (LIi.l x1)) (El.id (List.getD (LIi.l x1) ((0 : Nat) + Int.toNat ((↑(List.length (LIi.l x1)) : Int) - (1 : Int))) default))) (ids (LIi.l x11)) (posD (LIi.l x1)) (posD (LIi.l x11))) ∧
 (True)))) ∧
 (∃ x12 : LIi,
 ((LIi.Ok x12) ∧
 (((((0 : Nat) = (0 : Nat)) ∧
 ((0 : Nat) = (0 : Nat))) ∧
 ((D.toI (if D.toI (if (0 : Nat) + Int.toNat (0 : Int) + Int.toNat (LIi.i x1) = (0 : Nat) + Int.toNat ((↑(List.length (LIi.l x1)) : Int) - (1 : Int)) then D.i (0 : Int) else D.i (El.id (List.getD (LIi.l x1) ((0 : Nat) + Int.toNat (0 : Int) + Int.toNat (LIi.i x1)) default))) ∈ ids (upF lti (LIi.l x11) (Int.toNat (LIi.i x11))) then posD (upF lti (LIi.l x11) (Int.toNat (LIi.i x11))) (D.toI (if (0 : Nat) + Int.toNat (0 : Int) + Int.toNat (LIi.i x1) = (0 : Nat) + Int.toNat ((↑(List.length (LIi.l x1)) : Int) - (1 : Int)) then D.i (0 : Int) else D.i (El.id (List.getD (LIi.l x1) ((0 : Nat) + Int.toNat (0 : Int) + Int.toNat (LIi.i x1)) default)))) (0 : Nat) else D.i (0 : Int)) = LIi.i x12) ∧
 (True))) ∧
 ((((((0 : Nat) + Int.toNat (0 : Int) = (0 : Nat)) ∧
 (Int.toNat ((↑(List.length (LIi.l x1)) : Int) - (1 : Int)) - Int.toNat (0 : Int) = List.length (LIi.l x12))) ∧
 ((True) ∧
 (True))) ∧
 (((RLe (List.length (LIi.l x12)) (List.length (upF lti (LIi.l x11) (Int.toNat (LIi.i x11))))) ∧
 (RowsEq (Kd.int IntKind.i64 :: Kd.int IntKind.i64 :: @List.nil Kd) (List.length (LIi.l x12)) (encL encEi (upF lti (LIi.l x11) (Int.toNat (LIi.i x11)))) (encL encEi (LIi.l x12)))) ∧
 ((MapEq (Kd.int IntKind.i64 :: @List.nil Kd) (ids (upF lti (LIi.l x11) (Int.toNat (LIi.i x11)))) (ids (LIi.l x12)) (posD (upF lti (LIi.l x11) (Int.toNat (LIi.i x11)))) (posD (LIi.l x12))) ∧
 (True)))) ∧
 ((True) ∧
 (((((0 : Nat) + Int.toNat (0 : Int) = (0 : Nat)) ∧
 (Int.toNat ((↑(List.length (LIi.l x1)) : Int) - (1 : Int)) - Int.toNat (0 : Int) = List.length (removeF lti (LIi.l x1) (Int.toNat (LIi.i x1))))) ∧
 ((True) ∧
 (True))) ∧
 (((RLe (List.length (removeF lti (LIi.l x1) (Int.toNat (LIi.i x1)))) (List.length (downF lti (LIi.l x12) (Int.toNat (LIi.i x12))))) ∧
 (RowsEq (Kd.int IntKind.i64 :: Kd.int IntKind.i64 :: @List.nil Kd) (List.length (removeF lti (LIi.l x1) (Int.toNat (LIi.i x1)))) (encL encEi (downF lti (LIi.l x12) (Int.toNat (LIi.i x12)))) (encL encEi (removeF lti (LIi.l x1) (Int.toNat (LIi.i x1)))))) ∧
 ((MapEq (Kd.int IntKind.i64 :: @List.nil Kd) (ids (downF lti (LIi.l x12) (Int.toNat (LIi.i x12)))) (ids (removeF lti (LIi.l x1) (Int.toNat (LIi.i x1)))) (posD (downF lti (LIi.l x12) (Int.toNat (LIi.i x12)))) (posD (removeF lti (LIi.l x1) (Int.toNat (LIi.i x1))))) ∧
 (True)))))))))))))))) ∧
 ((decide (LIi.i x1 < (↑(List.length (LIi.l x1)) : Int) - (1 : Int)) = false) →
 ((True) ∧
 (((((0 : Nat) + Int.toNat (0 : Int) = (0 : Nat)) ∧
 (Int.toNat ((↑(List.length (LIi.l x1)) : Int) - (1 : Int)) - Int.toNat (0 : Int) = List.length (removeF lti (LIi.l x1) (Int.toNat (LIi.i x1))))) ∧
 ((True) ∧
 (True))) ∧
 (((RLe (List.length (removeF lti (LIi.l x1) (Int.toNat (LIi.i x1)))) (List.length (LIi.l x1))) ∧
 (RowsEq (Kd.int IntKind.i64 :: Kd.int IntKind.i64 :: @List.nil Kd) (List.length (removeF lti (LIi.l x1) (Int.toNat (LIi.i x1)))) (setRow (encL encEi (LIi.l x1)) ((0 : Nat) + Int.toNat ((↑(List.length (LIi.l x1)) : Int) - (1 : Int))) (0 : Nat) (D.i (0 : Int) :: D.i (0 : Int) :: @List.nil D)) (encL encEi (removeF lti (LIi.l x1) (Int.toNat (LIi.i x1)))))) ∧
 ((MapEq (Kd.int IntKind.i64 :: @List.nil Kd) (mdel (ids (LIi.l x1)) (El.id (List.getD (LIi.l x1) ((0 : Nat) + Int.toNat ((↑(List.length (LIi.l x1)) : Int) - (1 : Int))) default))) (ids (removeF lti (LIi.l x1) (Int.toNat (LIi.i x1)))) (posD (LIi.l x1)) (posD (removeF lti (LIi.l x1) (Int.toNat (LIi.i x1))))) ∧
 (True)))))))))))))))))) = Keeps ⟨T, [], C3i, noInv, 6⟩ Try.f28 remAtiC noIv by kernel_rfl) (fun x1 => fun h2 => ⟨⟨(by omega),
 (by (obtain ⟨p1, p2, p3, p4⟩ := h2; first | omega | (refine ⟨?_, ?_, ?_, ?_, p3⟩ <;> dsimp only <;> omega)))⟩,
 fun g3 => have h3 := of_decide_eq_true g3; ⟨({ l := LIi.l x1, i := LIi.i x1, j := (↑(List.length (LIi.l x1)) : Int) - (1 : Int) : LIJi }),
 (by (try dsimp only at *); (obtain ⟨p1, p2, p3, p4⟩ := h2; first | omega | (refine ⟨?_, ?_, ?_, ?_, p3⟩ <;> dsimp only <;> omega))),
 ⟨⟨rfl,
 rfl⟩,
 rfl,
 rfl,
 trivial⟩,
 ⟨⟨⟨rfl,
 rfl⟩,
 trivial,
 trivial⟩,
 ⟨⟨Nat.le_refl _⟩,
 RowsEq.rfl'⟩,
 (by (try dsimp only at *); exact MapEq.rfl'),
 trivial⟩,
 ⟨(by (try dsimp only at *); (obtain ⟨p1, p2, p3, p4⟩ := h2; first | omega | (refine ⟨?_, ?_, ?_, ?_, p3⟩ <;> dsimp only <;> omega))),
 (by (try dsimp only at *); omega)⟩,
 (by (try dsimp only at *); (obtain ⟨p1, p2, p3, p4⟩ := h2; have n0 : ((x1.l.length : Int) - 1).toNat = x1.l.length - 1 := (by omega); have z0 : Int.toNat 0 = 0 := rfl; have hb : x1.i.toNat < x1.l.length - 1 := (by omega); have sl := swp_length x1.l x1.i.toNat (x1.l.length - 1); have cl := cutF_length x1.l x1.i.toNat; have ul := upF_length (lt := lti) x1.i.toNat (cutF x1.l x1.i.toNat); have rl := removeF_length lti (l := x1.l) (i := x1.i.toNat) (by omega); have sn := swp_nodupi p3 (i := x1.i.toNat) (j := x1.l.length - 1) (by omega) (by omega); have nn : x1.l.length - 1 + 1 = x1.l.length := (by omega); have tm := take_map sn (n := x1.l.length - 1) (by omega); simp only [n0, z0, Nat.zero_add, Nat.sub_zero, Int.toNat_natCast, ← cutF_big hb, ← removeF_big hb] at *; first | omega | exact cut_ok1i p3 p4 p1 hb | exact cut_ok2i p3 p4 hb | exact tm | (rw [cutF_big hb]; exact take_rowsi (by rw [List.length_take]; omega)) | (simp only [cut_id hb]; exact posD_if (cut_in hb)) | exact MapEq.rfl' | exact RowsEq.rfl')),
 ⟨(by (try dsimp only at *); (obtain ⟨p1, p2, p3, p4⟩ := h2; first | omega | (refine ⟨?_, ?_, ?_, ?_, p3⟩ <;> dsimp only <;> omega))),
 (by (try dsimp only at *); omega)⟩,
 ⟨(by (try dsimp only at *); (obtain ⟨p1, p2, p3, p4⟩ := h2; have n0 : ((x1.l.length : Int) - 1).toNat = x1.l.length - 1 := (by omega); have z0 : Int.toNat 0 = 0 := rfl; have hb : x1.i.toNat < x1.l.length - 1 := (by omega); have sl := swp_length x1.l x1.i.toNat (x1.l.length - 1); have cl := cutF_length x1.l x1.i.toNat; have ul := upF_length (lt := lti) x1.i.toNat (cutF x1.l x1.i.toNat); have rl := removeF_length lti (l := x1.l) (i := x1.i.toNat) (by omega); have sn := swp_nodupi p3 (i := x1.i.toNat) (j := x1.l.length - 1) (by omega) (by omega); have nn : x1.l.length - 1 + 1 = x1.l.length := (by omega); have tm := take_map sn (n := x1.l.length - 1) (by omega); simp only [n0, z0, Nat.zero_add, Nat.sub_zero, Int.toNat_natCast, ← cutF_big hb, ← removeF_big hb] at *; first | omega | exact cut_ok1i p3 p4 p1 hb | exact cut_ok2i p3 p4 hb | exact tm | (rw [cutF_big hb]; exact take_rowsi (by rw [List.length_take]; omega)) | (simp only [cut_id hb]; exact posD_if (cut_in hb)) | exact MapEq.rfl' | exact RowsEq.rfl')),
 trivial,
 trivial,
 trivial⟩,
 ⟨(by (try dsimp only at *); omega),
 (by (try dsimp only at *); (obtain ⟨p1, p2, p3, p4⟩ := h2; first | omega | (refine ⟨?_, ?_, ?_, ?_, p3⟩ <;> dsimp only <;> omega))),
 (by (try dsimp only at *); omega)⟩,
 fun g5 => have h5 := of_decide_eq_true g5; ⟨⟨(by (try dsimp only at *); (obtain ⟨p1, p2, p3, p4⟩ := h2; first | omega | (refine ⟨?_, ?_, ?_, ?_, p3⟩ <;> dsimp only <;> omega))),
 (by (try dsimp only at *); omega)⟩,
 (by (try dsimp only at *); (obtain ⟨p1, p2, p3, p4⟩ := h2; have n0 : ((x1.l.length : Int) - 1).toNat = x1.l.length - 1 := (by omega); have z0 : Int.toNat 0 = 0 := rfl; have hb : x1.i.toNat < x1.l.length - 1 := (by omega); have sl := swp_length x1.l x1.i.toNat (x1.l.length - 1); have cl := cutF_length x1.l x1.i.toNat; have ul := upF_length (lt := lti) x1.i.toNat (cutF x1.l x1.i.toNat); have rl := removeF_length lti (l := x1.l) (i := x1.i.toNat) (by omega); have sn := swp_nodupi p3 (i := x1.i.toNat) (j := x1.l.length - 1) (by omega) (by omega); have nn : x1.l.length - 1 + 1 = x1.l.length := (by omega); have tm := take_map sn (n := x1.l.length - 1) (by omega); simp only [n0, z0, Nat.zero_add, Nat.sub_zero, Int.toNat_natCast, ← cutF_big hb, ← removeF_big hb] at *; first | omega | exact cut_ok1i p3 p4 p1 hb | exact cut_ok2i p3 p4 hb | exact tm | (rw [cutF_big hb]; exact take_rowsi (by rw [List.length_take]; omega)) | (simp only [cut_id hb]; exact posD_if (cut_in hb)) | exact MapEq.rfl' | exact RowsEq.rfl')),
 ({ l := cutF (LIi.l x1) (Int.toNat (LIi.i x1)), i := LIi.i x1 : LIi }),
 (by (try dsimp only at *); (obtain ⟨p1, p2, p3, p4⟩ := h2; have n0 : ((x1.l.length : Int) - 1).toNat = x1.l.length - 1 := (by omega); have z0 : Int.toNat 0 = 0 := rfl; have hb : x1.i.toNat < x1.l.length - 1 := (by omega); have sl := swp_length x1.l x1.i.toNat (x1.l.length - 1); have cl := cutF_length x1.l x1.i.toNat; have ul := upF_length (lt := lti) x1.i.toNat (cutF x1.l x1.i.toNat); have rl := removeF_length lti (l := x1.l) (i := x1.i.toNat) (by omega); have sn := swp_nodupi p3 (i := x1.i.toNat) (j := x1.l.length - 1) (by omega) (by omega); have nn : x1.l.length - 1 + 1 = x1.l.length := (by omega); have tm := take_map sn (n := x1.l.length - 1) (by omega); simp only [n0, z0, Nat.zero_add, Nat.sub_zero, Int.toNat_natCast, ← cutF_big hb, ← removeF_big hb] at *; first | omega | exact cut_ok1i p3 p4 p1 hb | exact cut_ok2i p3 p4 hb | exact tm | (rw [cutF_big hb]; exact take_rowsi (by rw [List.length_take]; omega)) | (simp only [cut_id hb]; exact posD_if (cut_in hb)) | exact MapEq.rfl' | exact RowsEq.rfl')),
 ⟨⟨rfl,
 rfl⟩,
 rfl,
 trivial⟩,
 ⟨⟨⟨(by (try dsimp only at *); omega),
 (by (try dsimp only at *); (obtain ⟨p1, p2, p3, p4⟩ := h2; have n0 : ((x1.l.length : Int) - 1).toNat = x1.l.length - 1 := (by omega); have z0 : Int.toNat 0 = 0 := rfl; have hb : x1.i.toNat < x1.l.length - 1 := (by omega); have sl := swp_length x1.l x1.i.toNat (x1.l.length - 1); have cl := cutF_length x1.l x1.i.toNat; have ul := upF_length (lt := lti) x1.i.toNat (cutF x1.l x1.i.toNat); have rl := removeF_length lti (l := x1.l) (i := x1.i.toNat) (by omega); have sn := swp_nodupi p3 (i := x1.i.toNat) (j := x1.l.length - 1) (by omega) (by omega); have nn : x1.l.length - 1 + 1 = x1.l.length := (by omega); have tm := take_map sn (n := x1.l.length - 1) (by omega); simp only [n0, z0, Nat.zero_add, Nat.sub_zero, Int.toNat_natCast, ← cutF_big hb, ← removeF_big hb] at *; first | omega | exact cut_ok1i p3 p4 p1 hb | exact cut_ok2i p3 p4 hb | exact tm | (rw [cutF_big hb]; exact take_rowsi (by rw [List.length_take]; omega)) | (simp only [cut_id hb]; exact posD_if (cut_in hb)) | exact MapEq.rfl' | exact RowsEq.rfl'))⟩,
 trivial,
 trivial⟩,
 ⟨⟨(by (try dsimp only at *); (obtain ⟨p1, p2, p3, p4⟩ := h2; have n0 : ((x1.l.length : Int) - 1).toNat = x1.l.length - 1 := (by omega); have z0 : Int.toNat 0 = 0 := rfl; have hb : x1.i.toNat < x1.l.length - 1 := (by omega); have sl := swp_length x1.l x1.i.toNat (x1.l.length - 1); have cl := cutF_length x1.l x1.i.toNat; have ul := upF_length (lt := lti) x1.i.toNat (cutF x1.l x1.i.toNat); have rl := removeF_length lti (l := x1.l) (i := x1.i.toNat) (by omega); have sn := swp_nodupi p3 (i := x1.i.toNat) (j := x1.l.length - 1) (by omega) (by omega); have nn : x1.l.length - 1 + 1 = x1.l.length := (by omega); have tm := take_map sn (n := x1.l.length - 1) (by omega); simp only [n0, z0, Nat.zero_add, Nat.sub_zero, Int.toNat_natCast, ← cutF_big hb, ← removeF_big hb] at *; first | omega | exact cut_ok1i p3 p4 p1 hb | exact cut_ok2i p3 p4 hb | exact tm | (rw [cutF_big hb]; exact take_rowsi (by rw [List.length_take]; omega)) | (simp only [cut_id hb]; exact posD_if (cut_in hb)) | exact MapEq.rfl' | exact RowsEq.rfl'))⟩,
 (by (try dsimp only at *); (obtain ⟨p1, p2, p3, p4⟩ := h2; have n0 : ((x1.l.length : Int) - 1).toNat = x1.l.length - 1 := (by omega); have z0 : Int.toNat 0 = 0 := rfl; have hb : x1.i.toNat < x1.l.length - 1 := (by omega); have sl := swp_length x1.l x1.i.toNat (x1.l.length - 1); have cl := cutF_length x1.l x1.i.toNat; have ul := upF_length (lt := lti) x1.i.toNat (cutF x1.l x1.i.toNat); have rl := removeF_length lti (l := x1.l) (i := x1.i.toNat) (by omega); have sn := swp_nodupi p3 (i := x1.i.toNat) (j := x1.l.length - 1) (by omega) (by omega); have nn : x1.l.length - 1 + 1 = x1.l.length := (by omega); have tm := take_map sn (n := x1.l.length - 1) (by omega); simp only [n0, z0, Nat.zero_add, Nat.sub_zero, Int.toNat_natCast, ← cutF_big hb, ← removeF_big hb] at *; first | omega | exact cut_ok1i p3 p4 p1 hb | exact cut_ok2i p3 p4 hb | exact tm | (rw [cutF_big hb]; exact take_rowsi (by rw [List.length_take]; omega)) | (simp only [cut_id hb]; exact posD_if (cut_in hb)) | exact MapEq.rfl' | exact RowsEq.rfl'))⟩,
 (by (try dsimp only at *); (obtain ⟨p1, p2, p3, p4⟩ := h2; have n0 : ((x1.l.length : Int) - 1).toNat = x1.l.length - 1 := (by omega); have z0 : Int.toNat 0 = 0 := rfl; have hb : x1.i.toNat < x1.l.length - 1 := (by omega); have sl := swp_length x1.l x1.i.toNat (x1.l.length - 1); have cl := cutF_length x1.l x1.i.toNat; have ul := upF_length (lt := lti) x1.i.toNat (cutF x1.l x1.i.toNat); have rl := removeF_length lti (l := x1.l) (i := x1.i.toNat) (by omega); have sn := swp_nodupi p3 (i := x1.i.toNat) (j := x1.l.length - 1) (by omega) (by omega); have nn : x1.l.length - 1 + 1 = x1.l.length := (by omega); have tm := take_map sn (n := x1.l.length - 1) (by omega); simp only [n0, z0, Nat.zero_add, Nat.sub_zero, Int.toNat_natCast, ← cutF_big hb, ← removeF_big hb] at *; first | omega | exact cut_ok1i p3 p4 p1 hb | exact cut_ok2i p3 p4 hb | exact tm | (rw [cutF_big hb]; exact take_rowsi (by rw [List.length_take]; omega)) | (simp only [cut_id hb]; exact posD_if (cut_in hb)) | exact MapEq.rfl' | exact RowsEq.rfl')),
 trivial⟩,
 ({ l := upF lti (cutF (LIi.l x1) (Int.toNat (LIi.i x1))) (Int.toNat (LIi.i x1)), i := (↑(posOf (upF lti (cutF (LIi.l x1) (Int.toNat (LIi.i x1))) (Int.toNat (LIi.i x1))) (El.id (List.getD (cutF (LIi.l x1) (Int.toNat (LIi.i x1))) (Int.toNat (LIi.i x1)) default))) : Int) : LIi }),
 (by (try dsimp only at *); (obtain ⟨p1, p2, p3, p4⟩ := h2; have n0 : ((x1.l.length : Int) - 1).toNat = x1.l.length - 1 := (by omega); have z0 : Int.toNat 0 = 0 := rfl; have hb : x1.i.toNat < x1.l.length - 1 := (by omega); have sl := swp_length x1.l x1.i.toNat (x1.l.length - 1); have cl := cutF_length x1.l x1.i.toNat; have ul := upF_length (lt := lti) x1.i.toNat (cutF x1.l x1.i.toNat); have rl := removeF_length lti (l := x1.l) (i := x1.i.toNat) (by omega); have sn := swp_nodupi p3 (i := x1.i.toNat) (j := x1.l.length - 1) (by omega) (by omega); have nn : x1.l.length - 1 + 1 = x1.l.length := (by omega); have tm := take_map sn (n := x1.l.length - 1) (by omega); simp only [n0, z0, Nat.zero_add, Nat.sub_zero, Int.toNat_natCast, ← cutF_big hb, ← removeF_big hb] at *; first | omega | exact cut_ok1i p3 p4 p1 hb | exact cut_ok2i p3 p4 hb | exact tm | (rw [cutF_big hb]; exact take_rowsi (by rw [List.length_take]; omega)) | (simp only [cut_id hb]; exact posD_if (cut_in hb)) | exact MapEq.rfl' | exact RowsEq.rfl')),
 ⟨⟨rfl,
 rfl⟩,
 (by (try dsimp only at *); (obtain ⟨p1, p2, p3, p4⟩ := h2; have n0 : ((x1.l.length : Int) - 1).toNat = x1.l.length - 1 := (by omega); have z0 : Int.toNat 0 = 0 := rfl; have hb : x1.i.toNat < x1.l.length - 1 := (by omega); have sl := swp_length x1.l x1.i.toNat (x1.l.length - 1); have cl := cutF_length x1.l x1.i.toNat; have ul := upF_length (lt := lti) x1.i.toNat (cutF x1.l x1.i.toNat); have rl := removeF_length lti (l := x1.l) (i := x1.i.toNat) (by omega); have sn := swp_nodupi p3 (i := x1.i.toNat) (j := x1.l.length - 1) (by omega) (by omega); have nn : x1.l.length - 1 + 1 = x1.l.length := (by omega); have tm := take_map sn (n := x1.l.length - 1) (by omega); simp only [n0, z0, Nat.zero_add, Nat.sub_zero, Int.toNat_natCast, ← cutF_big hb, ← removeF_big hb] at *; first | omega | exact cut_ok1i p3 p4 p1 hb | exact cut_ok2i p3 p4 hb | exact tm | (rw [cutF_big hb]; exact take_rowsi (by rw [List.length_take]; omega)) | (simp only [cut_id hb]; exact posD_if (cut_in hb)) | exact MapEq.rfl' | exact RowsEq.rfl')),
 trivial⟩,
 ⟨⟨⟨(by (try dsimp only at *); omega),
 (by (try dsimp only at *); (obtain ⟨p1, p2, p3, p4⟩ := h2; have n0 : ((x1.l.length : Int) - 1).toNat = x1.l.length - 1 := (by omega); have z0 : Int.toNat 0 = 0 := rfl; have hb : x1.i.toNat < x1.l.length - 1 := (by omega); have sl := swp_length x1.l x1.i.toNat (x1.l.length - 1); have cl := cutF_length x1.l x1.i.toNat; have ul := upF_length (lt := lti) x1.i.toNat (cutF x1.l x1.i.toNat); have rl := removeF_length lti (l := x1.l) (i := x1.i.toNat) (by omega); have sn := swp_nodupi p3 (i := x1.i.toNat) (j := x1.l.length - 1) (by omega) (by omega); have nn : x1.l.length - 1 + 1 = x1.l.length := (by omega); have tm := take_map sn (n := x1.l.length - 1) (by omega); simp only [n0, z0, Nat.zero_add, Nat.sub_zero, Int.toNat_natCast, ← cutF_big hb, ← removeF_big hb] at *; first | omega | exact cut_ok1i p3 p4 p1 hb | exact cut_ok2i p3 p4 hb | exact tm | (rw [cutF_big hb]; exact take_rowsi (by rw [List.length_take]; omega)) | (simp only [cut_id hb]; exact posD_if (cut_in hb)) | exact MapEq.rfl' | exact RowsEq.rfl'))⟩,
 trivial,
 trivial⟩,
 ⟨⟨Nat.le_refl _⟩,
 RowsEq.rfl'⟩,
 (by (try dsimp only at *); exact MapEq.rfl'),
 trivial⟩,
 trivial,
 ⟨⟨(by (try dsimp only at *); omega),
 (by (try dsimp only at *); (obtain ⟨p1, p2, p3, p4⟩ := h2; have n0 : ((x1.l.length : Int) - 1).toNat = x1.l.length - 1 := (by omega); have z0 : Int.toNat 0 = 0 := rfl; have hb : x1.i.toNat < x1.l.length - 1 := (by omega); have sl := swp_length x1.l x1.i.toNat (x1.l.length - 1); have cl := cutF_length x1.l x1.i.toNat; have ul := upF_length (lt := lti) x1.i.toNat (cutF x1.l x1.i.toNat); have rl := removeF_length lti (l := x1.l) (i := x1.i.toNat) (by omega); have sn := swp_nodupi p3 (i := x1.i.toNat) (j := x1.l.length - 1) (by omega) (by omega); have nn : x1.l.length - 1 + 1 = x1.l.length := (by omega); have tm := take_map sn (n := x1.l.length - 1) (by omega); simp only [n0, z0, Nat.zero_add, Nat.sub_zero, Int.toNat_natCast, ← cutF_big hb, ← removeF_big hb] at *; first | omega | exact cut_ok1i p3 p4 p1 hb | exact cut_ok2i p3 p4 hb | exact tm | (rw [cutF_big hb]; exact take_rowsi (by rw [List.length_take]; omega)) | (simp only [cut_id hb]; exact posD_if (cut_in hb)) | exact MapEq.rfl' | exact RowsEq.rfl'))⟩,
 trivial,
 trivial⟩,
 ⟨⟨(by (try dsimp only at *); (obtain ⟨p1, p2, p3, p4⟩ := h2; have n0 : ((x1.l.length : Int) - 1).toNat = x1.l.length - 1 := (by omega); have z0 : Int.toNat 0 = 0 := rfl; have hb : x1.i.toNat < x1.l.length - 1 := (by omega); have sl := swp_length x1.l x1.i.toNat (x1.l.length - 1); have cl := cutF_length x1.l x1.i.toNat; have ul := upF_length (lt := lti) x1.i.toNat (cutF x1.l x1.i.toNat); have rl := removeF_length lti (l := x1.l) (i := x1.i.toNat) (by omega); have sn := swp_nodupi p3 (i := x1.i.toNat) (j := x1.l.length - 1) (by omega) (by omega); have nn : x1.l.length - 1 + 1 = x1.l.length := (by omega); have tm := take_map sn (n := x1.l.length - 1) (by omega); simp only [n0, z0, Nat.zero_add, Nat.sub_zero, Int.toNat_natCast, ← cutF_big hb, ← removeF_big hb] at *; first | omega | exact cut_ok1i p3 p4 p1 hb | exact cut_ok2i p3 p4 hb | exact tm | (rw [cutF_big hb]; exact take_rowsi (by rw [List.length_take]; omega)) | (simp only [cut_id hb]; exact posD_if (cut_in hb)) | exact MapEq.rfl' | exact RowsEq.rfl'))⟩,
 (by (try dsimp only at *); (obtain ⟨p1, p2, p3, p4⟩ := h2; have n0 : ((x1.l.length : Int) - 1).toNat = x1.l.length - 1 := (by omega); have z0 : Int.toNat 0 = 0 := rfl; have hb : x1.i.toNat < x1.l.length - 1 := (by omega); have sl := swp_length x1.l x1.i.toNat (x1.l.length - 1); have cl := cutF_length x1.l x1.i.toNat; have ul := upF_length (lt := lti) x1.i.toNat (cutF x1.l x1.i.toNat); have rl := removeF_length lti (l := x1.l) (i := x1.i.toNat) (by omega); have sn := swp_nodupi p3 (i := x1.i.toNat) (j := x1.l.length - 1) (by omega) (by omega); have nn : x1.l.length - 1 + 1 = x1.l.length := (by omega); have tm := take_map sn (n := x1.l.length - 1) (by omega); simp only [n0, z0, Nat.zero_add, Nat.sub_zero, Int.toNat_natCast, ← cutF_big hb, ← removeF_big hb] at *; first | omega | exact cut_ok1i p3 p4 p1 hb | exact cut_ok2i p3 p4 hb | exact tm | (rw [cutF_big hb]; exact take_rowsi (by rw [List.length_take]; omega)) | (simp only [cut_id hb]; exact posD_if (cut_in hb)) | exact MapEq.rfl' | exact RowsEq.rfl'))⟩,
 (by (try dsimp only at *); (obtain ⟨p1, p2, p3, p4⟩ := h2; have n0 : ((x1.l.length : Int) - 1).toNat = x1.l.length - 1 := (by omega); have z0 : Int.toNat 0 = 0 := rfl; have hb : x1.i.toNat < x1.l.length - 1 := (by omega); have sl := swp_length x1.l x1.i.toNat (x1.l.length - 1); have cl := cutF_length x1.l x1.i.toNat; have ul := upF_length (lt := lti) x1.i.toNat (cutF x1.l x1.i.toNat); have rl := removeF_length lti (l := x1.l) (i := x1.i.toNat) (by omega); have sn := swp_nodupi p3 (i := x1.i.toNat) (j := x1.l.length - 1) (by omega) (by omega); have nn : x1.l.length - 1 + 1 = x1.l.length := (by omega); have tm := take_map sn (n := x1.l.length - 1) (by omega); simp only [n0, z0, Nat.zero_add, Nat.sub_zero, Int.toNat_natCast, ← cutF_big hb, ← removeF_big hb] at *; first | omega | exact cut_ok1i p3 p4 p1 hb | exact cut_ok2i p3 p4 hb | exact tm | (rw [cutF_big hb]; exact take_rowsi (by rw [List.length_take]; omega)) | (simp only [cut_id hb]; exact posD_if (cut_in hb)) | exact MapEq.rfl' | exact RowsEq.rfl')),
 trivial⟩,
 fun g8 => have h8 := of_decide_eq_false g8; ⟨trivial,
 ⟨⟨(by (try dsimp only at *); omega),
 (by (try dsimp only at *); omega)⟩,
 trivial,
 trivial⟩,
 ⟨⟨(by (try dsimp only at *); omega)⟩,
 (by (try dsimp only at *); omega)⟩,
 (by (try dsimp only at *); omega),
 trivial⟩⟩,
 fun g9 => have h9 := of_decide_eq_false g9; ⟨⟨(by (try dsimp only at *); (obtain ⟨p1, p2, p3, p4⟩ := h2; first | omega | (refine ⟨?_, ?_, ?_, ?_, p3⟩ <;> dsimp only <;> omega))),
 (by (try dsimp only at *); omega)⟩,
 (by (try dsimp only at *); (obtain ⟨p1, p2, p3, p4⟩ := h2; first | omega | (refine ⟨?_, ?_, ?_, ?_, p3⟩ <;> dsimp only <;> omega))),
 ⟨(by (try dsimp only at *); (obtain ⟨p1, p2, p3, p4⟩ := h2; first | omega | (refine ⟨?_, ?_, ?_, ?_, p3⟩ <;> dsimp only <;> omega))),
 (by (try dsimp only at *); omega)⟩,
 ⟨(by (try dsimp only at *); (obtain ⟨p1, p2, p3, p4⟩ := h2; first | omega | (refine ⟨?_, ?_, ?_, ?_, p3⟩ <;> dsimp only <;> omega))),
 trivial,
 trivial,
 trivial⟩,
 ⟨(by (try dsimp only at *); omega),
 (by (try dsimp only at *); (obtain ⟨p1, p2, p3, p4⟩ := h2; first | omega | (refine ⟨?_, ?_, ?_, ?_, p3⟩ <;> dsimp only <;> omega))),
 (by (try dsimp only at *); omega)⟩,
 fun g10 => have h10 := of_decide_eq_true g10; ⟨⟨(by (try dsimp only at *); omega),
 (by (try dsimp only at *); omega)⟩,
 (by (try dsimp only at *); omega),
 (x1),
 (by (try dsimp only at *); omega),
 ⟨⟨rfl,
 rfl⟩,
 rfl,
 trivial⟩,
 ⟨⟨⟨(by (try dsimp only at *); omega),
 (by (try dsimp only at *); omega)⟩,
 trivial,
 trivial⟩,
 ⟨⟨Nat.le_refl _⟩,
 (by (try dsimp only at *); omega)⟩,
 (by (try dsimp only at *); omega),
 trivial⟩,
 ({ l := upF lti (LIi.l x1) (Int.toNat (LIi.i x1)), i := D.toI (if D.toI (if (0 : Nat) + Int.toNat (0 : Int) + Int.toNat (LIi.i x1) = (0 : Nat) + Int.toNat ((↑(List.length (LIi.l x1)) : Int) - (1 : Int)) then D.i (0 : Int) else D.i (El.id (List.getD (LIi.l x1) ((0 : Nat) + Int.toNat (0 : Int) + Int.toNat (LIi.i x1)) default))) ∈ ids (upF lti (LIi.l x1) (Int.toNat (LIi.i x1))) then posD (upF lti (LIi.l x1) (Int.toNat (LIi.i x1))) (D.toI (if (0 : Nat) + Int.toNat (0 : Int) + Int.toNat (LIi.i x1) = (0 : Nat) + Int.toNat ((↑(List.length (LIi.l x1)) : Int) - (1 : Int)) then D.i (0 : Int) else D.i (El.id (List.getD (LIi.l x1) ((0 : Nat) + Int.toNat (0 : Int) + Int.toNat (LIi.i x1)) default)))) (0 : Nat) else D.i (0 : Int)) : LIi }),
 (by (try dsimp only at *); omega),
 ⟨⟨rfl,
 rfl⟩,
 rfl,
 trivial⟩,
 ⟨⟨⟨(by (try dsimp only at *); omega),
 (by (try dsimp only at *); omega)⟩,
 trivial,
 trivial⟩,
 ⟨⟨Nat.le_refl _⟩,
 RowsEq.rfl'⟩,
 (by (try dsimp only at *); omega),
 trivial⟩,
 trivial,
 ⟨⟨(by (try dsimp only at *); omega),
 (by (try dsimp only at *); omega)⟩,
 trivial,
 trivial⟩,
 ⟨⟨(by (try dsimp only at *); omega)⟩,
 (by (try dsimp only at *); omega)⟩,
 (by (try dsimp only at *); omega),
 trivial⟩,
 fun g13 => have h13 := of_decide_eq_false g13; ⟨trivial,
 ⟨⟨(by (try dsimp only at *); omega),
 (by (try dsimp only at *); (obtain ⟨p1, p2, p3, p4⟩ := h2; have n0 : ((x1.l.length : Int) - 1).toNat = x1.l.length - 1 := (by omega); have z0 : Int.toNat 0 = 0 := rfl; have hb : ¬ x1.i.toNat < x1.l.length - 1 := (by omega); have rl := removeF_length lti (l := x1.l) (i := x1.i.toNat) (by omega); have tm := take_map p3 (n := x1.l.length - 1) (by omega); simp only [n0, z0, Nat.zero_add, Nat.sub_zero, Int.toNat_natCast] at *; first | omega | (rw [removeF_small hb]; exact tm) | (rw [removeF_small hb]; exact take_rowsi (by rw [List.length_take]; omega))))⟩,
 trivial,
 trivial⟩,
 ⟨⟨(by (try dsimp only at *); (obtain ⟨p1, p2, p3, p4⟩ := h2; have n0 : ((x1.l.length : Int) - 1).toNat = x1.l.length - 1 := (by omega); have z0 : Int.toNat 0 = 0 := rfl; have hb : ¬ x1.i.toNat < x1.l.length - 1 := (by omega); have rl := removeF_length lti (l := x1.l) (i := x1.i.toNat) (by omega); have tm := take_map p3 (n := x1.l.length - 1) (by omega); simp only [n0, z0, Nat.zero_add, Nat.sub_zero, Int.toNat_natCast] at *; first | omega | (rw [removeF_small hb]; exact tm) | (rw [removeF_small hb]; exact take_rowsi (by rw [List.length_take]; omega))))⟩,
 (by (try dsimp only at *); (obtain ⟨p1, p2, p3, p4⟩ := h2; have n0 : ((x1.l.length : Int) - 1).toNat = x1.l.length - 1 := (by omega); have z0 : Int.toNat 0 = 0 := rfl; have hb : ¬ x1.i.toNat < x1.l.length - 1 := (by omega); have rl := removeF_length lti (l := x1.l) (i := x1.i.toNat) (by omega); have tm := take_map p3 (n := x1.l.length - 1) (by omega); simp only [n0, z0, Nat.zero_add, Nat.sub_zero, Int.toNat_natCast] at *; first | omega | (rw [removeF_small hb]; exact tm) | (rw [removeF_small hb]; exact take_rowsi (by rw [List.length_take]; omega))))⟩,
 (by (try dsimp only at *); (obtain ⟨p1, p2, p3, p4⟩ := h2; have n0 : ((x1.l.length : Int) - 1).toNat = x1.l.length - 1 := (by omega); have z0 : Int.toNat 0 = 0 := rfl; have hb : ¬ x1.i.toNat < x1.l.length - 1 := (by omega); have rl := removeF_length lti (l := x1.l) (i := x1.i.toNat) (by omega); have tm := take_map p3 (n := x1.l.length - 1) (by omega); simp only [n0, z0, Nat.zero_add, Nat.sub_zero, Int.toNat_natCast] at *; first | omega | (rw [removeF_small hb]; exact tm) | (rw [removeF_small hb]; exact take_rowsi (by rw [List.length_take]; omega)))),
 trivial⟩⟩⟩)

theorem remAti_good : Good Try.prog 28 remAtiC ∧ FnOk Try.prog 28 := good_of (c := ⟨T, [], C3i, noInv, 6⟩) tok (ConL.ok con3i) (fn := Try.f28) rfl (by decide +kernel) (fun _ => rfl) remAti_keeps

end Go.Sym
