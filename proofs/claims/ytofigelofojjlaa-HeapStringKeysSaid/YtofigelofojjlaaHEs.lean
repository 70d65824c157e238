/- The heap of numbers with keys of kind s: contracts and walks. Printed by gen/heap.py. -/
import Derived.Test.YtofigelofojjlaaHDs
import Derived.Test.YtofigelofojjlaaXD
namespace Go.Sym
set_option linter.unusedVariables false
set_option linter.unusedSimpArgs false
open Go.Proofs
def C5s : List (Nat × Con) := [(33, .one minsC), (34, .one remAtsC)]
theorem con5s : ConL Try.prog C5s := .cons (ConL.one mins_good) (.cons (ConL.one remAts_good) .nil)
def popsC : CT where
  X := List (El ByteArray)
  pre := fun l => (ids l).Nodup ∧ l.length ≤ 1000000
  args := fun l => [.p 100000 0 0]
  g0 := fun l => heapOwns l
  res := fun l => .tup [.i .i64 (l.getD 0 default).id, .s (l.getD 0 default).key, .b (decide (l.length ≠ 0))]
  g1 := fun l => heapCuts (popF lts l)
theorem popF_conss {l : List (El ByteArray)} (h : l.length ≠ 0) : popF lts l = removeF lts l 0 := by unfold popF; rw [if_neg h]
theorem popF_nils {l : List (El ByteArray)} (h : l.length = 0) : popF lts l = l := by unfold popF; rw [if_pos h]
set_option maxRecDepth 100000 in
theorem pops_keeps : Keeps ⟨T, [], C5s, noInv, 8⟩ Try.f22 popsC noIv := Eq.mp (show ((∀ x1 : List (El ByteArray),
 ((List.Nodup (ids x1) ∧ List.length x1 ≤ (1000000 : Nat)) →
 (∃ x3 : List (El ByteArray),
 ((True) ∧
 (((((0 : Nat) = (0 : Nat)) ∧
 ((0 : Nat) = (0 : Nat))) ∧
 (True)) ∧
 ((((((0 : Nat) = (0 : Nat)) ∧
 (List.length x1 = List.length x3)) ∧
 ((True) ∧
 (True))) ∧
 (((RLe (List.length x3) (List.length x1)) ∧
 (RowsEq (Kd.int IntKind.i64 :: Kd.str :: @List.nil Kd) (List.length x3) (encL encEs x1) (encL encEs x3))) ∧
 ((MapEq (Kd.int IntKind.i64 :: @List.nil Kd) (ids x1) (ids x3) (posD x1) (posD x3)) ∧
 (True)))) ∧
 (((decide (List.length x3 ≠ (0 : Nat)) = true) →
 (∃ x5 : LIs,
 ((LIs.Ok x5) ∧
 (((((0 : Nat) = (0 : Nat)) ∧
 ((0 : Nat) = (0 : Nat))) ∧
 (((0 : Int) = LIs.i x5) ∧
 (True))) ∧
 ((((((0 : Nat) = (0 : Nat)) ∧
 (List.length x1 = List.length (LIs.l x5))) ∧
 ((True) ∧
 (True))) ∧
 (((RLe (List.length (LIs.l x5)) (List.length x1)) ∧
 (RowsEq (Kd.int IntKind.i64 :: Kd.str :: @List.nil Kd) (List.length (LIs.l x5)) (encL encEs x1) (encL encEs (LIs.l x5)))) ∧
 ((MapEq (Kd.int IntKind.i64 :: @List.nil Kd) (ids x1) (ids (LIs.l x5)) (posD x1) (posD (LIs.l x5))) ∧
 (True)))) ∧
 (((El.id (List.getD x3 (0 : Nat) default) = El.id (List.getD x1 (0 : Nat) default)) ∧
 ((El.key (List.getD x3 (0 : Nat) default) = El.key (List.getD x1 (0 : Nat) default)) ∧
 ((decide (List.length x3 ≠ (0 : Nat)) = decide (List.length x1 ≠ (0 : Nat))) ∧
 (True)))) ∧
 (((((0 : Nat) = (0 : Nat)) ∧
 (List.length (removeF lts (LIs.l x5) (Int.toNat (LIs.i x5))) = List.length (popF lts x1))) ∧
 ((True) ∧
 (True))) ∧
 (((RLe (List.length (popF lts x1)) (List.length (removeF lts (LIs.l x5) (Int.toNat (LIs.i x5))))) ∧
 (RowsEq (Kd.int IntKind.i64 :: Kd.str :: @List.nil Kd) (List.length (popF lts x1)) (encL encEs (removeF lts (LIs.l x5) (Int.toNat (LIs.i x5)))) (encL encEs (popF lts x1)))) ∧
 ((MapEq (Kd.int IntKind.i64 :: @List.nil Kd) (ids (removeF lts (LIs.l x5) (Int.toNat (LIs.i x5)))) (ids (popF lts x1)) (posD (removeF lts (LIs.l x5) (Int.toNat (LIs.i x5)))) (posD (popF lts x1))) ∧
 (True)))))))))) ∧
 ((decide (List.length x3 ≠ (0 : Nat)) = false) →
 (((El.id (List.getD x3 (0 : Nat) default) = El.id (List.getD x1 (0 : Nat) default)) ∧
 ((El.key (List.getD x3 (0 : Nat) default) = El.key (List.getD x1 (0 : Nat) default)) ∧
 ((decide (List.length x3 ≠ (0 : Nat)) = decide (List.length x1 ≠ (0 : Nat))) ∧
 (True)))) ∧
 (((((0 : Nat) = (0 : Nat)) ∧
 (List.length x1 = List.length (popF lts x1))) ∧
 ((True) ∧
 (True))) ∧
 (((RLe (List.length (popF lts x1)) (List.length x1)) ∧
 (RowsEq (Kd.int IntKind.i64 :: Kd.str :: @List.nil Kd) (List.length (popF lts x1)) (encL encEs x1) (encL encEs (popF lts x1)))) ∧
 ((MapEq (Kd.int IntKind.i64 :: @List.nil Kd) (ids x1) (ids (popF lts x1)) (posD x1) (posD (popF lts x1))) ∧
 (True)))))))))))))) = Keeps ⟨T, [], C5s, noInv, 8⟩ Try.f22 popsC noIv by kernel_rfl) (fun x1 => fun h2 => ⟨(x1),
 trivial,
 ⟨⟨rfl,
 rfl⟩,
 trivial⟩,
 ⟨⟨⟨rfl,
 rfl⟩,
 trivial,
 trivial⟩,
 ⟨⟨Nat.le_refl _⟩,
 RowsEq.rfl'⟩,
 MapEq.rfl',
 trivial⟩,
 fun g4 => have h4 := of_decide_eq_true g4; ⟨({ l := x1, i := (0 : Int) : LIs }),
 (by (try dsimp only at *); (obtain ⟨p1, p2⟩ := h2; refine ⟨?_, ?_, ?_, ?_⟩ <;> dsimp only <;> first | omega | assumption)),
 ⟨⟨rfl,
 rfl⟩,
 rfl,
 trivial⟩,
 ⟨⟨⟨rfl,
 rfl⟩,
 trivial,
 trivial⟩,
 ⟨⟨Nat.le_refl _⟩,
 RowsEq.rfl'⟩,
 (by (try dsimp only at *); exact MapEq.rfl'),
 trivial⟩,
 ⟨rfl,
 rfl,
 rfl,
 trivial⟩,
 ⟨⟨rfl,
 (by (try dsimp only at *); (have e : x1.length ≠ 0 := (by simp_all); have z0 : Int.toNat 0 = 0 := rfl; (first | (rw [popF_conss e]; done) | rw [popF_conss e]); first | done | rfl | exact Nat.le_refl _ | exact MapEq.rfl' | exact RowsEq.rfl'))⟩,
 trivial,
 trivial⟩,
 ⟨⟨(by (try dsimp only at *); (have e : x1.length ≠ 0 := (by simp_all); have z0 : Int.toNat 0 = 0 := rfl; (first | (rw [popF_conss e]; done) | rw [popF_conss e]); first | done | rfl | exact Nat.le_refl _ | exact MapEq.rfl' | exact RowsEq.rfl'))⟩,
 (by (try dsimp only at *); (have e : x1.length ≠ 0 := (by simp_all); have z0 : Int.toNat 0 = 0 := rfl; (first | (rw [popF_conss e]; done) | rw [popF_conss e]); first | done | rfl | exact Nat.le_refl _ | exact MapEq.rfl' | exact RowsEq.rfl'))⟩,
 (by (try dsimp only at *); (have e : x1.length ≠ 0 := (by simp_all); have z0 : Int.toNat 0 = 0 := rfl; (first | (rw [popF_conss e]; done) | rw [popF_conss e]); first | done | rfl | exact Nat.le_refl _ | exact MapEq.rfl' | exact RowsEq.rfl')),
 trivial⟩,
 fun g6 => have h6 := of_decide_eq_false g6; ⟨⟨rfl,
 rfl,
 rfl,
 trivial⟩,
 ⟨⟨rfl,
 (by (try dsimp only at *); (have e : x1.length = 0 := (by simp_all); (first | (rw [popF_nils e]; done) | rw [popF_nils e]); first | done | rfl | exact Nat.le_refl _ | exact MapEq.rfl' | exact RowsEq.rfl'))⟩,
 trivial,
 trivial⟩,
 ⟨⟨(by (try dsimp only at *); (have e : x1.length = 0 := (by simp_all); (first | (rw [popF_nils e]; done) | rw [popF_nils e]); first | done | rfl | exact Nat.le_refl _ | exact MapEq.rfl' | exact RowsEq.rfl'))⟩,
 (by (try dsimp only at *); (have e : x1.length = 0 := (by simp_all); (first | (rw [popF_nils e]; done) | rw [popF_nils e]); first | done | rfl | exact Nat.le_refl _ | exact MapEq.rfl' | exact RowsEq.rfl'))⟩,
 (by (try dsimp only at *); (have e : x1.length = 0 := (by simp_all); (first | (rw [popF_nils e]; done) | rw [popF_nils e]); first | done | rfl | exact Nat.le_refl _ | exact MapEq.rfl' | exact RowsEq.rfl')),
 trivial⟩⟩)

theorem pops_good : Good Try.prog 22 popsC ∧ FnOk Try.prog 22 := good_of (c := ⟨T, [], C5s, noInv, 8⟩) tok (ConL.ok con5s) (fn := Try.f22) rfl (by decide +kernel) (fun _ => rfl) pops_keeps

end Go.Sym
