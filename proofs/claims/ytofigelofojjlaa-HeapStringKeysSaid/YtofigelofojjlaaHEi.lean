/- The heap of numbers with keys of kind i: contracts and walks. Printed by gen/heap.py. -/
import Derived.Test.YtofigelofojjlaaHDi
import Derived.Test.YtofigelofojjlaaXD
namespace Go.Sym
set_option linter.unusedVariables false
set_option linter.unusedSimpArgs false
open Go.Proofs
def C5i : List (Nat × Con) := [(27, .one miniC), (28, .one remAtiC)]
theorem con5i : ConL Try.prog C5i := .cons (ConL.one mini_good) (.cons (ConL.one remAti_good) .nil)
def popiC : CT where
  X := List (El Int)
  pre := fun l => (ids l).Nodup ∧ l.length ≤ 1000000
  args := fun l => [.p 100000 0 0]
  g0 := fun l => heapOwni l
  res := fun l => .tup [.i .i64 (l.getD 0 default).id, .i .i64 (l.getD 0 default).key, .b (decide (l.length ≠ 0))]
  g1 := fun l => heapCuti (popF lti l)
theorem popF_consi {l : List (El Int)} (h : l.length ≠ 0) : popF lti l = removeF lti l 0 := by unfold popF; rw [if_neg h]
theorem popF_nili {l : List (El Int)} (h : l.length = 0) : popF lti l = l := by unfold popF; rw [if_pos h]
set_option maxRecDepth 100000 in
theorem popi_keeps : Keeps ⟨T, [], C5i, noInv, 8⟩ Try.f11 popiC noIv := Eq.mp (show ((∀ x1 : List (El Int),
 ((List.Nodup (ids x1) ∧ List.length x1 ≤ (1000000 : Nat)) →
 (∃ x3 : List (El Int),
 ((True) ∧
 (((((0 : Nat) = (0 : Nat)) ∧
 ((0 : Nat) = (0 : Nat))) ∧
 (True)) ∧
 ((((((0 : Nat) = (0 : Nat)) ∧
 (List.length x1 = List.length x3)) ∧
 ((True) ∧
 (True))) ∧
 (((RLe (List.length x3) (List.length x1)) ∧
 (RowsEq (Kd.int IntKind.i64 :: Kd.int IntKind.i64 :: @List.nil Kd) (List.length x3) (encL encEi x1) (encL encEi x3))) ∧
 ((MapEq (Kd.int IntKind.i64 :: @List.nil Kd) (ids x1) (ids x3) (posD x1) (posD x3)) ∧
 (True)))) ∧
 (((decide (List.length x3 ≠ (0 : Nat)) = true) →
 (∃ x5 : LIi,
 ((LIi.Ok x5) ∧
 (((((0 : Nat) = (0 : Nat)) ∧
 ((0 : Nat) = (0 : Nat))) ∧
 (((0 : Int) = LIi.i x5) ∧
 (True))) ∧
 ((((((0 : Nat) = (0 : Nat)) ∧
 (List.length x1 = List.length (LIi.l x5))) ∧
 ((True) ∧
 (True))) ∧
 (((RLe (List.length (LIi.l x5)) (List.length x1)) ∧
 (RowsEq (Kd.int IntKind.i64 :: Kd.int IntKind.i64 :: @List.nil Kd) (List.length (LIi.l x5)) (encL encEi x1) (encL encEi (LIi.l x5)))) ∧
 ((MapEq (Kd.int IntKind.i64 :: @List.nil Kd) (ids x1) (ids (LIi.l x5)) (posD x1) (posD (LIi.l x5))) ∧
 (True)))) ∧
 (((El.id (List.getD x3 (0 : Nat) default) = El.id (List.getD x1 (0 : Nat) default)) ∧
 ((El.key (List.getD x3 (0 : Nat) default) = El.key (List.getD x1 (0 : Nat) default)) ∧
 ((decide (List.length x3 ≠ (0 : Nat)) = decide (List.length x1 ≠ (0 : Nat))) ∧
 (True)))) ∧
 (((((0 : Nat) = (0 : Nat)) ∧
 (List.length (removeF lti (LIi.l x5) (Int.toNat (LIi.i x5))) = List.length (popF lti x1))) ∧
 ((True) ∧
 (True))) ∧
 (((RLe (List.length (popF lti x1)) (List.length (removeF lti (LIi.l x5) (Int.toNat (LIi.i x5))))) ∧
 (RowsEq (Kd.int IntKind.i64 :: Kd.int IntKind.i64 :: @List.nil Kd) (List.length (popF lti x1)) (encL encEi (removeF lti (LIi.l x5) (Int.toNat (LIi.i x5)))) (encL encEi (popF lti x1)))) ∧
 ((MapEq (Kd.int IntKind.i64 :: @List.nil Kd) (ids (removeF lti (LIi.l x5) (Int.toNat (LIi.i x5)))) (ids (popF lti x1)) (posD (removeF lti (LIi.l x5) (Int.toNat (LIi.i x5)))) (posD (popF lti x1))) ∧
 (True)))))))))) ∧
 ((decide (List.length x3 ≠ (0 : Nat)) = false) →
 (((El.id (List.getD x3 (0 : Nat) default) = El.id (List.getD x1 (0 : Nat) default)) ∧
 ((El.key (List.getD x3 (0 : Nat) default) = El.key (List.getD x1 (0 : Nat) default)) ∧
 ((decide (List.length x3 ≠ (0 : Nat)) = decide (List.length x1 ≠ (0 : Nat))) ∧
 (True)))) ∧
 (((((0 : Nat) = (0 : Nat)) ∧
 (List.length x1 = List.length (popF lti x1))) ∧
 ((True) ∧
 (True))) ∧
 (((RLe (List.length (popF lti x1)) (List.length x1)) ∧
 (RowsEq (Kd.int IntKind.i64 :: Kd.int IntKind.i64 :: @List.nil Kd) (List.length (popF lti x1)) (encL encEi x1) (encL encEi (popF lti x1)))) ∧
 ((MapEq (Kd.int IntKind.i64 :: @List.nil Kd) (ids x1) (ids (popF lti x1)) (posD x1) (posD (popF lti x1))) ∧
 (True)))))))))))))) = Keeps ⟨T, [], C5i, noInv, 8⟩ Try.f11 popiC noIv by kernel_rfl) (fun x1 => fun h2 => ⟨(x1),
 trivial,
 ⟨⟨rfl,
 rfl⟩,
 trivial⟩,
 ⟨⟨⟨rfl,
 rfl⟩,
 trivial,
 trivial⟩,
 ⟨⟨Nat.le_refl _⟩,
 RowsEq.rfl'⟩,
 MapEq.rfl',
 trivial⟩,
 fun g4 => have h4 := of_decide_eq_true g4; ⟨({ l := x1, i := (0 : Int) : LIi }),
 (by (try dsimp only at *); (obtain ⟨p1, p2⟩ := h2; refine ⟨?_, ?_, ?_, ?_⟩ <;> dsimp only <;> first | omega | assumption)),
 ⟨⟨rfl,
 rfl⟩,
 rfl,
 trivial⟩,
 ⟨⟨⟨rfl,
 rfl⟩,
 trivial,
 trivial⟩,
 ⟨⟨Nat.le_refl _⟩,
 RowsEq.rfl'⟩,
 (by (try dsimp only at *); exact MapEq.rfl'),
 trivial⟩,
 ⟨rfl,
 rfl,
 rfl,
 trivial⟩,
 ⟨⟨rfl,
 (by (try dsimp only at *); (have e : x1.length ≠ 0 := (by simp_all); have z0 : Int.toNat 0 = 0 := rfl; (first | (rw [popF_consi e]; done) | rw [popF_consi e]); first | done | rfl | exact Nat.le_refl _ | exact MapEq.rfl' | exact RowsEq.rfl'))⟩,
 trivial,
 trivial⟩,
 ⟨⟨(by (try dsimp only at *); (have e : x1.length ≠ 0 := (by simp_all); have z0 : Int.toNat 0 = 0 := rfl; (first | (rw [popF_consi e]; done) | rw [popF_consi e]); first | done | rfl | exact Nat.le_refl _ | exact MapEq.rfl' | exact RowsEq.rfl'))⟩,
 (by (try dsimp only at *); (have e : x1.length ≠ 0 := (by simp_all); have z0 : Int.toNat 0 = 0 := rfl; (first | (rw [popF_consi e]; done) | rw [popF_consi e]); first | done | rfl | exact Nat.le_refl _ | exact MapEq.rfl' | exact RowsEq.rfl'))⟩,
 (by (try dsimp only at *); (have e : x1.length ≠ 0 := (by simp_all); have z0 : Int.toNat 0 = 0 := rfl; (first | (rw [popF_consi e]; done) | rw [popF_consi e]); first | done | rfl | exact Nat.le_refl _ | exact MapEq.rfl' | exact RowsEq.rfl')),
 trivial⟩,
 fun g6 => have h6 := of_decide_eq_false g6; ⟨⟨rfl,
 rfl,
 rfl,
 trivial⟩,
 ⟨⟨rfl,
 (by (try dsimp only at *); (have e : x1.length = 0 := (by simp_all); (first | (rw [popF_nili e]; done) | rw [popF_nili e]); first | done | rfl | exact Nat.le_refl _ | exact MapEq.rfl' | exact RowsEq.rfl'))⟩,
 trivial,
 trivial⟩,
 ⟨⟨(by (try dsimp only at *); (have e : x1.length = 0 := (by simp_all); (first | (rw [popF_nili e]; done) | rw [popF_nili e]); first | done | rfl | exact Nat.le_refl _ | exact MapEq.rfl' | exact RowsEq.rfl'))⟩,
 (by (try dsimp only at *); (have e : x1.length = 0 := (by simp_all); (first | (rw [popF_nili e]; done) | rw [popF_nili e]); first | done | rfl | exact Nat.le_refl _ | exact MapEq.rfl' | exact RowsEq.rfl'))⟩,
 (by (try dsimp only at *); (have e : x1.length = 0 := (by simp_all); (first | (rw [popF_nili e]; done) | rw [popF_nili e]); first | done | rfl | exact Nat.le_refl _ | exact MapEq.rfl' | exact RowsEq.rfl')),
 trivial⟩⟩)

theorem popi_good : Good Try.prog 11 popiC ∧ FnOk Try.prog 11 := good_of (c := ⟨T, [], C5i, noInv, 8⟩) tok (ConL.ok con5i) (fn := Try.f11) rfl (by decide +kernel) (fun _ => rfl) popi_keeps

def delFi (l : List (El Int)) (id : Int) : List (El Int) := if id ∈ ids l then removeF lti l (posOf l id) else l
theorem delF_ini {l : List (El Int)} {id : Int} (h : id ∈ ids l) : delFi l id = removeF lti l (posOf l id) := by unfold delFi; rw [if_pos h]
theorem delF_outi {l : List (El Int)} {id : Int} (h : id ∉ ids l) : delFi l id = l := by unfold delFi; rw [if_neg h]
def remiC : CT where
  X := LKi
  pre := fun x => (ids x.l).Nodup ∧ x.l.length ≤ 1000000
  args := fun x => [.p 100000 0 0, .i .i64 x.id]
  g0 := fun x => heapOwni x.l
  res := fun x => .b (decide (x.id ∈ ids x.l))
  g1 := fun x => heapCuti (delFi x.l x.id)
set_option maxRecDepth 100000 in
theorem remi_keeps : Keeps ⟨T, [], C5i, noInv, 7⟩ Try.f25 remiC noIv := Eq.mp (show ((∀ x1 : LKi,
 ((List.Nodup (ids (LKi.l x1)) ∧ List.length (LKi.l x1) ≤ (1000000 : Nat)) →
 (((decide (LKi.id x1 ∈ ids (LKi.l x1)) = true) →
 (∃ x4 : LIi,
 ((LIi.Ok x4) ∧
 (((((0 : Nat) = (0 : Nat)) ∧
 ((0 : Nat) = (0 : Nat))) ∧
 ((D.toI (if LKi.id x1 ∈ ids (LKi.l x1) then posD (LKi.l x1) (LKi.id x1) (0 : Nat) else D.i (0 : Int)) = LIi.i x4) ∧
 (True))) ∧
 ((((((0 : Nat) = (0 : Nat)) ∧
 (List.length (LKi.l x1) = List.length (LIi.l x4))) ∧
 ((True) ∧
 (True))) ∧
 (((RLe (List.length (LIi.l x4)) (List.length (LKi.l x1))) ∧
 (RowsEq (Kd.int IntKind.i64 :: Kd.int IntKind.i64 :: @List.nil Kd) (List.length (LIi.l x4)) (encL encEi (LKi.l x1)) (encL encEi (LIi.l x4)))) ∧
 ((MapEq (Kd.int IntKind.i64 :: @List.nil Kd) (ids (LKi.l x1)) (ids (LIi.l x4)) (posD (LKi.l x1)) (posD (LIi.l x4))) ∧
 (True)))) ∧
 ((decide (LKi.id x1 ∈ ids (LKi.l x1)) = decide (LKi.id x1 ∈ ids (LKi.l x1))) ∧
 (((((0 : Nat) = (0 : Nat)) ∧
 (List.length (removeF lti (LIi.l x4) (Int.toNat (LIi.i x4))) = List.length (delFi (LKi.l x1) (LKi.id x1)))) ∧
 ((True) ∧
 (True))) ∧
 (((RLe (List.length (delFi (LKi.l x1) (LKi.id x1))) (List.length (removeF lti (LIi.l x4) (Int.toNat (LIi.i x4))))) ∧
 (RowsEq (Kd.int IntKind.i64 :: Kd.int IntKind.i64 :: @List.nil Kd) (List.length (delFi (LKi.l x1) (LKi.id x1))) (encL encEi (removeF lti (LIi.l x4) (Int.toNat (LIi.i x4)))) (encL encEi (delFi (LKi.l x1) (LKi.id x1))))) ∧
 ((MapEq (Kd.int IntKind.i64 :: @List.nil Kd) (ids (removeF lti (LIi.l x4) (Int.toNat (LIi.i x4)))) (ids (delFi (LKi.l x1) (LKi.id x1))) (posD (removeF lti (LIi.l x4) (Int.toNat (LIi.i x4)))) (posD (delFi (LKi.l x1) (LKi.id x1)))) ∧
 (True)))))))))) ∧
 ((decide (LKi.id x1 ∈ ids (LKi.l x1)) = false) →
 ((decide (LKi.id x1 ∈ ids (LKi.l x1)) = decide (LKi.id x1 ∈ ids (LKi.l x1))) ∧
 (((((0 : Nat) = (0 : Nat)) ∧
 (List.length (LKi.l x1) = List.length (delFi (LKi.l x1) (LKi.id x1)))) ∧
 ((True) ∧
 (True))) ∧
 (((RLe (List.length (delFi (LKi.l x1) (LKi.id x1))) (List.length (LKi.l x1))) ∧
 (RowsEq (Kd.int IntKind.i64 :: Kd.int IntKind.i64 :: @List.nil Kd) (List.length (delFi (LKi.l x1) (LKi.id x1))) (encL encEi (LKi.l x1)) (encL encEi (delFi (LKi.l x1) (LKi.id x1))))) ∧
 ((MapEq (Kd.int IntKind.i64 :: @List.nil Kd) (ids (LKi.l x1)) (ids (delFi (LKi.l x1) (LKi.id x1))) (posD (LKi.l x1)) (posD (delFi (LKi.l x1) (LKi.id x1)))) ∧
 (True)))))))))) = Keeps ⟨T, [], C5i, noInv, 7⟩ Try.f25 remiC noIv by kernel_rfl) (fun x1 => fun h2 => ⟨fun g3 => have h3 := of_decide_eq_true g3; ⟨({ l := LKi.l x1, i := (↑(posOf (LKi.l x1) (LKi.id x1)) : Int) : LIi }),
 (by (try dsimp only at *); (obtain ⟨p1, p2⟩ := h2; have e : x1.id ∈ ids x1.l := (by simp_all); have e2 := (posOf_lt e).1; refine ⟨?_, ?_, ?_, ?_⟩ <;> dsimp only <;> first | omega | assumption)),
 ⟨⟨rfl,
 rfl⟩,
 (by (try dsimp only at *); (have e : x1.id ∈ ids x1.l := (by simp_all); (try simp only [Int.toNat_natCast]); first | exact posD_if e | ((first | (rw [delF_ini e]; done) | rw [delF_ini e]); first | done | rfl | exact Nat.le_refl _ | exact MapEq.rfl' | exact RowsEq.rfl'))),
 trivial⟩,
 ⟨⟨⟨rfl,
 rfl⟩,
 trivial,
 trivial⟩,
 ⟨⟨Nat.le_refl _⟩,
 RowsEq.rfl'⟩,
 (by (try dsimp only at *); exact MapEq.rfl'),
 trivial⟩,
 rfl,
 ⟨⟨rfl,
 (by (try dsimp only at *); (have e : x1.id ∈ ids x1.l := (by simp_all); (try simp only [Int.toNat_natCast]); first | exact posD_if e | ((first | (rw [delF_ini e]; done) | rw [delF_ini e]); first | done | rfl | exact Nat.le_refl _ | exact MapEq.rfl' | exact RowsEq.rfl')))⟩,
 trivial,
 trivial⟩,
 ⟨⟨(by (try dsimp only at *); (have e : x1.id ∈ ids x1.l := (by simp_all); (try simp only [Int.toNat_natCast]); first | exact posD_if e | ((first | (rw [delF_ini e]; done) | rw [delF_ini e]); first | done | rfl | exact Nat.le_refl _ | exact MapEq.rfl' | exact RowsEq.rfl')))⟩,
 (by (try dsimp only at *); (have e : x1.id ∈ ids x1.l := (by simp_all); (try simp only [Int.toNat_natCast]); first | exact posD_if e | ((first | (rw [delF_ini e]; done) | rw [delF_ini e]); first | done | rfl | exact Nat.le_refl _ | exact MapEq.rfl' | exact RowsEq.rfl')))⟩,
 (by (try dsimp only at *); (have e : x1.id ∈ ids x1.l := (by simp_all); (try simp only [Int.toNat_natCast]); first | exact posD_if e | ((first | (rw [delF_ini e]; done) | rw [delF_ini e]); first | done | rfl | exact Nat.le_refl _ | exact MapEq.rfl' | exact RowsEq.rfl'))),
 trivial⟩,
 fun g5 => have h5 := of_decide_eq_false g5; ⟨rfl,
 ⟨⟨rfl,
 (by (try dsimp only at *); (have e : x1.id ∉ ids x1.l := (by simp_all); (first | (rw [delF_outi e]; done) | rw [delF_outi e]); first | done | rfl | exact Nat.le_refl _ | exact MapEq.rfl' | exact RowsEq.rfl'))⟩,
 trivial,
 trivial⟩,
 ⟨⟨(by (try dsimp only at *); (have e : x1.id ∉ ids x1.l := (by simp_all); (first | (rw [delF_outi e]; done) | rw [delF_outi e]); first | done | rfl | exact Nat.le_refl _ | exact MapEq.rfl' | exact RowsEq.rfl'))⟩,
 (by (try dsimp only at *); (have e : x1.id ∉ ids x1.l := (by simp_all); (first | (rw [delF_outi e]; done) | rw [delF_outi e]); first | done | rfl | exact Nat.le_refl _ | exact MapEq.rfl' | exact RowsEq.rfl'))⟩,
 (by (try dsimp only at *); (have e : x1.id ∉ ids x1.l := (by simp_all); (first | (rw [delF_outi e]; done) | rw [delF_outi e]); first | done | rfl | exact Nat.le_refl _ | exact MapEq.rfl' | exact RowsEq.rfl')),
 trivial⟩⟩)

theorem remi_good : Good Try.prog 25 remiC ∧ FnOk Try.prog 25 := good_of (c := ⟨T, [], C5i, noInv, 7⟩) tok (ConL.ok con5i) (fn := Try.f25) rfl (by decide +kernel) (fun _ => rfl) remi_keeps

end Go.Sym
