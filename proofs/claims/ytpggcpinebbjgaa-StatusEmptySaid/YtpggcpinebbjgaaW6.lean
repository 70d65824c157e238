/- law30: the walks (VI): awake, and the laws. -/
import Derived.Test.YtpggcpinebbjgaaW5
namespace Go.Sym
set_option linter.unusedVariables false
set_option linter.unusedSimpArgs false
open Go.Proofs
theorem con5 : ConOk Try.prog cfg5 := ConL.ok (.cons (ConL.two (ConL.one new_good) (ConL.one newNo_good)) (.cons (ConL.one rnew_good) (.cons (ConL.one add_good) (.cons (ConL.one rput_good) .nil))))
theorem played_good : Good Try.prog 9 playedC ∧ FnOk Try.prog 9 := good_of tok con5 (fn := Try.f9) rfl (by decide +kernel) (fun _ => rfl) played_keeps
theorem playedNo_good : Good Try.prog 9 playedNo ∧ FnOk Try.prog 9 := good_of tok con5 (fn := Try.f9) rfl (by decide +kernel) (fun _ => rfl) playedNo_keeps
theorem playedLong_good : Good Try.prog 9 playedLong ∧ FnOk Try.prog 9 := good_of tok con5 (fn := Try.f9) rfl (by decide +kernel) (fun _ => rfl) playedLong_keeps

theorem Box.ok_add {b : Box} (h : b.Ok) (s : Sta) (now : Int) : (b.add s now).Ok := by
  unfold Box.add
  split
  · rename_i hn
    have hv : b.valid s = true := by unfold Box.isNew at hn; simp at hn; exact hn.1
    have hseq : (b.at s.unit).sta.seq < s.seq := by unfold Box.isNew at hn; simp at hn; exact hn.2
    have hr : 0 ≤ s.unit ∧ s.unit < b.length ∧ 1 ≤ s.seq ∧ s.seq ≤ lim := by unfold Box.valid Box.has at hv; simp at hv; omega
    have hm := minMax_le now
    have hk : s.unit.toNat < b.length := by omega
    have hO : (b.at s.unit).Ok := h s.unit.toNat hk
    intro u hu
    rw [List.length_set] at hu
    by_cases e : u = s.unit.toNat
    · rw [e, getD_set_self hk]
      exact ⟨by have := hO.a; simp only; omega, hr.2.2.2, by have := hO.h; simp only; omega⟩
    · rw [getD_set_ne (Ne.symm e)]; exact h u hu
  · exact h
theorem Box.ok_new {n now : Int} (h : 0 ≤ n ∧ n ≤ 256) : (Box.new n now).Ok := (same_new h).ok
/-- A run that is known: units are served. -/
def awakeB1 : Box := (Box.new 1 0).add ⟨0, 1, 1, 0, 0⟩ 1
def awakeB2 : Box := awakeB1.add ⟨0, 4, 4, 0, 0⟩ 2
def awakeB3 : Box := awakeB2.add ⟨0, 2, 3, 0, 0⟩ 3
theorem awake1 : (Box.new 1 0).isNew ⟨0, 1, 1, 0, 0⟩ = true := by decide +kernel
theorem awake2 : awakeB1.isNew ⟨0, 4, 4, 0, 0⟩ = true := by decide +kernel
theorem awake3 : awakeB2.isNew ⟨0, 2, 3, 0, 0⟩ = false ∧ awakeB2.err ⟨0, 2, 3, 0, 0⟩ = 0 := by decide +kernel
theorem awake4 : awakeB3.there 0 = true ∧ (awakeB3.last 0).seq = 4 ∧ (awakeB3.last 0).state = 4 ∧ awakeB3.heard 0 = 2 ∧ awakeB3.missed 0 = 2 := by decide +kernel
def C6 : List (Nat × Con) := [(15, .two encSelNew (.one newC) (.one newNo)), (16, .one addC), (11, .one lastC), (13, .one missedC)]
def cfg6 : Cfg := ⟨T, [], C6, noInv, 12, {}⟩
theorem con6 : ConOk Try.prog cfg6 := ConL.ok (.cons (ConL.two (ConL.one new_good) (ConL.one newNo_good)) (.cons (ConL.one add_good) (.cons (ConL.one last_good) (.cons (ConL.one missed_good) .nil))))
def awakeC : CT where
  X := Unit
  pre := fun _ => True
  args := fun _ => []
  g0 := fun _ => []
  res := fun _ => .b true
  g1 := fun _ => []
set_option maxRecDepth 100000 in
theorem awake_keeps : Keeps cfg6 Try.f10 awakeC noIv := Eq.mp (show ((∀ x1 : Unit,
 ((True) →
 (((decide ((0 : Int) ≤ (1 : Int) ∧ (1 : Int) ≤ (256 : Int)) = true) →
 (∃ x4 : NewX,
 ((((0 : Int) ≤ NewX.n x4) ∧
 (NewX.n x4 ≤ (256 : Int))) ∧
 ((((1 : Int) = NewX.n x4) ∧
 (((0 : Int) = NewX.now x4) ∧
 (True))) ∧
 ((True) ∧
 (((decide ((0 : Int) ≠ (0 : Int)) = false) →
 (∃ x6 : BoxS,
 ((Box.Ok (BoxS.b x6)) ∧
 (((((0 : Nat) = (0 : Nat)) ∧
 ((0 : Nat) = (0 : Nat))) ∧
 ((((0 : Int) = Sta.unit (BoxS.s x6)) ∧
 (((1 : Int) = Sta.seq (BoxS.s x6)) ∧
 (((1 : Int) = Sta.state (BoxS.s x6)) ∧
 (((0 : Int) = Sta.node (BoxS.s x6)) ∧
 (((0 : Int) = Sta.epoch (BoxS.s x6)) ∧
 (True)))))) ∧
 (((1 : Int) = BoxS.now x6) ∧
 (True)))) ∧
 ((((((0 : Nat) = (0 : Nat)) ∧
 (Int.toNat (NewX.n x4) = List.length (BoxS.b x6))) ∧
 (True)) ∧
 (((RLe (List.length (BoxS.b x6)) (Int.toNat (NewX.n x4))) ∧
 (RowsEq (Kd.int IntKind.i64 :: Kd.int IntKind.i64 :: Kd.int IntKind.i64 :: Kd.int IntKind.i64 :: Kd.int IntKind.i64 :: Kd.int IntKind.i64 :: Kd.int IntKind.i64 :: @List.nil Kd) (List.length (BoxS.b x6)) (encL encRec (Box.new (NewX.n x4) (NewX.now x4))) (encL encRec (BoxS.b x6)))) ∧
 (True))) ∧
 (∃ x7 : BoxS,
 ((Box.Ok (BoxS.b x7)) ∧
 (((((0 : Nat) = (0 : Nat)) ∧
 ((0 : Nat) = (0 : Nat))) ∧
 ((((0 : Int) = Sta.unit (BoxS.s x7)) ∧
 (((4 : Int) = Sta.seq (BoxS.s x7)) ∧
 (((4 : Int) = Sta.state (BoxS.s x7)) ∧
 (((0 : Int) = Sta.node (BoxS.s x7)) ∧
 (((0 : Int) = Sta.epoch (BoxS.s x7)) ∧
 (True)))))) ∧
 (((2 : Int) = BoxS.now x7) ∧
 (True)))) ∧
 ((((((0 : Nat) = (0 : Nat)) ∧
 (Int.toNat (NewX.n x4) = List.length (BoxS.b x7))) ∧
 (True)) ∧
 (((RLe (List.length (BoxS.b x7)) (List.length (BoxS.b x6))) ∧
 (RowsEq (Kd.int IntKind.i64 :: Kd.int IntKind.i64 :: Kd.int IntKind.i64 :: Kd.int IntKind.i64 :: Kd.int IntKind.i64 :: Kd.int IntKind.i64 :: Kd.int IntKind.i64 :: @List.nil Kd) (List.length (BoxS.b x7)) (encL encRec (Box.add (BoxS.b x6) (BoxS.s x6) (BoxS.now x6))) (encL encRec (BoxS.b x7)))) ∧
 (True))) ∧
 (∃ x8 : BoxS,
 ((Box.Ok (BoxS.b x8)) ∧
 (((((0 : Nat) = (0 : Nat)) ∧
 ((0 : Nat) = (0 : Nat))) ∧
 ((((0 : Int) = Sta.unit (BoxS.s x8)) ∧
 (((2 : Int) = Sta.seq (BoxS.s x8)) ∧
 (((3 : Int) = Sta.state (BoxS.s x8)) ∧
 (((0 : Int) = Sta.node (BoxS.s x8)) ∧
 (((0 : Int) = Sta.epoch (BoxS.s x8)) ∧
 (True)))))) ∧
 (((3 : Int) = BoxS.now x8) ∧
 (True)))) ∧
 ((((((0 : Nat) = (0 : Nat)) ∧
 (Int.toNat (NewX.n x4) = List.length (BoxS.b x8))) ∧
 (True)) ∧
 (((RLe (List.length (BoxS.b x8)) (List.length (BoxS.b x7))) ∧
 (RowsEq (Kd.int IntKind.i64 :: Kd.int IntKind.i64 :: Kd.int IntKind.i64 :: Kd.int IntKind.i64 :: Kd.int IntKind.i64 :: Kd.int IntKind.i64 :: Kd.int IntKind.i64 :: @List.nil Kd) (List.length (BoxS.b x8)) (encL encRec (Box.add (BoxS.b x7) (BoxS.s x7) (BoxS.now x7))) (encL encRec (BoxS.b x8)))) ∧
 (True))) ∧
 (∃ x9 : BoxI,
 ((True) ∧
 (((((0 : Nat) = (0 : Nat)) ∧
 ((0 : Nat) = (0 : Nat))) ∧
 (((0 : Int) = BoxI.u x9) ∧
 (True))) ∧
 ((((((0 : Nat) = (0 : Nat)) ∧
 (Int.toNat (NewX.n x4) = List.length (BoxI.b x9))) ∧
 (True)) ∧
 (((RLe (List.length (BoxI.b x9)) (List.length (BoxS.b x8))) ∧
 (RowsEq (Kd.int IntKind.i64 :: Kd.int IntKind.i64 :: Kd.int IntKind.i64 :: Kd.int IntKind.i64 :: Kd.int IntKind.i64 :: Kd.int IntKind.i64 :: Kd.int IntKind.i64 :: @List.nil Kd) (List.length (BoxI.b x9)) (encL encRec (Box.add (BoxS.b x8) (BoxS.s x8) (BoxS.now x8))) (encL encRec (BoxI.b x9)))) ∧
 (True))) ∧
 (((Box.isNew (BoxS.b x6) (BoxS.s x6) = true) →
 (((Box.isNew (BoxS.b x7) (BoxS.s x7) = true) →
 ((((!Box.isNew (BoxS.b x8) (BoxS.s x8)) = true) →
 (((decide (Box.err (BoxS.b x8) (BoxS.s x8) = (0 : Int)) = true) →
 (((Box.there (BoxI.b x9) (BoxI.u x9) = true) →
 (((decide (Sta.seq (Box.last (BoxI.b x9) (BoxI.u x9)) = (4 : Int)) = true) →
 (((decide (Sta.state (Box.last (BoxI.b x9) (BoxI.u x9)) = (4 : Int)) = true) →
 (((decide (Box.heard (BoxI.b x9) (BoxI.u x9) = (2 : Int)) = true) →
 (∃ x18 : BoxI,
 ((Box.Ok (BoxI.b x18)) ∧
 (((((0 : Nat) = (0 : Nat)) ∧
 ((0 : Nat) = (0 : Nat))) ∧
 (((0 : Int) = BoxI.u x18) ∧
 (True))) ∧
 ((((((0 : Nat) = (0 : Nat)) ∧
 (Int.toNat (NewX.n x4) = List.length (BoxI.b x18))) ∧
 (True)) ∧
 (((RLe (List.length (BoxI.b x18)) (List.length (BoxS.b x8))) ∧
 (RowsEq (Kd.int IntKind.i64 :: Kd.int IntKind.i64 :: Kd.int IntKind.i64 :: Kd.int IntKind.i64 :: Kd.int IntKind.i64 :: Kd.int IntKind.i64 :: Kd.int IntKind.i64 :: @List.nil Kd) (List.length (BoxI.b x18)) (encL encRec (Box.add (BoxS.b x8) (BoxS.s x8) (BoxS.now x8))) (encL encRec (BoxI.b x18)))) ∧
 (True))) ∧
 ((decide (Box.missed (BoxI.b x18) (BoxI.u x18) = (2 : Int)) = true) ∧
 (True))))))) ∧
 ((decide (Box.heard (BoxI.b x9) (BoxI.u x9) = (2 : Int)) = false) →
 ((false = true) ∧
 (True))))) ∧
 ((decide (Sta.state (Box.last (BoxI.b x9) (BoxI.u x9)) = (4 : Int)) = false) →
 ((false = true) ∧
 (True))))) ∧
 ((decide (Sta.seq (Box.last (BoxI.b x9) (BoxI.u x9)) = (4 : Int)) = false) →
 ((false = true) ∧
 (True))))) ∧
 ((Box.there (BoxI.b x9) (BoxI.u x9) = false) →
 ((false = true) ∧
 (True))))) ∧
 ((decide (Box.err (BoxS.b x8) (BoxS.s x8) = (0 : Int)) = false) →
 ((false = true) ∧
 (True))))) ∧
 (((!Box.isNew (BoxS.b x8) (BoxS.s x8)) = false) →
 ((false = true) ∧
 (True))))) ∧
 ((Box.isNew (BoxS.b x7) (BoxS.s x7) = false) →
 ((false = true) ∧
 (True))))) ∧
 ((Box.isNew (BoxS.b x6) (BoxS.s x6) = false) →
 ((false = true) ∧
 (True))))))))))))))))))))) ∧
 ((decide ((0 : Int) ≠ (0 : Int)) = true) →
 ((false = true) ∧
 (True))))))))) ∧
 ((decide ((0 : Int) ≤ (1 : Int) ∧ (1 : Int) ≤ (256 : Int)) = false) →
 (∃ x29 : NewX,
 ((¬((0 : Int) ≤ NewX.n x29 ∧ NewX.n x29 ≤ (256 : Int))) ∧
 ((((1 : Int) = NewX.n x29) ∧
 (((0 : Int) = NewX.now x29) ∧
 (True))) ∧
 ((True) ∧
 (((decide ((1 : Int) ≠ (0 : Int)) = false) →
 ((false = true) ∧
 (True))) ∧
 ((decide ((1 : Int) ≠ (0 : Int)) = true) →
 ((false = true) ∧
 (True))))))))))))) = Keeps cfg6 Try.f10 awakeC noIv by kernel_rfl) (fun x1 => fun h2 => ⟨fun g3 => have h3 := of_decide_eq_true g3; ⟨({ n := (1 : Int), now := (0 : Int) : NewX }),
 ⟨(by (try dsimp only at *); omega),
 (by (try dsimp only at *); omega)⟩,
 ⟨rfl,
 rfl,
 trivial⟩,
 trivial,
 fun g5 => have h5 := of_decide_eq_false g5; ⟨({ b := Box.new (1 : Int) (0 : Int), s := { unit := (0 : Int), seq := (1 : Int), state := (1 : Int), node := (0 : Int), epoch := (0 : Int) : Sta }, now := (1 : Int) : BoxS }),
 (by (try dsimp only at *); ((repeat with_reducible refine Box.ok_add ?_ _ _); with_reducible exact Box.ok_new (by decide))),
 ⟨⟨rfl,
 rfl⟩,
 ⟨rfl,
 rfl,
 rfl,
 rfl,
 rfl,
 trivial⟩,
 rfl,
 trivial⟩,
 ⟨⟨⟨rfl,
 (by (try dsimp only at *); (simp [add_length, Box.new]; done))⟩,
 trivial⟩,
 ⟨⟨(by (try dsimp only at *); (simp [add_length, Box.new]; done))⟩,
 RowsEq.rfl'⟩,
 trivial⟩,
 ({ b := Box.add (Box.new (1 : Int) (0 : Int)) { unit := (0 : Int), seq := (1 : Int), state := (1 : Int), node := (0 : Int), epoch := (0 : Int) : Sta } (1 : Int), s := { unit := (0 : Int), seq := (4 : Int), state := (4 : Int), node := (0 : Int), epoch := (0 : Int) : Sta }, now := (2 : Int) : BoxS }),
 (by (try dsimp only at *); ((repeat with_reducible refine Box.ok_add ?_ _ _); with_reducible exact Box.ok_new (by decide))),
 ⟨⟨rfl,
 rfl⟩,
 ⟨rfl,
 rfl,
 rfl,
 rfl,
 rfl,
 trivial⟩,
 rfl,
 trivial⟩,
 ⟨⟨⟨rfl,
 (by (try dsimp only at *); (simp [add_length, Box.new]; done))⟩,
 trivial⟩,
 ⟨⟨(by (try dsimp only at *); (simp [add_length, Box.new]; done))⟩,
 RowsEq.rfl'⟩,
 trivial⟩,
 ({ b := Box.add (Box.add (Box.new (1 : Int) (0 : Int)) { unit := (0 : Int), seq := (1 : Int), state := (1 : Int), node := (0 : Int), epoch := (0 : Int) : Sta } (1 : Int)) { unit := (0 : Int), seq := (4 : Int), state := (4 : Int), node := (0 : Int), epoch := (0 : Int) : Sta } (2 : Int), s := { unit := (0 : Int), seq := (2 : Int), state := (3 : Int), node := (0 : Int), epoch := (0 : Int) : Sta }, now := (3 : Int) : BoxS }),
 (by (try dsimp only at *); ((repeat with_reducible refine Box.ok_add ?_ _ _); with_reducible exact Box.ok_new (by decide))),
 ⟨⟨rfl,
 rfl⟩,
 ⟨rfl,
 rfl,
 rfl,
 rfl,
 rfl,
 trivial⟩,
 rfl,
 trivial⟩,
 ⟨⟨⟨rfl,
 (by (try dsimp only at *); (simp [add_length, Box.new]; done))⟩,
 trivial⟩,
 ⟨⟨(by (try dsimp only at *); (simp [add_length, Box.new]; done))⟩,
 RowsEq.rfl'⟩,
 trivial⟩,
 ({ b := Box.add (Box.add (Box.add (Box.new (1 : Int) (0 : Int)) { unit := (0 : Int), seq := (1 : Int), state := (1 : Int), node := (0 : Int), epoch := (0 : Int) : Sta } (1 : Int)) { unit := (0 : Int), seq := (4 : Int), state := (4 : Int), node := (0 : Int), epoch := (0 : Int) : Sta } (2 : Int)) { unit := (0 : Int), seq := (2 : Int), state := (3 : Int), node := (0 : Int), epoch := (0 : Int) : Sta } (3 : Int), u := (0 : Int) : BoxI }),
 trivial,
 ⟨⟨rfl,
 rfl⟩,
 rfl,
 trivial⟩,
 ⟨⟨⟨rfl,
 (by (try dsimp only at *); (simp [add_length, Box.new]; done))⟩,
 trivial⟩,
 ⟨⟨(by (try dsimp only at *); (simp [add_length, Box.new]; done))⟩,
 RowsEq.rfl'⟩,
 trivial⟩,
 fun h10 => ⟨fun h11 => ⟨fun h12 => ⟨fun g13 => have h13 := of_decide_eq_true g13; ⟨fun h14 => ⟨fun g15 => have h15 := of_decide_eq_true g15; ⟨fun g16 => have h16 := of_decide_eq_true g16; ⟨fun g17 => have h17 := of_decide_eq_true g17; ⟨({ b := Box.add (Box.add (Box.add (Box.new (1 : Int) (0 : Int)) { unit := (0 : Int), seq := (1 : Int), state := (1 : Int), node := (0 : Int), epoch := (0 : Int) : Sta } (1 : Int)) { unit := (0 : Int), seq := (4 : Int), state := (4 : Int), node := (0 : Int), epoch := (0 : Int) : Sta } (2 : Int)) { unit := (0 : Int), seq := (2 : Int), state := (3 : Int), node := (0 : Int), epoch := (0 : Int) : Sta } (3 : Int), u := (0 : Int) : BoxI }),
 (by (try dsimp only at *); ((repeat with_reducible refine Box.ok_add ?_ _ _); with_reducible exact Box.ok_new (by decide))),
 ⟨⟨rfl,
 rfl⟩,
 rfl,
 trivial⟩,
 ⟨⟨⟨rfl,
 (by (try dsimp only at *); (simp [add_length, Box.new]; done))⟩,
 trivial⟩,
 ⟨⟨(by (try dsimp only at *); (simp [add_length, Box.new]; done))⟩,
 RowsEq.rfl'⟩,
 trivial⟩,
 (by (try dsimp only at *); assumption),
 trivial⟩,
 fun g19 => have h19 := of_decide_eq_false g19; ⟨(by (try dsimp only at *); (have := awake1; have := awake2; have := awake3; have := awake4; simp only [awakeB1, awakeB2, awakeB3] at *; grind)),
 trivial⟩⟩,
 fun g20 => have h20 := of_decide_eq_false g20; ⟨(by (try dsimp only at *); (have := awake1; have := awake2; have := awake3; have := awake4; simp only [awakeB1, awakeB2, awakeB3] at *; grind)),
 trivial⟩⟩,
 fun g21 => have h21 := of_decide_eq_false g21; ⟨(by (try dsimp only at *); (have := awake1; have := awake2; have := awake3; have := awake4; simp only [awakeB1, awakeB2, awakeB3] at *; grind)),
 trivial⟩⟩,
 fun h22 => ⟨(by (try dsimp only at *); (have := awake1; have := awake2; have := awake3; have := awake4; simp only [awakeB1, awakeB2, awakeB3] at *; grind)),
 trivial⟩⟩,
 fun g23 => have h23 := of_decide_eq_false g23; ⟨(by (try dsimp only at *); (have := awake1; have := awake2; have := awake3; have := awake4; simp only [awakeB1, awakeB2, awakeB3] at *; grind)),
 trivial⟩⟩,
 fun h24 => ⟨(by (try dsimp only at *); (have := awake1; have := awake2; have := awake3; have := awake4; simp only [awakeB1, awakeB2, awakeB3] at *; grind)),
 trivial⟩⟩,
 fun h25 => ⟨(by (try dsimp only at *); (have := awake1; have := awake2; have := awake3; have := awake4; simp only [awakeB1, awakeB2, awakeB3] at *; grind)),
 trivial⟩⟩,
 fun h26 => ⟨(by (try dsimp only at *); (have := awake1; have := awake2; have := awake3; have := awake4; simp only [awakeB1, awakeB2, awakeB3] at *; grind)),
 trivial⟩⟩,
 fun g27 => have h27 := of_decide_eq_true g27; ⟨(by (try dsimp only at *); omega),
 trivial⟩⟩,
 fun g28 => have h28 := of_decide_eq_false g28; ⟨({ n := (1 : Int), now := (0 : Int) : NewX }),
 (by (try dsimp only at *); omega),
 ⟨rfl,
 rfl,
 trivial⟩,
 trivial,
 fun g30 => have h30 := of_decide_eq_false g30; ⟨(by (try dsimp only at *); omega),
 trivial⟩,
 fun g31 => have h31 := of_decide_eq_true g31; ⟨(by (try dsimp only at *); omega),
 trivial⟩⟩⟩)

theorem awake_good : Good Try.prog 10 awakeC ∧ FnOk Try.prog 10 := good_of tok con6 (fn := Try.f10) rfl (by decide +kernel) (fun _ => rfl) awake_keeps
end Go.Sym
