/- law30: the laws. -/
import Derived.Test.YtpggcpinebbjgaaW6
namespace Go.Sym
set_option linter.unusedVariables false
set_option linter.unusedSimpArgs false
open Go.Proofs
def encSelLong (a : List SV) (G : Hp) : Bool := match a with | [_, _, .sl _ _ len] => decide (60 < len) | _ => false
def encSelPlay (a : List SV) (G : Hp) : Bool := match a with | [.i _ n, _, _] => decide (0 ≤ n ∧ n ≤ 256) | _ => false
def C7 : List (Nat × Con) := [(9, .two encSelLong (.one playedLong) (.two encSelPlay (.one playedC) (.one playedNo))), (10, .one awakeC), (11, .one lastC), (12, .one rlastC), (13, .one missedC), (14, .one rmissedC)]
def cfg7 : Cfg := ⟨T, [], C7, noInv, 17, {}⟩
theorem con7 : ConOk Try.prog cfg7 := ConL.ok (.cons (ConL.two (ConL.one playedLong_good) (ConL.two (ConL.one played_good) (ConL.one playedNo_good))) (.cons (ConL.one awake_good) (.cons (ConL.one last_good) (.cons (ConL.one rlast_good) (.cons (ConL.one missed_good) (.cons (ConL.one rmissed_good) .nil))))))
theorem PlayX.same (x : PlayX) (h : 0 ≤ x.n ∧ x.n ≤ 256) : Same x.b x.y := same_play h x.l _ (Nat.le_refl _)
theorem PlayX.few (x : PlayX) : x.y.news.length ≤ x.l.length := play_few x.l _ (Nat.le_refl _)
theorem PlayX.ok (x : PlayX) (h : 0 ≤ x.n ∧ x.n ≤ 256) (hl : x.l.length ≤ 60) : x.y.Ok := ⟨by have := x.few; omega, (x.same h).ok1⟩
def matchesC : CT where
  X := PlayX
  pre := fun _ => True
  args := playArgs
  g0 := playG0
  res := fun _ => .b true
  g1 := fun _ => []
def matchesI (x : PlayX) (id : Nat) : Option Inv := match id with
  | 0 => some { X := Int, ok := fun u => -1 ≤ u ∧ u ≤ 21, fr := fun u => [(10, .i .i64 u)], hp := fun _ => [], me := fun u => (21 - u).toNat }
  | _ => none
set_option maxRecDepth 100000 in
theorem matches_keeps : Keeps cfg7 Try.f3 matchesC matchesI := Eq.mp (show ((∀ x1 : PlayX,
 ((True) →
 (((decide ((60 : Nat) < List.length (PlayX.l x1)) = true) →
 (∃ x4 : PlayX,
 (((60 : Nat) < List.length (PlayX.l x4)) ∧
 (((PlayX.n x1 = PlayX.n x4) ∧
 ((PlayX.now x1 = PlayX.now x4) ∧
 ((((0 : Nat) = (0 : Nat)) ∧
 (List.length (PlayX.l x1) = List.length (PlayX.l x4))) ∧
 (True)))) ∧
 ((((RLe (List.length (PlayX.l x4)) (List.length (PlayX.l x1))) ∧
 (RowsEq (Kd.int IntKind.i64 :: Kd.int IntKind.i64 :: Kd.int IntKind.i64 :: Kd.int IntKind.i64 :: Kd.int IntKind.i64 :: Kd.int IntKind.i64 :: @List.nil Kd) (List.length (PlayX.l x4)) (encL encCame (PlayX.l x1)) (encL encCame (PlayX.l x4)))) ∧
 (True)) ∧
 (((true = true) →
 (∃ x6 : Unit,
 ((True) ∧
 ((True) ∧
 ((True) ∧
 ((true = true) ∧
 (True))))))) ∧
 ((true = false) →
 ((false = true) ∧
 (True))))))))) ∧
 ((decide ((60 : Nat) < List.length (PlayX.l x1)) = false) →
 (((decide ((0 : Int) ≤ PlayX.n x1 ∧ PlayX.n x1 ≤ (256 : Int)) = true) →
 (∃ x10 : PlayX,
 (((List.length (PlayX.l x10) ≤ (60 : Nat)) ∧
 (((0 : Int) ≤ PlayX.n x10) ∧
 (PlayX.n x10 ≤ (256 : Int)))) ∧
 (((PlayX.n x1 = PlayX.n x10) ∧
 ((PlayX.now x1 = PlayX.now x10) ∧
 ((((0 : Nat) = (0 : Nat)) ∧
 (List.length (PlayX.l x1) = List.length (PlayX.l x10))) ∧
 (True)))) ∧
 ((((RLe (List.length (PlayX.l x10)) (List.length (PlayX.l x1))) ∧
 (RowsEq (Kd.int IntKind.i64 :: Kd.int IntKind.i64 :: Kd.int IntKind.i64 :: Kd.int IntKind.i64 :: Kd.int IntKind.i64 :: Kd.int IntKind.i64 :: @List.nil Kd) (List.length (PlayX.l x10)) (encL encCame (PlayX.l x1)) (encL encCame (PlayX.l x10)))) ∧
 (True)) ∧
 (∃ x11 : Int,
 (((((-1 : Int) ≤ x11) ∧
 (x11 ≤ (21 : Int))) ∧
 ((((-1 : Int) = x11) ∧
 ((true = true) ∧
 ((((0 : Nat) = (0 : Nat)) ∧
 ((0 : Nat) = (0 : Nat))) ∧
 ((((0 : Nat) = (0 : Nat)) ∧
 ((0 : Nat) = (0 : Nat))) ∧
 ((PlayX.n x1 = PlayX.n x1) ∧
 ((PlayX.now x1 = PlayX.now x1) ∧
 ((((0 : Nat) = (0 : Nat)) ∧
 (List.length (PlayX.l x1) = List.length (PlayX.l x1))) ∧
 (True)))))))) ∧
 (((Ref.units (PlayX.y x10) = Ref.units (PlayX.y x10)) ∧
 ((Ref.since (PlayX.y x10) = Ref.since (PlayX.y x10)) ∧
 ((((0 : Nat) = (0 : Nat)) ∧
 (List.length (Ref.news (PlayX.y x10)) = List.length (Ref.news (PlayX.y x10)))) ∧
 (True)))) ∧
 (((((0 : Nat) = (0 : Nat)) ∧
 (List.length (PlayX.b x10) = List.length (PlayX.b x10))) ∧
 (True)) ∧
 (((RLe (List.length (PlayX.b x10)) (List.length (PlayX.b x10))) ∧
 (RowsEq (Kd.int IntKind.i64 :: Kd.int IntKind.i64 :: Kd.int IntKind.i64 :: Kd.int IntKind.i64 :: Kd.int IntKind.i64 :: Kd.int IntKind.i64 :: Kd.int IntKind.i64 :: @List.nil Kd) (List.length (PlayX.b x10)) (encL encRec (PlayX.b x10)) (encL encRec (PlayX.b x10)))) ∧
 (((RLe (List.length (Ref.news (PlayX.y x10))) (List.length (Ref.news (PlayX.y x10)))) ∧
 (RowsEq (Kd.int IntKind.i64 :: Kd.int IntKind.i64 :: Kd.int IntKind.i64 :: Kd.int IntKind.i64 :: Kd.int IntKind.i64 :: Kd.int IntKind.i64 :: @List.nil Kd) (List.length (Ref.news (PlayX.y x10))) (encL encCame (Ref.news (PlayX.y x10))) (encL encCame (Ref.news (PlayX.y x10))))) ∧
 (((RLe (List.length (PlayX.l x1)) (List.length (PlayX.l x1))) ∧
 (RowsEq (Kd.int IntKind.i64 :: Kd.int IntKind.i64 :: Kd.int IntKind.i64 :: Kd.int IntKind.i64 :: Kd.int IntKind.i64 :: Kd.int IntKind.i64 :: @List.nil Kd) (List.length (PlayX.l x1)) (encL encCame (PlayX.l x1)) (encL encCame (PlayX.l x1)))) ∧
 (True)))))))) ∧
 (∀ x12 : Int,
 (((-1 : Int) ≤ x12 ∧ x12 ≤ (21 : Int)) →
 (((decide (x12 ≤ min (PlayX.n x1) (20 : Int)) = true) →
 (∃ x15 : BoxI,
 ((True) ∧
 (((((0 : Nat) = (0 : Nat)) ∧
 ((0 : Nat) = (0 : Nat))) ∧
 ((x12 = BoxI.u x15) ∧
 (True))) ∧
 ((((((0 : Nat) = (0 : Nat)) ∧
 (List.length (PlayX.b x10) = List.length (BoxI.b x15))) ∧
 (True)) ∧
 (((RLe (List.length (BoxI.b x15)) (List.length (PlayX.b x10))) ∧
 (RowsEq (Kd.int IntKind.i64 :: Kd.int IntKind.i64 :: Kd.int IntKind.i64 :: Kd.int IntKind.i64 :: Kd.int IntKind.i64 :: Kd.int IntKind.i64 :: Kd.int IntKind.i64 :: @List.nil Kd) (List.length (BoxI.b x15)) (encL encRec (PlayX.b x10)) (encL encRec (BoxI.b x15)))) ∧
 (True))) ∧
 (∃ x16 : RefI,
 ((List.length (Ref.news (RefI.y x16)) ≤ (1000 : Nat)) ∧
 ((((Ref.units (PlayX.y x10) = Ref.units (RefI.y x16)) ∧
 ((Ref.since (PlayX.y x10) = Ref.since (RefI.y x16)) ∧
 ((((0 : Nat) = (0 : Nat)) ∧
 (List.length (Ref.news (PlayX.y x10)) = List.length (Ref.news (RefI.y x16)))) ∧
 (True)))) ∧
 ((x12 = RefI.u x16) ∧
 (True))) ∧
 ((((RLe (List.length (Ref.news (RefI.y x16))) (List.length (Ref.news (PlayX.y x10)))) ∧
 (RowsEq (Kd.int IntKind.i64 :: Kd.int IntKind.i64 :: Kd.int IntKind.i64 :: Kd.int IntKind.i64 :: Kd.int IntKind.i64 :: Kd.int IntKind.i64 :: @List.nil Kd) (List.length (Ref.news (RefI.y x16))) (encL encCame (Ref.news (PlayX.y x10))) (encL encCame (Ref.news (RefI.y x16))))) ∧
 (True)) ∧
 ((((!(decide (Sta.unit (Box.last (BoxI.b x15) (BoxI.u x15)) = Sta.unit (Ref.last (RefI.y x16) (RefI.u x16))) && (decide (Sta.seq (Box.last (BoxI.b x15) (BoxI.u x15)) = Sta.seq (Ref.last (RefI.y x16) (RefI.u x16))) && (decide (Sta.state (Box.last (BoxI.b x15) (BoxI.u x15)) = Sta.state (Ref.last (RefI.y x16) (RefI.u x16))) && (decide (Sta.node (Box.last (BoxI.b x15) (BoxI.u x15)) = Sta.node (Ref.last (RefI.y x16) (RefI.u x16))) && (decide (Sta.epoch (Box.last (BoxI.b x15) (BoxI.u x15)) = Sta.epoch (Ref.last (RefI.y x16) (RefI.u x16))) && true)))))) = false) →
 (((decide (Box.heard (BoxI.b x15) (BoxI.u x15) ≠ Ref.heard (RefI.y x16) (RefI.u x16)) = false) →
 ((((Box.there (BoxI.b x15) (BoxI.u x15) != Ref.there (RefI.y x16) (RefI.u x16)) = false) →
 (∃ x20 : BoxI,
 ((Box.Ok (BoxI.b x20)) ∧
 (((((0 : Nat) = (0 : Nat)) ∧
 ((0 : Nat) = (0 : Nat))) ∧
 ((x12 = BoxI.u x20) ∧
 (True))) ∧
 ((((((0 : Nat) = (0 : Nat)) ∧
 (List.length (PlayX.b x10) = List.length (BoxI.b x20))) ∧
 (True)) ∧
 (((RLe (List.length (BoxI.b x20)) (List.length (PlayX.b x10))) ∧
 (RowsEq (Kd.int IntKind.i64 :: Kd.int IntKind.i64 :: Kd.int IntKind.i64 :: Kd.int IntKind.i64 :: Kd.int IntKind.i64 :: Kd.int IntKind.i64 :: Kd.int IntKind.i64 :: @List.nil Kd) (List.length (BoxI.b x20)) (encL encRec (PlayX.b x10)) (encL encRec (BoxI.b x20)))) ∧
 (True))) ∧
 (∃ x21 : RefI,
 ((Ref.Ok (RefI.y x21)) ∧
 ((((Ref.units (PlayX.y x10) = Ref.units (RefI.y x21)) ∧
 ((Ref.since (PlayX.y x10) = Ref.since (RefI.y x21)) ∧
 ((((0 : Nat) = (0 : Nat)) ∧
 (List.length (Ref.news (PlayX.y x10)) = List.length (Ref.news (RefI.y x21)))) ∧
 (True)))) ∧
 ((x12 = RefI.u x21) ∧
 (True))) ∧
 ((((RLe (List.length (Ref.news (RefI.y x21))) (List.length (Ref.news (PlayX.y x10)))) ∧
 (RowsEq (Kd.int IntKind.i64 :: Kd.int IntKind.i64 :: Kd.int IntKind.i64 :: Kd.int IntKind.i64 :: Kd.int IntKind.i64 :: Kd.int IntKind.i64 :: @List.nil Kd) (List.length (Ref.news (RefI.y x21))) (encL encCame (Ref.news (PlayX.y x10))) (encL encCame (Ref.news (RefI.y x21))))) ∧
 (True)) ∧
 (((decide (Box.missed (BoxI.b x20) (BoxI.u x20) ≠ Ref.missed (RefI.y x21) (RefI.u x21)) = true) →
 ((false = true) ∧
 (True))) ∧
 ((decide (Box.missed (BoxI.b x20) (BoxI.u x20) ≠ Ref.missed (RefI.y x21) (RefI.u x21)) = false) →
 ((((-9223372036854775808 : Int) ≤ x12 + (1 : Int)) ∧
 (x12 + (1 : Int) ≤ (9223372036854775807 : Int))) ∧
 (∃ x24 : Int,
 ((Int.toNat ((21 : Int) - x24) < Int.toNat ((21 : Int) - x12)) ∧
 ((((-1 : Int) ≤ x24) ∧
 (x24 ≤ (21 : Int))) ∧
 (((x12 + (1 : Int) = x24) ∧
 ((true = true) ∧
 ((((0 : Nat) = (0 : Nat)) ∧
 ((0 : Nat) = (0 : Nat))) ∧
 ((((0 : Nat) = (0 : Nat)) ∧
 ((0 : Nat) = (0 : Nat))) ∧
 ((PlayX.n x1 = PlayX.n x1) ∧
 ((PlayX.now x1 = PlayX.now x1) ∧
 ((((0 : Nat) = (0 : Nat)) ∧
 (List.length (PlayX.l x1) = List.length (PlayX.l x1))) ∧
 (True)))))))) ∧
 (((Ref.units (PlayX.y x10) = Ref.units (PlayX.y x10)) ∧
 ((Ref.since (PlayX.y x10) = Ref.since (PlayX.y x10)) ∧
 ((((0 : Nat) = (0 : Nat)) ∧
 (List.length (Ref.news (PlayX.y x10)) = List.length (Ref.news (PlayX.y x10)))) ∧
 (True)))) ∧
 (((((0 : Nat) = (0 : Nat)) ∧
 (List.length (PlayX.b x10) = List.length (PlayX.b x10))) ∧
 (True)) ∧
 (((RLe (List.length (PlayX.b x10)) (List.length (PlayX.b x10))) ∧
 (RowsEq (Kd.int IntKind.i64 :: Kd.int IntKind.i64 :: Kd.int IntKind.i64 :: Kd.int IntKind.i64 :: Kd.int IntKind.i64 :: Kd.int IntKind.i64 :: Kd.int IntKind.i64 :: @List.nil Kd) (List.length (PlayX.b x10)) (encL encRec (PlayX.b x10)) (encL encRec (PlayX.b x10)))) ∧
 (((RLe (List.length (Ref.news (PlayX.y x10))) (List.length (Ref.news (PlayX.y x10)))) ∧
 (RowsEq (Kd.int IntKind.i64 :: Kd.int IntKind.i64 :: Kd.int IntKind.i64 :: Kd.int IntKind.i64 :: Kd.int IntKind.i64 :: Kd.int IntKind.i64 :: @List.nil Kd) (List.length (Ref.news (PlayX.y x10))) (encL encCame (Ref.news (PlayX.y x10))) (encL encCame (Ref.news (PlayX.y x10))))) ∧
 (((RLe (List.length (PlayX.l x1)) (List.length (PlayX.l x1))) ∧
 (RowsEq (Kd.int IntKind.i64 :: Kd.int IntKind.i64 :: Kd.int IntKind.i64 :: Kd.int IntKind.i64 :: Kd.int IntKind.i64 :: Kd.int IntKind.i64 :: @List.nil Kd) (List.length (PlayX.l x1)) (encL encCame (PlayX.l x1)) (encL encCame (PlayX.l x1)))) ∧
 (True)))))))))))))))))))))) ∧
 (((Box.there (BoxI.b x15) (BoxI.u x15) != Ref.there (RefI.y x16) (RefI.u x16)) = true) →
 ((false = true) ∧
 (True))))) ∧
 ((decide (Box.heard (BoxI.b x15) (BoxI.u x15) ≠ Ref.heard (RefI.y x16) (RefI.u x16)) = true) →
 ((false = true) ∧
 (True))))) ∧
 (((!(decide (Sta.unit (Box.last (BoxI.b x15) (BoxI.u x15)) = Sta.unit (Ref.last (RefI.y x16) (RefI.u x16))) && (decide (Sta.seq (Box.last (BoxI.b x15) (BoxI.u x15)) = Sta.seq (Ref.last (RefI.y x16) (RefI.u x16))) && (decide (Sta.state (Box.last (BoxI.b x15) (BoxI.u x15)) = Sta.state (Ref.last (RefI.y x16) (RefI.u x16))) && (decide (Sta.node (Box.last (BoxI.b x15) (BoxI.u x15)) = Sta.node (Ref.last (RefI.y x16) (RefI.u x16))) && (decide (Sta.epoch (Box.last (BoxI.b x15) (BoxI.u x15)) = Sta.epoch (Ref.last (RefI.y x16) (RefI.u x16))) && true)))))) = true) →
 ((false = true) ∧
 (True))))))))))))) ∧
 ((decide (x12 ≤ min (PlayX.n x1) (20 : Int)) = false) →
 (((true = true) →
 (∃ x30 : Unit,
 ((True) ∧
 ((True) ∧
 ((True) ∧
 ((true = true) ∧
 (True))))))) ∧
 ((true = false) →
 ((false = true) ∧
 (True))))))))))))))) ∧
 ((decide ((0 : Int) ≤ PlayX.n x1 ∧ PlayX.n x1 ≤ (256 : Int)) = false) →
 (∃ x33 : PlayX,
 (((¬((0 : Int) ≤ PlayX.n x33 ∧ PlayX.n x33 ≤ (256 : Int))) ∧
 (List.length (PlayX.l x33) ≤ (60 : Nat))) ∧
 (((PlayX.n x1 = PlayX.n x33) ∧
 ((PlayX.now x1 = PlayX.now x33) ∧
 ((((0 : Nat) = (0 : Nat)) ∧
 (List.length (PlayX.l x1) = List.length (PlayX.l x33))) ∧
 (True)))) ∧
 ((((RLe (List.length (PlayX.l x33)) (List.length (PlayX.l x1))) ∧
 (RowsEq (Kd.int IntKind.i64 :: Kd.int IntKind.i64 :: Kd.int IntKind.i64 :: Kd.int IntKind.i64 :: Kd.int IntKind.i64 :: Kd.int IntKind.i64 :: @List.nil Kd) (List.length (PlayX.l x33)) (encL encCame (PlayX.l x1)) (encL encCame (PlayX.l x33)))) ∧
 (True)) ∧
 (((true = true) →
 (∃ x35 : Unit,
 ((True) ∧
 ((True) ∧
 ((True) ∧
 ((true = true) ∧
 (True))))))) ∧
 ((true = false) →
 ((false = true) ∧
 (True))))))))))))))) = Keeps cfg7 Try.f3 matchesC matchesI by kernel_rfl) (fun x1 => fun h2 => ⟨fun g3 => have h3 := of_decide_eq_true g3; ⟨(x1),
 (by (try dsimp only at *); omega),
 ⟨rfl,
 rfl,
 ⟨rfl,
 rfl⟩,
 trivial⟩,
 ⟨⟨⟨Nat.le_refl _⟩,
 RowsEq.rfl'⟩,
 trivial⟩,
 fun h5 => ⟨(default),
 trivial,
 trivial,
 trivial,
 rfl,
 trivial⟩,
 fun h7 => ⟨(by (try dsimp only at *); grind),
 trivial⟩⟩,
 fun g8 => have h8 := of_decide_eq_false g8; ⟨fun g9 => have h9 := of_decide_eq_true g9; ⟨(x1),
 ⟨(by (try dsimp only at *); omega),
 (by (try dsimp only at *); omega),
 (by (try dsimp only at *); omega)⟩,
 ⟨rfl,
 rfl,
 ⟨rfl,
 rfl⟩,
 trivial⟩,
 ⟨⟨⟨Nat.le_refl _⟩,
 RowsEq.rfl'⟩,
 trivial⟩,
 ((-1 : Int)),
 ⟨⟨(by (try dsimp only at *); omega),
 (by (try dsimp only at *); omega)⟩,
 ⟨rfl,
 rfl,
 ⟨rfl,
 rfl⟩,
 ⟨rfl,
 rfl⟩,
 rfl,
 rfl,
 ⟨rfl,
 rfl⟩,
 trivial⟩,
 ⟨rfl,
 rfl,
 ⟨rfl,
 rfl⟩,
 trivial⟩,
 ⟨⟨rfl,
 rfl⟩,
 trivial⟩,
 ⟨⟨Nat.le_refl _⟩,
 RowsEq.rfl'⟩,
 ⟨⟨Nat.le_refl _⟩,
 RowsEq.rfl'⟩,
 ⟨⟨Nat.le_refl _⟩,
 RowsEq.rfl'⟩,
 trivial⟩,
 fun x12 => fun h13 => ⟨fun g14 => have h14 := of_decide_eq_true g14; ⟨({ b := PlayX.b x1, u := x12 : BoxI }),
 trivial,
 ⟨⟨rfl,
 rfl⟩,
 rfl,
 trivial⟩,
 ⟨⟨⟨rfl,
 rfl⟩,
 trivial⟩,
 ⟨⟨Nat.le_refl _⟩,
 RowsEq.rfl'⟩,
 trivial⟩,
 ({ y := PlayX.y x1, u := x12 : RefI }),
 (by (try dsimp only at *); (have := x1.few; omega)),
 ⟨⟨rfl,
 rfl,
 ⟨rfl,
 rfl⟩,
 trivial⟩,
 rfl,
 trivial⟩,
 ⟨⟨⟨Nat.le_refl _⟩,
 RowsEq.rfl'⟩,
 trivial⟩,
 fun h17 => ⟨fun g18 => have h18 := of_decide_eq_false g18; ⟨fun h19 => ⟨({ b := PlayX.b x1, u := x12 : BoxI }),
 (by (try dsimp only at *); exact (x1.same h9).ok),
 ⟨⟨rfl,
 rfl⟩,
 rfl,
 trivial⟩,
 ⟨⟨⟨rfl,
 rfl⟩,
 trivial⟩,
 ⟨⟨Nat.le_refl _⟩,
 RowsEq.rfl'⟩,
 trivial⟩,
 ({ y := PlayX.y x1, u := x12 : RefI }),
 (by (try dsimp only at *); exact x1.ok h9 (by omega)),
 ⟨⟨rfl,
 rfl,
 ⟨rfl,
 rfl⟩,
 trivial⟩,
 rfl,
 trivial⟩,
 ⟨⟨⟨Nat.le_refl _⟩,
 RowsEq.rfl'⟩,
 trivial⟩,
 fun g22 => have h22 := of_decide_eq_true g22; ⟨(by (try dsimp only at *); (have e := x1.same h9; simp only [e.last, e.heardE, e.thereE, e.missed] at *; grind)),
 trivial⟩,
 fun g23 => have h23 := of_decide_eq_false g23; ⟨⟨(by (try dsimp only at *); omega),
 (by (try dsimp only at *); omega)⟩,
 (x12 + (1 : Int)),
 (by (try dsimp only at *); omega),
 ⟨(by (try dsimp only at *); omega),
 (by (try dsimp only at *); omega)⟩,
 ⟨rfl,
 rfl,
 ⟨rfl,
 rfl⟩,
 ⟨rfl,
 rfl⟩,
 rfl,
 rfl,
 ⟨rfl,
 rfl⟩,
 trivial⟩,
 ⟨rfl,
 rfl,
 ⟨rfl,
 rfl⟩,
 trivial⟩,
 ⟨⟨rfl,
 rfl⟩,
 trivial⟩,
 ⟨⟨Nat.le_refl _⟩,
 RowsEq.rfl'⟩,
 ⟨⟨Nat.le_refl _⟩,
 RowsEq.rfl'⟩,
 ⟨⟨Nat.le_refl _⟩,
 RowsEq.rfl'⟩,
 trivial⟩⟩,
 fun h25 => ⟨(by (try dsimp only at *); (have e := x1.same h9; simp only [e.last, e.heardE, e.thereE, e.missed] at *; grind)),
 trivial⟩⟩,
 fun g26 => have h26 := of_decide_eq_true g26; ⟨(by (try dsimp only at *); (have e := x1.same h9; simp only [e.last, e.heardE, e.thereE, e.missed] at *; grind)),
 trivial⟩⟩,
 fun h27 => ⟨(by (try dsimp only at *); (have e := x1.same h9; simp only [e.last, e.heardE, e.thereE, e.missed] at *; grind)),
 trivial⟩⟩,
 fun g28 => have h28 := of_decide_eq_false g28; ⟨fun h29 => ⟨(default),
 trivial,
 trivial,
 trivial,
 rfl,
 trivial⟩,
 fun h31 => ⟨(by (try dsimp only at *); grind),
 trivial⟩⟩⟩⟩,
 fun g32 => have h32 := of_decide_eq_false g32; ⟨(x1),
 ⟨(by (try dsimp only at *); omega),
 (by (try dsimp only at *); omega)⟩,
 ⟨rfl,
 rfl,
 ⟨rfl,
 rfl⟩,
 trivial⟩,
 ⟨⟨⟨Nat.le_refl _⟩,
 RowsEq.rfl'⟩,
 trivial⟩,
 fun h34 => ⟨(default),
 trivial,
 trivial,
 trivial,
 rfl,
 trivial⟩,
 fun h36 => ⟨(by (try dsimp only at *); grind),
 trivial⟩⟩⟩⟩)

theorem matches_good : Good Try.prog 3 matchesC ∧ FnOk Try.prog 3 := good_of tok con7 (fn := Try.f3) rfl (by decide +kernel) (fun _ => rfl) matches_keeps
end Go.Sym
