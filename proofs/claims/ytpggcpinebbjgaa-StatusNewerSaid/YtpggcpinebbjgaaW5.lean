/- law30: the walks (V): the play. -/
import Derived.Test.YtpggcpinebbjgaaP5
namespace Go.Sym
set_option linter.unusedVariables false
set_option linter.unusedSimpArgs false
open Go.Proofs
def encSelNew (a : List SV) (G : Hp) : Bool := match a with | [.i _ n, _] => decide (0 ≤ n ∧ n ≤ 256) | _ => false
def C5 : List (Nat × Con) := [(15, .two encSelNew (.one newC) (.one newNo)), (26, .one rnewC), (16, .one addC), (27, .one rputC)]
def cfg5 : Cfg := ⟨T, [], C5, noInv, 21, {}⟩
structure PlayX where
  n : Int
  now : Int
  l : List Came
def PlayX.b (x : PlayX) : Box := playB x.n x.now x.l x.l.length
def PlayX.y (x : PlayX) : Ref := playY x.n x.now x.l x.l.length
def playArgs (x : PlayX) : List SV := [.i .i64 x.n, .i .i64 x.now, .sl 100000 0 x.l.length]
def playG0 (x : PlayX) : List (Nat × Blk) := [(100000, .rows .bor k6 x.l.length (encL encCame x.l))]
def playedC : CT where
  X := PlayX
  pre := fun x => x.l.length ≤ 60 ∧ 0 ≤ x.n ∧ x.n ≤ 256
  args := playArgs
  g0 := playG0
  res := fun x => .tup [.p 1 0 0, refV x.y 3, .b true]
  g1 := fun x => [(1, .one .own [.sl 2 0 x.b.length]), (2, .rows .own k7 x.b.length (encL encRec x.b)), (3, .rows .bor k6 x.y.news.length (encL encCame x.y.news))]
def playedI (x : PlayX) (id : Nat) : Option Inv := match id with
  | 0 => some { X := Nat, ok := fun k => k ≤ x.l.length, fr := fun k => [(53, .i .i64 k), (9, .p 1 0 0), (11, .p 3 0 0), (13, .b true)], hp := fun k => [(1, .one .own [.sl 2 0 (playB x.n x.now x.l k).length]), (2, .rows .own k7 (playB x.n x.now x.l k).length (encL encRec (playB x.n x.now x.l k))), (3, .one .own [.i .i64 (playY x.n x.now x.l k).units, .i .i64 (playY x.n x.now x.l k).since, .sl 4 0 (playY x.n x.now x.l k).news.length]), (4, .rows .bor k6 (playY x.n x.now x.l k).news.length (encL encCame (playY x.n x.now x.l k).news))], me := fun k => x.l.length - k }
  | _ => none
set_option maxRecDepth 100000 in
theorem played_keeps : Keeps cfg5 Try.f9 playedC playedI := Eq.mp (show ((∀ x1 : PlayX,
 ((List.length (PlayX.l x1) ≤ (60 : Nat) ∧ (0 : Int) ≤ PlayX.n x1 ∧ PlayX.n x1 ≤ (256 : Int)) →
 (((decide ((60 : Int) < (↑(List.length (PlayX.l x1)) : Int)) = true) →
 (((False) ∧
 ((((0 : Int) = Ref.units (PlayX.y x1)) ∧
 (((0 : Int) = Ref.since (PlayX.y x1)) ∧
 (((True) ∧
 (((0 : Nat) = (0 : Nat)) ∧
 (List.length (Ref.news (PlayX.y x1)) = (0 : Nat)))) ∧
 (True)))) ∧
 ((true = true) ∧
 (True)))) ∧
 ((False) ∧
 ((List.length (PlayX.b x1) = (0 : Nat)) ∧
 ((List.length (Ref.news (PlayX.y x1)) = (0 : Nat)) ∧
 (True)))))) ∧
 ((decide ((60 : Int) < (↑(List.length (PlayX.l x1)) : Int)) = false) →
 (((decide ((0 : Int) ≤ PlayX.n x1 ∧ PlayX.n x1 ≤ (256 : Int)) = true) →
 (∃ x6 : NewX,
 ((((0 : Int) ≤ NewX.n x6) ∧
 (NewX.n x6 ≤ (256 : Int))) ∧
 (((PlayX.n x1 = NewX.n x6) ∧
 ((PlayX.now x1 = NewX.now x6) ∧
 (True))) ∧
 ((True) ∧
 (∃ x7 : UI,
 ((True) ∧
 (((PlayX.n x1 = UI.n x7) ∧
 ((PlayX.now x1 = UI.now x7) ∧
 (True))) ∧
 ((True) ∧
 (((decide ((0 : Int) ≠ if unitsOk (UI.n x7) = true then (0 : Int) else (1 : Int)) = false) →
 ((((false != decide ((if unitsOk (UI.n x7) = true then (0 : Int) else (1 : Int)) ≠ (0 : Int))) = true) →
 (((False) ∧
 (((Ref.units (Ref.new (UI.n x7) (UI.now x7)) = Ref.units (PlayX.y x1)) ∧
 ((Ref.since (Ref.new (UI.n x7) (UI.now x7)) = Ref.since (PlayX.y x1)) ∧
 ((((0 : Nat) = (0 : Nat)) ∧
 (List.length (Ref.news (Ref.new (UI.n x7) (UI.now x7))) = List.length (Ref.news (PlayX.y x1)))) ∧
 (True)))) ∧
 ((false = true) ∧
 (True)))) ∧
 ((False) ∧
 ((List.length (PlayX.b x1) = (0 : Nat)) ∧
 (((RLe (List.length (Ref.news (PlayX.y x1))) (List.length (Ref.news (Ref.new (UI.n x7) (UI.now x7))))) ∧
 (RowsEq (Kd.int IntKind.i64 :: Kd.int IntKind.i64 :: Kd.int IntKind.i64 :: Kd.int IntKind.i64 :: Kd.int IntKind.i64 :: Kd.int IntKind.i64 :: @List.nil Kd) (List.length (Ref.news (PlayX.y x1))) (encL encCame (Ref.news (Ref.new (UI.n x7) (UI.now x7)))) (encL encCame (Ref.news (PlayX.y x1))))) ∧
 (True)))))) ∧
 (((false != decide ((if unitsOk (UI.n x7) = true then (0 : Int) else (1 : Int)) ≠ (0 : Int))) = false) →
 (∃ x11 : Nat,
 (((x11 ≤ List.length (PlayX.l x1)) ∧
 ((((0 : Int) = (↑x11 : Int)) ∧
 ((((0 : Nat) = (0 : Nat)) ∧
 ((0 : Nat) = (0 : Nat))) ∧
 ((((0 : Nat) = (0 : Nat)) ∧
 ((0 : Nat) = (0 : Nat))) ∧
 ((true = true) ∧
 (((↑(List.length (PlayX.l x1)) : Int) = (↑(List.length (PlayX.l x1)) : Int)) ∧
 ((((0 : Nat) = (0 : Nat)) ∧
 (List.length (PlayX.l x1) = List.length (PlayX.l x1))) ∧
 (((if unitsOk (UI.n x7) = true then (0 : Int) else (1 : Int)) = if unitsOk (UI.n x7) = true then (0 : Int) else (1 : Int)) ∧
 (((0 : Int) = (0 : Int)) ∧
 ((false = false) ∧
 ((((0 : Nat) = (0 : Nat)) ∧
 ((0 : Nat) = (0 : Nat))) ∧
 ((True) ∧
 ((PlayX.n x1 = PlayX.n x1) ∧
 ((PlayX.now x1 = PlayX.now x1) ∧
 ((((0 : Nat) = (0 : Nat)) ∧
 (List.length (PlayX.l x1) = List.length (PlayX.l x1))) ∧
 (True))))))))))))))) ∧
 (((((0 : Nat) = (0 : Nat)) ∧
 (Int.toNat (NewX.n x6) = List.length (playB (PlayX.n x1) (PlayX.now x1) (PlayX.l x1) x11))) ∧
 (True)) ∧
 (((RLe (List.length (playB (PlayX.n x1) (PlayX.now x1) (PlayX.l x1) x11)) (Int.toNat (NewX.n x6))) ∧
 (RowsEq (Kd.int IntKind.i64 :: Kd.int IntKind.i64 :: Kd.int IntKind.i64 :: Kd.int IntKind.i64 :: Kd.int IntKind.i64 :: Kd.int IntKind.i64 :: Kd.int IntKind.i64 :: @List.nil Kd) (List.length (playB (PlayX.n x1) (PlayX.now x1) (PlayX.l x1) x11)) (encL encRec (Box.new (NewX.n x6) (NewX.now x6))) (encL encRec (playB (PlayX.n x1) (PlayX.now x1) (PlayX.l x1) x11)))) ∧
 (((Ref.units (Ref.new (UI.n x7) (UI.now x7)) = Ref.units (playY (PlayX.n x1) (PlayX.now x1) (PlayX.l x1) x11)) ∧
 ((Ref.since (Ref.new (UI.n x7) (UI.now x7)) = Ref.since (playY (PlayX.n x1) (PlayX.now x1) (PlayX.l x1) x11)) ∧
 ((((0 : Nat) = (0 : Nat)) ∧
 (List.length (Ref.news (Ref.new (UI.n x7) (UI.now x7))) = List.length (Ref.news (playY (PlayX.n x1) (PlayX.now x1) (PlayX.l x1) x11)))) ∧
 (True)))) ∧
 (((RLe (List.length (Ref.news (playY (PlayX.n x1) (PlayX.now x1) (PlayX.l x1) x11))) (List.length (Ref.news (Ref.new (UI.n x7) (UI.now x7))))) ∧
 (RowsEq (Kd.int IntKind.i64 :: Kd.int IntKind.i64 :: Kd.int IntKind.i64 :: Kd.int IntKind.i64 :: Kd.int IntKind.i64 :: Kd.int IntKind.i64 :: @List.nil Kd) (List.length (Ref.news (playY (PlayX.n x1) (PlayX.now x1) (PlayX.l x1) x11))) (encL encCame (Ref.news (Ref.new (UI.n x7) (UI.now x7)))) (encL encCame (Ref.news (playY (PlayX.n x1) (PlayX.now x1) (PlayX.l x1) x11))))) ∧
 ((((0 : Int) = (0 : Int)) ∧
 (((0 : Int) = (0 : Int)) ∧
 ((True) ∧
 (True)))) ∧
 (((RLe (List.length (PlayX.l x1)) (List.length (PlayX.l x1))) ∧
 (RowsEq (Kd.int IntKind.i64 :: Kd.int IntKind.i64 :: Kd.int IntKind.i64 :: Kd.int IntKind.i64 :: Kd.int IntKind.i64 :: Kd.int IntKind.i64 :: @List.nil Kd) (List.length (PlayX.l x1)) (encL encCame (PlayX.l x1)) (encL encCame (PlayX.l x1)))) ∧
 (True))))))))) ∧
 (∀ x12 : Nat,
 ((x12 ≤ List.length (PlayX.l x1)) →
 (((decide ((↑x12 : Int) < (↑(List.length (PlayX.l x1)) : Int)) = true) →
 ((((0 : Int) ≤ (↑x12 : Int)) ∧
 ((↑x12 : Int) < (↑(List.length (PlayX.l x1)) : Int))) ∧
 (((0 : Nat) + Int.toNat (↑x12 : Int) < List.length (PlayX.l x1)) ∧
 (∃ x15 : BoxS,
 ((Box.Ok (BoxS.b x15)) ∧
 (((((0 : Nat) = (0 : Nat)) ∧
 ((0 : Nat) = (0 : Nat))) ∧
 (((Sta.unit (Came.sta (List.getD (PlayX.l x1) ((0 : Nat) + Int.toNat (↑x12 : Int)) default)) = Sta.unit (BoxS.s x15)) ∧
 ((Sta.seq (Came.sta (List.getD (PlayX.l x1) ((0 : Nat) + Int.toNat (↑x12 : Int)) default)) = Sta.seq (BoxS.s x15)) ∧
 ((Sta.state (Came.sta (List.getD (PlayX.l x1) ((0 : Nat) + Int.toNat (↑x12 : Int)) default)) = Sta.state (BoxS.s x15)) ∧
 ((Sta.node (Came.sta (List.getD (PlayX.l x1) ((0 : Nat) + Int.toNat (↑x12 : Int)) default)) = Sta.node (BoxS.s x15)) ∧
 ((Sta.epoch (Came.sta (List.getD (PlayX.l x1) ((0 : Nat) + Int.toNat (↑x12 : Int)) default)) = Sta.epoch (BoxS.s x15)) ∧
 (True)))))) ∧
 ((Came.now (List.getD (PlayX.l x1) ((0 : Nat) + Int.toNat (↑x12 : Int)) default) = BoxS.now x15) ∧
 (True)))) ∧
 ((((((0 : Nat) = (0 : Nat)) ∧
 (List.length (playB (PlayX.n x1) (PlayX.now x1) (PlayX.l x1) x12) = List.length (BoxS.b x15))) ∧
 (True)) ∧
 (((RLe (List.length (BoxS.b x15)) (List.length (playB (PlayX.n x1) (PlayX.now x1) (PlayX.l x1) x12))) ∧
 (RowsEq (Kd.int IntKind.i64 :: Kd.int IntKind.i64 :: Kd.int IntKind.i64 :: Kd.int IntKind.i64 :: Kd.int IntKind.i64 :: Kd.int IntKind.i64 :: Kd.int IntKind.i64 :: @List.nil Kd) (List.length (BoxS.b x15)) (encL encRec (playB (PlayX.n x1) (PlayX.now x1) (PlayX.l x1) x12)) (encL encRec (BoxS.b x15)))) ∧
 (True))) ∧
 (∃ x16 : RefS,
 ((List.length (Ref.news (RefS.y x16)) ≤ (999 : Nat)) ∧
 ((((Ref.units (playY (PlayX.n x1) (PlayX.now x1) (PlayX.l x1) x12) = Ref.units (RefS.y x16)) ∧
 ((Ref.since (playY (PlayX.n x1) (PlayX.now x1) (PlayX.l x1) x12) = Ref.since (RefS.y x16)) ∧
 ((((0 : Nat) = (0 : Nat)) ∧
 (List.length (Ref.news (playY (PlayX.n x1) (PlayX.now x1) (PlayX.l x1) x12)) = List.length (Ref.news (RefS.y x16)))) ∧
 (True)))) ∧
 (((Sta.unit (Came.sta (List.getD (PlayX.l x1) ((0 : Nat) + Int.toNat (↑x12 : Int)) default)) = Sta.unit (RefS.s x16)) ∧
 ((Sta.seq (Came.sta (List.getD (PlayX.l x1) ((0 : Nat) + Int.toNat (↑x12 : Int)) default)) = Sta.seq (RefS.s x16)) ∧
 ((Sta.state (Came.sta (List.getD (PlayX.l x1) ((0 : Nat) + Int.toNat (↑x12 : Int)) default)) = Sta.state (RefS.s x16)) ∧
 ((Sta.node (Came.sta (List.getD (PlayX.l x1) ((0 : Nat) + Int.toNat (↑x12 : Int)) default)) = Sta.node (RefS.s x16)) ∧
 ((Sta.epoch (Came.sta (List.getD (PlayX.l x1) ((0 : Nat) + Int.toNat (↑x12 : Int)) default)) = Sta.epoch (RefS.s x16)) ∧
 (True)))))) ∧
 ((Came.now (List.getD (PlayX.l x1) ((0 : Nat) + Int.toNat (↑x12 : Int)) default) = RefS.now x16) ∧
 (True)))) ∧
 ((((RLe (List.length (Ref.news (RefS.y x16))) (List.length (Ref.news (playY (PlayX.n x1) (PlayX.now x1) (PlayX.l x1) x12)))) ∧
 (RowsEq (Kd.int IntKind.i64 :: Kd.int IntKind.i64 :: Kd.int IntKind.i64 :: Kd.int IntKind.i64 :: Kd.int IntKind.i64 :: Kd.int IntKind.i64 :: @List.nil Kd) (List.length (Ref.news (RefS.y x16))) (encL encCame (Ref.news (playY (PlayX.n x1) (PlayX.now x1) (PlayX.l x1) x12))) (encL encCame (Ref.news (RefS.y x16))))) ∧
 (True)) ∧
 (((true = true) →
 ((((Box.isNew (BoxS.b x15) (BoxS.s x15) == Ref.isNew (RefS.y x16) (RefS.s x16)) = true) →
 ((((-9223372036854775808 : Int) ≤ (↑x12 : Int) + (1 : Int)) ∧
 ((↑x12 : Int) + (1 : Int) ≤ (9223372036854775807 : Int))) ∧
 (∃ x19 : Nat,
 ((List.length (PlayX.l x1) - x19 < List.length (PlayX.l x1) - x12) ∧
 ((x19 ≤ List.length (PlayX.l x1)) ∧
 ((((↑x12 : Int) + (1 : Int) = (↑x19 : Int)) ∧
 ((((0 : Nat) = (0 : Nat)) ∧
 ((0 : Nat) = (0 : Nat))) ∧
 ((((0 : Nat) = (0 : Nat)) ∧
 ((0 : Nat) = (0 : Nat))) ∧
 ((decide (Box.err (BoxS.b x15) (BoxS.s x15) = Ref.err (RefS.y x16) (RefS.s x16)) = true) ∧
 (((↑(List.length (PlayX.l x1)) : Int) = (↑(List.length (PlayX.l x1)) : Int)) ∧
 ((((0 : Nat) = (0 : Nat)) ∧
 (List.length (PlayX.l x1) = List.length (PlayX.l x1))) ∧
 (((if unitsOk (UI.n x7) = true then (0 : Int) else (1 : Int)) = if unitsOk (UI.n x7) = true then (0 : Int) else (1 : Int)) ∧
 (((0 : Int) = (0 : Int)) ∧
 ((false = false) ∧
 ((((0 : Nat) = (0 : Nat)) ∧
 ((0 : Nat) = (0 : Nat))) ∧
 ((True) ∧
 ((PlayX.n x1 = PlayX.n x1) ∧
 ((PlayX.now x1 = PlayX.now x1) ∧
 ((((0 : Nat) = (0 : Nat)) ∧
 (List.length (PlayX.l x1) = List.length (PlayX.l x1))) ∧
 (True))))))))))))))) ∧
 (((((0 : Nat) = (0 : Nat)) ∧
 (List.length (playB (PlayX.n x1) (PlayX.now x1) (PlayX.l x1) x12) = List.length (playB (PlayX.n x1) (PlayX.now x1) (PlayX.l x1) x19))) ∧
 (True)) ∧
 (((RLe (List.length (playB (PlayX.n x1) (PlayX.now x1) (PlayX.l x1) x19)) (List.length (BoxS.b x15))) ∧
 (RowsEq (Kd.int IntKind.i64 :: Kd.int IntKind.i64 :: Kd.int IntKind.i64 :: Kd.int IntKind.i64 :: Kd.int IntKind.i64 :: Kd.int IntKind.i64 :: Kd.int IntKind.i64 :: @List.nil Kd) (List.length (playB (PlayX.n x1) (PlayX.now x1) (PlayX.l x1) x19)) (encL encRec (Box.add (BoxS.b x15) (BoxS.s x15) (BoxS.now x15))) (encL encRec (playB (PlayX.n x1) (PlayX.now x1) (PlayX.l x1) x19)))) ∧
 (((Ref.units (Ref.put (RefS.y x16) (RefS.s x16) (RefS.now x16)) = Ref.units (playY (PlayX.n x1) (PlayX.now x1) (PlayX.l x1) x19)) ∧
 ((Ref.since (Ref.put (RefS.y x16) (RefS.s x16) (RefS.now x16)) = Ref.since (playY (PlayX.n x1) (PlayX.now x1) (PlayX.l x1) x19)) ∧
 ((((0 : Nat) = (0 : Nat)) ∧
 (List.length (Ref.news (Ref.put (RefS.y x16) (RefS.s x16) (RefS.now x16))) = List.length (Ref.news (playY (PlayX.n x1) (PlayX.now x1) (PlayX.l x1) x19)))) ∧
 (True)))) ∧
 (((RLe (List.length (Ref.news (playY (PlayX.n x1) (PlayX.now x1) (PlayX.l x1) x19))) (List.length (Ref.news (Ref.put (RefS.y x16) (RefS.s x16) (RefS.now x16))))) ∧
 (RowsEq (Kd.int IntKind.i64 :: Kd.int IntKind.i64 :: Kd.int IntKind.i64 :: Kd.int IntKind.i64 :: Kd.int IntKind.i64 :: Kd.int IntKind.i64 :: @List.nil Kd) (List.length (Ref.news (playY (PlayX.n x1) (PlayX.now x1) (PlayX.l x1) x19))) (encL encCame (Ref.news (Ref.put (RefS.y x16) (RefS.s x16) (RefS.now x16)))) (encL encCame (Ref.news (playY (PlayX.n x1) (PlayX.now x1) (PlayX.l x1) x19))))) ∧
 ((((0 : Int) = (0 : Int)) ∧
 (((0 : Int) = (0 : Int)) ∧
 ((True) ∧
 (True)))) ∧
 (((RLe (List.length (PlayX.l x1)) (List.length (PlayX.l x1))) ∧
 (RowsEq (Kd.int IntKind.i64 :: Kd.int IntKind.i64 :: Kd.int IntKind.i64 :: Kd.int IntKind.i64 :: Kd.int IntKind.i64 :: Kd.int IntKind.i64 :: @List.nil Kd) (List.length (PlayX.l x1)) (encL encCame (PlayX.l x1)) (encL encCame (PlayX.l x1)))) ∧
 (True))))))))))))) ∧
 (((Box.isNew (BoxS.b x15) (BoxS.s x15) == Ref.isNew (RefS.y x16) (RefS.s x16)) = false) →
 ((((-9223372036854775808 : Int) ≤ (↑x12 : Int) + (1 : Int)) ∧
 ((↑x12 : Int) + (1 : Int) ≤ (9223372036854775807 : Int))) ∧
 (∃ x21 : Nat,
 ((List.length (PlayX.l x1) - x21 < List.length (PlayX.l x1) - x12) ∧
 ((x21 ≤ List.length (PlayX.l x1)) ∧
 ((((↑x12 : Int) + (1 : Int) = (↑x21 : Int)) ∧
 ((((0 : Nat) = (0 : Nat)) ∧
 ((0 : Nat) = (0 : Nat))) ∧
 ((((0 : Nat) = (0 : Nat)) ∧
 ((0 : Nat) = (0 : Nat))) ∧
 ((false = true) ∧
 (((↑(List.length (PlayX.l x1)) : Int) = (↑(List.length (PlayX.l x1)) : Int)) ∧
 ((((0 : Nat) = (0 : Nat)) ∧
 (List.length (PlayX.l x1) = List.length (PlayX.l x1))) ∧
 (((if unitsOk (UI.n x7) = true then (0 : Int) else (1 : Int)) = if unitsOk (UI.n x7) = true then (0 : Int) else (1 : Int)) ∧
 (((0 : Int) = (0 : Int)) ∧
 ((false = false) ∧
 ((((0 : Nat) = (0 : Nat)) ∧
 ((0 : Nat) = (0 : Nat))) ∧
 ((True) ∧
 ((PlayX.n x1 = PlayX.n x1) ∧
 ((PlayX.now x1 = PlayX.now x1) ∧
 ((((0 : Nat) = (0 : Nat)) ∧
 (List.length (PlayX.l x1) = List.length (PlayX.l x1))) ∧
 (True))))))))))))))) ∧
 (((((0 : Nat) = (0 : Nat)) ∧
 (List.length (playB (PlayX.n x1) (PlayX.now x1) (PlayX.l x1) x12) = List.length (playB (PlayX.n x1) (PlayX.now x1) (PlayX.l x1) x21))) ∧
 (True)) ∧
 (((RLe (List.length (playB (PlayX.n x1) (PlayX.now x1) (PlayX.l x1) x21)) (List.length (BoxS.b x15))) ∧
 (RowsEq (Kd.int IntKind.i64 :: Kd.int IntKind.i64 :: Kd.int IntKind.i64 :: Kd.int IntKind.i64 :: Kd.int IntKind.i64 :: Kd.int IntKind.i64 :: Kd.int IntKind.i64 :: @List.nil Kd) (List.length (playB (PlayX.n x1) (PlayX.now x1) (PlayX.l x1) x21)) (encL encRec (Box.add (BoxS.b x15) (BoxS.s x15) (BoxS.now x15))) (encL encRec (playB (PlayX.n x1) (PlayX.now x1) (PlayX.l x1) x21)))) ∧
 (((Ref.units (Ref.put (RefS.y x16) (RefS.s x16) (RefS.now x16)) = Ref.units (playY (PlayX.n x1) (PlayX.now x1) (PlayX.l x1) x21)) ∧
 ((Ref.since (Ref.put (RefS.y x16) (RefS.s x16) (RefS.now x16)) = Ref.since (playY (PlayX.n x1) (PlayX.now x1) (PlayX.l x1) x21)) ∧
 ((((0 : Nat) = (0 : Nat)) ∧
 (List.length (Ref.news (Ref.put (RefS.y x16) (RefS.s x16) (RefS.now x16))) = List.length (Ref.news (playY (PlayX.n x1) (PlayX.now x1) (PlayX.l x1) x21)))) ∧
 (True)))) ∧
 (((RLe (List.length (Ref.news (playY (PlayX.n x1) (PlayX.now x1) (PlayX.l x1) x21))) (List.length (Ref.news (Ref.put (RefS.y x16) (RefS.s x16) (RefS.now x16))))) ∧
 (RowsEq (Kd.int IntKind.i64 :: Kd.int IntKind.i64 :: Kd.int IntKind.i64 :: Kd.int IntKind.i64 :: Kd.int IntKind.i64 :: Kd.int IntKind.i64 :: @List.nil Kd) (List.length (Ref.news (playY (PlayX.n x1) (PlayX.now x1) (PlayX.l x1) x21))) (encL encCame (Ref.news (Ref.put (RefS.y x16) (RefS.s x16) (RefS.now x16)))) (encL encCame (Ref.news (playY (PlayX.n x1) (PlayX.now x1) (PlayX.l x1) x21))))) ∧
 ((((0 : Int) = (0 : Int)) ∧
 (((0 : Int) = (0 : Int)) ∧
 ((True) ∧
 (True)))) ∧
 (((RLe (List.length (PlayX.l x1)) (List.length (PlayX.l x1))) ∧
 (RowsEq (Kd.int IntKind.i64 :: Kd.int IntKind.i64 :: Kd.int IntKind.i64 :: Kd.int IntKind.i64 :: Kd.int IntKind.i64 :: Kd.int IntKind.i64 :: @List.nil Kd) (List.length (PlayX.l x1)) (encL encCame (PlayX.l x1)) (encL encCame (PlayX.l x1)))) ∧
 (True))))))))))))))) ∧
 ((true = false) →
 ((((-9223372036854775808 : Int) ≤ (↑x12 : Int) + (1 : Int)) ∧
 ((↑x12 : Int) + (1 : Int) ≤ (9223372036854775807 : Int))) ∧
 (∃ x23 : Nat,
 ((List.length (PlayX.l x1) - x23 < List.length (PlayX.l x1) - x12) ∧
 ((x23 ≤ List.length (PlayX.l x1)) ∧
 ((((↑x12 : Int) + (1 : Int) = (↑x23 : Int)) ∧
 ((((0 : Nat) = (0 : Nat)) ∧
 ((0 : Nat) = (0 : Nat))) ∧
 ((((0 : Nat) = (0 : Nat)) ∧
 ((0 : Nat) = (0 : Nat))) ∧
 ((false = true) ∧
 (((↑(List.length (PlayX.l x1)) : Int) = (↑(List.length (PlayX.l x1)) : Int)) ∧
 ((((0 : Nat) = (0 : Nat)) ∧
 (List.length (PlayX.l x1) = List.length (PlayX.l x1))) ∧
 (((if unitsOk (UI.n x7) = true then (0 : Int) else (1 : Int)) = if unitsOk (UI.n x7) = true then (0 : Int) else (1 : Int)) ∧
 (((0 : Int) = (0 : Int)) ∧
 ((false = false) ∧
 ((((0 : Nat) = (0 : Nat)) ∧
 ((0 : Nat) = (0 : Nat))) ∧
 ((True) ∧
 ((PlayX.n x1 = PlayX.n x1) ∧
 ((PlayX.now x1 = PlayX.now x1) ∧
 ((((0 : Nat) = (0 : Nat)) ∧
 (List.length (PlayX.l x1) = List.length (PlayX.l x1))) ∧
 (True))))))))))))))) ∧
 (((((0 : Nat) = (0 : Nat)) ∧
 (List.length (playB (PlayX.n x1) (PlayX.now x1) (PlayX.l x1) x12) = List.length (playB (PlayX.n x1) (PlayX.now x1) (PlayX.l x1) x23))) ∧
 (True)) ∧
 (((RLe (List.length (playB (PlayX.n x1) (PlayX.now x1) (PlayX.l x1) x23)) (List.length (BoxS.b x15))) ∧
 (RowsEq (Kd.int IntKind.i64 :: Kd.int IntKind.i64 :: Kd.int IntKind.i64 :: Kd.int IntKind.i64 :: Kd.int IntKind.i64 :: Kd.int IntKind.i64 :: Kd.int IntKind.i64 :: @List.nil Kd) (List.length (playB (PlayX.n x1) (PlayX.now x1) (PlayX.l x1) x23)) (encL encRec (Box.add (BoxS.b x15) (BoxS.s x15) (BoxS.now x15))) (encL encRec (playB (PlayX.n x1) (PlayX.now x1) (PlayX.l x1) x23)))) ∧
 (((Ref.units (Ref.put (RefS.y x16) (RefS.s x16) (RefS.now x16)) = Ref.units (playY (PlayX.n x1) (PlayX.now x1) (PlayX.l x1) x23)) ∧
 ((Ref.since (Ref.put (RefS.y x16) (RefS.s x16) (RefS.now x16)) = Ref.since (playY (PlayX.n x1) (PlayX.now x1) (PlayX.l x1) x23)) ∧
 ((((0 : Nat) = (0 : Nat)) ∧
 (List.length (Ref.news (Ref.put (RefS.y x16) (RefS.s x16) (RefS.now x16))) = List.length (Ref.news (playY (PlayX.n x1) (PlayX.now x1) (PlayX.l x1) x23)))) ∧
 (True)))) ∧
 (((RLe (List.length (Ref.news (playY (PlayX.n x1) (PlayX.now x1) (PlayX.l x1) x23))) (List.length (Ref.news (Ref.put (RefS.y x16) (RefS.s x16) (RefS.now x16))))) ∧
 (RowsEq (Kd.int IntKind.i64 :: Kd.int IntKind.i64 :: Kd.int IntKind.i64 :: Kd.int IntKind.i64 :: Kd.int IntKind.i64 :: Kd.int IntKind.i64 :: @List.nil Kd) (List.length (Ref.news (playY (PlayX.n x1) (PlayX.now x1) (PlayX.l x1) x23))) (encL encCame (Ref.news (Ref.put (RefS.y x16) (RefS.s x16) (RefS.now x16)))) (encL encCame (Ref.news (playY (PlayX.n x1) (PlayX.now x1) (PlayX.l x1) x23))))) ∧
 ((((0 : Int) = (0 : Int)) ∧
 (((0 : Int) = (0 : Int)) ∧
 ((True) ∧
 (True)))) ∧
 (((RLe (List.length (PlayX.l x1)) (List.length (PlayX.l x1))) ∧
 (RowsEq (Kd.int IntKind.i64 :: Kd.int IntKind.i64 :: Kd.int IntKind.i64 :: Kd.int IntKind.i64 :: Kd.int IntKind.i64 :: Kd.int IntKind.i64 :: @List.nil Kd) (List.length (PlayX.l x1)) (encL encCame (PlayX.l x1)) (encL encCame (PlayX.l x1)))) ∧
 (True))))))))))))))))))))))))) ∧
 ((decide ((↑x12 : Int) < (↑(List.length (PlayX.l x1)) : Int)) = false) →
 (((((0 : Nat) = (0 : Nat)) ∧
 ((0 : Nat) = (0 : Nat))) ∧
 (((Ref.units (playY (PlayX.n x1) (PlayX.now x1) (PlayX.l x1) x12) = Ref.units (PlayX.y x1)) ∧
 ((Ref.since (playY (PlayX.n x1) (PlayX.now x1) (PlayX.l x1) x12) = Ref.since (PlayX.y x1)) ∧
 ((((0 : Nat) = (0 : Nat)) ∧
 (List.length (Ref.news (playY (PlayX.n x1) (PlayX.now x1) (PlayX.l x1) x12)) = List.length (Ref.news (PlayX.y x1)))) ∧
 (True)))) ∧
 ((true = true) ∧
 (True)))) ∧
 (((((0 : Nat) = (0 : Nat)) ∧
 (List.length (playB (PlayX.n x1) (PlayX.now x1) (PlayX.l x1) x12) = List.length (PlayX.b x1))) ∧
 (True)) ∧
 (((RLe (List.length (PlayX.b x1)) (List.length (playB (PlayX.n x1) (PlayX.now x1) (PlayX.l x1) x12))) ∧
 (RowsEq (Kd.int IntKind.i64 :: Kd.int IntKind.i64 :: Kd.int IntKind.i64 :: Kd.int IntKind.i64 :: Kd.int IntKind.i64 :: Kd.int IntKind.i64 :: Kd.int IntKind.i64 :: @List.nil Kd) (List.length (PlayX.b x1)) (encL encRec (playB (PlayX.n x1) (PlayX.now x1) (PlayX.l x1) x12)) (encL encRec (PlayX.b x1)))) ∧
 (((RLe (List.length (Ref.news (PlayX.y x1))) (List.length (Ref.news (playY (PlayX.n x1) (PlayX.now x1) (PlayX.l x1) x12)))) ∧
 (RowsEq (Kd.int IntKind.i64 :: Kd.int IntKind.i64 :: Kd.int IntKind.i64 :: Kd.int IntKind.i64 :: Kd.int IntKind.i64 :: Kd.int IntKind.i64 :: @List.nil Kd) (List.length (Ref.news (PlayX.y x1))) (encL encCame (Ref.news (playY (PlayX.n x1) (PlayX.now x1) (PlayX.l x1) x12))) (encL encCame (Ref.news (PlayX.y x1))))) ∧
 (True)))))))))))))) ∧
 ((decide ((0 : Int) ≠ if unitsOk (UI.n x7) = true then (0 : Int) else (1 : Int)) = true) →
 (((False) ∧
 (((Ref.units (Ref.new (UI.n x7) (UI.now x7)) = Ref.units (PlayX.y x1)) ∧
 ((Ref.since (Ref.new (UI.n x7) (UI.now x7)) = Ref.since (PlayX.y x1)) ∧
 ((((0 : Nat) = (0 : Nat)) ∧
 (List.length (Ref.news (Ref.new (UI.n x7) (UI.now x7))) = List.length (Ref.news (PlayX.y x1)))) ∧
 (True)))) ∧
 ((false = true) ∧
 (True)))) ∧
 ((False) ∧
 ((List.length (PlayX.b x1) = (0 : Nat)) ∧
 (((RLe (List.length (Ref.news (PlayX.y x1))) (List.length (Ref.news (Ref.new (UI.n x7) (UI.now x7))))) ∧
 (RowsEq (Kd.int IntKind.i64 :: Kd.int IntKind.i64 :: Kd.int IntKind.i64 :: Kd.int IntKind.i64 :: Kd.int IntKind.i64 :: Kd.int IntKind.i64 :: @List.nil Kd) (List.length (Ref.news (PlayX.y x1))) (encL encCame (Ref.news (Ref.new (UI.n x7) (UI.now x7)))) (encL encCame (Ref.news (PlayX.y x1))))) ∧
 (True)))))))))))))))) ∧
 ((decide ((0 : Int) ≤ PlayX.n x1 ∧ PlayX.n x1 ≤ (256 : Int)) = false) →
 (∃ x27 : NewX,
 ((¬((0 : Int) ≤ NewX.n x27 ∧ NewX.n x27 ≤ (256 : Int))) ∧
 (((PlayX.n x1 = NewX.n x27) ∧
 ((PlayX.now x1 = NewX.now x27) ∧
 (True))) ∧
 ((True) ∧
 (∃ x28 : UI,
 ((True) ∧
 (((PlayX.n x1 = UI.n x28) ∧
 ((PlayX.now x1 = UI.now x28) ∧
 (True))) ∧
 ((True) ∧
 (((decide ((1 : Int) ≠ if unitsOk (UI.n x28) = true then (0 : Int) else (1 : Int)) = false) →
 ((((true != decide ((if unitsOk (UI.n x28) = true then (0 : Int) else (1 : Int)) ≠ (0 : Int))) = true) →
 (((False) ∧
 (((Ref.units (Ref.new (UI.n x28) (UI.now x28)) = Ref.units (PlayX.y x1)) ∧
 ((Ref.since (Ref.new (UI.n x28) (UI.now x28)) = Ref.since (PlayX.y x1)) ∧
 ((((0 : Nat) = (0 : Nat)) ∧
 (List.length (Ref.news (Ref.new (UI.n x28) (UI.now x28))) = List.length (Ref.news (PlayX.y x1)))) ∧
 (True)))) ∧
 ((false = true) ∧
 (True)))) ∧
 ((False) ∧
 ((List.length (PlayX.b x1) = (0 : Nat)) ∧
 (((RLe (List.length (Ref.news (PlayX.y x1))) (List.length (Ref.news (Ref.new (UI.n x28) (UI.now x28))))) ∧
 (RowsEq (Kd.int IntKind.i64 :: Kd.int IntKind.i64 :: Kd.int IntKind.i64 :: Kd.int IntKind.i64 :: Kd.int IntKind.i64 :: Kd.int IntKind.i64 :: @List.nil Kd) (List.length (Ref.news (PlayX.y x1))) (encL encCame (Ref.news (Ref.new (UI.n x28) (UI.now x28)))) (encL encCame (Ref.news (PlayX.y x1))))) ∧
 (True)))))) ∧
 (((true != decide ((if unitsOk (UI.n x28) = true then (0 : Int) else (1 : Int)) ≠ (0 : Int))) = false) →
 (((False) ∧
 (((Ref.units (Ref.new (UI.n x28) (UI.now x28)) = Ref.units (PlayX.y x1)) ∧
 ((Ref.since (Ref.new (UI.n x28) (UI.now x28)) = Ref.since (PlayX.y x1)) ∧
 ((((0 : Nat) = (0 : Nat)) ∧
 (List.length (Ref.news (Ref.new (UI.n x28) (UI.now x28))) = List.length (Ref.news (PlayX.y x1)))) ∧
 (True)))) ∧
 ((true = true) ∧
 (True)))) ∧
 ((False) ∧
 ((List.length (PlayX.b x1) = (0 : Nat)) ∧
 (((RLe (List.length (Ref.news (PlayX.y x1))) (List.length (Ref.news (Ref.new (UI.n x28) (UI.now x28))))) ∧
 (RowsEq (Kd.int IntKind.i64 :: Kd.int IntKind.i64 :: Kd.int IntKind.i64 :: Kd.int IntKind.i64 :: Kd.int IntKind.i64 :: Kd.int IntKind.i64 :: @List.nil Kd) (List.length (Ref.news (PlayX.y x1))) (encL encCame (Ref.news (Ref.new (UI.n x28) (UI.now x28)))) (encL encCame (Ref.news (PlayX.y x1))))) ∧
 (True)))))))) ∧
 ((decide ((1 : Int) ≠ if unitsOk (UI.n x28) = true then (0 : Int) else (1 : Int)) = true) →
 (((False) ∧
 (((Ref.units (Ref.new (UI.n x28) (UI.now x28)) = Ref.units (PlayX.y x1)) ∧
 ((Ref.since (Ref.new (UI.n x28) (UI.now x28)) = Ref.since (PlayX.y x1)) ∧
 ((((0 : Nat) = (0 : Nat)) ∧
 (List.length (Ref.news (Ref.new (UI.n x28) (UI.now x28))) = List.length (Ref.news (PlayX.y x1)))) ∧
 (True)))) ∧
 ((false = true) ∧
 (True)))) ∧
 ((False) ∧
 ((List.length (PlayX.b x1) = (0 : Nat)) ∧
 (((RLe (List.length (Ref.news (PlayX.y x1))) (List.length (Ref.news (Ref.new (UI.n x28) (UI.now x28))))) ∧
 (RowsEq (Kd.int IntKind.i64 :: Kd.int IntKind.i64 :: Kd.int IntKind.i64 :: Kd.int IntKind.i64 :: Kd.int IntKind.i64 :: Kd.int IntKind.i64 :: @List.nil Kd) (List.length (Ref.news (PlayX.y x1))) (encL encCame (Ref.news (Ref.new (UI.n x28) (UI.now x28)))) (encL encCame (Ref.news (PlayX.y x1))))) ∧
 (True)))))))))))))))))))))) = Keeps cfg5 Try.f9 playedC playedI by kernel_rfl) (fun x1 => fun h2 => ⟨fun g3 => have h3 := of_decide_eq_true g3; ⟨⟨(by omega),
 ⟨(by omega),
 (by omega),
 ⟨trivial,
 rfl,
 (by omega)⟩,
 trivial⟩,
 rfl,
 trivial⟩,
 (by omega),
 (by omega),
 (by omega),
 trivial⟩,
 fun g4 => have h4 := of_decide_eq_false g4; ⟨fun g5 => have h5 := of_decide_eq_true g5; ⟨({ n := PlayX.n x1, now := PlayX.now x1 : NewX }),
 ⟨(by (try dsimp only at *); omega),
 (by (try dsimp only at *); omega)⟩,
 ⟨rfl,
 rfl,
 trivial⟩,
 trivial,
 ({ n := PlayX.n x1, now := PlayX.now x1 : UI }),
 trivial,
 ⟨rfl,
 rfl,
 trivial⟩,
 trivial,
 fun g8 => have h8 := of_decide_eq_false g8; ⟨fun h9 => ⟨⟨(by (try dsimp only at *); grind),
 ⟨(by (try dsimp only at *); grind),
 (by (try dsimp only at *); grind),
 ⟨rfl,
 (by (try dsimp only at *); grind)⟩,
 trivial⟩,
 (by (try dsimp only at *); grind),
 trivial⟩,
 (by (try dsimp only at *); grind),
 (by (try dsimp only at *); grind),
 ⟨⟨(by (try dsimp only at *); grind)⟩,
 (by (try dsimp only at *); grind)⟩,
 trivial⟩,
 fun h10 => ⟨((0 : Nat)),
 ⟨(by (try dsimp only at *); omega),
 ⟨(by (try dsimp only at *); omega),
 ⟨rfl,
 rfl⟩,
 ⟨rfl,
 rfl⟩,
 rfl,
 rfl,
 ⟨rfl,
 rfl⟩,
 rfl,
 rfl,
 rfl,
 ⟨rfl,
 rfl⟩,
 trivial,
 rfl,
 rfl,
 ⟨rfl,
 rfl⟩,
 trivial⟩,
 ⟨⟨rfl,
 (by (try dsimp only at *); (have e := playB_length (now := x1.now) x1.l h2.2 0 (Nat.zero_le _); grind))⟩,
 trivial⟩,
 ⟨⟨(by (try dsimp only at *); (have e := playB_length (now := x1.now) x1.l h2.2 0 (Nat.zero_le _); grind))⟩,
 (by (try dsimp only at *); exact RowsEq.rfl')⟩,
 ⟨(by (try dsimp only at *); (have e : Ref.new x1.n x1.now = playY x1.n x1.now x1.l 0 := rfl; grind)),
 (by (try dsimp only at *); (have e : Ref.new x1.n x1.now = playY x1.n x1.now x1.l 0 := rfl; grind)),
 ⟨rfl,
 (by (try dsimp only at *); (have e : Ref.new x1.n x1.now = playY x1.n x1.now x1.l 0 := rfl; grind))⟩,
 trivial⟩,
 ⟨⟨(by (try dsimp only at *); (have e : Ref.new x1.n x1.now = playY x1.n x1.now x1.l 0 := rfl; grind))⟩,
 (by (try dsimp only at *); exact RowsEq.rfl')⟩,
 ⟨rfl,
 rfl,
 trivial,
 trivial⟩,
 ⟨⟨Nat.le_refl _⟩,
 RowsEq.rfl'⟩,
 trivial⟩,
 fun x12 => fun h13 => ⟨fun g14 => have h14 := of_decide_eq_true g14; ⟨⟨(by (try dsimp only at *); omega),
 (by (try dsimp only at *); omega)⟩,
 (by (try dsimp only at *); omega),
 ({ b := playB (PlayX.n x1) (PlayX.now x1) (PlayX.l x1) x12, s := Came.sta (List.getD (PlayX.l x1) ((0 : Nat) + Int.toNat (↑x12 : Int)) default), now := Came.now (List.getD (PlayX.l x1) ((0 : Nat) + Int.toNat (↑x12 : Int)) default) : BoxS }),
 (by (try dsimp only at *); (have e := (same_play (now := x1.now) h2.2 x1.l x12 h13).ok; exact e)),
 ⟨⟨rfl,
 rfl⟩,
 ⟨rfl,
 rfl,
 rfl,
 rfl,
 rfl,
 trivial⟩,
 rfl,
 trivial⟩,
 ⟨⟨⟨rfl,
 rfl⟩,
 trivial⟩,
 ⟨⟨Nat.le_refl _⟩,
 RowsEq.rfl'⟩,
 trivial⟩,
 ({ y := playY (PlayX.n x1) (PlayX.now x1) (PlayX.l x1) x12, s := Came.sta (List.getD (PlayX.l x1) ((0 : Nat) + Int.toNat (↑x12 : Int)) default), now := Came.now (List.getD (PlayX.l x1) ((0 : Nat) + Int.toNat (↑x12 : Int)) default) : RefS }),
 (by (try dsimp only at *); (have e := play_few (n := x1.n) (now := x1.now) x1.l x12 h13; omega)),
 ⟨⟨rfl,
 rfl,
 ⟨rfl,
 rfl⟩,
 trivial⟩,
 ⟨rfl,
 rfl,
 rfl,
 rfl,
 rfl,
 trivial⟩,
 rfl,
 trivial⟩,
 ⟨⟨⟨Nat.le_refl _⟩,
 RowsEq.rfl'⟩,
 trivial⟩,
 fun h17 => ⟨fun h18 => ⟨⟨(by (try dsimp only at *); omega),
 (by (try dsimp only at *); omega)⟩,
 (x12 + (1 : Nat)),
 (by (try dsimp only at *); omega),
 (by (try dsimp only at *); omega),
 ⟨(by (try dsimp only at *); omega),
 ⟨rfl,
 rfl⟩,
 ⟨rfl,
 rfl⟩,
 (by (try dsimp only at *); (have e := same_play (now := x1.now) h2.2 x1.l x12 h13; have e1 := e.isNew; have e2 := e.err; grind)),
 rfl,
 ⟨rfl,
 rfl⟩,
 rfl,
 rfl,
 rfl,
 ⟨rfl,
 rfl⟩,
 trivial,
 rfl,
 rfl,
 ⟨rfl,
 rfl⟩,
 trivial⟩,
 ⟨⟨rfl,
 (by (try dsimp only at *); (have hk : x12 < x1.l.length := (by omega); simp only [Nat.zero_add, Int.toNat_natCast] at *; rw [playB_succ hk]; simp [add_length]))⟩,
 trivial⟩,
 ⟨⟨(by (try dsimp only at *); (have hk : x12 < x1.l.length := (by omega); simp only [Nat.zero_add, Int.toNat_natCast] at *; rw [playB_succ hk]; simp [add_length]))⟩,
 (by (try dsimp only at *); (have hk : x12 < x1.l.length := (by omega); simp only [Nat.zero_add, Int.toNat_natCast] at *; rw [playB_succ hk]; exact RowsEq.rfl'))⟩,
 ⟨(by (try dsimp only at *); (have hk : x12 < x1.l.length := (by omega); simp only [Nat.zero_add, Int.toNat_natCast] at *; rw [playY_succ hk])),
 (by (try dsimp only at *); (have hk : x12 < x1.l.length := (by omega); simp only [Nat.zero_add, Int.toNat_natCast] at *; rw [playY_succ hk])),
 ⟨rfl,
 (by (try dsimp only at *); (have hk : x12 < x1.l.length := (by omega); simp only [Nat.zero_add, Int.toNat_natCast] at *; rw [playY_succ hk]))⟩,
 trivial⟩,
 ⟨⟨(by
        (have hk : x12 < x1.l.length := (by omega); simp only [Nat.zero_add, Int.toNat_natCast] at *; rw [playY_succ hk]; exact Nat.le_refl _))⟩,
 (by (try dsimp only at *); (have hk : x12 < x1.l.length := (by omega); simp only [Nat.zero_add, Int.toNat_natCast] at *; rw [playY_succ hk]; exact RowsEq.rfl'))⟩,
 ⟨rfl,
 rfl,
 trivial,
 trivial⟩,
 ⟨⟨Nat.le_refl _⟩,
 RowsEq.rfl'⟩,
 trivial⟩,
 fun h20 => ⟨⟨(by (try dsimp only at *); omega),
 (by (try dsimp only at *); omega)⟩,
 (x12 + (1 : Nat)),
 (by (try dsimp only at *); omega),
 (by (try dsimp only at *); omega),
 ⟨(by (try dsimp only at *); omega),
 ⟨rfl,
 rfl⟩,
 ⟨rfl,
 rfl⟩,
 (by (try dsimp only at *); (have e := same_play (now := x1.now) h2.2 x1.l x12 h13; have e1 := e.isNew; have e2 := e.err; grind)),
 rfl,
 ⟨rfl,
 rfl⟩,
 rfl,
 rfl,
 rfl,
 ⟨rfl,
 rfl⟩,
 trivial,
 rfl,
 rfl,
 ⟨rfl,
 rfl⟩,
 trivial⟩,
 ⟨⟨rfl,
 (by (try dsimp only at *); (have e := same_play (now := x1.now) h2.2 x1.l x12 h13; have e1 := e.isNew; have e2 := e.err; grind))⟩,
 trivial⟩,
 ⟨⟨(by (try dsimp only at *); (have e := same_play (now := x1.now) h2.2 x1.l x12 h13; have e1 := e.isNew; have e2 := e.err; grind))⟩,
 (by (try dsimp only at *); (have e := same_play (now := x1.now) h2.2 x1.l x12 h13; have e1 := e.isNew; have e2 := e.err; grind))⟩,
 ⟨(by (try dsimp only at *); (have e := same_play (now := x1.now) h2.2 x1.l x12 h13; have e1 := e.isNew; have e2 := e.err; grind)),
 (by (try dsimp only at *); (have e := same_play (now := x1.now) h2.2 x1.l x12 h13; have e1 := e.isNew; have e2 := e.err; grind)),
 ⟨rfl,
 (by (try dsimp only at *); (have e := same_play (now := x1.now) h2.2 x1.l x12 h13; have e1 := e.isNew; have e2 := e.err; grind))⟩,
 trivial⟩,
 ⟨⟨(by (try dsimp only at *); (have e := same_play (now := x1.now) h2.2 x1.l x12 h13; have e1 := e.isNew; have e2 := e.err; grind))⟩,
 (by (try dsimp only at *); (have e := same_play (now := x1.now) h2.2 x1.l x12 h13; have e1 := e.isNew; have e2 := e.err; grind))⟩,
 ⟨rfl,
 rfl,
 trivial,
 trivial⟩,
 ⟨⟨Nat.le_refl _⟩,
 RowsEq.rfl'⟩,
 trivial⟩⟩,
 fun h22 => ⟨⟨(by (try dsimp only at *); omega),
 (by (try dsimp only at *); omega)⟩,
 (x12 + (1 : Nat)),
 (by (try dsimp only at *); omega),
 (by (try dsimp only at *); omega),
 ⟨(by (try dsimp only at *); omega),
 ⟨rfl,
 rfl⟩,
 ⟨rfl,
 rfl⟩,
 (by (try dsimp only at *); grind),
 rfl,
 ⟨rfl,
 rfl⟩,
 rfl,
 rfl,
 rfl,
 ⟨rfl,
 rfl⟩,
 trivial,
 rfl,
 rfl,
 ⟨rfl,
 rfl⟩,
 trivial⟩,
 ⟨⟨rfl,
 (by (try dsimp only at *); grind)⟩,
 trivial⟩,
 ⟨⟨(by (try dsimp only at *); grind)⟩,
 (by (try dsimp only at *); grind)⟩,
 ⟨(by (try dsimp only at *); grind),
 (by (try dsimp only at *); grind),
 ⟨rfl,
 (by (try dsimp only at *); grind)⟩,
 trivial⟩,
 ⟨⟨(by (try dsimp only at *); grind)⟩,
 (by (try dsimp only at *); grind)⟩,
 ⟨rfl,
 rfl,
 trivial,
 trivial⟩,
 ⟨⟨Nat.le_refl _⟩,
 RowsEq.rfl'⟩,
 trivial⟩⟩,
 fun g24 => have h24 := of_decide_eq_false g24; ⟨⟨⟨rfl,
 rfl⟩,
 ⟨(by (try dsimp only at *); (obtain rfl : x12 = x1.l.length := (by omega); first | rfl | exact RowsEq.rfl' | exact Nat.le_refl _)),
 (by (try dsimp only at *); (obtain rfl : x12 = x1.l.length := (by omega); first | rfl | exact RowsEq.rfl' | exact Nat.le_refl _)),
 ⟨rfl,
 (by (try dsimp only at *); (obtain rfl : x12 = x1.l.length := (by omega); first | rfl | exact RowsEq.rfl' | exact Nat.le_refl _))⟩,
 trivial⟩,
 rfl,
 trivial⟩,
 ⟨⟨rfl,
 (by (try dsimp only at *); (obtain rfl : x12 = x1.l.length := (by omega); first | rfl | exact RowsEq.rfl' | exact Nat.le_refl _))⟩,
 trivial⟩,
 ⟨⟨(by (try dsimp only at *); (obtain rfl : x12 = x1.l.length := (by omega); first | rfl | exact RowsEq.rfl' | exact Nat.le_refl _))⟩,
 (by (try dsimp only at *); (obtain rfl : x12 = x1.l.length := (by omega); first | rfl | exact RowsEq.rfl' | exact Nat.le_refl _))⟩,
 ⟨⟨(by (try dsimp only at *); (obtain rfl : x12 = x1.l.length := (by omega); first | rfl | exact RowsEq.rfl' | exact Nat.le_refl _))⟩,
 (by (try dsimp only at *); (obtain rfl : x12 = x1.l.length := (by omega); first | rfl | exact RowsEq.rfl' | exact Nat.le_refl _))⟩,
 trivial⟩⟩⟩⟩,
 fun g25 => have h25 := of_decide_eq_true g25; ⟨⟨(by (try dsimp only at *); (exfalso; simp only [unitsOk] at *; grind)),
 ⟨(by (try dsimp only at *); (exfalso; simp only [unitsOk] at *; grind)),
 (by (try dsimp only at *); (exfalso; simp only [unitsOk] at *; grind)),
 ⟨rfl,
 (by (try dsimp only at *); (exfalso; simp only [unitsOk] at *; grind))⟩,
 trivial⟩,
 (by (try dsimp only at *); (exfalso; simp only [unitsOk] at *; grind)),
 trivial⟩,
 (by (try dsimp only at *); (exfalso; simp only [unitsOk] at *; grind)),
 (by (try dsimp only at *); (exfalso; simp only [unitsOk] at *; grind)),
 ⟨⟨(by (try dsimp only at *); (exfalso; simp only [unitsOk] at *; grind))⟩,
 (by (try dsimp only at *); (exfalso; simp only [unitsOk] at *; grind))⟩,
 trivial⟩⟩,
 fun g26 => have h26 := of_decide_eq_false g26; ⟨({ n := PlayX.n x1, now := PlayX.now x1 : NewX }),
 (by (try dsimp only at *); omega),
 ⟨rfl,
 rfl,
 trivial⟩,
 trivial,
 ({ n := PlayX.n x1, now := PlayX.now x1 : UI }),
 trivial,
 ⟨rfl,
 rfl,
 trivial⟩,
 trivial,
 fun g29 => have h29 := of_decide_eq_false g29; ⟨fun h30 => ⟨⟨(by (try dsimp only at *); omega),
 ⟨(by (try dsimp only at *); omega),
 (by (try dsimp only at *); omega),
 ⟨rfl,
 (by (try dsimp only at *); omega)⟩,
 trivial⟩,
 (by (try dsimp only at *); omega),
 trivial⟩,
 (by (try dsimp only at *); omega),
 (by (try dsimp only at *); omega),
 ⟨⟨(by (try dsimp only at *); omega)⟩,
 (by (try dsimp only at *); omega)⟩,
 trivial⟩,
 fun h31 => ⟨⟨(by (try dsimp only at *); omega),
 ⟨(by (try dsimp only at *); omega),
 (by (try dsimp only at *); omega),
 ⟨rfl,
 (by (try dsimp only at *); omega)⟩,
 trivial⟩,
 rfl,
 trivial⟩,
 (by (try dsimp only at *); omega),
 (by (try dsimp only at *); omega),
 ⟨⟨(by (try dsimp only at *); omega)⟩,
 (by (try dsimp only at *); omega)⟩,
 trivial⟩⟩,
 fun g32 => have h32 := of_decide_eq_true g32; ⟨⟨(by (try dsimp only at *); omega),
 ⟨(by (try dsimp only at *); omega),
 (by (try dsimp only at *); omega),
 ⟨rfl,
 (by (try dsimp only at *); omega)⟩,
 trivial⟩,
 (by (try dsimp only at *); omega),
 trivial⟩,
 (by (try dsimp only at *); omega),
 (by (try dsimp only at *); omega),
 ⟨⟨(by (try dsimp only at *); omega)⟩,
 (by (try dsimp only at *); omega)⟩,
 trivial⟩⟩⟩⟩)

def playedNo : CT where
  X := PlayX
  pre := fun x => ¬ (0 ≤ x.n ∧ x.n ≤ 256) ∧ x.l.length ≤ 60
  args := playArgs
  g0 := playG0
  res := fun x => .tup [.np, refV ⟨0, 0, []⟩ 3, .b true]
  g1 := fun x => refH ⟨0, 0, []⟩ .bor 3
set_option maxRecDepth 100000 in
theorem playedNo_keeps : Keeps cfg5 Try.f9 playedNo noIv := Eq.mp (show ((∀ x1 : PlayX,
 ((¬((0 : Int) ≤ PlayX.n x1 ∧ PlayX.n x1 ≤ (256 : Int)) ∧ List.length (PlayX.l x1) ≤ (60 : Nat)) →
 (((decide ((60 : Int) < (↑(List.length (PlayX.l x1)) : Int)) = true) →
 (((True) ∧
 ((((0 : Int) = (0 : Int)) ∧
 (((0 : Int) = (0 : Int)) ∧
 (((True) ∧
 (((0 : Nat) = (0 : Nat)) ∧
 (List.length (@List.nil Came) = (0 : Nat)))) ∧
 (True)))) ∧
 ((true = true) ∧
 (True)))) ∧
 ((List.length (@List.nil Came) = (0 : Nat)) ∧
 (True)))) ∧
 ((decide ((60 : Int) < (↑(List.length (PlayX.l x1)) : Int)) = false) →
 (((decide ((0 : Int) ≤ PlayX.n x1 ∧ PlayX.n x1 ≤ (256 : Int)) = true) →
 (∃ x6 : NewX,
 ((((0 : Int) ≤ NewX.n x6) ∧
 (NewX.n x6 ≤ (256 : Int))) ∧
 (((PlayX.n x1 = NewX.n x6) ∧
 ((PlayX.now x1 = NewX.now x6) ∧
 (True))) ∧
 ((True) ∧
 (∃ x7 : UI,
 ((True) ∧
 (((PlayX.n x1 = UI.n x7) ∧
 ((PlayX.now x1 = UI.now x7) ∧
 (True))) ∧
 ((True) ∧
 (((decide ((0 : Int) ≠ if unitsOk (UI.n x7) = true then (0 : Int) else (1 : Int)) = false) →
 ((((false != decide ((if unitsOk (UI.n x7) = true then (0 : Int) else (1 : Int)) ≠ (0 : Int))) = true) →
 (((True) ∧
 (((Ref.units (Ref.new (UI.n x7) (UI.now x7)) = (0 : Int)) ∧
 ((Ref.since (Ref.new (UI.n x7) (UI.now x7)) = (0 : Int)) ∧
 ((((0 : Nat) = (0 : Nat)) ∧
 (List.length (Ref.news (Ref.new (UI.n x7) (UI.now x7))) = List.length (@List.nil Came))) ∧
 (True)))) ∧
 ((false = true) ∧
 (True)))) ∧
 (((RLe (List.length (@List.nil Came)) (List.length (Ref.news (Ref.new (UI.n x7) (UI.now x7))))) ∧
 (RowsEq (Kd.int IntKind.i64 :: Kd.int IntKind.i64 :: Kd.int IntKind.i64 :: Kd.int IntKind.i64 :: Kd.int IntKind.i64 :: Kd.int IntKind.i64 :: @List.nil Kd) (List.length (@List.nil Came)) (encL encCame (Ref.news (Ref.new (UI.n x7) (UI.now x7)))) (encL encCame (@List.nil Came)))) ∧
 (True)))) ∧
 (((false != decide ((if unitsOk (UI.n x7) = true then (0 : Int) else (1 : Int)) ≠ (0 : Int))) = false) →
 (Stuck (12 : Nat) (0 : Nat))))) ∧
 ((decide ((0 : Int) ≠ if unitsOk (UI.n x7) = true then (0 : Int) else (1 : Int)) = true) →
 (((True) ∧
 (((Ref.units (Ref.new (UI.n x7) (UI.now x7)) = (0 : Int)) ∧
 ((Ref.since (Ref.new (UI.n x7) (UI.now x7)) = (0 : Int)) ∧
 ((((0 : Nat) = (0 : Nat)) ∧
 (List.length (Ref.news (Ref.new (UI.n x7) (UI.now x7))) = List.length (@List.nil Came))) ∧
 (True)))) ∧
 ((false = true) ∧
 (True)))) ∧
 (((RLe (List.length (@List.nil Came)) (List.length (Ref.news (Ref.new (UI.n x7) (UI.now x7))))) ∧
 (RowsEq (Kd.int IntKind.i64 :: Kd.int IntKind.i64 :: Kd.int IntKind.i64 :: Kd.int IntKind.i64 :: Kd.int IntKind.i64 :: Kd.int IntKind.i64 :: @List.nil Kd) (List.length (@List.nil Came)) (encL encCame (Ref.news (Ref.new (UI.n x7) (UI.now x7)))) (encL encCame (@List.nil Came)))) ∧
 (True)))))))))))))) ∧
 ((decide ((0 : Int) ≤ PlayX.n x1 ∧ PlayX.n x1 ≤ (256 : Int)) = false) →
 (∃ x13 : NewX,
 ((¬((0 : Int) ≤ NewX.n x13 ∧ NewX.n x13 ≤ (256 : Int))) ∧
 (((PlayX.n x1 = NewX.n x13) ∧
 ((PlayX.now x1 = NewX.now x13) ∧
 (True))) ∧
 ((True) ∧
 (∃ x14 : UI,
 ((True) ∧
 (((PlayX.n x1 = UI.n x14) ∧
 ((PlayX.now x1 = UI.now x14) ∧
 (True))) ∧
 ((True) ∧
 (((decide ((1 : Int) ≠ if unitsOk (UI.n x14) = true then (0 : Int) else (1 : Int)) = false) →
 ((((true != decide ((if unitsOk (UI.n x14) = true then (0 : Int) else (1 : Int)) ≠ (0 : Int))) = true) →
 (((True) ∧
 (((Ref.units (Ref.new (UI.n x14) (UI.now x14)) = (0 : Int)) ∧
 ((Ref.since (Ref.new (UI.n x14) (UI.now x14)) = (0 : Int)) ∧
 ((((0 : Nat) = (0 : Nat)) ∧
 (List.length (Ref.news (Ref.new (UI.n x14) (UI.now x14))) = List.length (@List.nil Came))) ∧
 (True)))) ∧
 ((false = true) ∧
 (True)))) ∧
 (((RLe (List.length (@List.nil Came)) (List.length (Ref.news (Ref.new (UI.n x14) (UI.now x14))))) ∧
 (RowsEq (Kd.int IntKind.i64 :: Kd.int IntKind.i64 :: Kd.int IntKind.i64 :: Kd.int IntKind.i64 :: Kd.int IntKind.i64 :: Kd.int IntKind.i64 :: @List.nil Kd) (List.length (@List.nil Came)) (encL encCame (Ref.news (Ref.new (UI.n x14) (UI.now x14)))) (encL encCame (@List.nil Came)))) ∧
 (True)))) ∧
 (((true != decide ((if unitsOk (UI.n x14) = true then (0 : Int) else (1 : Int)) ≠ (0 : Int))) = false) →
 (((True) ∧
 (((Ref.units (Ref.new (UI.n x14) (UI.now x14)) = (0 : Int)) ∧
 ((Ref.since (Ref.new (UI.n x14) (UI.now x14)) = (0 : Int)) ∧
 ((((0 : Nat) = (0 : Nat)) ∧
 (List.length (Ref.news (Ref.new (UI.n x14) (UI.now x14))) = List.length (@List.nil Came))) ∧
 (True)))) ∧
 ((true = true) ∧
 (True)))) ∧
 (((RLe (List.length (@List.nil Came)) (List.length (Ref.news (Ref.new (UI.n x14) (UI.now x14))))) ∧
 (RowsEq (Kd.int IntKind.i64 :: Kd.int IntKind.i64 :: Kd.int IntKind.i64 :: Kd.int IntKind.i64 :: Kd.int IntKind.i64 :: Kd.int IntKind.i64 :: @List.nil Kd) (List.length (@List.nil Came)) (encL encCame (Ref.news (Ref.new (UI.n x14) (UI.now x14)))) (encL encCame (@List.nil Came)))) ∧
 (True)))))) ∧
 ((decide ((1 : Int) ≠ if unitsOk (UI.n x14) = true then (0 : Int) else (1 : Int)) = true) →
 (((True) ∧
 (((Ref.units (Ref.new (UI.n x14) (UI.now x14)) = (0 : Int)) ∧
 ((Ref.since (Ref.new (UI.n x14) (UI.now x14)) = (0 : Int)) ∧
 ((((0 : Nat) = (0 : Nat)) ∧
 (List.length (Ref.news (Ref.new (UI.n x14) (UI.now x14))) = List.length (@List.nil Came))) ∧
 (True)))) ∧
 ((false = true) ∧
 (True)))) ∧
 (((RLe (List.length (@List.nil Came)) (List.length (Ref.news (Ref.new (UI.n x14) (UI.now x14))))) ∧
 (RowsEq (Kd.int IntKind.i64 :: Kd.int IntKind.i64 :: Kd.int IntKind.i64 :: Kd.int IntKind.i64 :: Kd.int IntKind.i64 :: Kd.int IntKind.i64 :: @List.nil Kd) (List.length (@List.nil Came)) (encL encCame (Ref.news (Ref.new (UI.n x14) (UI.now x14)))) (encL encCame (@List.nil Came)))) ∧
 (True)))))))))))))))))))) = Keeps cfg5 Try.f9 playedNo noIv by kernel_rfl) (fun x1 => fun h2 => ⟨fun g3 => have h3 := of_decide_eq_true g3; ⟨⟨trivial,
 ⟨rfl,
 rfl,
 ⟨trivial,
 rfl,
 (by omega)⟩,
 trivial⟩,
 rfl,
 trivial⟩,
 (by omega),
 trivial⟩,
 fun g4 => have h4 := of_decide_eq_false g4; ⟨fun g5 => have h5 := of_decide_eq_true g5; ⟨({ n := PlayX.n x1, now := PlayX.now x1 : NewX }),
 ⟨(by (try dsimp only at *); omega),
 (by (try dsimp only at *); omega)⟩,
 ⟨rfl,
 rfl,
 trivial⟩,
 trivial,
 ({ n := PlayX.n x1, now := PlayX.now x1 : UI }),
 trivial,
 ⟨rfl,
 rfl,
 trivial⟩,
 trivial,
 fun g8 => have h8 := of_decide_eq_false g8; ⟨fun h9 => ⟨⟨trivial,
 ⟨(by (try dsimp only at *); omega),
 (by (try dsimp only at *); omega),
 ⟨rfl,
 (by (try dsimp only at *); omega)⟩,
 trivial⟩,
 (by (try dsimp only at *); omega),
 trivial⟩,
 ⟨⟨(by (try dsimp only at *); omega)⟩,
 (by (try dsimp only at *); omega)⟩,
 trivial⟩,
 fun h10 => (by (try dsimp only at *); omega)⟩,
 fun g11 => have h11 := of_decide_eq_true g11; ⟨⟨trivial,
 ⟨(by (try dsimp only at *); omega),
 (by (try dsimp only at *); omega),
 ⟨rfl,
 (by (try dsimp only at *); omega)⟩,
 trivial⟩,
 (by (try dsimp only at *); omega),
 trivial⟩,
 ⟨⟨(by (try dsimp only at *); omega)⟩,
 (by (try dsimp only at *); omega)⟩,
 trivial⟩⟩,
 fun g12 => have h12 := of_decide_eq_false g12; ⟨({ n := PlayX.n x1, now := PlayX.now x1 : NewX }),
 (by (try dsimp only at *); omega),
 ⟨rfl,
 rfl,
 trivial⟩,
 trivial,
 ({ n := PlayX.n x1, now := PlayX.now x1 : UI }),
 trivial,
 ⟨rfl,
 rfl,
 trivial⟩,
 trivial,
 fun g15 => have h15 := of_decide_eq_false g15; ⟨fun h16 => ⟨⟨trivial,
 ⟨(by (try dsimp only at *); grind),
 (by (try dsimp only at *); grind),
 ⟨rfl,
 (by (try dsimp only at *); grind)⟩,
 trivial⟩,
 (by (try dsimp only at *); grind),
 trivial⟩,
 ⟨⟨(by (try dsimp only at *); grind)⟩,
 (by (try dsimp only at *); grind)⟩,
 trivial⟩,
 fun h17 => ⟨⟨trivial,
 ⟨(by (try dsimp only at *); grind [Ref.new, unitsOk]),
 (by (try dsimp only at *); grind [Ref.new, unitsOk]),
 ⟨rfl,
 (by (try dsimp only at *); grind [Ref.new, unitsOk])⟩,
 trivial⟩,
 rfl,
 trivial⟩,
 ⟨⟨(by (try dsimp only at *); grind)⟩,
 (by (try dsimp only at *); (have e : Ref.new x1.n x1.now = ⟨0, 0, []⟩ := (by grind [Ref.new, unitsOk]); rw [e]; exact RowsEq.rfl'))⟩,
 trivial⟩⟩,
 fun g18 => have h18 := of_decide_eq_true g18; ⟨⟨trivial,
 ⟨(by (try dsimp only at *); grind [Ref.new, unitsOk]),
 (by (try dsimp only at *); grind [Ref.new, unitsOk]),
 ⟨rfl,
 (by (try dsimp only at *); grind [Ref.new, unitsOk])⟩,
 trivial⟩,
 (by (try dsimp only at *); grind [Ref.new, unitsOk]),
 trivial⟩,
 ⟨⟨(by (try dsimp only at *); grind)⟩,
 (by (try dsimp only at *); grind [Ref.new, unitsOk])⟩,
 trivial⟩⟩⟩⟩)

def playedLong : CT where
  X := PlayX
  pre := fun x => 60 < x.l.length
  args := playArgs
  g0 := playG0
  res := fun x => .tup [.np, refV ⟨0, 0, []⟩ 3, .b true]
  g1 := fun x => refH ⟨0, 0, []⟩ .bor 3
set_option maxRecDepth 100000 in
theorem playedLong_keeps : Keeps cfg5 Try.f9 playedLong noIv := Eq.mp (show ((∀ x1 : PlayX,
 (((60 : Nat) < List.length (PlayX.l x1)) →
 (((decide ((60 : Int) < (↑(List.length (PlayX.l x1)) : Int)) = true) →
 (((True) ∧
 ((((0 : Int) = (0 : Int)) ∧
 (((0 : Int) = (0 : Int)) ∧
 (((True) ∧
 (((0 : Nat) = (0 : Nat)) ∧
 (List.length (@List.nil Came) = (0 : Nat)))) ∧
 (True)))) ∧
 ((true = true) ∧
 (True)))) ∧
 ((List.length (@List.nil Came) = (0 : Nat)) ∧
 (True)))) ∧
 ((decide ((60 : Int) < (↑(List.length (PlayX.l x1)) : Int)) = false) →
 (((decide ((0 : Int) ≤ PlayX.n x1 ∧ PlayX.n x1 ≤ (256 : Int)) = true) →
 (∃ x6 : NewX,
 ((((0 : Int) ≤ NewX.n x6) ∧
 (NewX.n x6 ≤ (256 : Int))) ∧
 (((PlayX.n x1 = NewX.n x6) ∧
 ((PlayX.now x1 = NewX.now x6) ∧
 (True))) ∧
 ((True) ∧
 (∃ x7 : UI,
 ((True) ∧
 (((PlayX.n x1 = UI.n x7) ∧
 ((PlayX.now x1 = UI.now x7) ∧
 (True))) ∧
 ((True) ∧
 (((decide ((0 : Int) ≠ if unitsOk (UI.n x7) = true then (0 : Int) else (1 : Int)) = false) →
 ((((false != decide ((if unitsOk (UI.n x7) = true then (0 : Int) else (1 : Int)) ≠ (0 : Int))) = true) →
 (((True) ∧
 (((Ref.units (Ref.new (UI.n x7) (UI.now x7)) = (0 : Int)) ∧
 ((Ref.since (Ref.new (UI.n x7) (UI.now x7)) = (0 : Int)) ∧
 ((((0 : Nat) = (0 : Nat)) ∧
 (List.length (Ref.news (Ref.new (UI.n x7) (UI.now x7))) = List.length (@List.nil Came))) ∧
 (True)))) ∧
 ((false = true) ∧
 (True)))) ∧
 (((RLe (List.length (@List.nil Came)) (List.length (Ref.news (Ref.new (UI.n x7) (UI.now x7))))) ∧
 (RowsEq (Kd.int IntKind.i64 :: Kd.int IntKind.i64 :: Kd.int IntKind.i64 :: Kd.int IntKind.i64 :: Kd.int IntKind.i64 :: Kd.int IntKind.i64 :: @List.nil Kd) (List.length (@List.nil Came)) (encL encCame (Ref.news (Ref.new (UI.n x7) (UI.now x7)))) (encL encCame (@List.nil Came)))) ∧
 (True)))) ∧
 (((false != decide ((if unitsOk (UI.n x7) = true then (0 : Int) else (1 : Int)) ≠ (0 : Int))) = false) →
 (Stuck (12 : Nat) (0 : Nat))))) ∧
 ((decide ((0 : Int) ≠ if unitsOk (UI.n x7) = true then (0 : Int) else (1 : Int)) = true) →
 (((True) ∧
 (((Ref.units (Ref.new (UI.n x7) (UI.now x7)) = (0 : Int)) ∧
 ((Ref.since (Ref.new (UI.n x7) (UI.now x7)) = (0 : Int)) ∧
 ((((0 : Nat) = (0 : Nat)) ∧
 (List.length (Ref.news (Ref.new (UI.n x7) (UI.now x7))) = List.length (@List.nil Came))) ∧
 (True)))) ∧
 ((false = true) ∧
 (True)))) ∧
 (((RLe (List.length (@List.nil Came)) (List.length (Ref.news (Ref.new (UI.n x7) (UI.now x7))))) ∧
 (RowsEq (Kd.int IntKind.i64 :: Kd.int IntKind.i64 :: Kd.int IntKind.i64 :: Kd.int IntKind.i64 :: Kd.int IntKind.i64 :: Kd.int IntKind.i64 :: @List.nil Kd) (List.length (@List.nil Came)) (encL encCame (Ref.news (Ref.new (UI.n x7) (UI.now x7)))) (encL encCame (@List.nil Came)))) ∧
 (True)))))))))))))) ∧
 ((decide ((0 : Int) ≤ PlayX.n x1 ∧ PlayX.n x1 ≤ (256 : Int)) = false) →
 (∃ x13 : NewX,
 ((¬((0 : Int) ≤ NewX.n x13 ∧ NewX.n x13 ≤ (256 : Int))) ∧
 (((PlayX.n x1 = NewX.n x13) ∧
 ((PlayX.now x1 = NewX.now x13) ∧
 (True))) ∧
 ((True) ∧
 (∃ x14 : UI,
 ((True) ∧
 (((PlayX.n x1 = UI.n x14) ∧
 ((PlayX.now x1 = UI.now x14) ∧
 (True))) ∧
 ((True) ∧
 (((decide ((1 : Int) ≠ if unitsOk (UI.n x14) = true then (0 : Int) else (1 : Int)) = false) →
 ((((true != decide ((if unitsOk (UI.n x14) = true then (0 : Int) else (1 : Int)) ≠ (0 : Int))) = true) →
 (((True) ∧
 (((Ref.units (Ref.new (UI.n x14) (UI.now x14)) = (0 : Int)) ∧
 ((Ref.since (Ref.new (UI.n x14) (UI.now x14)) = (0 : Int)) ∧
 ((((0 : Nat) = (0 : Nat)) ∧
 (List.length (Ref.news (Ref.new (UI.n x14) (UI.now x14))) = List.length (@List.nil Came))) ∧
 (True)))) ∧
 ((false = true) ∧
 (True)))) ∧
 (((RLe (List.length (@List.nil Came)) (List.length (Ref.news (Ref.new (UI.n x14) (UI.now x14))))) ∧
 (RowsEq (Kd.int IntKind.i64 :: Kd.int IntKind.i64 :: Kd.int IntKind.i64 :: Kd.int IntKind.i64 :: Kd.int IntKind.i64 :: Kd.int IntKind.i64 :: @List.nil Kd) (List.length (@List.nil Came)) (encL encCame (Ref.news (Ref.new (UI.n x14) (UI.now x14)))) (encL encCame (@List.nil Came)))) ∧
 (True)))) ∧
 (((true != decide ((if unitsOk (UI.n x14) = true then (0 : Int) else (1 : Int)) ≠ (0 : Int))) = false) →
 (((True) ∧
 (((Ref.units (Ref.new (UI.n x14) (UI.now x14)) = (0 : Int)) ∧
 ((Ref.since (Ref.new (UI.n x14) (UI.now x14)) = (0 : Int)) ∧
 ((((0 : Nat) = (0 : Nat)) ∧
 (List.length (Ref.news (Ref.new (UI.n x14) (UI.now x14))) = List.length (@List.nil Came))) ∧
 (True)))) ∧
 ((true = true) ∧
 (True)))) ∧
 (((RLe (List.length (@List.nil Came)) (List.length (Ref.news (Ref.new (UI.n x14) (UI.now x14))))) ∧
 (RowsEq (Kd.int IntKind.i64 :: Kd.int IntKind.i64 :: Kd.int IntKind.i64 :: Kd.int IntKind.i64 :: Kd.int IntKind.i64 :: Kd.int IntKind.i64 :: @List.nil Kd) (List.length (@List.nil Came)) (encL encCame (Ref.news (Ref.new (UI.n x14) (UI.now x14)))) (encL encCame (@List.nil Came)))) ∧
 (True)))))) ∧
 ((decide ((1 : Int) ≠ if unitsOk (UI.n x14) = true then (0 : Int) else (1 : Int)) = true) →
 (((True) ∧
 (((Ref.units (Ref.new (UI.n x14) (UI.now x14)) = (0 : Int)) ∧
 ((Ref.since (Ref.new (UI.n x14) (UI.now x14)) = (0 : Int)) ∧
 ((((0 : Nat) = (0 : Nat)) ∧
 (List.length (Ref.news (Ref.new (UI.n x14) (UI.now x14))) = List.length (@List.nil Came))) ∧
 (True)))) ∧
 ((false = true) ∧
 (True)))) ∧
 (((RLe (List.length (@List.nil Came)) (List.length (Ref.news (Ref.new (UI.n x14) (UI.now x14))))) ∧
 (RowsEq (Kd.int IntKind.i64 :: Kd.int IntKind.i64 :: Kd.int IntKind.i64 :: Kd.int IntKind.i64 :: Kd.int IntKind.i64 :: Kd.int IntKind.i64 :: @List.nil Kd) (List.length (@List.nil Came)) (encL encCame (Ref.news (Ref.new (UI.n x14) (UI.now x14)))) (encL encCame (@List.nil Came)))) ∧
 (True)))))))))))))))))))) = Keeps cfg5 Try.f9 playedLong noIv by kernel_rfl) (fun x1 => fun h2 => ⟨fun g3 => have h3 := of_decide_eq_true g3; ⟨⟨trivial,
 ⟨rfl,
 rfl,
 ⟨trivial,
 rfl,
 (by grind)⟩,
 trivial⟩,
 rfl,
 trivial⟩,
 (by grind),
 trivial⟩,
 fun g4 => have h4 := of_decide_eq_false g4; ⟨fun g5 => have h5 := of_decide_eq_true g5; ⟨({ n := PlayX.n x1, now := PlayX.now x1 : NewX }),
 ⟨(by (try dsimp only at *); omega),
 (by (try dsimp only at *); omega)⟩,
 ⟨rfl,
 rfl,
 trivial⟩,
 trivial,
 ({ n := PlayX.n x1, now := PlayX.now x1 : UI }),
 trivial,
 ⟨rfl,
 rfl,
 trivial⟩,
 trivial,
 fun g8 => have h8 := of_decide_eq_false g8; ⟨fun h9 => ⟨⟨trivial,
 ⟨(by (try dsimp only at *); omega),
 (by (try dsimp only at *); omega),
 ⟨rfl,
 (by (try dsimp only at *); omega)⟩,
 trivial⟩,
 (by (try dsimp only at *); omega),
 trivial⟩,
 ⟨⟨(by (try dsimp only at *); omega)⟩,
 (by (try dsimp only at *); omega)⟩,
 trivial⟩,
 fun h10 => (by (try dsimp only at *); omega)⟩,
 fun g11 => have h11 := of_decide_eq_true g11; ⟨⟨trivial,
 ⟨(by (try dsimp only at *); omega),
 (by (try dsimp only at *); omega),
 ⟨rfl,
 (by (try dsimp only at *); omega)⟩,
 trivial⟩,
 (by (try dsimp only at *); omega),
 trivial⟩,
 ⟨⟨(by (try dsimp only at *); omega)⟩,
 (by (try dsimp only at *); omega)⟩,
 trivial⟩⟩,
 fun g12 => have h12 := of_decide_eq_false g12; ⟨({ n := PlayX.n x1, now := PlayX.now x1 : NewX }),
 (by (try dsimp only at *); omega),
 ⟨rfl,
 rfl,
 trivial⟩,
 trivial,
 ({ n := PlayX.n x1, now := PlayX.now x1 : UI }),
 trivial,
 ⟨rfl,
 rfl,
 trivial⟩,
 trivial,
 fun g15 => have h15 := of_decide_eq_false g15; ⟨fun h16 => ⟨⟨trivial,
 ⟨(by (try dsimp only at *); omega),
 (by (try dsimp only at *); omega),
 ⟨rfl,
 (by (try dsimp only at *); omega)⟩,
 trivial⟩,
 (by (try dsimp only at *); omega),
 trivial⟩,
 ⟨⟨(by (try dsimp only at *); omega)⟩,
 (by (try dsimp only at *); omega)⟩,
 trivial⟩,
 fun h17 => ⟨⟨trivial,
 ⟨(by (try dsimp only at *); omega),
 (by (try dsimp only at *); omega),
 ⟨rfl,
 (by (try dsimp only at *); omega)⟩,
 trivial⟩,
 rfl,
 trivial⟩,
 ⟨⟨(by (try dsimp only at *); omega)⟩,
 (by (try dsimp only at *); omega)⟩,
 trivial⟩⟩,
 fun g18 => have h18 := of_decide_eq_true g18; ⟨⟨trivial,
 ⟨(by (try dsimp only at *); omega),
 (by (try dsimp only at *); omega),
 ⟨rfl,
 (by (try dsimp only at *); omega)⟩,
 trivial⟩,
 (by (try dsimp only at *); omega),
 trivial⟩,
 ⟨⟨(by (try dsimp only at *); omega)⟩,
 (by (try dsimp only at *); omega)⟩,
 trivial⟩⟩⟩⟩)

end Go.Sym
