/- law30: the walks (I). -/
import Derived.Test.YtpggcpinebbjgaaA1
import Derived.Test.YtpggcpinebbjgaaXD
namespace Go.Sym
set_option linter.unusedVariables false
set_option linter.unusedSimpArgs false
open Go.Proofs
def boxH (m : Md) (b : Box) : List (Nat × Blk) := [(100000, .one .bor [.sl 100001 0 b.length]), (100001, .rows m k7 b.length (encL encRec b))]
def refV (y : Ref) (l : Nat) : SV := .agg [.i .i64 y.units, .i .i64 y.since, .sl l 0 y.news.length]
def refH (y : Ref) (m : Md) (l : Nat) : List (Nat × Blk) := [(l, .rows m k6 y.news.length (encL encCame y.news))]
def cfg0 : Cfg := ⟨T, [], [], noInv, 0, {}⟩

def clampC : CT where
  X := Int
  pre := fun _ => True
  args := fun t => [.i .i64 t]
  g0 := fun _ => []
  res := fun t => .i .i64 (minMax t)
  g1 := fun _ => []
set_option maxRecDepth 100000 in
theorem clamp_keeps : Keeps cfg0 Try.f29 clampC noIv := Eq.mp (show ((∀ x1 : Int,
 ((True) →
 ((min (max x1 (0 : Int)) (1099511627776 : Int) = minMax x1) ∧
 (True))))) = Keeps cfg0 Try.f29 clampC noIv by kernel_rfl) (fun x1 => fun h2 => ⟨(by rfl),
 trivial⟩)

set_option maxRecDepth 100000 in
theorem tick_keeps : Keeps cfg0 Try.f31 clampC noIv := Eq.mp (show ((∀ x1 : Int,
 ((True) →
 ((min (max x1 (0 : Int)) (1099511627776 : Int) = minMax x1) ∧
 (True))))) = Keeps cfg0 Try.f31 clampC noIv by kernel_rfl) (fun x1 => fun h2 => ⟨(by rfl),
 trivial⟩)


structure BoxI where
  b : Box
  u : Int
def hasC : CT where
  X := BoxI
  pre := fun _ => True
  args := fun x => [.p 100000 0 0, .i .i64 x.u]
  g0 := fun x => boxH .bor x.b
  res := fun x => .b (x.b.has x.u)
  g1 := fun _ => []
set_option maxRecDepth 100000 in
theorem has_keeps : Keeps cfg0 Try.f28 hasC noIv := Eq.mp (show ((∀ x1 : BoxI,
 ((True) →
 (((decide ((0 : Int) ≤ BoxI.u x1) = true) →
 ((decide (BoxI.u x1 < (↑(List.length (BoxI.b x1)) : Int)) = Box.has (BoxI.b x1) (BoxI.u x1)) ∧
 (True))) ∧
 ((decide ((0 : Int) ≤ BoxI.u x1) = false) →
 ((false = Box.has (BoxI.b x1) (BoxI.u x1)) ∧
 (True))))))) = Keeps cfg0 Try.f28 hasC noIv by kernel_rfl) (fun x1 => fun h2 => ⟨fun g3 => have h3 := of_decide_eq_true g3; ⟨(by (simp_all [Box.has]; done)),
 trivial⟩,
 fun g4 => have h4 := of_decide_eq_false g4; ⟨(by (simp_all [Box.has]; omega)),
 trivial⟩⟩)

def C1 : List (Nat × Con) := [(28, .one hasC), (29, .one clampC), (31, .one clampC)]
def cfg1 : Cfg := ⟨T, [], C1, noInv, 0, {}⟩
def missedC : CT where
  X := BoxI
  pre := fun x => x.b.Ok
  args := fun x => [.p 100000 0 0, .i .i64 x.u]
  g0 := fun x => boxH .bor x.b
  res := fun x => .i .i64 (x.b.missed x.u)
  g1 := fun _ => []
set_option maxRecDepth 100000 in
theorem missed_keeps : Keeps cfg1 Try.f13 missedC noIv := Eq.mp (show ((∀ x1 : BoxI,
 ((Box.Ok (BoxI.b x1)) →
 (∃ x3 : BoxI,
 ((True) ∧
 (((((0 : Nat) = (0 : Nat)) ∧
 ((0 : Nat) = (0 : Nat))) ∧
 ((BoxI.u x1 = BoxI.u x3) ∧
 (True))) ∧
 ((((((0 : Nat) = (0 : Nat)) ∧
 (List.length (BoxI.b x1) = List.length (BoxI.b x3))) ∧
 (True)) ∧
 (((RLe (List.length (BoxI.b x3)) (List.length (BoxI.b x1))) ∧
 (RowsEq (Kd.int IntKind.i64 :: Kd.int IntKind.i64 :: Kd.int IntKind.i64 :: Kd.int IntKind.i64 :: Kd.int IntKind.i64 :: Kd.int IntKind.i64 :: Kd.int IntKind.i64 :: @List.nil Kd) (List.length (BoxI.b x3)) (encL encRec (BoxI.b x1)) (encL encRec (BoxI.b x3)))) ∧
 (True))) ∧
 ((((!Box.has (BoxI.b x3) (BoxI.u x3)) = true) →
 (((0 : Int) = Box.missed (BoxI.b x1) (BoxI.u x1)) ∧
 (True))) ∧
 (((!Box.has (BoxI.b x3) (BoxI.u x3)) = false) →
 ((((0 : Int) ≤ BoxI.u x1) ∧
 (BoxI.u x1 < (↑(List.length (BoxI.b x1)) : Int))) ∧
 (((0 : Nat) + Int.toNat (BoxI.u x1) < List.length (BoxI.b x1)) ∧
 ((((0 : Int) ≤ BoxI.u x1) ∧
 (BoxI.u x1 < (↑(List.length (BoxI.b x1)) : Int))) ∧
 (((0 : Nat) + Int.toNat (BoxI.u x1) < List.length (BoxI.b x1)) ∧
 ((((-9223372036854775808 : Int) ≤ Sta.seq (Rec.sta (List.getD (BoxI.b x1) ((0 : Nat) + Int.toNat (BoxI.u x1)) default)) - Rec.added (List.getD (BoxI.b x1) ((0 : Nat) + Int.toNat (BoxI.u x1)) default)) ∧
 (Sta.seq (Rec.sta (List.getD (BoxI.b x1) ((0 : Nat) + Int.toNat (BoxI.u x1)) default)) - Rec.added (List.getD (BoxI.b x1) ((0 : Nat) + Int.toNat (BoxI.u x1)) default) ≤ (9223372036854775807 : Int))) ∧
 ((Sta.seq (Rec.sta (List.getD (BoxI.b x1) ((0 : Nat) + Int.toNat (BoxI.u x1)) default)) - Rec.added (List.getD (BoxI.b x1) ((0 : Nat) + Int.toNat (BoxI.u x1)) default) = Box.missed (BoxI.b x1) (BoxI.u x1)) ∧
 (True)))))))))))))))) = Keeps cfg1 Try.f13 missedC noIv by kernel_rfl) (fun x1 => fun h2 => ⟨(x1),
 trivial,
 ⟨⟨rfl,
 rfl⟩,
 rfl,
 trivial⟩,
 ⟨⟨⟨rfl,
 rfl⟩,
 trivial⟩,
 ⟨⟨Nat.le_refl _⟩,
 RowsEq.rfl'⟩,
 trivial⟩,
 fun h4 => ⟨(by (try dsimp only at *); grind [Box.missed, Box.at]),
 trivial⟩,
 fun h5 => ⟨⟨(by (try dsimp only at *); grind [Box.has]),
 (by (try dsimp only at *); grind [Box.has])⟩,
 (by (try dsimp only at *); grind [Box.has]),
 ⟨(by (try dsimp only at *); grind [Box.has]),
 (by (try dsimp only at *); grind [Box.has])⟩,
 (by (try dsimp only at *); grind [Box.has]),
 ⟨(by (try dsimp only at *); (have h := h2 x1.u.toNat (by simp [Box.has] at *; omega); obtain ⟨a, b, c⟩ := h; unfold lim at *; simp only [Nat.zero_add]; omega)),
 (by (try dsimp only at *); (have h := h2 x1.u.toNat (by simp [Box.has] at *; omega); obtain ⟨a, b, c⟩ := h; unfold lim at *; simp only [Nat.zero_add]; omega))⟩,
 (by (try dsimp only at *); grind [Box.missed, Box.at]),
 trivial⟩⟩)

def lastC : CT where
  X := BoxI
  pre := fun _ => True
  args := fun x => [.p 100000 0 0, .i .i64 x.u]
  g0 := fun x => boxH .bor x.b
  res := fun x => .tup [encSta (x.b.last x.u), .i .i64 (x.b.heard x.u), .b (x.b.there x.u)]
  g1 := fun _ => []
set_option maxRecDepth 100000 in
theorem last_keeps : Keeps cfg1 Try.f11 lastC noIv := Eq.mp (show ((∀ x1 : BoxI,
 ((True) →
 (∃ x3 : BoxI,
 ((True) ∧
 (((((0 : Nat) = (0 : Nat)) ∧
 ((0 : Nat) = (0 : Nat))) ∧
 ((BoxI.u x1 = BoxI.u x3) ∧
 (True))) ∧
 ((((((0 : Nat) = (0 : Nat)) ∧
 (List.length (BoxI.b x1) = List.length (BoxI.b x3))) ∧
 (True)) ∧
 (((RLe (List.length (BoxI.b x3)) (List.length (BoxI.b x1))) ∧
 (RowsEq (Kd.int IntKind.i64 :: Kd.int IntKind.i64 :: Kd.int IntKind.i64 :: Kd.int IntKind.i64 :: Kd.int IntKind.i64 :: Kd.int IntKind.i64 :: Kd.int IntKind.i64 :: @List.nil Kd) (List.length (BoxI.b x3)) (encL encRec (BoxI.b x1)) (encL encRec (BoxI.b x3)))) ∧
 (True))) ∧
 ((((!Box.has (BoxI.b x3) (BoxI.u x3)) = false) →
 ((((0 : Int) ≤ BoxI.u x1) ∧
 (BoxI.u x1 < (↑(List.length (BoxI.b x1)) : Int))) ∧
 (((0 : Nat) + Int.toNat (BoxI.u x1) < List.length (BoxI.b x1)) ∧
 (((decide (Rec.added (List.getD (BoxI.b x1) ((0 : Nat) + Int.toNat (BoxI.u x1)) default) = (0 : Int)) = true) →
 (((((0 : Int) = Sta.unit (Box.last (BoxI.b x1) (BoxI.u x1))) ∧
 (((0 : Int) = Sta.seq (Box.last (BoxI.b x1) (BoxI.u x1))) ∧
 (((0 : Int) = Sta.state (Box.last (BoxI.b x1) (BoxI.u x1))) ∧
 (((0 : Int) = Sta.node (Box.last (BoxI.b x1) (BoxI.u x1))) ∧
 (((0 : Int) = Sta.epoch (Box.last (BoxI.b x1) (BoxI.u x1))) ∧
 (True)))))) ∧
 (((0 : Int) = Box.heard (BoxI.b x1) (BoxI.u x1)) ∧
 ((false = Box.there (BoxI.b x1) (BoxI.u x1)) ∧
 (True)))) ∧
 (True))) ∧
 ((decide (Rec.added (List.getD (BoxI.b x1) ((0 : Nat) + Int.toNat (BoxI.u x1)) default) = (0 : Int)) = false) →
 ((((0 : Int) ≤ BoxI.u x1) ∧
 (BoxI.u x1 < (↑(List.length (BoxI.b x1)) : Int))) ∧
 (((0 : Nat) + Int.toNat (BoxI.u x1) < List.length (BoxI.b x1)) ∧
 ((((0 : Int) ≤ BoxI.u x1) ∧
 (BoxI.u x1 < (↑(List.length (BoxI.b x1)) : Int))) ∧
 (((0 : Nat) + Int.toNat (BoxI.u x1) < List.length (BoxI.b x1)) ∧
 ((((Sta.unit (Rec.sta (List.getD (BoxI.b x1) ((0 : Nat) + Int.toNat (BoxI.u x1)) default)) = Sta.unit (Box.last (BoxI.b x1) (BoxI.u x1))) ∧
 ((Sta.seq (Rec.sta (List.getD (BoxI.b x1) ((0 : Nat) + Int.toNat (BoxI.u x1)) default)) = Sta.seq (Box.last (BoxI.b x1) (BoxI.u x1))) ∧
 ((Sta.state (Rec.sta (List.getD (BoxI.b x1) ((0 : Nat) + Int.toNat (BoxI.u x1)) default)) = Sta.state (Box.last (BoxI.b x1) (BoxI.u x1))) ∧
 ((Sta.node (Rec.sta (List.getD (BoxI.b x1) ((0 : Nat) + Int.toNat (BoxI.u x1)) default)) = Sta.node (Box.last (BoxI.b x1) (BoxI.u x1))) ∧
 ((Sta.epoch (Rec.sta (List.getD (BoxI.b x1) ((0 : Nat) + Int.toNat (BoxI.u x1)) default)) = Sta.epoch (Box.last (BoxI.b x1) (BoxI.u x1))) ∧
 (True)))))) ∧
 ((Rec.heard (List.getD (BoxI.b x1) ((0 : Nat) + Int.toNat (BoxI.u x1)) default) = Box.heard (BoxI.b x1) (BoxI.u x1)) ∧
 ((true = Box.there (BoxI.b x1) (BoxI.u x1)) ∧
 (True)))) ∧
 (True))))))))))) ∧
 (((!Box.has (BoxI.b x3) (BoxI.u x3)) = true) →
 (((((0 : Int) = Sta.unit (Box.last (BoxI.b x1) (BoxI.u x1))) ∧
 (((0 : Int) = Sta.seq (Box.last (BoxI.b x1) (BoxI.u x1))) ∧
 (((0 : Int) = Sta.state (Box.last (BoxI.b x1) (BoxI.u x1))) ∧
 (((0 : Int) = Sta.node (Box.last (BoxI.b x1) (BoxI.u x1))) ∧
 (((0 : Int) = Sta.epoch (Box.last (BoxI.b x1) (BoxI.u x1))) ∧
 (True)))))) ∧
 (((0 : Int) = Box.heard (BoxI.b x1) (BoxI.u x1)) ∧
 ((false = Box.there (BoxI.b x1) (BoxI.u x1)) ∧
 (True)))) ∧
 (True))))))))))) = Keeps cfg1 Try.f11 lastC noIv by kernel_rfl) (fun x1 => fun h2 => ⟨(x1),
 trivial,
 ⟨⟨rfl,
 rfl⟩,
 rfl,
 trivial⟩,
 ⟨⟨⟨rfl,
 rfl⟩,
 trivial⟩,
 ⟨⟨Nat.le_refl _⟩,
 RowsEq.rfl'⟩,
 trivial⟩,
 fun h4 => ⟨⟨(by (try dsimp only at *); grind [Box.has]),
 (by (try dsimp only at *); grind [Box.has])⟩,
 (by (try dsimp only at *); grind [Box.has]),
 fun g5 => have h5 := of_decide_eq_true g5; ⟨⟨⟨(by (try dsimp only at *); grind [Box.last, Box.there, Box.heard, Box.at, zeroSta]),
 (by (try dsimp only at *); grind [Box.last, Box.there, Box.heard, Box.at, zeroSta]),
 (by (try dsimp only at *); grind [Box.last, Box.there, Box.heard, Box.at, zeroSta]),
 (by (try dsimp only at *); grind [Box.last, Box.there, Box.heard, Box.at, zeroSta]),
 (by (try dsimp only at *); grind [Box.last, Box.there, Box.heard, Box.at, zeroSta]),
 trivial⟩,
 (by (try dsimp only at *); grind [Box.last, Box.there, Box.heard, Box.at, zeroSta]),
 (by (try dsimp only at *); grind [Box.last, Box.there, Box.heard, Box.at, zeroSta]),
 trivial⟩,
 trivial⟩,
 fun g6 => have h6 := of_decide_eq_false g6; ⟨⟨(by (try dsimp only at *); grind [Box.has]),
 (by (try dsimp only at *); grind [Box.has])⟩,
 (by (try dsimp only at *); grind [Box.has]),
 ⟨(by (try dsimp only at *); grind [Box.has]),
 (by (try dsimp only at *); grind [Box.has])⟩,
 (by (try dsimp only at *); grind [Box.has]),
 ⟨⟨(by (try dsimp only at *); grind [Box.last, Box.there, Box.heard, Box.at, zeroSta]),
 (by (try dsimp only at *); grind [Box.last, Box.there, Box.heard, Box.at, zeroSta]),
 (by (try dsimp only at *); grind [Box.last, Box.there, Box.heard, Box.at, zeroSta]),
 (by (try dsimp only at *); grind [Box.last, Box.there, Box.heard, Box.at, zeroSta]),
 (by (try dsimp only at *); grind [Box.last, Box.there, Box.heard, Box.at, zeroSta]),
 trivial⟩,
 (by (try dsimp only at *); grind [Box.last, Box.there, Box.heard, Box.at, zeroSta]),
 (by (try dsimp only at *); grind [Box.last, Box.there, Box.heard, Box.at, zeroSta]),
 trivial⟩,
 trivial⟩⟩,
 fun h7 => ⟨⟨⟨(by (try dsimp only at *); grind [Box.last, Box.there, Box.heard, Box.at, zeroSta]),
 (by (try dsimp only at *); grind [Box.last, Box.there, Box.heard, Box.at, zeroSta]),
 (by (try dsimp only at *); grind [Box.last, Box.there, Box.heard, Box.at, zeroSta]),
 (by (try dsimp only at *); grind [Box.last, Box.there, Box.heard, Box.at, zeroSta]),
 (by (try dsimp only at *); grind [Box.last, Box.there, Box.heard, Box.at, zeroSta]),
 trivial⟩,
 (by (try dsimp only at *); grind [Box.last, Box.there, Box.heard, Box.at, zeroSta]),
 (by (try dsimp only at *); grind [Box.last, Box.there, Box.heard, Box.at, zeroSta]),
 trivial⟩,
 trivial⟩⟩)

structure BoxS where
  b : Box
  s : Sta
  now : Int
def validC : CT where
  X := BoxS
  pre := fun _ => True
  args := fun x => [.p 100000 0 0, encSta x.s]
  g0 := fun x => boxH .bor x.b
  res := fun x => .b (x.b.valid x.s)
  g1 := fun _ => []
set_option maxRecDepth 100000 in
theorem valid_keeps : Keeps cfg1 Try.f30 validC noIv := Eq.mp (show ((∀ x1 : BoxS,
 ((True) →
 (((decide (Sta.state (BoxS.s x1) = (1 : Int)) = true) →
 (((decide (Sta.state (BoxS.s x1) = (1 : Int)) = true) →
 (∃ x5 : BoxI,
 ((True) ∧
 (((((0 : Nat) = (0 : Nat)) ∧
 ((0 : Nat) = (0 : Nat))) ∧
 ((Sta.unit (BoxS.s x1) = BoxI.u x5) ∧
 (True))) ∧
 ((((((0 : Nat) = (0 : Nat)) ∧
 (List.length (BoxS.b x1) = List.length (BoxI.b x5))) ∧
 (True)) ∧
 (((RLe (List.length (BoxI.b x5)) (List.length (BoxS.b x1))) ∧
 (RowsEq (Kd.int IntKind.i64 :: Kd.int IntKind.i64 :: Kd.int IntKind.i64 :: Kd.int IntKind.i64 :: Kd.int IntKind.i64 :: Kd.int IntKind.i64 :: Kd.int IntKind.i64 :: @List.nil Kd) (List.length (BoxI.b x5)) (encL encRec (BoxS.b x1)) (encL encRec (BoxI.b x5)))) ∧
 (True))) ∧
 (((Box.has (BoxI.b x5) (BoxI.u x5) = true) →
 (((decide ((1 : Int) ≤ Sta.seq (BoxS.s x1)) = true) →
 (((decide (Sta.seq (BoxS.s x1) ≤ (1099511627776 : Int)) = true) →
 (((decide ((0 : Int) ≤ Sta.node (BoxS.s x1)) = true) →
 (((decide ((0 : Int) ≤ Sta.epoch (BoxS.s x1)) = true) →
 ((decide (Sta.epoch (BoxS.s x1) ≤ (1099511627776 : Int)) = Box.valid (BoxS.b x1) (BoxS.s x1)) ∧
 (True))) ∧
 ((decide ((0 : Int) ≤ Sta.epoch (BoxS.s x1)) = false) →
 ((false = Box.valid (BoxS.b x1) (BoxS.s x1)) ∧
 (True))))) ∧
 ((decide ((0 : Int) ≤ Sta.node (BoxS.s x1)) = false) →
 ((false = Box.valid (BoxS.b x1) (BoxS.s x1)) ∧
 (True))))) ∧
 ((decide (Sta.seq (BoxS.s x1) ≤ (1099511627776 : Int)) = false) →
 ((false = Box.valid (BoxS.b x1) (BoxS.s x1)) ∧
 (True))))) ∧
 ((decide ((1 : Int) ≤ Sta.seq (BoxS.s x1)) = false) →
 ((false = Box.valid (BoxS.b x1) (BoxS.s x1)) ∧
 (True))))) ∧
 ((Box.has (BoxI.b x5) (BoxI.u x5) = false) →
 ((false = Box.valid (BoxS.b x1) (BoxS.s x1)) ∧
 (True))))))))) ∧
 ((decide (Sta.state (BoxS.s x1) = (1 : Int)) = false) →
 ((false = Box.valid (BoxS.b x1) (BoxS.s x1)) ∧
 (True))))) ∧
 ((decide (Sta.state (BoxS.s x1) = (1 : Int)) = false) →
 (((decide (Sta.state (BoxS.s x1) = (3 : Int)) = true) →
 (((decide (Sta.state (BoxS.s x1) = (3 : Int)) = true) →
 (∃ x20 : BoxI,
 ((True) ∧
 (((((0 : Nat) = (0 : Nat)) ∧
 ((0 : Nat) = (0 : Nat))) ∧
 ((Sta.unit (BoxS.s x1) = BoxI.u x20) ∧
 (True))) ∧
 ((((((0 : Nat) = (0 : Nat)) ∧
 (List.length (BoxS.b x1) = List.length (BoxI.b x20))) ∧
 (True)) ∧
 (((RLe (List.length (BoxI.b x20)) (List.length (BoxS.b x1))) ∧
 (RowsEq (Kd.int IntKind.i64 :: Kd.int IntKind.i64 :: Kd.int IntKind.i64 :: Kd.int IntKind.i64 :: Kd.int IntKind.i64 :: Kd.int IntKind.i64 :: Kd.int IntKind.i64 :: @List.nil Kd) (List.length (BoxI.b x20)) (encL encRec (BoxS.b x1)) (encL encRec (BoxI.b x20)))) ∧
 (True))) ∧
 (((Box.has (BoxI.b x20) (BoxI.u x20) = true) →
 (((decide ((1 : Int) ≤ Sta.seq (BoxS.s x1)) = true) →
 (((decide (Sta.seq (BoxS.s x1) ≤ (1099511627776 : Int)) = true) →
 (((decide ((0 : Int) ≤ Sta.node (BoxS.s x1)) = true) →
 (((decide ((0 : Int) ≤ Sta.epoch (BoxS.s x1)) = true) →
 ((decide (Sta.epoch (BoxS.s x1) ≤ (1099511627776 : Int)) = Box.valid (BoxS.b x1) (BoxS.s x1)) ∧
 (True))) ∧
 ((decide ((0 : Int) ≤ Sta.epoch (BoxS.s x1)) = false) →
 ((false = Box.valid (BoxS.b x1) (BoxS.s x1)) ∧
 (True))))) ∧
 ((decide ((0 : Int) ≤ Sta.node (BoxS.s x1)) = false) →
 ((false = Box.valid (BoxS.b x1) (BoxS.s x1)) ∧
 (True))))) ∧
 ((decide (Sta.seq (BoxS.s x1) ≤ (1099511627776 : Int)) = false) →
 ((false = Box.valid (BoxS.b x1) (BoxS.s x1)) ∧
 (True))))) ∧
 ((decide ((1 : Int) ≤ Sta.seq (BoxS.s x1)) = false) →
 ((false = Box.valid (BoxS.b x1) (BoxS.s x1)) ∧
 (True))))) ∧
 ((Box.has (BoxI.b x20) (BoxI.u x20) = false) →
 ((false = Box.valid (BoxS.b x1) (BoxS.s x1)) ∧
 (True))))))))) ∧
 ((decide (Sta.state (BoxS.s x1) = (3 : Int)) = false) →
 ((false = Box.valid (BoxS.b x1) (BoxS.s x1)) ∧
 (True))))) ∧
 ((decide (Sta.state (BoxS.s x1) = (3 : Int)) = false) →
 (((decide (Sta.state (BoxS.s x1) = (4 : Int)) = true) →
 (((decide (Sta.state (BoxS.s x1) = (4 : Int)) = true) →
 (∃ x35 : BoxI,
 ((True) ∧
 (((((0 : Nat) = (0 : Nat)) ∧
 ((0 : Nat) = (0 : Nat))) ∧
 ((Sta.unit (BoxS.s x1) = BoxI.u x35) ∧
 (True))) ∧
 ((((((0 : Nat) = (0 : Nat)) ∧
 (List.length (BoxS.b x1) = List.length (BoxI.b x35))) ∧
 (True)) ∧
 (((RLe (List.length (BoxI.b x35)) (List.length (BoxS.b x1))) ∧
 (RowsEq (Kd.int IntKind.i64 :: Kd.int IntKind.i64 :: Kd.int IntKind.i64 :: Kd.int IntKind.i64 :: Kd.int IntKind.i64 :: Kd.int IntKind.i64 :: Kd.int IntKind.i64 :: @List.nil Kd) (List.length (BoxI.b x35)) (encL encRec (BoxS.b x1)) (encL encRec (BoxI.b x35)))) ∧
 (True))) ∧
 (((Box.has (BoxI.b x35) (BoxI.u x35) = true) →
 (((decide ((1 : Int) ≤ Sta.seq (BoxS.s x1)) = true) →
 (((decide (Sta.seq (BoxS.s x1) ≤ (1099511627776 : Int)) = true) →
 (((decide ((0 : Int) ≤ Sta.node (BoxS.s x1)) = true) →
 (((decide ((0 : Int) ≤ Sta.epoch (BoxS.s x1)) = true) →
 ((decide (Sta.epoch (BoxS.s x1) ≤ (1099511627776 : Int)) = Box.valid (BoxS.b x1) (BoxS.s x1)) ∧
 (True))) ∧
 ((decide ((0 : Int) ≤ Sta.epoch (BoxS.s x1)) = false) →
 ((false = Box.valid (BoxS.b x1) (BoxS.s x1)) ∧
 (True))))) ∧
 ((decide ((0 : Int) ≤ Sta.node (BoxS.s x1)) = false) →
 ((false = Box.valid (BoxS.b x1) (BoxS.s x1)) ∧
 (True))))) ∧
 ((decide (Sta.seq (BoxS.s x1) ≤ (1099511627776 : Int)) = false) →
 ((false = Box.valid (BoxS.b x1) (BoxS.s x1)) ∧
 (True))))) ∧
 ((decide ((1 : Int) ≤ Sta.seq (BoxS.s x1)) = false) →
 ((false = Box.valid (BoxS.b x1) (BoxS.s x1)) ∧
 (True))))) ∧
 ((Box.has (BoxI.b x35) (BoxI.u x35) = false) →
 ((false = Box.valid (BoxS.b x1) (BoxS.s x1)) ∧
 (True))))))))) ∧
 ((decide (Sta.state (BoxS.s x1) = (4 : Int)) = false) →
 ((false = Box.valid (BoxS.b x1) (BoxS.s x1)) ∧
 (True))))) ∧
 ((decide (Sta.state (BoxS.s x1) = (4 : Int)) = false) →
 (((decide (Sta.state (BoxS.s x1) = (5 : Int)) = true) →
 (((decide (Sta.state (BoxS.s x1) = (5 : Int)) = true) →
 (∃ x50 : BoxI,
 ((True) ∧
 (((((0 : Nat) = (0 : Nat)) ∧
 ((0 : Nat) = (0 : Nat))) ∧
 ((Sta.unit (BoxS.s x1) = BoxI.u x50) ∧
 (True))) ∧
 ((((((0 : Nat) = (0 : Nat)) ∧
 (List.length (BoxS.b x1) = List.length (BoxI.b x50))) ∧
 (True)) ∧
 (((RLe (List.length (BoxI.b x50)) (List.length (BoxS.b x1))) ∧
 (RowsEq (Kd.int IntKind.i64 :: Kd.int IntKind.i64 :: Kd.int IntKind.i64 :: Kd.int IntKind.i64 :: Kd.int IntKind.i64 :: Kd.int IntKind.i64 :: Kd.int IntKind.i64 :: @List.nil Kd) (List.length (BoxI.b x50)) (encL encRec (BoxS.b x1)) (encL encRec (BoxI.b x50)))) ∧
 (True))) ∧
 (((Box.has (BoxI.b x50) (BoxI.u x50) = true) →
 (((decide ((1 : Int) ≤ Sta.seq (BoxS.s x1)) = true) →
 (((decide (Sta.seq (BoxS.s x1) ≤ (1099511627776 : Int)) = true) →
 (((decide ((0 : Int) ≤ Sta.node (BoxS.s x1)) = true) →
 (((decide ((0 : Int) ≤ Sta.epoch (BoxS.s x1)) = true) →
 ((decide (Sta.epoch (BoxS.s x1) ≤ (1099511627776 : Int)) = Box.valid (BoxS.b x1) (BoxS.s x1)) ∧
 (True))) ∧
 ((decide ((0 : Int) ≤ Sta.epoch (BoxS.s x1)) = false) →
 ((false = Box.valid (BoxS.b x1) (BoxS.s x1)) ∧
 (True))))) ∧
 ((decide ((0 : Int) ≤ Sta.node (BoxS.s x1)) = false) →
 ((false = Box.valid (BoxS.b x1) (BoxS.s x1)) ∧
 (True))))) ∧
 ((decide (Sta.seq (BoxS.s x1) ≤ (1099511627776 : Int)) = false) →
 ((false = Box.valid (BoxS.b x1) (BoxS.s x1)) ∧
 (True))))) ∧
 ((decide ((1 : Int) ≤ Sta.seq (BoxS.s x1)) = false) →
 ((false = Box.valid (BoxS.b x1) (BoxS.s x1)) ∧
 (True))))) ∧
 ((Box.has (BoxI.b x50) (BoxI.u x50) = false) →
 ((false = Box.valid (BoxS.b x1) (BoxS.s x1)) ∧
 (True))))))))) ∧
 ((decide (Sta.state (BoxS.s x1) = (5 : Int)) = false) →
 ((false = Box.valid (BoxS.b x1) (BoxS.s x1)) ∧
 (True))))) ∧
 ((decide (Sta.state (BoxS.s x1) = (5 : Int)) = false) →
 (((decide (Sta.state (BoxS.s x1) = (6 : Int)) = true) →
 (∃ x64 : BoxI,
 ((True) ∧
 (((((0 : Nat) = (0 : Nat)) ∧
 ((0 : Nat) = (0 : Nat))) ∧
 ((Sta.unit (BoxS.s x1) = BoxI.u x64) ∧
 (True))) ∧
 ((((((0 : Nat) = (0 : Nat)) ∧
 (List.length (BoxS.b x1) = List.length (BoxI.b x64))) ∧
 (True)) ∧
 (((RLe (List.length (BoxI.b x64)) (List.length (BoxS.b x1))) ∧
 (RowsEq (Kd.int IntKind.i64 :: Kd.int IntKind.i64 :: Kd.int IntKind.i64 :: Kd.int IntKind.i64 :: Kd.int IntKind.i64 :: Kd.int IntKind.i64 :: Kd.int IntKind.i64 :: @List.nil Kd) (List.length (BoxI.b x64)) (encL encRec (BoxS.b x1)) (encL encRec (BoxI.b x64)))) ∧
 (True))) ∧
 (((Box.has (BoxI.b x64) (BoxI.u x64) = true) →
 (((decide ((1 : Int) ≤ Sta.seq (BoxS.s x1)) = true) →
 (((decide (Sta.seq (BoxS.s x1) ≤ (1099511627776 : Int)) = true) →
 (((decide ((0 : Int) ≤ Sta.node (BoxS.s x1)) = true) →
 (((decide ((0 : Int) ≤ Sta.epoch (BoxS.s x1)) = true) →
 ((decide (Sta.epoch (BoxS.s x1) ≤ (1099511627776 : Int)) = Box.valid (BoxS.b x1) (BoxS.s x1)) ∧
 (True))) ∧
 ((decide ((0 : Int) ≤ Sta.epoch (BoxS.s x1)) = false) →
 ((false = Box.valid (BoxS.b x1) (BoxS.s x1)) ∧
 (True))))) ∧
 ((decide ((0 : Int) ≤ Sta.node (BoxS.s x1)) = false) →
 ((false = Box.valid (BoxS.b x1) (BoxS.s x1)) ∧
 (True))))) ∧
 ((decide (Sta.seq (BoxS.s x1) ≤ (1099511627776 : Int)) = false) →
 ((false = Box.valid (BoxS.b x1) (BoxS.s x1)) ∧
 (True))))) ∧
 ((decide ((1 : Int) ≤ Sta.seq (BoxS.s x1)) = false) →
 ((false = Box.valid (BoxS.b x1) (BoxS.s x1)) ∧
 (True))))) ∧
 ((Box.has (BoxI.b x64) (BoxI.u x64) = false) →
 ((false = Box.valid (BoxS.b x1) (BoxS.s x1)) ∧
 (True))))))))) ∧
 ((decide (Sta.state (BoxS.s x1) = (6 : Int)) = false) →
 ((false = Box.valid (BoxS.b x1) (BoxS.s x1)) ∧
 (True))))))))))))))) = Keeps cfg1 Try.f30 validC noIv by kernel_rfl) (fun x1 => fun h2 => ⟨fun g3 => have h3 := of_decide_eq_true g3; ⟨fun g4 => have h4 := of_decide_eq_true g4; ⟨({ b := BoxS.b x1, u := Sta.unit (BoxS.s x1) : BoxI }),
 trivial,
 ⟨⟨rfl,
 rfl⟩,
 rfl,
 trivial⟩,
 ⟨⟨⟨rfl,
 rfl⟩,
 trivial⟩,
 ⟨⟨Nat.le_refl _⟩,
 RowsEq.rfl'⟩,
 trivial⟩,
 fun h6 => ⟨fun g7 => have h7 := of_decide_eq_true g7; ⟨fun g8 => have h8 := of_decide_eq_true g8; ⟨fun g9 => have h9 := of_decide_eq_true g9; ⟨fun g10 => have h10 := of_decide_eq_true g10; ⟨(by (try dsimp only at *); grind [Box.valid, stateOk, lim]),
 trivial⟩,
 fun g11 => have h11 := of_decide_eq_false g11; ⟨(by (try dsimp only at *); grind [Box.valid, stateOk, lim]),
 trivial⟩⟩,
 fun g12 => have h12 := of_decide_eq_false g12; ⟨(by (try dsimp only at *); grind [Box.valid, stateOk, lim]),
 trivial⟩⟩,
 fun g13 => have h13 := of_decide_eq_false g13; ⟨(by (try dsimp only at *); grind [Box.valid, stateOk, lim]),
 trivial⟩⟩,
 fun g14 => have h14 := of_decide_eq_false g14; ⟨(by (try dsimp only at *); grind [Box.valid, stateOk, lim]),
 trivial⟩⟩,
 fun h15 => ⟨(by (try dsimp only at *); grind [Box.valid, stateOk, lim]),
 trivial⟩⟩,
 fun g16 => have h16 := of_decide_eq_false g16; ⟨(by (try dsimp only at *); omega),
 trivial⟩⟩,
 fun g17 => have h17 := of_decide_eq_false g17; ⟨fun g18 => have h18 := of_decide_eq_true g18; ⟨fun g19 => have h19 := of_decide_eq_true g19; ⟨({ b := BoxS.b x1, u := Sta.unit (BoxS.s x1) : BoxI }),
 trivial,
 ⟨⟨rfl,
 rfl⟩,
 rfl,
 trivial⟩,
 ⟨⟨⟨rfl,
 rfl⟩,
 trivial⟩,
 ⟨⟨Nat.le_refl _⟩,
 RowsEq.rfl'⟩,
 trivial⟩,
 fun h21 => ⟨fun g22 => have h22 := of_decide_eq_true g22; ⟨fun g23 => have h23 := of_decide_eq_true g23; ⟨fun g24 => have h24 := of_decide_eq_true g24; ⟨fun g25 => have h25 := of_decide_eq_true g25; ⟨(by (try dsimp only at *); grind [Box.valid, stateOk, lim]),
 trivial⟩,
 fun g26 => have h26 := of_decide_eq_false g26; ⟨(by (try dsimp only at *); grind [Box.valid, stateOk, lim]),
 trivial⟩⟩,
 fun g27 => have h27 := of_decide_eq_false g27; ⟨(by (try dsimp only at *); grind [Box.valid, stateOk, lim]),
 trivial⟩⟩,
 fun g28 => have h28 := of_decide_eq_false g28; ⟨(by (try dsimp only at *); grind [Box.valid, stateOk, lim]),
 trivial⟩⟩,
 fun g29 => have h29 := of_decide_eq_false g29; ⟨(by (try dsimp only at *); grind [Box.valid, stateOk, lim]),
 trivial⟩⟩,
 fun h30 => ⟨(by (try dsimp only at *); grind [Box.valid, stateOk, lim]),
 trivial⟩⟩,
 fun g31 => have h31 := of_decide_eq_false g31; ⟨(by (try dsimp only at *); omega),
 trivial⟩⟩,
 fun g32 => have h32 := of_decide_eq_false g32; ⟨fun g33 => have h33 := of_decide_eq_true g33; ⟨fun g34 => have h34 := of_decide_eq_true g34; ⟨({ b := BoxS.b x1, u := Sta.unit (BoxS.s x1) : BoxI }),
 trivial,
 ⟨⟨rfl,
 rfl⟩,
 rfl,
 trivial⟩,
 ⟨⟨⟨rfl,
 rfl⟩,
 trivial⟩,
 ⟨⟨Nat.le_refl _⟩,
 RowsEq.rfl'⟩,
 trivial⟩,
 fun h36 => ⟨fun g37 => have h37 := of_decide_eq_true g37; ⟨fun g38 => have h38 := of_decide_eq_true g38; ⟨fun g39 => have h39 := of_decide_eq_true g39; ⟨fun g40 => have h40 := of_decide_eq_true g40; ⟨(by (try dsimp only at *); grind [Box.valid, stateOk, lim]),
 trivial⟩,
 fun g41 => have h41 := of_decide_eq_false g41; ⟨(by (try dsimp only at *); grind [Box.valid, stateOk, lim]),
 trivial⟩⟩,
 fun g42 => have h42 := of_decide_eq_false g42; ⟨(by (try dsimp only at *); grind [Box.valid, stateOk, lim]),
 trivial⟩⟩,
 fun g43 => have h43 := of_decide_eq_false g43; ⟨(by (try dsimp only at *); grind [Box.valid, stateOk, lim]),
 trivial⟩⟩,
 fun g44 => have h44 := of_decide_eq_false g44; ⟨(by (try dsimp only at *); grind [Box.valid, stateOk, lim]),
 trivial⟩⟩,
 fun h45 => ⟨(by (try dsimp only at *); grind [Box.valid, stateOk, lim]),
 trivial⟩⟩,
 fun g46 => have h46 := of_decide_eq_false g46; ⟨(by (try dsimp only at *); omega),
 trivial⟩⟩,
 fun g47 => have h47 := of_decide_eq_false g47; ⟨fun g48 => have h48 := of_decide_eq_true g48; ⟨fun g49 => have h49 := of_decide_eq_true g49; ⟨({ b := BoxS.b x1, u := Sta.unit (BoxS.s x1) : BoxI }),
 trivial,
 ⟨⟨rfl,
 rfl⟩,
 rfl,
 trivial⟩,
 ⟨⟨⟨rfl,
 rfl⟩,
 trivial⟩,
 ⟨⟨Nat.le_refl _⟩,
 RowsEq.rfl'⟩,
 trivial⟩,
 fun h51 => ⟨fun g52 => have h52 := of_decide_eq_true g52; ⟨fun g53 => have h53 := of_decide_eq_true g53; ⟨fun g54 => have h54 := of_decide_eq_true g54; ⟨fun g55 => have h55 := of_decide_eq_true g55; ⟨(by (try dsimp only at *); grind [Box.valid, stateOk, lim]),
 trivial⟩,
 fun g56 => have h56 := of_decide_eq_false g56; ⟨(by (try dsimp only at *); grind [Box.valid, stateOk, lim]),
 trivial⟩⟩,
 fun g57 => have h57 := of_decide_eq_false g57; ⟨(by (try dsimp only at *); grind [Box.valid, stateOk, lim]),
 trivial⟩⟩,
 fun g58 => have h58 := of_decide_eq_false g58; ⟨(by (try dsimp only at *); grind [Box.valid, stateOk, lim]),
 trivial⟩⟩,
 fun g59 => have h59 := of_decide_eq_false g59; ⟨(by (try dsimp only at *); grind [Box.valid, stateOk, lim]),
 trivial⟩⟩,
 fun h60 => ⟨(by (try dsimp only at *); grind [Box.valid, stateOk, lim]),
 trivial⟩⟩,
 fun g61 => have h61 := of_decide_eq_false g61; ⟨(by (try dsimp only at *); omega),
 trivial⟩⟩,
 fun g62 => have h62 := of_decide_eq_false g62; ⟨fun g63 => have h63 := of_decide_eq_true g63; ⟨({ b := BoxS.b x1, u := Sta.unit (BoxS.s x1) : BoxI }),
 trivial,
 ⟨⟨rfl,
 rfl⟩,
 rfl,
 trivial⟩,
 ⟨⟨⟨rfl,
 rfl⟩,
 trivial⟩,
 ⟨⟨Nat.le_refl _⟩,
 RowsEq.rfl'⟩,
 trivial⟩,
 fun h65 => ⟨fun g66 => have h66 := of_decide_eq_true g66; ⟨fun g67 => have h67 := of_decide_eq_true g67; ⟨fun g68 => have h68 := of_decide_eq_true g68; ⟨fun g69 => have h69 := of_decide_eq_true g69; ⟨(by (try dsimp only at *); grind [Box.valid, stateOk, lim]),
 trivial⟩,
 fun g70 => have h70 := of_decide_eq_false g70; ⟨(by (try dsimp only at *); grind [Box.valid, stateOk, lim]),
 trivial⟩⟩,
 fun g71 => have h71 := of_decide_eq_false g71; ⟨(by (try dsimp only at *); grind [Box.valid, stateOk, lim]),
 trivial⟩⟩,
 fun g72 => have h72 := of_decide_eq_false g72; ⟨(by (try dsimp only at *); grind [Box.valid, stateOk, lim]),
 trivial⟩⟩,
 fun g73 => have h73 := of_decide_eq_false g73; ⟨(by (try dsimp only at *); grind [Box.valid, stateOk, lim]),
 trivial⟩⟩,
 fun h74 => ⟨(by (try dsimp only at *); grind [Box.valid, stateOk, lim]),
 trivial⟩⟩,
 fun g75 => have h75 := of_decide_eq_false g75; ⟨(by (try dsimp only at *); grind [Box.valid, stateOk, lim]),
 trivial⟩⟩⟩⟩⟩⟩)


theorem con0 : ConOk Try.prog cfg0 := ConL.ok .nil
theorem clamp_good : Good Try.prog 29 clampC ∧ FnOk Try.prog 29 := good_of_keeps tok con0 (fn := Try.f29) rfl (by decide +kernel) rfl rfl (by decide) (fun _ _ => Nat.le_of_ble_eq_true rfl) clamp_keeps
theorem tick_good : Good Try.prog 31 clampC ∧ FnOk Try.prog 31 := good_of_keeps tok con0 (fn := Try.f31) rfl (by decide +kernel) rfl rfl (by decide) (fun _ _ => Nat.le_of_ble_eq_true rfl) tick_keeps
theorem has_good : Good Try.prog 28 hasC ∧ FnOk Try.prog 28 := good_of_keeps tok con0 (fn := Try.f28) rfl (by decide +kernel) rfl rfl (by decide) (fun _ _ => Nat.le_of_ble_eq_true rfl) has_keeps
theorem con1 : ConOk Try.prog cfg1 := ConL.ok (.cons (ConL.one has_good) (.cons (ConL.one clamp_good) (.cons (ConL.one tick_good) .nil)))
theorem missed_good : Good Try.prog 13 missedC ∧ FnOk Try.prog 13 := good_of_keeps tok con1 (fn := Try.f13) rfl (by decide +kernel) rfl rfl (by decide) (fun _ _ => Nat.le_of_ble_eq_true rfl) missed_keeps
theorem last_good : Good Try.prog 11 lastC ∧ FnOk Try.prog 11 := good_of_keeps tok con1 (fn := Try.f11) rfl (by decide +kernel) rfl rfl (by decide) (fun _ _ => Nat.le_of_ble_eq_true rfl) last_keeps
theorem valid_good : Good Try.prog 30 validC ∧ FnOk Try.prog 30 := good_of_keeps tok con1 (fn := Try.f30) rfl (by decide +kernel) rfl rfl (by decide) (fun _ _ => Nat.le_of_ble_eq_true rfl) valid_keeps
end Go.Sym
