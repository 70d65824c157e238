/- law30: StatusOutOfOrder: the walk. -/
import Derived.Test.YtpggcpinebbjgaaW8
namespace Go.Sym
set_option linter.unusedVariables false
set_option linter.unusedSimpArgs false
open Go.Proofs
def C9 : List (Nat × Con) := [(15, .two encSelNew (.one newC) (.one newNo)), (16, .one addC), (11, .one lastC), (13, .one missedC), (10, .one awakeC)]
def cfg9 : Cfg := ⟨T, [], C9, noInv, 23⟩
theorem con9 : ConOk Try.prog cfg9 := ConL.ok (.cons (ConL.two (ConL.one new_good) (ConL.one newNo_good)) (.cons (ConL.one add_good) (.cons (ConL.one last_good) (.cons (ConL.one missed_good) (.cons (ConL.one awake_good) .nil)))))
structure OrdX where
  word : Int
  a : Int
  b : Int
def ordC : CT where
  X := OrdX
  pre := fun x => 0 ≤ x.word ∧ x.word ≤ 255
  args := fun x => [.i .u8 x.word, .i .i64 x.a, .i .i64 x.b]
  g0 := fun _ => []
  res := fun _ => .b true
  g1 := fun _ => []
/-! A box of one unit. -/
structure Fit (s : Sta) : Prop where
  u : s.unit = 0
  st : stateOk s.state = true
  q : 1 ≤ s.seq ∧ s.seq ≤ lim
  n : 0 ≤ s.node
  e : 0 ≤ s.epoch ∧ s.epoch ≤ lim
theorem one_isNew (r : Rec) {s : Sta} (h : Fit s) : Box.isNew [r] s = decide (r.sta.seq < s.seq) := by
  have hv : Box.valid [r] s = true := by
    obtain ⟨h1, h2, h3, h4, h5⟩ := h
    simp [Box.valid, Box.has, h1, h2, h3, h4, h5]
  unfold Box.isNew
  rw [hv, Bool.true_and]
  simp [Box.at, h.u]
theorem one_add (r : Rec) {s : Sta} (h : Fit s) (now : Int) : Box.add [r] s now = if r.sta.seq < s.seq then [⟨s, r.added + 1, max r.heard (minMax now)⟩] else [r] := by
  unfold Box.add
  rw [one_isNew r h]
  by_cases e : r.sta.seq < s.seq
  · simp [e, h.u, Box.at]
  · simp [e]
theorem one_new : Box.new 1 0 = [⟨zeroSta, 0, 0⟩] := by simp [Box.new, minMax, lim]; decide
def newer (x : OrdX) : Sta := ⟨0, x.word + 1 + 1, 6, max x.b 0, 0⟩
def older (x : OrdX) : Sta := ⟨0, x.word + 1, 1, max x.a 0, 0⟩
theorem fit_newer {x : OrdX} (h : 0 ≤ x.word ∧ x.word ≤ 255) : Fit (newer x) := ⟨rfl, rfl, by simp only [newer, lim]; omega, by simp only [newer]; omega, by simp [newer, lim]⟩
theorem fit_older {x : OrdX} (h : 0 ≤ x.word ∧ x.word ≤ 255) : Fit (older x) := ⟨rfl, rfl, by simp only [older, lim]; omega, by simp only [older]; omega, by simp [older, lim]⟩
/-- The newer one first, then the older: the older is dropped. -/
theorem ord1 {x : OrdX} (h : 0 ≤ x.word ∧ x.word ≤ 255) : (Box.new 1 0).isNew (newer x) = true ∧ (Box.new 1 0).add (newer x) 5 = [⟨newer x, 1, 5⟩] := by
  have hs : (newer x).seq = x.word + 2 := by simp only [newer]; omega
  have hz : (zeroSta).seq = 0 := rfl
  rw [one_new, one_isNew _ (fit_newer h), one_add _ (fit_newer h)]
  simp only [hs, hz]
  have : (0 : Int) < x.word + 2 := by omega
  simp [this, minMax, lim]
  try decide
theorem ord2 {x : OrdX} (h : 0 ≤ x.word ∧ x.word ≤ 255) : Box.isNew [⟨newer x, 1, 5⟩] (older x) = false ∧ Box.add [⟨newer x, 1, 5⟩] (older x) 9 = [⟨newer x, 1, 5⟩] := by
  have hs : (newer x).seq = x.word + 2 := by simp only [newer]; omega
  have ho : (older x).seq = x.word + 1 := rfl
  rw [one_isNew _ (fit_older h), one_add _ (fit_older h)]
  simp only [hs, ho]
  have : ¬ x.word + 2 < x.word + 1 := by omega
  simp [this]
/-- The older one first: both are taken. -/
theorem ord3 {x : OrdX} (h : 0 ≤ x.word ∧ x.word ≤ 255) : (Box.new 1 0).add (older x) 9 = [⟨older x, 1, 9⟩] := by
  have ho : (older x).seq = x.word + 1 := rfl
  have hz : (zeroSta).seq = 0 := rfl
  rw [one_new, one_add _ (fit_older h)]
  simp only [ho, hz]
  have : (0 : Int) < x.word + 1 := by omega
  simp [this, minMax, lim]
  try decide
theorem ord4 {x : OrdX} (h : 0 ≤ x.word ∧ x.word ≤ 255) : Box.add [⟨older x, 1, 9⟩] (newer x) 5 = [⟨newer x, 2, 9⟩] := by
  have hs : (newer x).seq = x.word + 2 := by simp only [newer]; omega
  have ho : (older x).seq = x.word + 1 := rfl
  rw [one_add _ (fit_newer h)]
  simp only [hs, ho]
  have : x.word + 1 < x.word + 2 := by omega
  simp [this, minMax, lim]
  try decide
theorem one_last (s : Sta) (n t : Int) (h : n ≠ 0) : Box.last [⟨s, n, t⟩] 0 = s ∧ Box.heard [⟨s, n, t⟩] 0 = t ∧ Box.there [⟨s, n, t⟩] 0 = true ∧ Box.missed [⟨s, n, t⟩] 0 = s.seq - n := by
  simp [Box.last, Box.heard, Box.there, Box.missed, Box.has, Box.at, h]
set_option maxHeartbeats 4000000 in
set_option maxRecDepth 100000 in
theorem ord_keeps : Keeps cfg9 Try.f5 ordC noIv := Eq.mp (show ((∀ x1 : OrdX,
 (((0 : Int) ≤ OrdX.word x1 ∧ OrdX.word x1 ≤ (255 : Int)) →
 (((decide ((0 : Int) ≤ (1 : Int) ∧ (1 : Int) ≤ (256 : Int)) = true) →
 (∃ x4 : NewX,
 ((((0 : Int) ≤ NewX.n x4) ∧
 (NewX.n x4 ≤ (256 : Int))) ∧
 ((((1 : Int) = NewX.n x4) ∧
 (((0 : Int) = NewX.now x4) ∧
 (True))) ∧
 ((True) ∧
 (((decide ((0 : Int) ≠ (0 : Int)) = false) →
 ((((-9223372036854775808 : Int) ≤ OrdX.word x1) ∧
 (OrdX.word x1 ≤ (9223372036854775807 : Int))) ∧
 ((((-9223372036854775808 : Int) ≤ OrdX.word x1 + (1 : Int)) ∧
 (OrdX.word x1 + (1 : Int) ≤ (9223372036854775807 : Int))) ∧
 ((((-9223372036854775808 : Int) ≤ OrdX.word x1 + (1 : Int) + (1 : Int)) ∧
 (OrdX.word x1 + (1 : Int) + (1 : Int) ≤ (9223372036854775807 : Int))) ∧
 (∃ x6 : BoxS,
 ((Box.Ok (BoxS.b x6)) ∧
 (((((0 : Nat) = (0 : Nat)) ∧
 ((0 : Nat) = (0 : Nat))) ∧
 ((((0 : Int) = Sta.unit (BoxS.s x6)) ∧
 ((OrdX.word x1 + (1 : Int) + (1 : Int) = Sta.seq (BoxS.s x6)) ∧
 (((6 : Int) = Sta.state (BoxS.s x6)) ∧
 ((max (OrdX.b x1) (0 : Int) = Sta.node (BoxS.s x6)) ∧
 (((0 : Int) = Sta.epoch (BoxS.s x6)) ∧
 (True)))))) ∧
 (((5 : Int) = BoxS.now x6) ∧
 (True)))) ∧
 ((((((0 : Nat) = (0 : Nat)) ∧
 (Int.toNat (NewX.n x4) = List.length (BoxS.b x6))) ∧
 (True)) ∧
 (((Int.toNat (NewX.n x4) = List.length (BoxS.b x6)) ∧
 (RowsEq (Kd.int IntKind.i64 :: Kd.int IntKind.i64 :: Kd.int IntKind.i64 :: Kd.int IntKind.i64 :: Kd.int IntKind.i64 :: Kd.int IntKind.i64 :: Kd.int IntKind.i64 :: @List.nil Kd) (List.length (BoxS.b x6)) (encL encRec (Box.new (NewX.n x4) (NewX.now x4))) (encL encRec (BoxS.b x6)))) ∧
 (True))) ∧
 (∃ x7 : BoxS,
 ((Box.Ok (BoxS.b x7)) ∧
 (((((0 : Nat) = (0 : Nat)) ∧
 ((0 : Nat) = (0 : Nat))) ∧
 ((((0 : Int) = Sta.unit (BoxS.s x7)) ∧
 ((OrdX.word x1 + (1 : Int) = Sta.seq (BoxS.s x7)) ∧
 (((1 : Int) = Sta.state (BoxS.s x7)) ∧
 ((max (OrdX.a x1) (0 : Int) = Sta.node (BoxS.s x7)) ∧
 (((0 : Int) = Sta.epoch (BoxS.s x7)) ∧
 (True)))))) ∧
 (((9 : Int) = BoxS.now x7) ∧
 (True)))) ∧
 ((((((0 : Nat) = (0 : Nat)) ∧
 (Int.toNat (NewX.n x4) = List.length (BoxS.b x7))) ∧
 (True)) ∧
 (((List.length (BoxS.b x6) = List.length (BoxS.b x7)) ∧
 (RowsEq (Kd.int IntKind.i64 :: Kd.int IntKind.i64 :: Kd.int IntKind.i64 :: Kd.int IntKind.i64 :: Kd.int IntKind.i64 :: Kd.int IntKind.i64 :: Kd.int IntKind.i64 :: @List.nil Kd) (List.length (BoxS.b x7)) (encL encRec (Box.add (BoxS.b x6) (BoxS.s x6) (BoxS.now x6))) (encL encRec (BoxS.b x7)))) ∧
 (True))) ∧
 (∃ x8 : BoxI,
 ((True) ∧
 (((((0 : Nat) = (0 : Nat)) ∧
 ((0 : Nat) = (0 : Nat))) ∧
 (((0 : Int) = BoxI.u x8) ∧
 (True))) ∧
 ((((((0 : Nat) = (0 : Nat)) ∧
 (Int.toNat (NewX.n x4) = List.length (BoxI.b x8))) ∧
 (True)) ∧
 (((List.length (BoxS.b x7) = List.length (BoxI.b x8)) ∧
 (RowsEq (Kd.int IntKind.i64 :: Kd.int IntKind.i64 :: Kd.int IntKind.i64 :: Kd.int IntKind.i64 :: Kd.int IntKind.i64 :: Kd.int IntKind.i64 :: Kd.int IntKind.i64 :: @List.nil Kd) (List.length (BoxI.b x8)) (encL encRec (Box.add (BoxS.b x7) (BoxS.s x7) (BoxS.now x7))) (encL encRec (BoxI.b x8)))) ∧
 (True))) ∧
 ((((!Box.isNew (BoxS.b x6) (BoxS.s x6)) = false) →
 (((Box.isNew (BoxS.b x7) (BoxS.s x7) = false) →
 ((((!(decide (Sta.unit (Box.last (BoxI.b x8) (BoxI.u x8)) = (0 : Int)) && (decide (Sta.seq (Box.last (BoxI.b x8) (BoxI.u x8)) = OrdX.word x1 + (1 : Int) + (1 : Int)) && (decide (Sta.state (Box.last (BoxI.b x8) (BoxI.u x8)) = (6 : Int)) && (decide (Sta.node (Box.last (BoxI.b x8) (BoxI.u x8)) = max (OrdX.b x1) (0 : Int)) && (decide (Sta.epoch (Box.last (BoxI.b x8) (BoxI.u x8)) = (0 : Int)) && true)))))) = false) →
 (((decide (Box.heard (BoxI.b x8) (BoxI.u x8) ≠ (5 : Int)) = false) →
 ((((!Box.there (BoxI.b x8) (BoxI.u x8)) = false) →
 (∃ x14 : BoxI,
 ((Box.Ok (BoxI.b x14)) ∧
 (((((0 : Nat) = (0 : Nat)) ∧
 ((0 : Nat) = (0 : Nat))) ∧
 (((0 : Int) = BoxI.u x14) ∧
 (True))) ∧
 ((((((0 : Nat) = (0 : Nat)) ∧
 (Int.toNat (NewX.n x4) = List.length (BoxI.b x14))) ∧
 (True)) ∧
 (((List.length (BoxS.b x7) = List.length (BoxI.b x14)) ∧
 (RowsEq (Kd.int IntKind.i64 :: Kd.int IntKind.i64 :: Kd.int IntKind.i64 :: Kd.int IntKind.i64 :: Kd.int IntKind.i64 :: Kd.int IntKind.i64 :: Kd.int IntKind.i64 :: @List.nil Kd) (List.length (BoxI.b x14)) (encL encRec (Box.add (BoxS.b x7) (BoxS.s x7) (BoxS.now x7))) (encL encRec (BoxI.b x14)))) ∧
 (True))) ∧
 (((decide (Box.missed (BoxI.b x14) (BoxI.u x14) ≠ OrdX.word x1 + (1 : Int)) = true) →
 ((false = true) ∧
 (True))) ∧
 ((decide (Box.missed (BoxI.b x14) (BoxI.u x14) ≠ OrdX.word x1 + (1 : Int)) = false) →
 (((decide ((0 : Int) ≤ (1 : Int) ∧ (1 : Int) ≤ (256 : Int)) = true) →
 (∃ x18 : NewX,
 ((((0 : Int) ≤ NewX.n x18) ∧
 (NewX.n x18 ≤ (256 : Int))) ∧
 ((((1 : Int) = NewX.n x18) ∧
 (((0 : Int) = NewX.now x18) ∧
 (True))) ∧
 ((True) ∧
 (((decide ((0 : Int) ≠ (0 : Int)) = false) →
 (∃ x20 : BoxS,
 ((Box.Ok (BoxS.b x20)) ∧
 (((((0 : Nat) = (0 : Nat)) ∧
 ((0 : Nat) = (0 : Nat))) ∧
 ((((0 : Int) = Sta.unit (BoxS.s x20)) ∧
 ((OrdX.word x1 + (1 : Int) = Sta.seq (BoxS.s x20)) ∧
 (((1 : Int) = Sta.state (BoxS.s x20)) ∧
 ((max (OrdX.a x1) (0 : Int) = Sta.node (BoxS.s x20)) ∧
 (((0 : Int) = Sta.epoch (BoxS.s x20)) ∧
 (True)))))) ∧
 (((9 : Int) = BoxS.now x20) ∧
 (True)))) ∧
 ((((((0 : Nat) = (0 : Nat)) ∧
 (Int.toNat (NewX.n x18) = List.length (BoxS.b x20))) ∧
 (True)) ∧
 (((Int.toNat (NewX.n x18) = List.length (BoxS.b x20)) ∧
 (RowsEq (Kd.int IntKind.i64 :: Kd.int IntKind.i64 :: Kd.int IntKind.i64 :: Kd.int IntKind.i64 :: Kd.int IntKind.i64 :: Kd.int IntKind.i64 :: Kd.int IntKind.i64 :: @List.nil Kd) (List.length (BoxS.b x20)) (encL encRec (Box.new (NewX.n x18) (NewX.now x18))) (encL encRec (BoxS.b x20)))) ∧
 (True))) ∧
 (∃ x21 : BoxS,
 ((Box.Ok (BoxS.b x21)) ∧
 (((((0 : Nat) = (0 : Nat)) ∧
 ((0 : Nat) = (0 : Nat))) ∧
 ((((0 : Int) = Sta.unit (BoxS.s x21)) ∧
 ((OrdX.word x1 + (1 : Int) + (1 : Int) = Sta.seq (BoxS.s x21)) ∧
 (((6 : Int) = Sta.state (BoxS.s x21)) ∧
 ((max (OrdX.b x1) (0 : Int) = Sta.node (BoxS.s x21)) ∧
 (((0 : Int) = Sta.epoch (BoxS.s x21)) ∧
 (True)))))) ∧
 (((5 : Int) = BoxS.now x21) ∧
 (True)))) ∧
 ((((((0 : Nat) = (0 : Nat)) ∧
 (Int.toNat (NewX.n x18) = List.length (BoxS.b x21))) ∧
 (True)) ∧
 (((List.length (BoxS.b x20) = List.length (BoxS.b x21)) ∧
 (RowsEq (Kd.int IntKind.i64 :: Kd.int IntKind.i64 :: Kd.int IntKind.i64 :: Kd.int IntKind.i64 :: Kd.int IntKind.i64 :: Kd.int IntKind.i64 :: Kd.int IntKind.i64 :: @List.nil Kd) (List.length (BoxS.b x21)) (encL encRec (Box.add (BoxS.b x20) (BoxS.s x20) (BoxS.now x20))) (encL encRec (BoxS.b x21)))) ∧
 (True))) ∧
 (∃ x22 : BoxI,
 ((True) ∧
 (((((0 : Nat) = (0 : Nat)) ∧
 ((0 : Nat) = (0 : Nat))) ∧
 (((0 : Int) = BoxI.u x22) ∧
 (True))) ∧
 ((((((0 : Nat) = (0 : Nat)) ∧
 (Int.toNat (NewX.n x18) = List.length (BoxI.b x22))) ∧
 (True)) ∧
 (((List.length (BoxS.b x21) = List.length (BoxI.b x22)) ∧
 (RowsEq (Kd.int IntKind.i64 :: Kd.int IntKind.i64 :: Kd.int IntKind.i64 :: Kd.int IntKind.i64 :: Kd.int IntKind.i64 :: Kd.int IntKind.i64 :: Kd.int IntKind.i64 :: @List.nil Kd) (List.length (BoxI.b x22)) (encL encRec (Box.add (BoxS.b x21) (BoxS.s x21) (BoxS.now x21))) (encL encRec (BoxI.b x22)))) ∧
 (True))) ∧
 ((((decide (Sta.unit (Box.last (BoxI.b x22) (BoxI.u x22)) = (0 : Int)) && (decide (Sta.seq (Box.last (BoxI.b x22) (BoxI.u x22)) = OrdX.word x1 + (1 : Int) + (1 : Int)) && (decide (Sta.state (Box.last (BoxI.b x22) (BoxI.u x22)) = (6 : Int)) && (decide (Sta.node (Box.last (BoxI.b x22) (BoxI.u x22)) = max (OrdX.b x1) (0 : Int)) && (decide (Sta.epoch (Box.last (BoxI.b x22) (BoxI.u x22)) = (0 : Int)) && true))))) = true) →
 (((decide (Box.heard (BoxI.b x22) (BoxI.u x22) = (9 : Int)) = true) →
 (∃ x25 : BoxI,
 ((Box.Ok (BoxI.b x25)) ∧
 (((((0 : Nat) = (0 : Nat)) ∧
 ((0 : Nat) = (0 : Nat))) ∧
 (((0 : Int) = BoxI.u x25) ∧
 (True))) ∧
 ((((((0 : Nat) = (0 : Nat)) ∧
 (Int.toNat (NewX.n x18) = List.length (BoxI.b x25))) ∧
 (True)) ∧
 (((List.length (BoxS.b x21) = List.length (BoxI.b x25)) ∧
 (RowsEq (Kd.int IntKind.i64 :: Kd.int IntKind.i64 :: Kd.int IntKind.i64 :: Kd.int IntKind.i64 :: Kd.int IntKind.i64 :: Kd.int IntKind.i64 :: Kd.int IntKind.i64 :: @List.nil Kd) (List.length (BoxI.b x25)) (encL encRec (Box.add (BoxS.b x21) (BoxS.s x21) (BoxS.now x21))) (encL encRec (BoxI.b x25)))) ∧
 (True))) ∧
 ((((-9223372036854775808 : Int) ≤ OrdX.word x1 + (1 : Int) - (1 : Int)) ∧
 (OrdX.word x1 + (1 : Int) - (1 : Int) ≤ (9223372036854775807 : Int))) ∧
 (((decide (Box.missed (BoxI.b x25) (BoxI.u x25) = OrdX.word x1 + (1 : Int) - (1 : Int)) = true) →
 (∃ x27 : Unit,
 ((True) ∧
 ((True) ∧
 ((True) ∧
 ((true = true) ∧
 (True))))))) ∧
 ((decide (Box.missed (BoxI.b x25) (BoxI.u x25) = OrdX.word x1 + (1 : Int) - (1 : Int)) = false) →
 ((false = true) ∧
 (True)))))))))) ∧
 ((decide (Box.heard (BoxI.b x22) (BoxI.u x22) = (9 : Int)) = false) →
 ((false = true) ∧
 (True))))) ∧
 (((decide (Sta.unit (Box.last (BoxI.b x22) (BoxI.u x22)) = (0 : Int)) && (decide (Sta.seq (Box.last (BoxI.b x22) (BoxI.u x22)) = OrdX.word x1 + (1 : Int) + (1 : Int)) && (decide (Sta.state (Box.last (BoxI.b x22) (BoxI.u x22)) = (6 : Int)) && (decide (Sta.node (Box.last (BoxI.b x22) (BoxI.u x22)) = max (OrdX.b x1) (0 : Int)) && (decide (Sta.epoch (Box.last (BoxI.b x22) (BoxI.u x22)) = (0 : Int)) && true))))) = false) →
 ((false = true) ∧
 (True))))))))))))))))) ∧
 ((decide ((0 : Int) ≠ (0 : Int)) = true) →
 ((false = true) ∧
 (True))))))))) ∧
 ((decide ((0 : Int) ≤ (1 : Int) ∧ (1 : Int) ≤ (256 : Int)) = false) →
 (∃ x33 : NewX,
 ((¬((0 : Int) ≤ NewX.n x33 ∧ NewX.n x33 ≤ (256 : Int))) ∧
 ((((1 : Int) = NewX.n x33) ∧
 (((0 : Int) = NewX.now x33) ∧
 (True))) ∧
 ((True) ∧
 (((decide ((1 : Int) ≠ (0 : Int)) = false) →
 ((false = true) ∧
 (True))) ∧
 ((decide ((1 : Int) ≠ (0 : Int)) = true) →
 ((false = true) ∧
 (True))))))))))))))))) ∧
 (((!Box.there (BoxI.b x8) (BoxI.u x8)) = true) →
 ((false = true) ∧
 (True))))) ∧
 ((decide (Box.heard (BoxI.b x8) (BoxI.u x8) ≠ (5 : Int)) = true) →
 ((false = true) ∧
 (True))))) ∧
 (((!(decide (Sta.unit (Box.last (BoxI.b x8) (BoxI.u x8)) = (0 : Int)) && (decide (Sta.seq (Box.last (BoxI.b x8) (BoxI.u x8)) = OrdX.word x1 + (1 : Int) + (1 : Int)) && (decide (Sta.state (Box.last (BoxI.b x8) (BoxI.u x8)) = (6 : Int)) && (decide (Sta.node (Box.last (BoxI.b x8) (BoxI.u x8)) = max (OrdX.b x1) (0 : Int)) && (decide (Sta.epoch (Box.last (BoxI.b x8) (BoxI.u x8)) = (0 : Int)) && true)))))) = true) →
 ((false = true) ∧
 (True))))) ∧
 ((Box.isNew (BoxS.b x7) (BoxS.s x7) = true) →
 ((false = true) ∧
 (True))))) ∧
 (((!Box.isNew (BoxS.b x6) (BoxS.s x6)) = true) →
 ((false = true) ∧
 (True)))))))))))))))))))) ∧
 ((decide ((0 : Int) ≠ (0 : Int)) = true) →
 ((false = true) ∧
 (True))))))))) ∧
 ((decide ((0 : Int) ≤ (1 : Int) ∧ (1 : Int) ≤ (256 : Int)) = false) →
 (∃ x43 : NewX,
 ((¬((0 : Int) ≤ NewX.n x43 ∧ NewX.n x43 ≤ (256 : Int))) ∧
 ((((1 : Int) = NewX.n x43) ∧
 (((0 : Int) = NewX.now x43) ∧
 (True))) ∧
 ((True) ∧
 (((decide ((1 : Int) ≠ (0 : Int)) = false) →
 ((false = true) ∧
 (True))) ∧
 ((decide ((1 : Int) ≠ (0 : Int)) = true) →
 ((false = true) ∧
 (True))))))))))))) = Keeps cfg9 Try.f5 ordC noIv by kernel_rfl) (fun x1 => fun h2 => ⟨fun g3 => have h3 := of_decide_eq_true g3; ⟨({ n := (1 : Int), now := (0 : Int) : NewX }),
 ⟨(by (try dsimp only at *); omega),
 (by (try dsimp only at *); omega)⟩,
 ⟨rfl,
 rfl,
 trivial⟩,
 trivial,
 fun g5 => have h5 := of_decide_eq_false g5; ⟨⟨(by (try dsimp only at *); omega),
 (by (try dsimp only at *); omega)⟩,
 ⟨(by (try dsimp only at *); omega),
 (by (try dsimp only at *); omega)⟩,
 ⟨(by (try dsimp only at *); omega),
 (by (try dsimp only at *); omega)⟩,
 ({ b := Box.new (1 : Int) (0 : Int), s := { unit := (0 : Int), seq := OrdX.word x1 + (1 : Int) + (1 : Int), state := (6 : Int), node := max (OrdX.b x1) (0 : Int), epoch := (0 : Int) : Sta }, now := (5 : Int) : BoxS }),
 (by (try dsimp only at *); ((repeat with_reducible refine Box.ok_add ?_ _ _); with_reducible exact Box.ok_new (by decide))),
 ⟨⟨rfl,
 rfl⟩,
 ⟨rfl,
 rfl,
 rfl,
 rfl,
 rfl,
 trivial⟩,
 rfl,
 trivial⟩,
 ⟨⟨⟨rfl,
 (by (try dsimp only at *); (simp [add_length, Box.new]; done))⟩,
 trivial⟩,
 ⟨(by (try dsimp only at *); (simp [add_length, Box.new]; done)),
 RowsEq.rfl'⟩,
 trivial⟩,
 ({ b := Box.add (Box.new (1 : Int) (0 : Int)) { unit := (0 : Int), seq := OrdX.word x1 + (1 : Int) + (1 : Int), state := (6 : Int), node := max (OrdX.b x1) (0 : Int), epoch := (0 : Int) : Sta } (5 : Int), s := { unit := (0 : Int), seq := OrdX.word x1 + (1 : Int), state := (1 : Int), node := max (OrdX.a x1) (0 : Int), epoch := (0 : Int) : Sta }, now := (9 : Int) : BoxS }),
 (by (try dsimp only at *); ((repeat with_reducible refine Box.ok_add ?_ _ _); with_reducible exact Box.ok_new (by decide))),
 ⟨⟨rfl,
 rfl⟩,
 ⟨rfl,
 rfl,
 rfl,
 rfl,
 rfl,
 trivial⟩,
 rfl,
 trivial⟩,
 ⟨⟨⟨rfl,
 (by (try dsimp only at *); (simp [add_length, Box.new]; done))⟩,
 trivial⟩,
 ⟨(by (try dsimp only at *); (simp [add_length, Box.new]; done)),
 RowsEq.rfl'⟩,
 trivial⟩,
 ({ b := Box.add (Box.add (Box.new (1 : Int) (0 : Int)) { unit := (0 : Int), seq := OrdX.word x1 + (1 : Int) + (1 : Int), state := (6 : Int), node := max (OrdX.b x1) (0 : Int), epoch := (0 : Int) : Sta } (5 : Int)) { unit := (0 : Int), seq := OrdX.word x1 + (1 : Int), state := (1 : Int), node := max (OrdX.a x1) (0 : Int), epoch := (0 : Int) : Sta } (9 : Int), u := (0 : Int) : BoxI }),
 trivial,
 ⟨⟨rfl,
 rfl⟩,
 rfl,
 trivial⟩,
 ⟨⟨⟨rfl,
 (by (try dsimp only at *); (simp [add_length, Box.new]; done))⟩,
 trivial⟩,
 ⟨(by (try dsimp only at *); (simp [add_length, Box.new]; done)),
 RowsEq.rfl'⟩,
 trivial⟩,
 fun h9 => ⟨fun h10 => ⟨fun h11 => ⟨fun g12 => have h12 := of_decide_eq_false g12; ⟨fun h13 => ⟨({ b := Box.add (Box.add (Box.new (1 : Int) (0 : Int)) { unit := (0 : Int), seq := OrdX.word x1 + (1 : Int) + (1 : Int), state := (6 : Int), node := max (OrdX.b x1) (0 : Int), epoch := (0 : Int) : Sta } (5 : Int)) { unit := (0 : Int), seq := OrdX.word x1 + (1 : Int), state := (1 : Int), node := max (OrdX.a x1) (0 : Int), epoch := (0 : Int) : Sta } (9 : Int), u := (0 : Int) : BoxI }),
 (by (try dsimp only at *); ((repeat with_reducible refine Box.ok_add ?_ _ _); with_reducible exact Box.ok_new (by decide))),
 ⟨⟨rfl,
 rfl⟩,
 rfl,
 trivial⟩,
 ⟨⟨⟨rfl,
 (by (try dsimp only at *); (simp [add_length, Box.new]; done))⟩,
 trivial⟩,
 ⟨(by (try dsimp only at *); (simp [add_length, Box.new]; done)),
 RowsEq.rfl'⟩,
 trivial⟩,
 fun g15 => have h15 := of_decide_eq_true g15; ⟨(by (try dsimp only at *); (have e1 := ord1 h2; have e2 := ord2 h2; have e3 := ord3 h2; have e4 := ord4 h2; have e5 := one_last (newer x1) 1 5 (by decide); have e6 := one_last (newer x1) 2 9 (by decide); simp only [newer, older] at e1 e2 e3 e4 e5 e6; simp only [e1.1, e1.2, e2.1, e2.2, e3, e4, e5.1, e5.2.1, e5.2.2.1, e5.2.2.2, e6.1, e6.2.1, e6.2.2.1, e6.2.2.2] at *; grind)),
 trivial⟩,
 fun g16 => have h16 := of_decide_eq_false g16; ⟨fun g17 => have h17 := of_decide_eq_true g17; ⟨({ n := (1 : Int), now := (0 : Int) : NewX }),
 ⟨(by (try dsimp only at *); omega),
 (by (try dsimp only at *); omega)⟩,
 ⟨rfl,
 rfl,
 trivial⟩,
 trivial,
 fun g19 => have h19 := of_decide_eq_false g19; ⟨({ b := Box.new (1 : Int) (0 : Int), s := { unit := (0 : Int), seq := OrdX.word x1 + (1 : Int), state := (1 : Int), node := max (OrdX.a x1) (0 : Int), epoch := (0 : Int) : Sta }, now := (9 : Int) : BoxS }),
 (by (try dsimp only at *); ((repeat with_reducible refine Box.ok_add ?_ _ _); with_reducible exact Box.ok_new (by decide))),
 ⟨⟨rfl,
 rfl⟩,
 ⟨rfl,
 rfl,
 rfl,
 rfl,
 rfl,
 trivial⟩,
 rfl,
 trivial⟩,
 ⟨⟨⟨rfl,
 (by (try dsimp only at *); (simp [add_length, Box.new]; done))⟩,
 trivial⟩,
 ⟨(by (try dsimp only at *); (simp [add_length, Box.new]; done)),
 RowsEq.rfl'⟩,
 trivial⟩,
 ({ b := Box.add (Box.new (1 : Int) (0 : Int)) { unit := (0 : Int), seq := OrdX.word x1 + (1 : Int), state := (1 : Int), node := max (OrdX.a x1) (0 : Int), epoch := (0 : Int) : Sta } (9 : Int), s := { unit := (0 : Int), seq := OrdX.word x1 + (1 : Int) + (1 : Int), state := (6 : Int), node := max (OrdX.b x1) (0 : Int), epoch := (0 : Int) : Sta }, now := (5 : Int) : BoxS }),
 (by (try dsimp only at *); ((repeat with_reducible refine Box.ok_add ?_ _ _); with_reducible exact Box.ok_new (by decide))),
 ⟨⟨rfl,
 rfl⟩,
 ⟨rfl,
 rfl,
 rfl,
 rfl,
 rfl,
 trivial⟩,
 rfl,
 trivial⟩,
 ⟨⟨⟨rfl,
 (by (try dsimp only at *); (simp [add_length, Box.new]; done))⟩,
 trivial⟩,
 ⟨(by (try dsimp only at *); (simp [add_length, Box.new]; done)),
 RowsEq.rfl'⟩,
 trivial⟩,
 ({ b := Box.add (Box.add (Box.new (1 : Int) (0 : Int)) { unit := (0 : Int), seq := OrdX.word x1 + (1 : Int), state := (1 : Int), node := max (OrdX.a x1) (0 : Int), epoch := (0 : Int) : Sta } (9 : Int)) { unit := (0 : Int), seq := OrdX.word x1 + (1 : Int) + (1 : Int), state := (6 : Int), node := max (OrdX.b x1) (0 : Int), epoch := (0 : Int) : Sta } (5 : Int), u := (0 : Int) : BoxI }),
 trivial,
 ⟨⟨rfl,
 rfl⟩,
 rfl,
 trivial⟩,
 ⟨⟨⟨rfl,
 (by (try dsimp only at *); (simp [add_length, Box.new]; done))⟩,
 trivial⟩,
 ⟨(by (try dsimp only at *); (simp [add_length, Box.new]; done)),
 RowsEq.rfl'⟩,
 trivial⟩,
 fun h23 => ⟨fun g24 => have h24 := of_decide_eq_true g24; ⟨({ b := Box.add (Box.add (Box.new (1 : Int) (0 : Int)) { unit := (0 : Int), seq := OrdX.word x1 + (1 : Int), state := (1 : Int), node := max (OrdX.a x1) (0 : Int), epoch := (0 : Int) : Sta } (9 : Int)) { unit := (0 : Int), seq := OrdX.word x1 + (1 : Int) + (1 : Int), state := (6 : Int), node := max (OrdX.b x1) (0 : Int), epoch := (0 : Int) : Sta } (5 : Int), u := (0 : Int) : BoxI }),
 (by (try dsimp only at *); ((repeat with_reducible refine Box.ok_add ?_ _ _); with_reducible exact Box.ok_new (by decide))),
 ⟨⟨rfl,
 rfl⟩,
 rfl,
 trivial⟩,
 ⟨⟨⟨rfl,
 (by (try dsimp only at *); (simp [add_length, Box.new]; done))⟩,
 trivial⟩,
 ⟨(by (try dsimp only at *); (simp [add_length, Box.new]; done)),
 RowsEq.rfl'⟩,
 trivial⟩,
 ⟨(by (try dsimp only at *); omega),
 (by (try dsimp only at *); omega)⟩,
 fun g26 => have h26 := of_decide_eq_true g26; ⟨(default),
 trivial,
 trivial,
 trivial,
 rfl,
 trivial⟩,
 fun g28 => have h28 := of_decide_eq_false g28; ⟨(by (try dsimp only at *); (have e1 := ord1 h2; have e2 := ord2 h2; have e3 := ord3 h2; have e4 := ord4 h2; have e5 := one_last (newer x1) 1 5 (by decide); have e6 := one_last (newer x1) 2 9 (by decide); simp only [newer, older] at e1 e2 e3 e4 e5 e6; simp only [e1.1, e1.2, e2.1, e2.2, e3, e4, e5.1, e5.2.1, e5.2.2.1, e5.2.2.2, e6.1, e6.2.1, e6.2.2.1, e6.2.2.2] at *; grind)),
 trivial⟩⟩,
 fun g29 => have h29 := of_decide_eq_false g29; ⟨(by (try dsimp only at *); (have e1 := ord1 h2; have e2 := ord2 h2; have e3 := ord3 h2; have e4 := ord4 h2; have e5 := one_last (newer x1) 1 5 (by decide); have e6 := one_last (newer x1) 2 9 (by decide); simp only [newer, older] at e1 e2 e3 e4 e5 e6; simp only [e1.1, e1.2, e2.1, e2.2, e3, e4, e5.1, e5.2.1, e5.2.2.1, e5.2.2.2, e6.1, e6.2.1, e6.2.2.1, e6.2.2.2] at *; grind)),
 trivial⟩⟩,
 fun h30 => ⟨(by (try dsimp only at *); (have e1 := ord1 h2; have e2 := ord2 h2; have e3 := ord3 h2; have e4 := ord4 h2; have e5 := one_last (newer x1) 1 5 (by decide); have e6 := one_last (newer x1) 2 9 (by decide); simp only [newer, older] at e1 e2 e3 e4 e5 e6; simp only [e1.1, e1.2, e2.1, e2.2, e3, e4, e5.1, e5.2.1, e5.2.2.1, e5.2.2.2, e6.1, e6.2.1, e6.2.2.1, e6.2.2.2] at *; grind)),
 trivial⟩⟩,
 fun g31 => have h31 := of_decide_eq_true g31; ⟨(by (try dsimp only at *); omega),
 trivial⟩⟩,
 fun g32 => have h32 := of_decide_eq_false g32; ⟨({ n := (1 : Int), now := (0 : Int) : NewX }),
 (by (try dsimp only at *); omega),
 ⟨rfl,
 rfl,
 trivial⟩,
 trivial,
 fun g34 => have h34 := of_decide_eq_false g34; ⟨(by (try dsimp only at *); omega),
 trivial⟩,
 fun g35 => have h35 := of_decide_eq_true g35; ⟨(by (try dsimp only at *); omega),
 trivial⟩⟩⟩⟩,
 fun h36 => ⟨(by (try dsimp only at *); (have e1 := ord1 h2; have e2 := ord2 h2; have e3 := ord3 h2; have e4 := ord4 h2; have e5 := one_last (newer x1) 1 5 (by decide); have e6 := one_last (newer x1) 2 9 (by decide); simp only [newer, older] at e1 e2 e3 e4 e5 e6; simp only [e1.1, e1.2, e2.1, e2.2, e3, e4, e5.1, e5.2.1, e5.2.2.1, e5.2.2.2, e6.1, e6.2.1, e6.2.2.1, e6.2.2.2] at *; grind)),
 trivial⟩⟩,
 fun g37 => have h37 := of_decide_eq_true g37; ⟨(by (try dsimp only at *); (have e1 := ord1 h2; have e2 := ord2 h2; have e3 := ord3 h2; have e4 := ord4 h2; have e5 := one_last (newer x1) 1 5 (by decide); have e6 := one_last (newer x1) 2 9 (by decide); simp only [newer, older] at e1 e2 e3 e4 e5 e6; simp only [e1.1, e1.2, e2.1, e2.2, e3, e4, e5.1, e5.2.1, e5.2.2.1, e5.2.2.2, e6.1, e6.2.1, e6.2.2.1, e6.2.2.2] at *; grind)),
 trivial⟩⟩,
 fun h38 => ⟨(by (try dsimp only at *); (have e1 := ord1 h2; have e2 := ord2 h2; have e3 := ord3 h2; have e4 := ord4 h2; have e5 := one_last (newer x1) 1 5 (by decide); have e6 := one_last (newer x1) 2 9 (by decide); simp only [newer, older] at e1 e2 e3 e4 e5 e6; simp only [e1.1, e1.2, e2.1, e2.2, e3, e4, e5.1, e5.2.1, e5.2.2.1, e5.2.2.2, e6.1, e6.2.1, e6.2.2.1, e6.2.2.2] at *; grind)),
 trivial⟩⟩,
 fun h39 => ⟨(by (try dsimp only at *); (have e1 := ord1 h2; have e2 := ord2 h2; have e3 := ord3 h2; have e4 := ord4 h2; have e5 := one_last (newer x1) 1 5 (by decide); have e6 := one_last (newer x1) 2 9 (by decide); simp only [newer, older] at e1 e2 e3 e4 e5 e6; simp only [e1.1, e1.2, e2.1, e2.2, e3, e4, e5.1, e5.2.1, e5.2.2.1, e5.2.2.2, e6.1, e6.2.1, e6.2.2.1, e6.2.2.2] at *; grind)),
 trivial⟩⟩,
 fun h40 => ⟨(by (try dsimp only at *); (have e1 := ord1 h2; have e2 := ord2 h2; have e3 := ord3 h2; have e4 := ord4 h2; have e5 := one_last (newer x1) 1 5 (by decide); have e6 := one_last (newer x1) 2 9 (by decide); simp only [newer, older] at e1 e2 e3 e4 e5 e6; simp only [e1.1, e1.2, e2.1, e2.2, e3, e4, e5.1, e5.2.1, e5.2.2.1, e5.2.2.2, e6.1, e6.2.1, e6.2.2.1, e6.2.2.2] at *; grind)),
 trivial⟩⟩,
 fun g41 => have h41 := of_decide_eq_true g41; ⟨(by (try dsimp only at *); omega),
 trivial⟩⟩,
 fun g42 => have h42 := of_decide_eq_false g42; ⟨({ n := (1 : Int), now := (0 : Int) : NewX }),
 (by (try dsimp only at *); omega),
 ⟨rfl,
 rfl,
 trivial⟩,
 trivial,
 fun g44 => have h44 := of_decide_eq_false g44; ⟨(by (try dsimp only at *); omega),
 trivial⟩,
 fun g45 => have h45 := of_decide_eq_true g45; ⟨(by (try dsimp only at *); omega),
 trivial⟩⟩⟩)

theorem ord_good : Good Try.prog 5 ordC ∧ FnOk Try.prog 5 := good_of tok con9 (fn := Try.f5) rfl (by decide +kernel) (fun _ => rfl) ord_keeps
end Go.Sym
