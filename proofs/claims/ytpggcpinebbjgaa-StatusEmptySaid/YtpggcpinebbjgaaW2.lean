/- law30: the walks (II): what writes, what loops. -/
import Derived.Test.YtpggcpinebbjgaaW1
import Derived.Test.YtpggcpinebbjgaaXD
namespace Go.Sym
set_option linter.unusedVariables false
set_option linter.unusedSimpArgs false
open Go.Proofs
theorem Box.add_length (b : Box) (s : Sta) (now : Int) : (b.add s now).length = b.length := by
  unfold Box.add; split <;> simp
theorem Box.isNew_has {b : Box} {s : Sta} (h : b.isNew s = true) : 0 ≤ s.unit ∧ s.unit < b.length := by
  simp [Box.isNew, Box.valid, Box.has] at h
  omega
def C2 : List (Nat × Con) := (30, .one validC) :: C1
def cfg2 : Cfg := ⟨T, [], C2, noInv, 0, {}⟩
def addC : CT where
  X := BoxS
  pre := fun x => x.b.Ok
  args := fun x => [.p 100000 0 0, encSta x.s, .i .i64 x.now]
  g0 := fun x => boxH .own x.b
  res := fun x => .tup [.b (x.b.isNew x.s), .i .i64 (x.b.err x.s)]
  g1 := fun x => [(100001, .rows .own k7 x.b.length (encL encRec (x.b.add x.s x.now)))]
set_option maxRecDepth 100000 in
theorem add_keeps : Keeps cfg2 Try.f16 addC noIv := Eq.mp (show ((∀ x1 : BoxS,
 ((Box.Ok (BoxS.b x1)) →
 (∃ x3 : BoxS,
 ((True) ∧
 (((((0 : Nat) = (0 : Nat)) ∧
 ((0 : Nat) = (0 : Nat))) ∧
 (((Sta.unit (BoxS.s x1) = Sta.unit (BoxS.s x3)) ∧
 ((Sta.seq (BoxS.s x1) = Sta.seq (BoxS.s x3)) ∧
 ((Sta.state (BoxS.s x1) = Sta.state (BoxS.s x3)) ∧
 ((Sta.node (BoxS.s x1) = Sta.node (BoxS.s x3)) ∧
 ((Sta.epoch (BoxS.s x1) = Sta.epoch (BoxS.s x3)) ∧
 (True)))))) ∧
 (True))) ∧
 ((((((0 : Nat) = (0 : Nat)) ∧
 (List.length (BoxS.b x1) = List.length (BoxS.b x3))) ∧
 (True)) ∧
 (((RLe (List.length (BoxS.b x3)) (List.length (BoxS.b x1))) ∧
 (RowsEq (Kd.int IntKind.i64 :: Kd.int IntKind.i64 :: Kd.int IntKind.i64 :: Kd.int IntKind.i64 :: Kd.int IntKind.i64 :: Kd.int IntKind.i64 :: Kd.int IntKind.i64 :: @List.nil Kd) (List.length (BoxS.b x3)) (encL encRec (BoxS.b x1)) (encL encRec (BoxS.b x3)))) ∧
 (True))) ∧
 ((((!Box.valid (BoxS.b x3) (BoxS.s x3)) = true) →
 (((false = Box.isNew (BoxS.b x1) (BoxS.s x1)) ∧
 (((1 : Int) = Box.err (BoxS.b x1) (BoxS.s x1)) ∧
 (True))) ∧
 (((RLe (List.length (BoxS.b x1)) (List.length (BoxS.b x1))) ∧
 (RowsEq (Kd.int IntKind.i64 :: Kd.int IntKind.i64 :: Kd.int IntKind.i64 :: Kd.int IntKind.i64 :: Kd.int IntKind.i64 :: Kd.int IntKind.i64 :: Kd.int IntKind.i64 :: @List.nil Kd) (List.length (BoxS.b x1)) (encL encRec (BoxS.b x1)) (encL encRec (Box.add (BoxS.b x1) (BoxS.s x1) (BoxS.now x1))))) ∧
 (True)))) ∧
 (((!Box.valid (BoxS.b x3) (BoxS.s x3)) = false) →
 ((((0 : Int) ≤ Sta.unit (BoxS.s x1)) ∧
 (Sta.unit (BoxS.s x1) < (↑(List.length (BoxS.b x1)) : Int))) ∧
 (((0 : Nat) + Int.toNat (Sta.unit (BoxS.s x1)) < List.length (BoxS.b x1)) ∧
 (((decide (Sta.seq (BoxS.s x1) ≤ Sta.seq (Rec.sta (List.getD (BoxS.b x1) ((0 : Nat) + Int.toNat (Sta.unit (BoxS.s x1))) default))) = true) →
 (((false = Box.isNew (BoxS.b x1) (BoxS.s x1)) ∧
 (((0 : Int) = Box.err (BoxS.b x1) (BoxS.s x1)) ∧
 (True))) ∧
 (((RLe (List.length (BoxS.b x1)) (List.length (BoxS.b x1))) ∧
 (RowsEq (Kd.int IntKind.i64 :: Kd.int IntKind.i64 :: Kd.int IntKind.i64 :: Kd.int IntKind.i64 :: Kd.int IntKind.i64 :: Kd.int IntKind.i64 :: Kd.int IntKind.i64 :: @List.nil Kd) (List.length (BoxS.b x1)) (encL encRec (BoxS.b x1)) (encL encRec (Box.add (BoxS.b x1) (BoxS.s x1) (BoxS.now x1))))) ∧
 (True)))) ∧
 ((decide (Sta.seq (BoxS.s x1) ≤ Sta.seq (Rec.sta (List.getD (BoxS.b x1) ((0 : Nat) + Int.toNat (Sta.unit (BoxS.s x1))) default))) = false) →
 ((((0 : Nat) + Int.toNat (Sta.unit (BoxS.s x1)) < List.length (BoxS.b x1)) ∧
 ((True) ∧
 ((True) ∧
 ((True) ∧
 ((True) ∧
 ((True) ∧
 (True))))))) ∧
 (((0 : Nat) + Int.toNat (Sta.unit (BoxS.s x1)) < List.length (BoxS.b x1)) ∧
 ((((-9223372036854775808 : Int) ≤ D.toI (if (0 : Nat) + Int.toNat (Sta.unit (BoxS.s x1)) = (0 : Nat) + Int.toNat (Sta.unit (BoxS.s x1)) then D.i (Rec.added (List.getD (BoxS.b x1) ((0 : Nat) + Int.toNat (Sta.unit (BoxS.s x1))) default)) else D.i (Rec.added (List.getD (BoxS.b x1) ((0 : Nat) + Int.toNat (Sta.unit (BoxS.s x1))) default))) + (1 : Int)) ∧
 (D.toI (if (0 : Nat) + Int.toNat (Sta.unit (BoxS.s x1)) = (0 : Nat) + Int.toNat (Sta.unit (BoxS.s x1)) then D.i (Rec.added (List.getD (BoxS.b x1) ((0 : Nat) + Int.toNat (Sta.unit (BoxS.s x1))) default)) else D.i (Rec.added (List.getD (BoxS.b x1) ((0 : Nat) + Int.toNat (Sta.unit (BoxS.s x1))) default))) + (1 : Int) ≤ (9223372036854775807 : Int))) ∧
 ((((0 : Nat) + Int.toNat (Sta.unit (BoxS.s x1)) < List.length (BoxS.b x1)) ∧
 ((True) ∧
 (True))) ∧
 (((0 : Nat) + Int.toNat (Sta.unit (BoxS.s x1)) < List.length (BoxS.b x1)) ∧
 (∃ x8 : Int,
 ((True) ∧
 (((BoxS.now x1 = x8) ∧
 (True)) ∧
 ((True) ∧
 ((((0 : Nat) + Int.toNat (Sta.unit (BoxS.s x1)) < List.length (BoxS.b x1)) ∧
 ((True) ∧
 (True))) ∧
 (((true = Box.isNew (BoxS.b x1) (BoxS.s x1)) ∧
 (((0 : Int) = Box.err (BoxS.b x1) (BoxS.s x1)) ∧
 (True))) ∧
 (((RLe (List.length (BoxS.b x1)) (List.length (BoxS.b x1))) ∧
 (RowsEq (Kd.int IntKind.i64 :: Kd.int IntKind.i64 :: Kd.int IntKind.i64 :: Kd.int IntKind.i64 :: Kd.int IntKind.i64 :: Kd.int IntKind.i64 :: Kd.int IntKind.i64 :: @List.nil Kd) (List.length (BoxS.b x1)) (setRow (setRow (setRow (encL encRec (BoxS.b x1)) ((0 : Nat) + Int.toNat (Sta.unit (BoxS.s x1))) (0 : Nat) (D.i (Sta.unit (BoxS.s x1)) :: D.i (Sta.seq (BoxS.s x1)) :: D.i (Sta.state (BoxS.s x1)) :: D.i (Sta.node (BoxS.s x1)) :: D.i (Sta.epoch (BoxS.s x1)) :: @List.nil D)) ((0 : Nat) + Int.toNat (Sta.unit (BoxS.s x1))) (5 : Nat) (D.i (D.toI (if (0 : Nat) + Int.toNat (Sta.unit (BoxS.s x1)) = (0 : Nat) + Int.toNat (Sta.unit (BoxS.s x1)) then D.i (Rec.added (List.getD (BoxS.b x1) ((0 : Nat) + Int.toNat (Sta.unit (BoxS.s x1))) default)) else D.i (Rec.added (List.getD (BoxS.b x1) ((0 : Nat) + Int.toNat (Sta.unit (BoxS.s x1))) default))) + (1 : Int)) :: @List.nil D)) ((0 : Nat) + Int.toNat (Sta.unit (BoxS.s x1))) (6 : Nat) (D.i (max (D.toI (if (0 : Nat) + Int.toNat (Sta.unit (BoxS.s x1)) = (0 : Nat) + Int.toNat (Sta.unit (BoxS.s x1)) then if (0 : Nat) + Int.toNat (Sta.unit (BoxS.s x1)) = (0 : Nat) + Int.toNat (Sta.unit (BoxS.s x1)) then D.i (Rec.heard (List.getD (BoxS.b x1) ((0 : Nat) + Int.toNat (Sta.unit (BoxS.s x1))) default)) else D.i (Rec.heard (List.getD (BoxS.b x1) ((0 : Nat) + Int.toNat (Sta.unit (BoxS.s x1))) default)) else if (0 : Nat) + Int.toNat (Sta.unit (BoxS.s x1)) = (0 : Nat) + Int.toNat (Sta.unit (BoxS.s x1)) then D.i (Rec.heard (List.getD (BoxS.b x1) ((0 : Nat) + Int.toNat (Sta.unit (BoxS.s x1))) default)) else D.i (Rec.heard (List.getD (BoxS.b x1) ((0 : Nat) + Int.toNat (Sta.unit (BoxS.s x1))) default)))) (minMax x8)) :: @List.nil D)) (encL encRec (Box.add (BoxS.b x1) (BoxS.s x1) (BoxS.now x1))))) ∧
 (True)))))))))))))))))))))))))) = Keeps cfg2 Try.f16 addC noIv by kernel_rfl) (fun x1 => fun h2 => ⟨({ b := BoxS.b x1, s := BoxS.s x1, now := default : BoxS }),
 trivial,
 ⟨⟨rfl,
 rfl⟩,
 ⟨rfl,
 rfl,
 rfl,
 rfl,
 rfl,
 trivial⟩,
 trivial⟩,
 ⟨⟨⟨rfl,
 rfl⟩,
 trivial⟩,
 ⟨⟨Nat.le_refl _⟩,
 RowsEq.rfl'⟩,
 trivial⟩,
 fun h4 => ⟨⟨(by (try dsimp only at *); grind [Box.isNew, Box.err, Box.add, Box.valid, Box.has, Box.at]),
 (by (try dsimp only at *); grind [Box.isNew, Box.err, Box.add, Box.valid, Box.has, Box.at]),
 trivial⟩,
 ⟨⟨Nat.le_refl _⟩,
 (by (try dsimp only at *); (have e : x1.b.add x1.s x1.now = x1.b := (by grind [Box.isNew, Box.err, Box.add, Box.valid, Box.has, Box.at]); rw [e]; exact RowsEq.rfl'))⟩,
 trivial⟩,
 fun h5 => ⟨⟨(by (try dsimp only at *); grind [Box.isNew, Box.err, Box.add, Box.valid, Box.has, Box.at]),
 (by (try dsimp only at *); grind [Box.isNew, Box.err, Box.add, Box.valid, Box.has, Box.at])⟩,
 (by (try dsimp only at *); grind [Box.isNew, Box.err, Box.add, Box.valid, Box.has, Box.at]),
 fun g6 => have h6 := of_decide_eq_true g6; ⟨⟨(by (try dsimp only at *); grind [Box.isNew, Box.err, Box.add, Box.valid, Box.has, Box.at]),
 (by (try dsimp only at *); grind [Box.isNew, Box.err, Box.add, Box.valid, Box.has, Box.at]),
 trivial⟩,
 ⟨⟨Nat.le_refl _⟩,
 (by (try dsimp only at *); (have e : x1.b.add x1.s x1.now = x1.b := (by grind [Box.isNew, Box.err, Box.add, Box.valid, Box.has, Box.at]); rw [e]; exact RowsEq.rfl'))⟩,
 trivial⟩,
 fun g7 => have h7 := of_decide_eq_false g7; ⟨⟨(by (try dsimp only at *); grind [Box.isNew, Box.err, Box.add, Box.valid, Box.has, Box.at]),
 trivial,
 trivial,
 trivial,
 trivial,
 trivial,
 trivial⟩,
 (by (try dsimp only at *); grind [Box.isNew, Box.err, Box.add, Box.valid, Box.has, Box.at]),
 ⟨(by (try dsimp only at *); (have hh : x1.s.unit.toNat < x1.b.length := (by grind [Box.isNew, Box.err, Box.add, Box.valid, Box.has, Box.at]); have h := h2 x1.s.unit.toNat hh; obtain ⟨a, b, c⟩ := h; unfold lim at *; simp only [Nat.zero_add, if_true, D.toI]; omega)),
 (by (try dsimp only at *); (have hh : x1.s.unit.toNat < x1.b.length := (by grind [Box.isNew, Box.err, Box.add, Box.valid, Box.has, Box.at]); have h := h2 x1.s.unit.toNat hh; obtain ⟨a, b, c⟩ := h; unfold lim at *; simp only [Nat.zero_add, if_true, D.toI]; omega))⟩,
 ⟨(by (try dsimp only at *); grind [Box.isNew, Box.err, Box.add, Box.valid, Box.has, Box.at]),
 trivial,
 trivial⟩,
 (by (try dsimp only at *); grind [Box.isNew, Box.err, Box.add, Box.valid, Box.has, Box.at]),
 (BoxS.now x1),
 trivial,
 ⟨rfl,
 trivial⟩,
 trivial,
 ⟨(by (try dsimp only at *); grind [Box.isNew, Box.err, Box.add, Box.valid, Box.has, Box.at]),
 trivial,
 trivial⟩,
 ⟨(by (try dsimp only at *); grind [Box.isNew, Box.err, Box.add, Box.valid, Box.has, Box.at]),
 (by (try dsimp only at *); grind [Box.isNew, Box.err, Box.add, Box.valid, Box.has, Box.at]),
 trivial⟩,
 ⟨⟨Nat.le_refl _⟩,
 (by
          have hn : x1.b.isNew x1.s = true := by grind [Box.isNew, Box.err, Box.add, Box.valid, Box.has, Box.at]
          have hl := Box.isNew_has hn
          simp only [Nat.zero_add, Box.add, hn, if_true]
          have h1 := rowsEq_set (ks := k7) (e := encRec) (n := x1.b.length) (c := 0) (ds := [D.i x1.s.unit, D.i x1.s.seq, D.i x1.s.state, D.i x1.s.node, D.i x1.s.epoch]) (xs := x1.b) (r := x1.s.unit.toNat) (v := ⟨x1.s, (x1.b.at x1.s.unit).added, (x1.b.at x1.s.unit).heard⟩) (by omega) (by simp only [rowEq, Kd.eqv, k7]; exact ⟨rfl, rfl, rfl, rfl, rfl, rfl, rfl, trivial⟩)
          have h2 := rowsEq_setOf h1 (r := x1.s.unit.toNat) (c := 5) (ds := [D.i ((x1.b.at x1.s.unit).added + 1)]) (v := ⟨x1.s, (x1.b.at x1.s.unit).added + 1, (x1.b.at x1.s.unit).heard⟩) (by omega) (by simp; omega) (by rw [getD_set_self (by omega)]; simp only [rowEq, Kd.eqv, k7]; exact ⟨rfl, rfl, rfl, rfl, rfl, rfl, rfl, trivial⟩)
          have h3 := rowsEq_setOf h2 (r := x1.s.unit.toNat) (c := 6) (ds := [D.i (max (x1.b.at x1.s.unit).heard (minMax x1.now))]) (v := ⟨x1.s, (x1.b.at x1.s.unit).added + 1, max (x1.b.at x1.s.unit).heard (minMax x1.now)⟩) (by omega) (by simp; omega) (by rw [getD_set_self (by simp; omega)]; simp only [rowEq, Kd.eqv, k7]; exact ⟨rfl, rfl, rfl, rfl, rfl, rfl, rfl, trivial⟩)
          simp only [List.set_set] at h3
          exact h3)⟩,
 trivial⟩⟩⟩)

structure NewX where
  n : Int
  now : Int
def newC : CT where
  X := NewX
  pre := fun x => 0 ≤ x.n ∧ x.n ≤ 256
  args := fun x => [.i .i64 x.n, .i .i64 x.now]
  g0 := fun _ => []
  res := fun x => .tup [.p 1 0 0, .i .i64 0]
  g1 := fun x => [(1, .one .own [.sl 2 0 x.n.toNat]), (2, .rows .own k7 x.n.toNat (encL encRec (Box.new x.n x.now)))]
def newNo : CT where
  X := NewX
  pre := fun x => ¬ (0 ≤ x.n ∧ x.n ≤ 256)
  args := fun x => [.i .i64 x.n, .i .i64 x.now]
  g0 := fun _ => []
  res := fun x => .tup [.np, .i .i64 1]
  g1 := fun x => []
def zeroRec : Rec := ⟨zeroSta, 0, 0⟩
def boxAt (x : NewX) (k : Nat) : Box := List.replicate k ⟨zeroSta, 0, minMax x.now⟩ ++ List.replicate (x.n.toNat - k) zeroRec
def newI (x : NewX) (id : Nat) : Option Inv := match id with
  | 0 => some { X := Nat, ok := fun k => k ≤ x.n.toNat, fr := fun k => [(23, .i .i64 k)], hp := fun k => [(15, .rows .own k7 x.n.toNat (encL encRec (boxAt x k)))], me := fun k => x.n.toNat - k }
  | _ => none
theorem boxAt_length (x : NewX) (k : Nat) (h : k ≤ x.n.toNat) : (boxAt x k).length = x.n.toNat := by simp [boxAt]; omega
theorem boxAt_succ (x : NewX) (k : Nat) (h : k < x.n.toNat) : boxAt x (k + 1) = (boxAt x k).set k ⟨zeroSta, 0, minMax x.now⟩ := by
  apply List.ext_getElem
  · simp [boxAt]; omega
  · intro i h1 h2
    simp only [boxAt, List.getElem_set, List.getElem_append, List.getElem_replicate, List.length_replicate]
    grind
theorem boxAt_get (x : NewX) (k : Nat) (h : k < x.n.toNat) : (boxAt x k).getD k default = zeroRec := by
  have hl := boxAt_length x k (by omega)
  rw [List.getD_eq_getElem?_getD, List.getElem?_eq_getElem (by omega)]
  simp [boxAt]
set_option maxRecDepth 100000 in
theorem new_keeps : Keeps cfg1 Try.f15 newC newI := Eq.mp (show ((∀ x1 : NewX,
 (((0 : Int) ≤ NewX.n x1 ∧ NewX.n x1 ≤ (256 : Int)) →
 (((decide (NewX.n x1 < (0 : Int)) = false) →
 (((decide ((256 : Int) < NewX.n x1) = true) →
 (((False) ∧
 (((1 : Int) = (0 : Int)) ∧
 (True))) ∧
 ((False) ∧
 ((Int.toNat (NewX.n x1) = (0 : Nat)) ∧
 (True))))) ∧
 ((decide ((256 : Int) < NewX.n x1) = false) →
 ((((0 : Int) ≤ NewX.n x1) ∧
 ((NewX.n x1 ≤ NewX.n x1) ∧
 (NewX.n x1 ≤ (↑(1073741824 : Nat) : Int)))) ∧
 (∃ x6 : Nat,
 (((x6 ≤ Int.toNat (NewX.n x1)) ∧
 ((((0 : Int) = (↑x6 : Int)) ∧
 (((↑(Int.toNat (NewX.n x1)) : Int) = (↑(Int.toNat (NewX.n x1)) : Int)) ∧
 ((((0 : Nat) = (0 : Nat)) ∧
 ((0 : Nat) = (0 : Nat))) ∧
 ((NewX.now x1 = NewX.now x1) ∧
 (True))))) ∧
 (((RLe (Int.toNat (NewX.n x1)) (Int.toNat (NewX.n x1))) ∧
 (RowsEq (Kd.int IntKind.i64 :: Kd.int IntKind.i64 :: Kd.int IntKind.i64 :: Kd.int IntKind.i64 :: Kd.int IntKind.i64 :: Kd.int IntKind.i64 :: Kd.int IntKind.i64 :: @List.nil Kd) (Int.toNat (NewX.n x1)) (fun (x j : Nat) => zRow (Kd.int IntKind.i64 :: Kd.int IntKind.i64 :: Kd.int IntKind.i64 :: Kd.int IntKind.i64 :: Kd.int IntKind.i64 :: Kd.int IntKind.i64 :: Kd.int IntKind.i64 :: @List.nil Kd) j) (encL encRec (boxAt x1 x6)))) ∧
 (((((0 : Nat) = (0 : Nat)) ∧
 (Int.toNat (NewX.n x1) = Int.toNat (NewX.n x1))) ∧
 (True)) ∧
 (True))))) ∧
 (∀ x7 : Nat,
 ((x7 ≤ Int.toNat (NewX.n x1)) →
 (((decide ((↑x7 : Int) < (↑(Int.toNat (NewX.n x1)) : Int)) = true) →
 (∃ x10 : Int,
 ((True) ∧
 (((NewX.now x1 = x10) ∧
 (True)) ∧
 ((True) ∧
 ((((0 : Int) ≤ (↑x7 : Int)) ∧
 ((↑x7 : Int) < (↑(Int.toNat (NewX.n x1)) : Int))) ∧
 ((((0 : Nat) + Int.toNat (↑x7 : Int) < Int.toNat (NewX.n x1)) ∧
 ((True) ∧
 (True))) ∧
 ((((-9223372036854775808 : Int) ≤ (↑x7 : Int) + (1 : Int)) ∧
 ((↑x7 : Int) + (1 : Int) ≤ (9223372036854775807 : Int))) ∧
 (∃ x11 : Nat,
 ((Int.toNat (NewX.n x1) - x11 < Int.toNat (NewX.n x1) - x7) ∧
 ((x11 ≤ Int.toNat (NewX.n x1)) ∧
 ((((↑x7 : Int) + (1 : Int) = (↑x11 : Int)) ∧
 (((↑(Int.toNat (NewX.n x1)) : Int) = (↑(Int.toNat (NewX.n x1)) : Int)) ∧
 ((((0 : Nat) = (0 : Nat)) ∧
 ((0 : Nat) = (0 : Nat))) ∧
 ((NewX.now x1 = NewX.now x1) ∧
 (True))))) ∧
 (((RLe (Int.toNat (NewX.n x1)) (Int.toNat (NewX.n x1))) ∧
 (RowsEq (Kd.int IntKind.i64 :: Kd.int IntKind.i64 :: Kd.int IntKind.i64 :: Kd.int IntKind.i64 :: Kd.int IntKind.i64 :: Kd.int IntKind.i64 :: Kd.int IntKind.i64 :: @List.nil Kd) (Int.toNat (NewX.n x1)) (setRow (encL encRec (boxAt x1 x7)) ((0 : Nat) + Int.toNat (↑x7 : Int)) (6 : Nat) (D.i (minMax x10) :: @List.nil D)) (encL encRec (boxAt x1 x11)))) ∧
 (((((0 : Nat) = (0 : Nat)) ∧
 (Int.toNat (NewX.n x1) = Int.toNat (NewX.n x1))) ∧
 (True)) ∧
 (True))))))))))))))) ∧
 ((decide ((↑x7 : Int) < (↑(Int.toNat (NewX.n x1)) : Int)) = false) →
 (((((0 : Nat) = (0 : Nat)) ∧
 ((0 : Nat) = (0 : Nat))) ∧
 (((0 : Int) = (0 : Int)) ∧
 (True))) ∧
 (((((0 : Nat) = (0 : Nat)) ∧
 (Int.toNat (NewX.n x1) = Int.toNat (NewX.n x1))) ∧
 (True)) ∧
 (((RLe (Int.toNat (NewX.n x1)) (Int.toNat (NewX.n x1))) ∧
 (RowsEq (Kd.int IntKind.i64 :: Kd.int IntKind.i64 :: Kd.int IntKind.i64 :: Kd.int IntKind.i64 :: Kd.int IntKind.i64 :: Kd.int IntKind.i64 :: Kd.int IntKind.i64 :: @List.nil Kd) (Int.toNat (NewX.n x1)) (encL encRec (boxAt x1 x7)) (encL encRec (Box.new (NewX.n x1) (NewX.now x1))))) ∧
 (True)))))))))))))) ∧
 ((decide (NewX.n x1 < (0 : Int)) = true) →
 (((False) ∧
 (((1 : Int) = (0 : Int)) ∧
 (True))) ∧
 ((False) ∧
 ((Int.toNat (NewX.n x1) = (0 : Nat)) ∧
 (True))))))))) = Keeps cfg1 Try.f15 newC newI by kernel_rfl) (fun x1 => fun h2 => ⟨fun g3 => have h3 := of_decide_eq_false g3; ⟨fun g4 => have h4 := of_decide_eq_true g4; ⟨⟨(by omega),
 (by omega),
 trivial⟩,
 (by omega),
 (by omega),
 trivial⟩,
 fun g5 => have h5 := of_decide_eq_false g5; ⟨⟨(by omega),
 (by omega),
 (by omega)⟩,
 ((0 : Nat)),
 ⟨(by (try dsimp only at *); omega),
 ⟨(by (try dsimp only at *); omega),
 rfl,
 ⟨rfl,
 rfl⟩,
 rfl,
 trivial⟩,
 ⟨⟨Nat.le_refl _⟩,
 (by
          have e : boxAt x1 0 = List.replicate x1.n.toNat default := by simp only [boxAt, List.replicate_zero, List.nil_append, Nat.sub_zero]; rfl
          rw [e]; exact rowsEq_zero (ks := k7) (e := encRec) (by simp only [rowEq, Kd.eqv, k7]; exact ⟨rfl, rfl, rfl, rfl, rfl, rfl, rfl, trivial⟩))⟩,
 ⟨⟨rfl,
 rfl⟩,
 trivial⟩,
 trivial⟩,
 fun x7 => fun h8 => ⟨fun g9 => have h9 := of_decide_eq_true g9; ⟨(NewX.now x1),
 trivial,
 ⟨rfl,
 trivial⟩,
 trivial,
 ⟨(by (try dsimp only at *); omega),
 (by (try dsimp only at *); omega)⟩,
 ⟨(by (try dsimp only at *); omega),
 trivial,
 trivial⟩,
 ⟨(by (try dsimp only at *); omega),
 (by (try dsimp only at *); omega)⟩,
 (x7 + (1 : Nat)),
 (by (try dsimp only at *); omega),
 (by (try dsimp only at *); omega),
 ⟨(by (try dsimp only at *); omega),
 rfl,
 ⟨rfl,
 rfl⟩,
 rfl,
 trivial⟩,
 ⟨⟨Nat.le_refl _⟩,
 (by
          have hk : x7 < x1.n.toNat := by grind
          rw [boxAt_succ x1 x7 hk]
          simp only [Nat.zero_add, Int.toNat_natCast]
          refine rowsEq_set (by rw [boxAt_length x1 x7 h8]; exact hk) ?_
          rw [boxAt_get x1 x7 hk]
          simp only [rowEq, Kd.eqv, k7]; exact ⟨rfl, rfl, rfl, rfl, rfl, rfl, rfl, trivial⟩)⟩,
 ⟨⟨rfl,
 rfl⟩,
 trivial⟩,
 trivial⟩,
 fun g12 => have h12 := of_decide_eq_false g12; ⟨⟨⟨rfl,
 rfl⟩,
 rfl,
 trivial⟩,
 ⟨⟨rfl,
 rfl⟩,
 trivial⟩,
 ⟨⟨Nat.le_refl _⟩,
 (by
          have hk : x7 = x1.n.toNat := by grind
          subst hk
          have : boxAt x1 x1.n.toNat = Box.new x1.n x1.now := by simp [boxAt, Box.new]
          rw [this]; exact RowsEq.rfl')⟩,
 trivial⟩⟩⟩⟩,
 fun g13 => have h13 := of_decide_eq_true g13; ⟨⟨(by (try dsimp only at *); omega),
 (by (try dsimp only at *); omega),
 trivial⟩,
 (by (try dsimp only at *); omega),
 (by (try dsimp only at *); omega),
 trivial⟩⟩)

set_option maxRecDepth 100000 in
theorem newNo_keeps : Keeps cfg1 Try.f15 newNo noIv := Eq.mp (show ((∀ x1 : NewX,
 ((¬((0 : Int) ≤ NewX.n x1 ∧ NewX.n x1 ≤ (256 : Int))) →
 (((decide (NewX.n x1 < (0 : Int)) = false) →
 (((decide ((256 : Int) < NewX.n x1) = true) →
 (((True) ∧
 (((1 : Int) = (1 : Int)) ∧
 (True))) ∧
 (True))) ∧
 ((decide ((256 : Int) < NewX.n x1) = false) →
 ((((0 : Int) ≤ NewX.n x1) ∧
 ((NewX.n x1 ≤ NewX.n x1) ∧
 (NewX.n x1 ≤ (↑(1073741824 : Nat) : Int)))) ∧
 (Stuck (12 : Nat) (0 : Nat)))))) ∧
 ((decide (NewX.n x1 < (0 : Int)) = true) →
 (((True) ∧
 (((1 : Int) = (1 : Int)) ∧
 (True))) ∧
 (True))))))) = Keeps cfg1 Try.f15 newNo noIv by kernel_rfl) (fun x1 => fun h2 => ⟨fun g3 => have h3 := of_decide_eq_false g3; ⟨fun g4 => have h4 := of_decide_eq_true g4; ⟨⟨trivial,
 rfl,
 trivial⟩,
 trivial⟩,
 fun g5 => have h5 := of_decide_eq_false g5; ⟨⟨(by omega),
 (by omega),
 (by omega)⟩,
 (by omega)⟩⟩,
 fun g6 => have h6 := of_decide_eq_true g6; ⟨⟨trivial,
 rfl,
 trivial⟩,
 trivial⟩⟩)


/-! The reference. -/
structure RefI where
  y : Ref
  u : Int
def rlastC : CT where
  X := RefI
  pre := fun x => x.y.news.length ≤ 1000
  args := fun x => [refV x.y 100000, .i .i64 x.u]
  g0 := fun x => refH x.y .bor 100000
  res := fun x => .tup [encSta (x.y.last x.u), .i .i64 (x.y.heard x.u), .b (x.y.there x.u)]
  g1 := fun _ => []
def rlastI (x : RefI) (id : Nat) : Option Inv := match id with
  | 0 => some { X := Nat, ok := fun k => k ≤ x.y.news.length, fr := fun k => [(17, .i .i64 k), (8, .i .i64 (x.y.fold x.u k).2.1), (9, .b (x.y.fold x.u k).2.2)], hp := fun k => [(7, .one .own [.i .i64 (x.y.fold x.u k).1.unit, .i .i64 (x.y.fold x.u k).1.seq, .i .i64 (x.y.fold x.u k).1.state, .i .i64 (x.y.fold x.u k).1.node, .i .i64 (x.y.fold x.u k).1.epoch])], me := fun k => x.y.news.length - k }
  | _ => none
set_option maxRecDepth 100000 in
theorem rlast_keeps : Keeps { cfg0 with vars := 12 } Try.f12 rlastC rlastI := Eq.mp (show ((∀ x1 : RefI,
 ((List.length (Ref.news (RefI.y x1)) ≤ (1000 : Nat)) →
 (∃ x3 : Nat,
 (((x3 ≤ List.length (Ref.news (RefI.y x1))) ∧
 ((((0 : Int) = (↑x3 : Int)) ∧
 ((Ref.since (RefI.y x1) = Prod.fst (Prod.snd (Ref.fold (RefI.y x1) (RefI.u x1) x3))) ∧
 ((false = Prod.snd (Prod.snd (Ref.fold (RefI.y x1) (RefI.u x1) x3))) ∧
 (((↑(List.length (Ref.news (RefI.y x1))) : Int) = (↑(List.length (Ref.news (RefI.y x1))) : Int)) ∧
 ((((0 : Nat) = (0 : Nat)) ∧
 (List.length (Ref.news (RefI.y x1)) = List.length (Ref.news (RefI.y x1)))) ∧
 ((((0 : Nat) = (0 : Nat)) ∧
 ((0 : Nat) = (0 : Nat))) ∧
 ((false = false) ∧
 (((0 : Int) = (0 : Int)) ∧
 ((((0 : Nat) = (0 : Nat)) ∧
 ((0 : Nat) = (0 : Nat))) ∧
 ((((0 : Nat) = (0 : Nat)) ∧
 ((0 : Nat) = (0 : Nat))) ∧
 (((Ref.units (RefI.y x1) = Ref.units (RefI.y x1)) ∧
 ((Ref.since (RefI.y x1) = Ref.since (RefI.y x1)) ∧
 ((((0 : Nat) = (0 : Nat)) ∧
 (List.length (Ref.news (RefI.y x1)) = List.length (Ref.news (RefI.y x1)))) ∧
 (True)))) ∧
 ((RefI.u x1 = RefI.u x1) ∧
 (True))))))))))))) ∧
 ((((0 : Int) = Sta.unit (Prod.fst (Ref.fold (RefI.y x1) (RefI.u x1) x3))) ∧
 (((0 : Int) = Sta.seq (Prod.fst (Ref.fold (RefI.y x1) (RefI.u x1) x3))) ∧
 (((0 : Int) = Sta.state (Prod.fst (Ref.fold (RefI.y x1) (RefI.u x1) x3))) ∧
 (((0 : Int) = Sta.node (Prod.fst (Ref.fold (RefI.y x1) (RefI.u x1) x3))) ∧
 (((0 : Int) = Sta.epoch (Prod.fst (Ref.fold (RefI.y x1) (RefI.u x1) x3))) ∧
 (True)))))) ∧
 ((((0 : Int) = (0 : Int)) ∧
 (((0 : Int) = (0 : Int)) ∧
 (((0 : Int) = (0 : Int)) ∧
 (((0 : Int) = (0 : Int)) ∧
 (((0 : Int) = (0 : Int)) ∧
 (True)))))) ∧
 (((Ref.units (RefI.y x1) = Ref.units (RefI.y x1)) ∧
 ((Ref.since (RefI.y x1) = Ref.since (RefI.y x1)) ∧
 ((((0 : Nat) = (0 : Nat)) ∧
 (List.length (Ref.news (RefI.y x1)) = List.length (Ref.news (RefI.y x1)))) ∧
 (True)))) ∧
 (((RLe (List.length (Ref.news (RefI.y x1))) (List.length (Ref.news (RefI.y x1)))) ∧
 (RowsEq (Kd.int IntKind.i64 :: Kd.int IntKind.i64 :: Kd.int IntKind.i64 :: Kd.int IntKind.i64 :: Kd.int IntKind.i64 :: Kd.int IntKind.i64 :: @List.nil Kd) (List.length (Ref.news (RefI.y x1))) (encL encCame (Ref.news (RefI.y x1))) (encL encCame (Ref.news (RefI.y x1))))) ∧
 (True))))))) ∧
 (∀ x4 : Nat,
 ((x4 ≤ List.length (Ref.news (RefI.y x1))) →
 (((decide ((↑x4 : Int) < (↑(List.length (Ref.news (RefI.y x1))) : Int)) = true) →
 ((((0 : Int) ≤ (↑x4 : Int)) ∧
 ((↑x4 : Int) < (↑(List.length (Ref.news (RefI.y x1))) : Int))) ∧
 (((0 : Nat) + Int.toNat (↑x4 : Int) < List.length (Ref.news (RefI.y x1))) ∧
 (((decide (Sta.unit (Came.sta (List.getD (Ref.news (RefI.y x1)) ((0 : Nat) + Int.toNat (↑x4 : Int)) default)) = RefI.u x1) = true) →
 ((((-9223372036854775808 : Int) ≤ (↑x4 : Int) + (1 : Int)) ∧
 ((↑x4 : Int) + (1 : Int) ≤ (9223372036854775807 : Int))) ∧
 (∃ x8 : Nat,
 ((List.length (Ref.news (RefI.y x1)) - x8 < List.length (Ref.news (RefI.y x1)) - x4) ∧
 ((x8 ≤ List.length (Ref.news (RefI.y x1))) ∧
 ((((↑x4 : Int) + (1 : Int) = (↑x8 : Int)) ∧
 ((max (Prod.fst (Prod.snd (Ref.fold (RefI.y x1) (RefI.u x1) x4))) (Came.now (List.getD (Ref.news (RefI.y x1)) ((0 : Nat) + Int.toNat (↑x4 : Int)) default)) = Prod.fst (Prod.snd (Ref.fold (RefI.y x1) (RefI.u x1) x8))) ∧
 ((true = Prod.snd (Prod.snd (Ref.fold (RefI.y x1) (RefI.u x1) x8))) ∧
 (((↑(List.length (Ref.news (RefI.y x1))) : Int) = (↑(List.length (Ref.news (RefI.y x1))) : Int)) ∧
 ((((0 : Nat) = (0 : Nat)) ∧
 (List.length (Ref.news (RefI.y x1)) = List.length (Ref.news (RefI.y x1)))) ∧
 ((((0 : Nat) = (0 : Nat)) ∧
 ((0 : Nat) = (0 : Nat))) ∧
 ((false = false) ∧
 (((0 : Int) = (0 : Int)) ∧
 ((((0 : Nat) = (0 : Nat)) ∧
 ((0 : Nat) = (0 : Nat))) ∧
 ((((0 : Nat) = (0 : Nat)) ∧
 ((0 : Nat) = (0 : Nat))) ∧
 (((Ref.units (RefI.y x1) = Ref.units (RefI.y x1)) ∧
 ((Ref.since (RefI.y x1) = Ref.since (RefI.y x1)) ∧
 ((((0 : Nat) = (0 : Nat)) ∧
 (List.length (Ref.news (RefI.y x1)) = List.length (Ref.news (RefI.y x1)))) ∧
 (True)))) ∧
 ((RefI.u x1 = RefI.u x1) ∧
 (True))))))))))))) ∧
 (((Sta.unit (Came.sta (List.getD (Ref.news (RefI.y x1)) ((0 : Nat) + Int.toNat (↑x4 : Int)) default)) = Sta.unit (Prod.fst (Ref.fold (RefI.y x1) (RefI.u x1) x8))) ∧
 ((Sta.seq (Came.sta (List.getD (Ref.news (RefI.y x1)) ((0 : Nat) + Int.toNat (↑x4 : Int)) default)) = Sta.seq (Prod.fst (Ref.fold (RefI.y x1) (RefI.u x1) x8))) ∧
 ((Sta.state (Came.sta (List.getD (Ref.news (RefI.y x1)) ((0 : Nat) + Int.toNat (↑x4 : Int)) default)) = Sta.state (Prod.fst (Ref.fold (RefI.y x1) (RefI.u x1) x8))) ∧
 ((Sta.node (Came.sta (List.getD (Ref.news (RefI.y x1)) ((0 : Nat) + Int.toNat (↑x4 : Int)) default)) = Sta.node (Prod.fst (Ref.fold (RefI.y x1) (RefI.u x1) x8))) ∧
 ((Sta.epoch (Came.sta (List.getD (Ref.news (RefI.y x1)) ((0 : Nat) + Int.toNat (↑x4 : Int)) default)) = Sta.epoch (Prod.fst (Ref.fold (RefI.y x1) (RefI.u x1) x8))) ∧
 (True)))))) ∧
 ((((0 : Int) = (0 : Int)) ∧
 (((0 : Int) = (0 : Int)) ∧
 (((0 : Int) = (0 : Int)) ∧
 (((0 : Int) = (0 : Int)) ∧
 (((0 : Int) = (0 : Int)) ∧
 (True)))))) ∧
 (((Ref.units (RefI.y x1) = Ref.units (RefI.y x1)) ∧
 ((Ref.since (RefI.y x1) = Ref.since (RefI.y x1)) ∧
 ((((0 : Nat) = (0 : Nat)) ∧
 (List.length (Ref.news (RefI.y x1)) = List.length (Ref.news (RefI.y x1)))) ∧
 (True)))) ∧
 (((RLe (List.length (Ref.news (RefI.y x1))) (List.length (Ref.news (RefI.y x1)))) ∧
 (RowsEq (Kd.int IntKind.i64 :: Kd.int IntKind.i64 :: Kd.int IntKind.i64 :: Kd.int IntKind.i64 :: Kd.int IntKind.i64 :: Kd.int IntKind.i64 :: @List.nil Kd) (List.length (Ref.news (RefI.y x1))) (encL encCame (Ref.news (RefI.y x1))) (encL encCame (Ref.news (RefI.y x1))))) ∧
 (True))))))))))) ∧
 ((decide (Sta.unit (Came.sta (List.getD (Ref.news (RefI.y x1)) ((0 : Nat) + Int.toNat (↑x4 : Int)) default)) = RefI.u x1) = false) →
 ((((-9223372036854775808 : Int) ≤ (↑x4 : Int) + (1 : Int)) ∧
 ((↑x4 : Int) + (1 : Int) ≤ (9223372036854775807 : Int))) ∧
 (∃ x10 : Nat,
 ((List.length (Ref.news (RefI.y x1)) - x10 < List.length (Ref.news (RefI.y x1)) - x4) ∧
 ((x10 ≤ List.length (Ref.news (RefI.y x1))) ∧
 ((((↑x4 : Int) + (1 : Int) = (↑x10 : Int)) ∧
 ((Prod.fst (Prod.snd (Ref.fold (RefI.y x1) (RefI.u x1) x4)) = Prod.fst (Prod.snd (Ref.fold (RefI.y x1) (RefI.u x1) x10))) ∧
 ((Prod.snd (Prod.snd (Ref.fold (RefI.y x1) (RefI.u x1) x4)) = Prod.snd (Prod.snd (Ref.fold (RefI.y x1) (RefI.u x1) x10))) ∧
 (((↑(List.length (Ref.news (RefI.y x1))) : Int) = (↑(List.length (Ref.news (RefI.y x1))) : Int)) ∧
 ((((0 : Nat) = (0 : Nat)) ∧
 (List.length (Ref.news (RefI.y x1)) = List.length (Ref.news (RefI.y x1)))) ∧
 ((((0 : Nat) = (0 : Nat)) ∧
 ((0 : Nat) = (0 : Nat))) ∧
 ((false = false) ∧
 (((0 : Int) = (0 : Int)) ∧
 ((((0 : Nat) = (0 : Nat)) ∧
 ((0 : Nat) = (0 : Nat))) ∧
 ((((0 : Nat) = (0 : Nat)) ∧
 ((0 : Nat) = (0 : Nat))) ∧
 (((Ref.units (RefI.y x1) = Ref.units (RefI.y x1)) ∧
 ((Ref.since (RefI.y x1) = Ref.since (RefI.y x1)) ∧
 ((((0 : Nat) = (0 : Nat)) ∧
 (List.length (Ref.news (RefI.y x1)) = List.length (Ref.news (RefI.y x1)))) ∧
 (True)))) ∧
 ((RefI.u x1 = RefI.u x1) ∧
 (True))))))))))))) ∧
 (((Sta.unit (Prod.fst (Ref.fold (RefI.y x1) (RefI.u x1) x4)) = Sta.unit (Prod.fst (Ref.fold (RefI.y x1) (RefI.u x1) x10))) ∧
 ((Sta.seq (Prod.fst (Ref.fold (RefI.y x1) (RefI.u x1) x4)) = Sta.seq (Prod.fst (Ref.fold (RefI.y x1) (RefI.u x1) x10))) ∧
 ((Sta.state (Prod.fst (Ref.fold (RefI.y x1) (RefI.u x1) x4)) = Sta.state (Prod.fst (Ref.fold (RefI.y x1) (RefI.u x1) x10))) ∧
 ((Sta.node (Prod.fst (Ref.fold (RefI.y x1) (RefI.u x1) x4)) = Sta.node (Prod.fst (Ref.fold (RefI.y x1) (RefI.u x1) x10))) ∧
 ((Sta.epoch (Prod.fst (Ref.fold (RefI.y x1) (RefI.u x1) x4)) = Sta.epoch (Prod.fst (Ref.fold (RefI.y x1) (RefI.u x1) x10))) ∧
 (True)))))) ∧
 ((((0 : Int) = (0 : Int)) ∧
 (((0 : Int) = (0 : Int)) ∧
 (((0 : Int) = (0 : Int)) ∧
 (((0 : Int) = (0 : Int)) ∧
 (((0 : Int) = (0 : Int)) ∧
 (True)))))) ∧
 (((Ref.units (RefI.y x1) = Ref.units (RefI.y x1)) ∧
 ((Ref.since (RefI.y x1) = Ref.since (RefI.y x1)) ∧
 ((((0 : Nat) = (0 : Nat)) ∧
 (List.length (Ref.news (RefI.y x1)) = List.length (Ref.news (RefI.y x1)))) ∧
 (True)))) ∧
 (((RLe (List.length (Ref.news (RefI.y x1))) (List.length (Ref.news (RefI.y x1)))) ∧
 (RowsEq (Kd.int IntKind.i64 :: Kd.int IntKind.i64 :: Kd.int IntKind.i64 :: Kd.int IntKind.i64 :: Kd.int IntKind.i64 :: Kd.int IntKind.i64 :: @List.nil Kd) (List.length (Ref.news (RefI.y x1))) (encL encCame (Ref.news (RefI.y x1))) (encL encCame (Ref.news (RefI.y x1))))) ∧
 (True))))))))))))))) ∧
 ((decide ((↑x4 : Int) < (↑(List.length (Ref.news (RefI.y x1))) : Int)) = false) →
 ((((!Prod.snd (Prod.snd (Ref.fold (RefI.y x1) (RefI.u x1) x4))) = true) →
 (((((0 : Int) = Sta.unit (Ref.last (RefI.y x1) (RefI.u x1))) ∧
 (((0 : Int) = Sta.seq (Ref.last (RefI.y x1) (RefI.u x1))) ∧
 (((0 : Int) = Sta.state (Ref.last (RefI.y x1) (RefI.u x1))) ∧
 (((0 : Int) = Sta.node (Ref.last (RefI.y x1) (RefI.u x1))) ∧
 (((0 : Int) = Sta.epoch (Ref.last (RefI.y x1) (RefI.u x1))) ∧
 (True)))))) ∧
 (((0 : Int) = Ref.heard (RefI.y x1) (RefI.u x1)) ∧
 ((false = Ref.there (RefI.y x1) (RefI.u x1)) ∧
 (True)))) ∧
 (True))) ∧
 (((!Prod.snd (Prod.snd (Ref.fold (RefI.y x1) (RefI.u x1) x4))) = false) →
 ((((Sta.unit (Prod.fst (Ref.fold (RefI.y x1) (RefI.u x1) x4)) = Sta.unit (Ref.last (RefI.y x1) (RefI.u x1))) ∧
 ((Sta.seq (Prod.fst (Ref.fold (RefI.y x1) (RefI.u x1) x4)) = Sta.seq (Ref.last (RefI.y x1) (RefI.u x1))) ∧
 ((Sta.state (Prod.fst (Ref.fold (RefI.y x1) (RefI.u x1) x4)) = Sta.state (Ref.last (RefI.y x1) (RefI.u x1))) ∧
 ((Sta.node (Prod.fst (Ref.fold (RefI.y x1) (RefI.u x1) x4)) = Sta.node (Ref.last (RefI.y x1) (RefI.u x1))) ∧
 ((Sta.epoch (Prod.fst (Ref.fold (RefI.y x1) (RefI.u x1) x4)) = Sta.epoch (Ref.last (RefI.y x1) (RefI.u x1))) ∧
 (True)))))) ∧
 ((Prod.fst (Prod.snd (Ref.fold (RefI.y x1) (RefI.u x1) x4)) = Ref.heard (RefI.y x1) (RefI.u x1)) ∧
 ((true = Ref.there (RefI.y x1) (RefI.u x1)) ∧
 (True)))) ∧
 (True))))))))))))) = Keeps { cfg0 with vars := 12 } Try.f12 rlastC rlastI by kernel_rfl) (fun x1 => fun h2 => ⟨((0 : Nat)),
 ⟨(by (try dsimp only at *); omega),
 ⟨(by (try dsimp only at *); omega),
 (by (try dsimp only at *); (first | (rw [Ref.fold_zero]; done) | (simp [Ref.fold_zero, zeroSta]; done))),
 (by (try dsimp only at *); (first | (rw [Ref.fold_zero]; done) | (simp [Ref.fold_zero, zeroSta]; done))),
 rfl,
 ⟨rfl,
 rfl⟩,
 ⟨rfl,
 rfl⟩,
 rfl,
 rfl,
 ⟨rfl,
 rfl⟩,
 ⟨rfl,
 rfl⟩,
 ⟨rfl,
 rfl,
 ⟨rfl,
 rfl⟩,
 trivial⟩,
 rfl,
 trivial⟩,
 ⟨(by (try dsimp only at *); (first | (rw [Ref.fold_zero]; done) | (simp [Ref.fold_zero, zeroSta]; done))),
 (by (try dsimp only at *); (first | (rw [Ref.fold_zero]; done) | (simp [Ref.fold_zero, zeroSta]; done))),
 (by (try dsimp only at *); (first | (rw [Ref.fold_zero]; done) | (simp [Ref.fold_zero, zeroSta]; done))),
 (by (try dsimp only at *); (first | (rw [Ref.fold_zero]; done) | (simp [Ref.fold_zero, zeroSta]; done))),
 (by (try dsimp only at *); (first | (rw [Ref.fold_zero]; done) | (simp [Ref.fold_zero, zeroSta]; done))),
 trivial⟩,
 ⟨rfl,
 rfl,
 rfl,
 rfl,
 rfl,
 trivial⟩,
 ⟨rfl,
 rfl,
 ⟨rfl,
 rfl⟩,
 trivial⟩,
 ⟨⟨Nat.le_refl _⟩,
 RowsEq.rfl'⟩,
 trivial⟩,
 fun x4 => fun h5 => ⟨fun g6 => have h6 := of_decide_eq_true g6; ⟨⟨(by (try dsimp only at *); omega),
 (by (try dsimp only at *); omega)⟩,
 (by (try dsimp only at *); omega),
 fun g7 => have h7 := of_decide_eq_true g7; ⟨⟨(by (try dsimp only at *); omega),
 (by (try dsimp only at *); omega)⟩,
 (x4 + (1 : Nat)),
 (by (try dsimp only at *); omega),
 (by (try dsimp only at *); omega),
 ⟨(by (try dsimp only at *); omega),
 (by (try dsimp only at *); (have hk : x4 < x1.y.news.length := (by omega); rw [Ref.fold_succ _ _ _ hk]; grind [Ref.step])),
 (by (try dsimp only at *); (have hk : x4 < x1.y.news.length := (by omega); rw [Ref.fold_succ _ _ _ hk]; grind [Ref.step])),
 rfl,
 ⟨rfl,
 rfl⟩,
 ⟨rfl,
 rfl⟩,
 rfl,
 rfl,
 ⟨rfl,
 rfl⟩,
 ⟨rfl,
 rfl⟩,
 ⟨rfl,
 rfl,
 ⟨rfl,
 rfl⟩,
 trivial⟩,
 rfl,
 trivial⟩,
 ⟨(by (try dsimp only at *); (have hk : x4 < x1.y.news.length := (by omega); rw [Ref.fold_succ _ _ _ hk]; grind [Ref.step])),
 (by (try dsimp only at *); (have hk : x4 < x1.y.news.length := (by omega); rw [Ref.fold_succ _ _ _ hk]; grind [Ref.step])),
 (by (try dsimp only at *); (have hk : x4 < x1.y.news.length := (by omega); rw [Ref.fold_succ _ _ _ hk]; grind [Ref.step])),
 (by (try dsimp only at *); (have hk : x4 < x1.y.news.length := (by omega); rw [Ref.fold_succ _ _ _ hk]; grind [Ref.step])),
 (by (try dsimp only at *); (have hk : x4 < x1.y.news.length := (by omega); rw [Ref.fold_succ _ _ _ hk]; grind [Ref.step])),
 trivial⟩,
 ⟨rfl,
 rfl,
 rfl,
 rfl,
 rfl,
 trivial⟩,
 ⟨rfl,
 rfl,
 ⟨rfl,
 rfl⟩,
 trivial⟩,
 ⟨⟨Nat.le_refl _⟩,
 RowsEq.rfl'⟩,
 trivial⟩,
 fun g9 => have h9 := of_decide_eq_false g9; ⟨⟨(by (try dsimp only at *); omega),
 (by (try dsimp only at *); omega)⟩,
 (x4 + (1 : Nat)),
 (by (try dsimp only at *); omega),
 (by (try dsimp only at *); omega),
 ⟨(by (try dsimp only at *); omega),
 (by (try dsimp only at *); (have hk : x4 < x1.y.news.length := (by omega); rw [Ref.fold_succ _ _ _ hk]; grind [Ref.step])),
 (by (try dsimp only at *); (have hk : x4 < x1.y.news.length := (by omega); rw [Ref.fold_succ _ _ _ hk]; grind [Ref.step])),
 rfl,
 ⟨rfl,
 rfl⟩,
 ⟨rfl,
 rfl⟩,
 rfl,
 rfl,
 ⟨rfl,
 rfl⟩,
 ⟨rfl,
 rfl⟩,
 ⟨rfl,
 rfl,
 ⟨rfl,
 rfl⟩,
 trivial⟩,
 rfl,
 trivial⟩,
 ⟨(by (try dsimp only at *); (have hk : x4 < x1.y.news.length := (by omega); rw [Ref.fold_succ _ _ _ hk]; grind [Ref.step])),
 (by (try dsimp only at *); (have hk : x4 < x1.y.news.length := (by omega); rw [Ref.fold_succ _ _ _ hk]; grind [Ref.step])),
 (by (try dsimp only at *); (have hk : x4 < x1.y.news.length := (by omega); rw [Ref.fold_succ _ _ _ hk]; grind [Ref.step])),
 (by (try dsimp only at *); (have hk : x4 < x1.y.news.length := (by omega); rw [Ref.fold_succ _ _ _ hk]; grind [Ref.step])),
 (by (try dsimp only at *); (have hk : x4 < x1.y.news.length := (by omega); rw [Ref.fold_succ _ _ _ hk]; grind [Ref.step])),
 trivial⟩,
 ⟨rfl,
 rfl,
 rfl,
 rfl,
 rfl,
 trivial⟩,
 ⟨rfl,
 rfl,
 ⟨rfl,
 rfl⟩,
 trivial⟩,
 ⟨⟨Nat.le_refl _⟩,
 RowsEq.rfl'⟩,
 trivial⟩⟩,
 fun g11 => have h11 := of_decide_eq_false g11; ⟨fun h12 => ⟨⟨⟨(by (try dsimp only at *); (obtain rfl : x4 = x1.y.news.length := (by omega); rw [Ref.fold_all] at *; grind [Ref.last, Ref.heard, Ref.there, zeroSta])),
 (by (try dsimp only at *); (obtain rfl : x4 = x1.y.news.length := (by omega); rw [Ref.fold_all] at *; grind [Ref.last, Ref.heard, Ref.there, zeroSta])),
 (by (try dsimp only at *); (obtain rfl : x4 = x1.y.news.length := (by omega); rw [Ref.fold_all] at *; grind [Ref.last, Ref.heard, Ref.there, zeroSta])),
 (by (try dsimp only at *); (obtain rfl : x4 = x1.y.news.length := (by omega); rw [Ref.fold_all] at *; grind [Ref.last, Ref.heard, Ref.there, zeroSta])),
 (by (try dsimp only at *); (obtain rfl : x4 = x1.y.news.length := (by omega); rw [Ref.fold_all] at *; grind [Ref.last, Ref.heard, Ref.there, zeroSta])),
 trivial⟩,
 (by (try dsimp only at *); (obtain rfl : x4 = x1.y.news.length := (by omega); rw [Ref.fold_all] at *; grind [Ref.last, Ref.heard, Ref.there, zeroSta])),
 (by (try dsimp only at *); (obtain rfl : x4 = x1.y.news.length := (by omega); rw [Ref.fold_all] at *; grind [Ref.last, Ref.heard, Ref.there, zeroSta])),
 trivial⟩,
 trivial⟩,
 fun h13 => ⟨⟨⟨(by (try dsimp only at *); (obtain rfl : x4 = x1.y.news.length := (by omega); rw [Ref.fold_all] at *; grind [Ref.last, Ref.heard, Ref.there, zeroSta])),
 (by (try dsimp only at *); (obtain rfl : x4 = x1.y.news.length := (by omega); rw [Ref.fold_all] at *; grind [Ref.last, Ref.heard, Ref.there, zeroSta])),
 (by (try dsimp only at *); (obtain rfl : x4 = x1.y.news.length := (by omega); rw [Ref.fold_all] at *; grind [Ref.last, Ref.heard, Ref.there, zeroSta])),
 (by (try dsimp only at *); (obtain rfl : x4 = x1.y.news.length := (by omega); rw [Ref.fold_all] at *; grind [Ref.last, Ref.heard, Ref.there, zeroSta])),
 (by (try dsimp only at *); (obtain rfl : x4 = x1.y.news.length := (by omega); rw [Ref.fold_all] at *; grind [Ref.last, Ref.heard, Ref.there, zeroSta])),
 trivial⟩,
 (by (try dsimp only at *); (obtain rfl : x4 = x1.y.news.length := (by omega); rw [Ref.fold_all] at *; grind [Ref.last, Ref.heard, Ref.there, zeroSta])),
 (by (try dsimp only at *); (obtain rfl : x4 = x1.y.news.length := (by omega); rw [Ref.fold_all] at *; grind [Ref.last, Ref.heard, Ref.there, zeroSta])),
 trivial⟩,
 trivial⟩⟩⟩⟩)

theorem con2 : ConOk Try.prog cfg2 := ConL.ok (.cons (ConL.one valid_good) (.cons (ConL.one has_good) (.cons (ConL.one clamp_good) (.cons (ConL.one tick_good) .nil))))
theorem add_good : Good Try.prog 16 addC ∧ FnOk Try.prog 16 := good_of_keeps tok con2 (fn := Try.f16) rfl (by decide +kernel) rfl rfl (by decide) (fun _ _ => Nat.le_of_ble_eq_true rfl) add_keeps
theorem new_good : Good Try.prog 15 newC ∧ FnOk Try.prog 15 := good_of_keeps tok con1 (fn := Try.f15) rfl (by decide +kernel) rfl rfl (by decide) (fun _ _ => Nat.le_of_ble_eq_true rfl) new_keeps
theorem newNo_good : Good Try.prog 15 newNo ∧ FnOk Try.prog 15 := good_of_keeps tok con1 (fn := Try.f15) rfl (by decide +kernel) rfl rfl (by decide) (fun _ _ => Nat.le_of_ble_eq_true rfl) newNo_keeps
theorem rlast_good : Good Try.prog 12 rlastC ∧ FnOk Try.prog 12 := good_of_keeps tok (c := { cfg0 with vars := 12 }) con0 (fn := Try.f12) rfl (by decide +kernel) rfl rfl (by decide) (fun _ _ => Nat.le_of_ble_eq_true rfl) rlast_keeps
end Go.Sym
