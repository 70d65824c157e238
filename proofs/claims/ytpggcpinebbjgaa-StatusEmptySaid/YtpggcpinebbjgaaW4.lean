/- law30: the walks (IV): who is silent. -/
import Derived.Test.YtpggcpinebbjgaaW3
namespace Go.Sym
set_option linter.unusedVariables false
set_option linter.unusedSimpArgs false
open Go.Proofs
def k1 : List Kd := [.int .i64]
structure NumX where
  a : List Int
  b : List Int
def Nums.same (a b : List Int) (k : Nat) : Bool := decide (∀ i, i < k → a.getD i 0 = b.getD i 0)
def numbersC : CT where
  X := NumX
  pre := fun x => x.a.length ≤ 1048576
  args := fun x => [.sl 100000 0 x.a.length, .sl 100001 0 x.b.length]
  g0 := fun x => [(100000, .rows .bor k1 x.a.length (encL encI x.a)), (100001, .rows .bor k1 x.b.length (encL encI x.b))]
  res := fun x => .b (decide (x.a = x.b))
  g1 := fun _ => []
theorem nums_eq {a b : List Int} (hl : a.length = b.length) (h : ∀ i : Nat, i < a.length → a.getD i default = b.getD i default) : a = b := by
  apply List.ext_getElem hl
  intro i h1 h2
  have := h i h1
  simp only [List.getD_eq_getElem?_getD, List.getElem?_eq_getElem h1, List.getElem?_eq_getElem h2, Option.getD_some] at this
  exact this
theorem nums_ne {a b : List Int} {i : Nat} (h : ¬ a.getD i default = b.getD i default) : a ≠ b := fun e => h (by rw [e])
def numbersI (x : NumX) (id : Nat) : Option Inv := match id with
  | 0 => some { X := Nat, ok := fun k => k ≤ x.a.length ∧ ∀ i : Nat, i < k → x.a.getD i default = x.b.getD i default, fr := fun k => [(13, .i .i64 k)], hp := fun k => [], me := fun k => x.a.length - k }
  | _ => none
set_option maxRecDepth 100000 in
theorem numbers_keeps : Keeps { cfg0 with vars := 6 } Try.f17 numbersC numbersI := Eq.mp (show ((∀ x1 : NumX,
 ((List.length (NumX.a x1) ≤ (1048576 : Nat)) →
 (((decide ((↑(List.length (NumX.a x1)) : Int) ≠ (↑(List.length (NumX.b x1)) : Int)) = true) →
 ((false = decide (NumX.a x1 = NumX.b x1)) ∧
 (True))) ∧
 ((decide ((↑(List.length (NumX.a x1)) : Int) ≠ (↑(List.length (NumX.b x1)) : Int)) = false) →
 (∃ x5 : Nat,
 ((((x5 ≤ List.length (NumX.a x1)) ∧
 (∀ i6 : Nat,
 ((i6 < x5) →
 (List.getD (NumX.a x1) i6 default = List.getD (NumX.b x1) i6 default)))) ∧
 ((((0 : Int) = (↑x5 : Int)) ∧
 (((↑(List.length (NumX.a x1)) : Int) = (↑(List.length (NumX.a x1)) : Int)) ∧
 ((((0 : Nat) = (0 : Nat)) ∧
 (List.length (NumX.a x1) = List.length (NumX.a x1))) ∧
 ((((0 : Nat) = (0 : Nat)) ∧
 (List.length (NumX.b x1) = List.length (NumX.b x1))) ∧
 (True))))) ∧
 (((RLe (List.length (NumX.a x1)) (List.length (NumX.a x1))) ∧
 (RowsEq (Kd.int IntKind.i64 :: @List.nil Kd) (List.length (NumX.a x1)) (encL encI (NumX.a x1)) (encL encI (NumX.a x1)))) ∧
 (((RLe (List.length (NumX.b x1)) (List.length (NumX.b x1))) ∧
 (RowsEq (Kd.int IntKind.i64 :: @List.nil Kd) (List.length (NumX.b x1)) (encL encI (NumX.b x1)) (encL encI (NumX.b x1)))) ∧
 (True))))) ∧
 (∀ x8 : Nat,
 ((x8 ≤ List.length (NumX.a x1) ∧ ∀ (i : Nat), i < x8 → List.getD (NumX.a x1) i default = List.getD (NumX.b x1) i default) →
 (((decide ((↑x8 : Int) < (↑(List.length (NumX.a x1)) : Int)) = true) →
 ((((0 : Int) ≤ (↑x8 : Int)) ∧
 ((↑x8 : Int) < (↑(List.length (NumX.a x1)) : Int))) ∧
 (((0 : Nat) + Int.toNat (↑x8 : Int) < List.length (NumX.a x1)) ∧
 ((((0 : Int) ≤ (↑x8 : Int)) ∧
 ((↑x8 : Int) < (↑(List.length (NumX.b x1)) : Int))) ∧
 (((0 : Nat) + Int.toNat (↑x8 : Int) < List.length (NumX.b x1)) ∧
 (((decide (List.getD (NumX.a x1) ((0 : Nat) + Int.toNat (↑x8 : Int)) default ≠ List.getD (NumX.b x1) ((0 : Nat) + Int.toNat (↑x8 : Int)) default) = true) →
 ((false = decide (NumX.a x1 = NumX.b x1)) ∧
 (True))) ∧
 ((decide (List.getD (NumX.a x1) ((0 : Nat) + Int.toNat (↑x8 : Int)) default ≠ List.getD (NumX.b x1) ((0 : Nat) + Int.toNat (↑x8 : Int)) default) = false) →
 ((((-9223372036854775808 : Int) ≤ (↑x8 : Int) + (1 : Int)) ∧
 ((↑x8 : Int) + (1 : Int) ≤ (9223372036854775807 : Int))) ∧
 (∃ x13 : Nat,
 ((List.length (NumX.a x1) - x13 < List.length (NumX.a x1) - x8) ∧
 (((x13 ≤ List.length (NumX.a x1)) ∧
 (∀ i14 : Nat,
 ((i14 < x13) →
 (List.getD (NumX.a x1) i14 default = List.getD (NumX.b x1) i14 default)))) ∧
 ((((↑x8 : Int) + (1 : Int) = (↑x13 : Int)) ∧
 (((↑(List.length (NumX.a x1)) : Int) = (↑(List.length (NumX.a x1)) : Int)) ∧
 ((((0 : Nat) = (0 : Nat)) ∧
 (List.length (NumX.a x1) = List.length (NumX.a x1))) ∧
 ((((0 : Nat) = (0 : Nat)) ∧
 (List.length (NumX.b x1) = List.length (NumX.b x1))) ∧
 (True))))) ∧
 (((RLe (List.length (NumX.a x1)) (List.length (NumX.a x1))) ∧
 (RowsEq (Kd.int IntKind.i64 :: @List.nil Kd) (List.length (NumX.a x1)) (encL encI (NumX.a x1)) (encL encI (NumX.a x1)))) ∧
 (((RLe (List.length (NumX.b x1)) (List.length (NumX.b x1))) ∧
 (RowsEq (Kd.int IntKind.i64 :: @List.nil Kd) (List.length (NumX.b x1)) (encL encI (NumX.b x1)) (encL encI (NumX.b x1)))) ∧
 (True))))))))))))))) ∧
 ((decide ((↑x8 : Int) < (↑(List.length (NumX.a x1)) : Int)) = false) →
 ((true = decide (NumX.a x1 = NumX.b x1)) ∧
 (True))))))))))))) = Keeps { cfg0 with vars := 6 } Try.f17 numbersC numbersI by kernel_rfl) (fun x1 => fun h2 => ⟨fun g3 => have h3 := of_decide_eq_true g3; ⟨(by grind),
 trivial⟩,
 fun g4 => have h4 := of_decide_eq_false g4; ⟨((0 : Nat)),
 ⟨⟨(by (try dsimp only at *); omega),
 fun i6 => fun h7 => (by (try dsimp only at *); omega)⟩,
 ⟨(by (try dsimp only at *); omega),
 rfl,
 ⟨rfl,
 rfl⟩,
 ⟨rfl,
 rfl⟩,
 trivial⟩,
 ⟨⟨Nat.le_refl _⟩,
 RowsEq.rfl'⟩,
 ⟨⟨Nat.le_refl _⟩,
 RowsEq.rfl'⟩,
 trivial⟩,
 fun x8 => fun h9 => ⟨fun g10 => have h10 := of_decide_eq_true g10; ⟨⟨(by (try dsimp only at *); omega),
 (by (try dsimp only at *); omega)⟩,
 (by (try dsimp only at *); omega),
 ⟨(by (try dsimp only at *); omega),
 (by (try dsimp only at *); omega)⟩,
 (by (try dsimp only at *); omega),
 fun g11 => have h11 := of_decide_eq_true g11; ⟨(by (try dsimp only at *); grind),
 trivial⟩,
 fun g12 => have h12 := of_decide_eq_false g12; ⟨⟨(by (try dsimp only at *); omega),
 (by (try dsimp only at *); omega)⟩,
 (x8 + (1 : Nat)),
 (by (try dsimp only at *); omega),
 ⟨(by (try dsimp only at *); omega),
 fun i14 => fun h15 => (by (try dsimp only at *); grind)⟩,
 ⟨(by (try dsimp only at *); omega),
 rfl,
 ⟨rfl,
 rfl⟩,
 ⟨rfl,
 rfl⟩,
 trivial⟩,
 ⟨⟨Nat.le_refl _⟩,
 RowsEq.rfl'⟩,
 ⟨⟨Nat.le_refl _⟩,
 RowsEq.rfl'⟩,
 trivial⟩⟩,
 fun g16 => have h16 := of_decide_eq_false g16; ⟨(by (try dsimp only at *); (have e := nums_eq (a := x1.a) (b := x1.b) (by omega) (by intro i hi; exact h9.2 i (by omega)); simp [e])),
 trivial⟩⟩⟩⟩)

theorem silent_zero (b : Box) (now s : Int) : b.silent now s 0 = [] := rfl
theorem silent_succ (b : Box) (now s : Int) (k : Nat) : b.silent now s (k + 1) = b.silent now s k ++ if minMax now - (b.getD k default).heard > max s 0 then [(k : Int)] else [] := by
  unfold Box.silent
  rw [List.range_succ, List.filter_append, List.map_append]
  congr 1
  by_cases h : minMax now - (b.getD k default).heard > max s 0
  · simp only [List.filter_cons, List.filter_nil, h, decide_true, if_true]; rfl
  · simp only [List.filter_cons, List.filter_nil, h, decide_false, if_false]; rfl
theorem silent_len (b : Box) (now s : Int) (k : Nat) : (b.silent now s k).length ≤ k := by
  unfold Box.silent
  have := List.length_filter_le (fun u => decide (minMax now - (b.getD u default).heard > max s 0)) (List.range k)
  simpa using this
structure SilX where
  b : Box
  now : Int
  silence : Int
def silentC : CT where
  X := SilX
  pre := fun x => x.b.Ok ∧ x.b.length ≤ 256
  args := fun x => [.p 100000 0 0, .i .i64 x.now, .i .i64 x.silence]
  g0 := fun x => boxH .bor x.b
  res := fun x => .sl 1 0 (x.b.silent x.now x.silence x.b.length).length
  g1 := fun x => [(1, .rows .own k1 (x.b.silent x.now x.silence x.b.length).length (encL encI (x.b.silent x.now x.silence x.b.length)))]
def silentI (x : SilX) (id : Nat) : Option Inv := match id with
  | 0 => some { X := Nat, ok := fun k => k ≤ x.b.length, fr := fun k => [(19, .i .i64 k), (7, .sl 1 0 (x.b.silent x.now x.silence k).length)], hp := fun k => [(1, .rows .own k1 (x.b.silent x.now x.silence k).length (encL encI (x.b.silent x.now x.silence k)))], me := fun k => x.b.length - k }
  | _ => none
set_option maxRecDepth 100000 in
theorem silent_keeps : Keeps { cfg1 with vars := 10 } Try.f18 silentC silentI := Eq.mp (show ((∀ x1 : SilX,
 ((Box.Ok (SilX.b x1) ∧ List.length (SilX.b x1) ≤ (256 : Nat)) →
 (∃ x3 : Int,
 ((True) ∧
 (((SilX.now x1 = x3) ∧
 (True)) ∧
 ((True) ∧
 (∃ x4 : Nat,
 (((x4 ≤ List.length (SilX.b x1)) ∧
 ((((0 : Int) = (↑x4 : Int)) ∧
 (((True) ∧
 (((0 : Nat) = (0 : Nat)) ∧
 (List.length (Box.silent (SilX.b x1) (SilX.now x1) (SilX.silence x1) x4) = (0 : Nat)))) ∧
 (((↑(List.length (SilX.b x1)) : Int) = (↑(List.length (SilX.b x1)) : Int)) ∧
 ((((0 : Nat) = (0 : Nat)) ∧
 (List.length (SilX.b x1) = List.length (SilX.b x1))) ∧
 ((max (SilX.silence x1) (0 : Int) = max (SilX.silence x1) (0 : Int)) ∧
 ((minMax x3 = minMax x3) ∧
 ((True) ∧
 ((((0 : Nat) = (0 : Nat)) ∧
 ((0 : Nat) = (0 : Nat))) ∧
 (True))))))))) ∧
 ((List.length (Box.silent (SilX.b x1) (SilX.now x1) (SilX.silence x1) x4) = (0 : Nat)) ∧
 (((((0 : Nat) = (0 : Nat)) ∧
 (List.length (SilX.b x1) = List.length (SilX.b x1))) ∧
 (True)) ∧
 (((RLe (List.length (SilX.b x1)) (List.length (SilX.b x1))) ∧
 (RowsEq (Kd.int IntKind.i64 :: Kd.int IntKind.i64 :: Kd.int IntKind.i64 :: Kd.int IntKind.i64 :: Kd.int IntKind.i64 :: Kd.int IntKind.i64 :: Kd.int IntKind.i64 :: @List.nil Kd) (List.length (SilX.b x1)) (encL encRec (SilX.b x1)) (encL encRec (SilX.b x1)))) ∧
 (True)))))) ∧
 (∀ x5 : Nat,
 ((x5 ≤ List.length (SilX.b x1)) →
 (((decide ((↑x5 : Int) < (↑(List.length (SilX.b x1)) : Int)) = true) →
 ((((0 : Int) ≤ (↑x5 : Int)) ∧
 ((↑x5 : Int) < (↑(List.length (SilX.b x1)) : Int))) ∧
 (((0 : Nat) + Int.toNat (↑x5 : Int) < List.length (SilX.b x1)) ∧
 ((((-9223372036854775808 : Int) ≤ minMax x3 - Rec.heard (List.getD (SilX.b x1) ((0 : Nat) + Int.toNat (↑x5 : Int)) default)) ∧
 (minMax x3 - Rec.heard (List.getD (SilX.b x1) ((0 : Nat) + Int.toNat (↑x5 : Int)) default) ≤ (9223372036854775807 : Int))) ∧
 (((decide (max (SilX.silence x1) (0 : Int) < minMax x3 - Rec.heard (List.getD (SilX.b x1) ((0 : Nat) + Int.toNat (↑x5 : Int)) default)) = true) →
 ((((True) ∧
 (True)) ∧
 (True)) ∧
 ((((0 : Nat) = (0 : Nat)) ∧
 ((List.length (Box.silent (SilX.b x1) (SilX.now x1) (SilX.silence x1) x5) ≤ List.length (Box.silent (SilX.b x1) (SilX.now x1) (SilX.silence x1) x5)) ∧
 (((1 : Nat) ≤ (1 : Nat)) ∧
 (List.length (Box.silent (SilX.b x1) (SilX.now x1) (SilX.silence x1) x5) + (1 : Nat) ≤ (1073741824 : Nat))))) ∧
 ((((-9223372036854775808 : Int) ≤ (↑x5 : Int) + (1 : Int)) ∧
 ((↑x5 : Int) + (1 : Int) ≤ (9223372036854775807 : Int))) ∧
 (∃ x9 : Nat,
 ((List.length (SilX.b x1) - x9 < List.length (SilX.b x1) - x5) ∧
 ((x9 ≤ List.length (SilX.b x1)) ∧
 ((((↑x5 : Int) + (1 : Int) = (↑x9 : Int)) ∧
 ((((0 : Nat) = (0 : Nat)) ∧
 (List.length (Box.silent (SilX.b x1) (SilX.now x1) (SilX.silence x1) x5) + (1 : Nat) = List.length (Box.silent (SilX.b x1) (SilX.now x1) (SilX.silence x1) x9))) ∧
 (((↑(List.length (SilX.b x1)) : Int) = (↑(List.length (SilX.b x1)) : Int)) ∧
 ((((0 : Nat) = (0 : Nat)) ∧
 (List.length (SilX.b x1) = List.length (SilX.b x1))) ∧
 ((max (SilX.silence x1) (0 : Int) = max (SilX.silence x1) (0 : Int)) ∧
 ((minMax x3 = minMax x3) ∧
 ((True) ∧
 ((((0 : Nat) = (0 : Nat)) ∧
 ((0 : Nat) = (0 : Nat))) ∧
 (True))))))))) ∧
 (((RLe (List.length (Box.silent (SilX.b x1) (SilX.now x1) (SilX.silence x1) x9)) (List.length (Box.silent (SilX.b x1) (SilX.now x1) (SilX.silence x1) x5) + (1 : Nat))) ∧
 (RowsEq (Kd.int IntKind.i64 :: @List.nil Kd) (List.length (Box.silent (SilX.b x1) (SilX.now x1) (SilX.silence x1) x9)) (appRows (List.length (Box.silent (SilX.b x1) (SilX.now x1) (SilX.silence x1) x5)) (encL encI (Box.silent (SilX.b x1) (SilX.now x1) (SilX.silence x1) x5)) (0 : Nat) (litRows ((D.i (↑x5 : Int) :: @List.nil D) :: @List.nil (List D)))) (encL encI (Box.silent (SilX.b x1) (SilX.now x1) (SilX.silence x1) x9)))) ∧
 (((((0 : Nat) = (0 : Nat)) ∧
 (List.length (SilX.b x1) = List.length (SilX.b x1))) ∧
 (True)) ∧
 (((RLe (List.length (SilX.b x1)) (List.length (SilX.b x1))) ∧
 (RowsEq (Kd.int IntKind.i64 :: Kd.int IntKind.i64 :: Kd.int IntKind.i64 :: Kd.int IntKind.i64 :: Kd.int IntKind.i64 :: Kd.int IntKind.i64 :: Kd.int IntKind.i64 :: @List.nil Kd) (List.length (SilX.b x1)) (encL encRec (SilX.b x1)) (encL encRec (SilX.b x1)))) ∧
 (True)))))))))))) ∧
 ((decide (max (SilX.silence x1) (0 : Int) < minMax x3 - Rec.heard (List.getD (SilX.b x1) ((0 : Nat) + Int.toNat (↑x5 : Int)) default)) = false) →
 ((((-9223372036854775808 : Int) ≤ (↑x5 : Int) + (1 : Int)) ∧
 ((↑x5 : Int) + (1 : Int) ≤ (9223372036854775807 : Int))) ∧
 (∃ x11 : Nat,
 ((List.length (SilX.b x1) - x11 < List.length (SilX.b x1) - x5) ∧
 ((x11 ≤ List.length (SilX.b x1)) ∧
 ((((↑x5 : Int) + (1 : Int) = (↑x11 : Int)) ∧
 ((((0 : Nat) = (0 : Nat)) ∧
 (List.length (Box.silent (SilX.b x1) (SilX.now x1) (SilX.silence x1) x5) = List.length (Box.silent (SilX.b x1) (SilX.now x1) (SilX.silence x1) x11))) ∧
 (((↑(List.length (SilX.b x1)) : Int) = (↑(List.length (SilX.b x1)) : Int)) ∧
 ((((0 : Nat) = (0 : Nat)) ∧
 (List.length (SilX.b x1) = List.length (SilX.b x1))) ∧
 ((max (SilX.silence x1) (0 : Int) = max (SilX.silence x1) (0 : Int)) ∧
 ((minMax x3 = minMax x3) ∧
 ((True) ∧
 ((((0 : Nat) = (0 : Nat)) ∧
 ((0 : Nat) = (0 : Nat))) ∧
 (True))))))))) ∧
 (((RLe (List.length (Box.silent (SilX.b x1) (SilX.now x1) (SilX.silence x1) x11)) (List.length (Box.silent (SilX.b x1) (SilX.now x1) (SilX.silence x1) x5))) ∧
 (RowsEq (Kd.int IntKind.i64 :: @List.nil Kd) (List.length (Box.silent (SilX.b x1) (SilX.now x1) (SilX.silence x1) x11)) (encL encI (Box.silent (SilX.b x1) (SilX.now x1) (SilX.silence x1) x5)) (encL encI (Box.silent (SilX.b x1) (SilX.now x1) (SilX.silence x1) x11)))) ∧
 (((((0 : Nat) = (0 : Nat)) ∧
 (List.length (SilX.b x1) = List.length (SilX.b x1))) ∧
 (True)) ∧
 (((RLe (List.length (SilX.b x1)) (List.length (SilX.b x1))) ∧
 (RowsEq (Kd.int IntKind.i64 :: Kd.int IntKind.i64 :: Kd.int IntKind.i64 :: Kd.int IntKind.i64 :: Kd.int IntKind.i64 :: Kd.int IntKind.i64 :: Kd.int IntKind.i64 :: @List.nil Kd) (List.length (SilX.b x1)) (encL encRec (SilX.b x1)) (encL encRec (SilX.b x1)))) ∧
 (True))))))))))))))) ∧
 ((decide ((↑x5 : Int) < (↑(List.length (SilX.b x1)) : Int)) = false) →
 ((((0 : Nat) = (0 : Nat)) ∧
 (List.length (Box.silent (SilX.b x1) (SilX.now x1) (SilX.silence x1) x5) = List.length (Box.silent (SilX.b x1) (SilX.now x1) (SilX.silence x1) (List.length (SilX.b x1))))) ∧
 (((RLe (List.length (Box.silent (SilX.b x1) (SilX.now x1) (SilX.silence x1) (List.length (SilX.b x1)))) (List.length (Box.silent (SilX.b x1) (SilX.now x1) (SilX.silence x1) x5))) ∧
 (RowsEq (Kd.int IntKind.i64 :: @List.nil Kd) (List.length (Box.silent (SilX.b x1) (SilX.now x1) (SilX.silence x1) (List.length (SilX.b x1)))) (encL encI (Box.silent (SilX.b x1) (SilX.now x1) (SilX.silence x1) x5)) (encL encI (Box.silent (SilX.b x1) (SilX.now x1) (SilX.silence x1) (List.length (SilX.b x1)))))) ∧
 (True)))))))))))))))) = Keeps { cfg1 with vars := 10 } Try.f18 silentC silentI by kernel_rfl) (fun x1 => fun h2 => ⟨(SilX.now x1),
 trivial,
 ⟨rfl,
 trivial⟩,
 trivial,
 ((0 : Nat)),
 ⟨(by (try dsimp only at *); omega),
 ⟨(by (try dsimp only at *); omega),
 ⟨trivial,
 rfl,
 (by (try dsimp only at *); (rw [silent_zero]; rfl))⟩,
 rfl,
 ⟨rfl,
 rfl⟩,
 rfl,
 rfl,
 trivial,
 ⟨rfl,
 rfl⟩,
 trivial⟩,
 (by (try dsimp only at *); (rw [silent_zero]; rfl)),
 ⟨⟨rfl,
 rfl⟩,
 trivial⟩,
 ⟨⟨Nat.le_refl _⟩,
 RowsEq.rfl'⟩,
 trivial⟩,
 fun x5 => fun h6 => ⟨fun g7 => have h7 := of_decide_eq_true g7; ⟨⟨(by (try dsimp only at *); omega),
 (by (try dsimp only at *); omega)⟩,
 (by (try dsimp only at *); omega),
 ⟨(by (try dsimp only at *); (have hk : x5 < x1.b.length := (by omega); have h := (h2.1 x5 hk).h; simp only [Nat.zero_add, Int.toNat_natCast, minMax, lim] at *; omega)),
 (by (try dsimp only at *); (have hk : x5 < x1.b.length := (by omega); have h := (h2.1 x5 hk).h; simp only [Nat.zero_add, Int.toNat_natCast, minMax, lim] at *; omega))⟩,
 fun g8 => have h8 := of_decide_eq_true g8; ⟨⟨⟨trivial,
 trivial⟩,
 trivial⟩,
 ⟨rfl,
 (by (try dsimp only at *); omega),
 (by (try dsimp only at *); omega),
 (by (try dsimp only at *); (have := silent_len x1.b x1.now x1.silence x5; have := h2.2; omega))⟩,
 ⟨(by (try dsimp only at *); omega),
 (by (try dsimp only at *); omega)⟩,
 (x5 + (1 : Nat)),
 (by (try dsimp only at *); omega),
 (by (try dsimp only at *); omega),
 ⟨(by (try dsimp only at *); omega),
 ⟨rfl,
 (by (try dsimp only at *); (simp only [Nat.zero_add, Int.toNat_natCast] at *; rw [silent_succ, if_pos (by omega)]; simp))⟩,
 rfl,
 ⟨rfl,
 rfl⟩,
 rfl,
 rfl,
 trivial,
 ⟨rfl,
 rfl⟩,
 trivial⟩,
 ⟨⟨(by (try dsimp only at *); (simp only [Nat.zero_add, Int.toNat_natCast] at *; rw [silent_succ, if_pos (by omega)]; simp))⟩,
 (by (try dsimp only at *); (simp only [Nat.zero_add, Int.toNat_natCast] at *; rw [silent_succ, if_pos (by omega)]; exact rowsEq_push rfl (by simp) (by simp only [rowEq, Kd.eqv]; exact ⟨rfl, trivial⟩)))⟩,
 ⟨⟨rfl,
 rfl⟩,
 trivial⟩,
 ⟨⟨Nat.le_refl _⟩,
 RowsEq.rfl'⟩,
 trivial⟩,
 fun g10 => have h10 := of_decide_eq_false g10; ⟨⟨(by (try dsimp only at *); omega),
 (by (try dsimp only at *); omega)⟩,
 (x5 + (1 : Nat)),
 (by (try dsimp only at *); omega),
 (by (try dsimp only at *); omega),
 ⟨(by (try dsimp only at *); omega),
 ⟨rfl,
 (by (try dsimp only at *); (simp only [Nat.zero_add, Int.toNat_natCast] at *; rw [silent_succ, if_neg (by omega)]; simp))⟩,
 rfl,
 ⟨rfl,
 rfl⟩,
 rfl,
 rfl,
 trivial,
 ⟨rfl,
 rfl⟩,
 trivial⟩,
 ⟨⟨(by (try dsimp only at *); (simp only [Nat.zero_add, Int.toNat_natCast] at *; rw [silent_succ, if_neg (by omega)]; simp))⟩,
 (by (try dsimp only at *); (simp only [Nat.zero_add, Int.toNat_natCast] at *; rw [silent_succ, if_neg (by omega), List.append_nil]; exact RowsEq.rfl'))⟩,
 ⟨⟨rfl,
 rfl⟩,
 trivial⟩,
 ⟨⟨Nat.le_refl _⟩,
 RowsEq.rfl'⟩,
 trivial⟩⟩,
 fun g12 => have h12 := of_decide_eq_false g12; ⟨⟨rfl,
 (by (try dsimp only at *); grind)⟩,
 ⟨⟨(by (try dsimp only at *); grind)⟩,
 (by (try dsimp only at *); (obtain rfl : x5 = x1.b.length := (by omega); first | rfl | exact RowsEq.rfl'))⟩,
 trivial⟩⟩⟩)

structure Ref.Ok2 (y : Ref) : Prop where
  m : ∀ c ∈ y.news, 0 ≤ c.now ∧ c.now ≤ lim
  since : 0 ≤ y.since ∧ y.since ≤ lim
  units : y.units ≤ 256
theorem Ref.all_heard (y : Ref) (u : Int) (h : y.Ok2) : 0 ≤ (y.all u).2.1 ∧ (y.all u).2.1 ≤ lim := by
  have : ∀ (l : List Came) (a : Sta × Int × Bool), (∀ c ∈ l, 0 ≤ c.now ∧ c.now ≤ lim) → 0 ≤ a.2.1 ∧ a.2.1 ≤ lim → 0 ≤ (l.foldl (Ref.step u) a).2.1 ∧ (l.foldl (Ref.step u) a).2.1 ≤ lim := by
    intro l
    induction l with
    | nil => intro a _ h; exact h
    | cons c l ih =>
      intro a hl ha
      refine ih _ (fun c hc => hl c (by simp [hc])) ?_
      unfold Ref.step
      split
      · have := hl c (by simp); simp only; omega
      · exact ha
  exact this _ _ h.m h.since
theorem quiet_zero (y : Ref) (now s : Int) : y.quiet now s 0 = [] := rfl
theorem quiet_succ (y : Ref) (now s : Int) (k : Nat) : y.quiet now s (k + 1) = y.quiet now s k ++ if y.quietAt now s k = true then [(k : Int)] else [] := by
  unfold Ref.quiet
  rw [List.range_succ, List.filter_append, List.map_append]
  congr 1
  by_cases h : y.quietAt now s k = true
  · simp only [List.filter_cons, List.filter_nil, h, if_true]; rfl
  · simp only [List.filter_cons, List.filter_nil, h, if_false]; rfl
theorem quiet_len (y : Ref) (now s : Int) (k : Nat) : (y.quiet now s k).length ≤ k := by
  unfold Ref.quiet
  have := List.length_filter_le (fun u => y.quietAt now s u) (List.range k)
  simpa using this
structure QuiX where
  y : Ref
  now : Int
  silence : Int
def quietC : CT where
  X := QuiX
  pre := fun x => x.y.Ok ∧ x.y.Ok2
  args := fun x => [refV x.y 100000, .i .i64 x.now, .i .i64 x.silence]
  g0 := fun x => refH x.y .bor 100000
  res := fun x => .sl 1 0 (x.y.quiet x.now x.silence x.y.units.toNat).length
  g1 := fun x => [(1, .rows .own k1 (x.y.quiet x.now x.silence x.y.units.toNat).length (encL encI (x.y.quiet x.now x.silence x.y.units.toNat)))]
def quietI (x : QuiX) (id : Nat) : Option Inv := match id with
  | 0 => some { X := Nat, ok := fun k => k ≤ x.y.units.toNat, fr := fun k => [(8, .i .i64 k), (7, .sl 1 0 (x.y.quiet x.now x.silence k).length)], hp := fun k => [(1, .rows .own k1 (x.y.quiet x.now x.silence k).length (encL encI (x.y.quiet x.now x.silence k)))], me := fun k => x.y.units.toNat - k }
  | _ => none
set_option maxRecDepth 100000 in
theorem quiet_keeps : Keeps { cfg3 with vars := 13 } Try.f19 quietC quietI := Eq.mp (show ((∀ x1 : QuiX,
 ((Ref.Ok (QuiX.y x1) ∧ Ref.Ok2 (QuiX.y x1)) →
 (∃ x3 : Nat,
 (((x3 ≤ Int.toNat (Ref.units (QuiX.y x1))) ∧
 ((((0 : Int) = (↑x3 : Int)) ∧
 (((True) ∧
 (((0 : Nat) = (0 : Nat)) ∧
 (List.length (Ref.quiet (QuiX.y x1) (QuiX.now x1) (QuiX.silence x1) x3) = (0 : Nat)))) ∧
 ((True) ∧
 ((((0 : Nat) = (0 : Nat)) ∧
 ((0 : Nat) = (0 : Nat))) ∧
 (((Ref.units (QuiX.y x1) = Ref.units (QuiX.y x1)) ∧
 ((Ref.since (QuiX.y x1) = Ref.since (QuiX.y x1)) ∧
 ((((0 : Nat) = (0 : Nat)) ∧
 (List.length (Ref.news (QuiX.y x1)) = List.length (Ref.news (QuiX.y x1)))) ∧
 (True)))) ∧
 ((QuiX.now x1 = QuiX.now x1) ∧
 ((QuiX.silence x1 = QuiX.silence x1) ∧
 (True)))))))) ∧
 ((List.length (Ref.quiet (QuiX.y x1) (QuiX.now x1) (QuiX.silence x1) x3) = (0 : Nat)) ∧
 (((Ref.units (QuiX.y x1) = Ref.units (QuiX.y x1)) ∧
 ((Ref.since (QuiX.y x1) = Ref.since (QuiX.y x1)) ∧
 ((((0 : Nat) = (0 : Nat)) ∧
 (List.length (Ref.news (QuiX.y x1)) = List.length (Ref.news (QuiX.y x1)))) ∧
 (True)))) ∧
 (((RLe (List.length (Ref.news (QuiX.y x1))) (List.length (Ref.news (QuiX.y x1)))) ∧
 (RowsEq (Kd.int IntKind.i64 :: Kd.int IntKind.i64 :: Kd.int IntKind.i64 :: Kd.int IntKind.i64 :: Kd.int IntKind.i64 :: Kd.int IntKind.i64 :: @List.nil Kd) (List.length (Ref.news (QuiX.y x1))) (encL encCame (Ref.news (QuiX.y x1))) (encL encCame (Ref.news (QuiX.y x1))))) ∧
 (True)))))) ∧
 (∀ x4 : Nat,
 ((x4 ≤ Int.toNat (Ref.units (QuiX.y x1))) →
 (((decide ((↑x4 : Int) < Ref.units (QuiX.y x1)) = true) →
 (∃ x7 : RefI,
 ((List.length (Ref.news (RefI.y x7)) ≤ (1000 : Nat)) ∧
 ((((Ref.units (QuiX.y x1) = Ref.units (RefI.y x7)) ∧
 ((Ref.since (QuiX.y x1) = Ref.since (RefI.y x7)) ∧
 ((((0 : Nat) = (0 : Nat)) ∧
 (List.length (Ref.news (QuiX.y x1)) = List.length (Ref.news (RefI.y x7)))) ∧
 (True)))) ∧
 (((↑x4 : Int) = RefI.u x7) ∧
 (True))) ∧
 ((((RLe (List.length (Ref.news (RefI.y x7))) (List.length (Ref.news (QuiX.y x1)))) ∧
 (RowsEq (Kd.int IntKind.i64 :: Kd.int IntKind.i64 :: Kd.int IntKind.i64 :: Kd.int IntKind.i64 :: Kd.int IntKind.i64 :: Kd.int IntKind.i64 :: @List.nil Kd) (List.length (Ref.news (RefI.y x7))) (encL encCame (Ref.news (QuiX.y x1))) (encL encCame (Ref.news (RefI.y x7))))) ∧
 (True)) ∧
 (((Ref.there (RefI.y x7) (RefI.u x7) = true) →
 (∃ x9 : Int,
 ((True) ∧
 (((QuiX.now x1 = x9) ∧
 (True)) ∧
 ((True) ∧
 ((((-9223372036854775808 : Int) ≤ minMax x9 - Ref.heard (RefI.y x7) (RefI.u x7)) ∧
 (minMax x9 - Ref.heard (RefI.y x7) (RefI.u x7) ≤ (9223372036854775807 : Int))) ∧
 (((decide (max (QuiX.silence x1) (0 : Int) < minMax x9 - Ref.heard (RefI.y x7) (RefI.u x7)) = true) →
 ((((True) ∧
 (True)) ∧
 (True)) ∧
 ((((0 : Nat) = (0 : Nat)) ∧
 ((List.length (Ref.quiet (QuiX.y x1) (QuiX.now x1) (QuiX.silence x1) x4) ≤ List.length (Ref.quiet (QuiX.y x1) (QuiX.now x1) (QuiX.silence x1) x4)) ∧
 (((1 : Nat) ≤ (1 : Nat)) ∧
 (List.length (Ref.quiet (QuiX.y x1) (QuiX.now x1) (QuiX.silence x1) x4) + (1 : Nat) ≤ (1073741824 : Nat))))) ∧
 ((((-9223372036854775808 : Int) ≤ (↑x4 : Int) + (1 : Int)) ∧
 ((↑x4 : Int) + (1 : Int) ≤ (9223372036854775807 : Int))) ∧
 (∃ x11 : Nat,
 ((Int.toNat (Ref.units (QuiX.y x1)) - x11 < Int.toNat (Ref.units (QuiX.y x1)) - x4) ∧
 ((x11 ≤ Int.toNat (Ref.units (QuiX.y x1))) ∧
 ((((↑x4 : Int) + (1 : Int) = (↑x11 : Int)) ∧
 ((((0 : Nat) = (0 : Nat)) ∧
 (List.length (Ref.quiet (QuiX.y x1) (QuiX.now x1) (QuiX.silence x1) x4) + (1 : Nat) = List.length (Ref.quiet (QuiX.y x1) (QuiX.now x1) (QuiX.silence x1) x11))) ∧
 ((True) ∧
 ((((0 : Nat) = (0 : Nat)) ∧
 ((0 : Nat) = (0 : Nat))) ∧
 (((Ref.units (QuiX.y x1) = Ref.units (QuiX.y x1)) ∧
 ((Ref.since (QuiX.y x1) = Ref.since (QuiX.y x1)) ∧
 ((((0 : Nat) = (0 : Nat)) ∧
 (List.length (Ref.news (QuiX.y x1)) = List.length (Ref.news (QuiX.y x1)))) ∧
 (True)))) ∧
 ((QuiX.now x1 = QuiX.now x1) ∧
 ((QuiX.silence x1 = QuiX.silence x1) ∧
 (True)))))))) ∧
 (((RLe (List.length (Ref.quiet (QuiX.y x1) (QuiX.now x1) (QuiX.silence x1) x11)) (List.length (Ref.quiet (QuiX.y x1) (QuiX.now x1) (QuiX.silence x1) x4) + (1 : Nat))) ∧
 (RowsEq (Kd.int IntKind.i64 :: @List.nil Kd) (List.length (Ref.quiet (QuiX.y x1) (QuiX.now x1) (QuiX.silence x1) x11)) (appRows (List.length (Ref.quiet (QuiX.y x1) (QuiX.now x1) (QuiX.silence x1) x4)) (encL encI (Ref.quiet (QuiX.y x1) (QuiX.now x1) (QuiX.silence x1) x4)) (0 : Nat) (litRows ((D.i (↑x4 : Int) :: @List.nil D) :: @List.nil (List D)))) (encL encI (Ref.quiet (QuiX.y x1) (QuiX.now x1) (QuiX.silence x1) x11)))) ∧
 (((Ref.units (QuiX.y x1) = Ref.units (QuiX.y x1)) ∧
 ((Ref.since (QuiX.y x1) = Ref.since (QuiX.y x1)) ∧
 ((((0 : Nat) = (0 : Nat)) ∧
 (List.length (Ref.news (QuiX.y x1)) = List.length (Ref.news (QuiX.y x1)))) ∧
 (True)))) ∧
 (((RLe (List.length (Ref.news (QuiX.y x1))) (List.length (Ref.news (QuiX.y x1)))) ∧
 (RowsEq (Kd.int IntKind.i64 :: Kd.int IntKind.i64 :: Kd.int IntKind.i64 :: Kd.int IntKind.i64 :: Kd.int IntKind.i64 :: Kd.int IntKind.i64 :: @List.nil Kd) (List.length (Ref.news (QuiX.y x1))) (encL encCame (Ref.news (QuiX.y x1))) (encL encCame (Ref.news (QuiX.y x1))))) ∧
 (True)))))))))))) ∧
 ((decide (max (QuiX.silence x1) (0 : Int) < minMax x9 - Ref.heard (RefI.y x7) (RefI.u x7)) = false) →
 ((((-9223372036854775808 : Int) ≤ (↑x4 : Int) + (1 : Int)) ∧
 ((↑x4 : Int) + (1 : Int) ≤ (9223372036854775807 : Int))) ∧
 (∃ x13 : Nat,
 ((Int.toNat (Ref.units (QuiX.y x1)) - x13 < Int.toNat (Ref.units (QuiX.y x1)) - x4) ∧
 ((x13 ≤ Int.toNat (Ref.units (QuiX.y x1))) ∧
 ((((↑x4 : Int) + (1 : Int) = (↑x13 : Int)) ∧
 ((((0 : Nat) = (0 : Nat)) ∧
 (List.length (Ref.quiet (QuiX.y x1) (QuiX.now x1) (QuiX.silence x1) x4) = List.length (Ref.quiet (QuiX.y x1) (QuiX.now x1) (QuiX.silence x1) x13))) ∧
 ((True) ∧
 ((((0 : Nat) = (0 : Nat)) ∧
 ((0 : Nat) = (0 : Nat))) ∧
 (((Ref.units (QuiX.y x1) = Ref.units (QuiX.y x1)) ∧
 ((Ref.since (QuiX.y x1) = Ref.since (QuiX.y x1)) ∧
 ((((0 : Nat) = (0 : Nat)) ∧
 (List.length (Ref.news (QuiX.y x1)) = List.length (Ref.news (QuiX.y x1)))) ∧
 (True)))) ∧
 ((QuiX.now x1 = QuiX.now x1) ∧
 ((QuiX.silence x1 = QuiX.silence x1) ∧
 (True)))))))) ∧
 (((RLe (List.length (Ref.quiet (QuiX.y x1) (QuiX.now x1) (QuiX.silence x1) x13)) (List.length (Ref.quiet (QuiX.y x1) (QuiX.now x1) (QuiX.silence x1) x4))) ∧
 (RowsEq (Kd.int IntKind.i64 :: @List.nil Kd) (List.length (Ref.quiet (QuiX.y x1) (QuiX.now x1) (QuiX.silence x1) x13)) (encL encI (Ref.quiet (QuiX.y x1) (QuiX.now x1) (QuiX.silence x1) x4)) (encL encI (Ref.quiet (QuiX.y x1) (QuiX.now x1) (QuiX.silence x1) x13)))) ∧
 (((Ref.units (QuiX.y x1) = Ref.units (QuiX.y x1)) ∧
 ((Ref.since (QuiX.y x1) = Ref.since (QuiX.y x1)) ∧
 ((((0 : Nat) = (0 : Nat)) ∧
 (List.length (Ref.news (QuiX.y x1)) = List.length (Ref.news (QuiX.y x1)))) ∧
 (True)))) ∧
 (((RLe (List.length (Ref.news (QuiX.y x1))) (List.length (Ref.news (QuiX.y x1)))) ∧
 (RowsEq (Kd.int IntKind.i64 :: Kd.int IntKind.i64 :: Kd.int IntKind.i64 :: Kd.int IntKind.i64 :: Kd.int IntKind.i64 :: Kd.int IntKind.i64 :: @List.nil Kd) (List.length (Ref.news (QuiX.y x1))) (encL encCame (Ref.news (QuiX.y x1))) (encL encCame (Ref.news (QuiX.y x1))))) ∧
 (True))))))))))))))))) ∧
 ((Ref.there (RefI.y x7) (RefI.u x7) = false) →
 (∃ x15 : Int,
 ((True) ∧
 (((QuiX.now x1 = x15) ∧
 (True)) ∧
 ((True) ∧
 ((((-9223372036854775808 : Int) ≤ minMax x15 - Ref.since (QuiX.y x1)) ∧
 (minMax x15 - Ref.since (QuiX.y x1) ≤ (9223372036854775807 : Int))) ∧
 (((decide (max (QuiX.silence x1) (0 : Int) < minMax x15 - Ref.since (QuiX.y x1)) = true) →
 ((((True) ∧
 (True)) ∧
 (True)) ∧
 ((((0 : Nat) = (0 : Nat)) ∧
 ((List.length (Ref.quiet (QuiX.y x1) (QuiX.now x1) (QuiX.silence x1) x4) ≤ List.length (Ref.quiet (QuiX.y x1) (QuiX.now x1) (QuiX.silence x1) x4)) ∧
 (((1 : Nat) ≤ (1 : Nat)) ∧
 (List.length (Ref.quiet (QuiX.y x1) (QuiX.now x1) (QuiX.silence x1) x4) + (1 : Nat) ≤ (1073741824 : Nat))))) ∧
 ((((-9223372036854775808 : Int) ≤ (↑x4 : Int) + (1 : Int)) ∧
 ((↑x4 : Int) + (1 : Int) ≤ (9223372036854775807 : Int))) ∧
 (∃ x17 : Nat,
 ((Int.toNat (Ref.units (QuiX.y x1)) - x17 < Int.toNat (Ref.units (QuiX.y x1)) - x4) ∧
 ((x17 ≤ Int.toNat (Ref.units (QuiX.y x1))) ∧
 ((((↑x4 : Int) + (1 : Int) = (↑x17 : Int)) ∧
 ((((0 : Nat) = (0 : Nat)) ∧
 (List.length (Ref.quiet (QuiX.y x1) (QuiX.now x1) (QuiX.silence x1) x4) + (1 : Nat) = List.length (Ref.quiet (QuiX.y x1) (QuiX.now x1) (QuiX.silence x1) x17))) ∧
 ((True) ∧
 ((((0 : Nat) = (0 : Nat)) ∧
 ((0 : Nat) = (0 : Nat))) ∧
 (((Ref.units (QuiX.y x1) = Ref.units (QuiX.y x1)) ∧
 ((Ref.since (QuiX.y x1) = Ref.since (QuiX.y x1)) ∧
 ((((0 : Nat) = (0 : Nat)) ∧
 (List.length (Ref.news (QuiX.y x1)) = List.length (Ref.news (QuiX.y x1)))) ∧
 (True)))) ∧
 ((QuiX.now x1 = QuiX.now x1) ∧
 ((QuiX.silence x1 = QuiX.silence x1) ∧
 (True)))))))) ∧
 (((RLe (List.length (Ref.quiet (QuiX.y x1) (QuiX.now x1) (QuiX.silence x1) x17)) (List.length (Ref.quiet (QuiX.y x1) (QuiX.now x1) (QuiX.silence x1) x4) + (1 : Nat))) ∧
 (RowsEq (Kd.int IntKind.i64 :: @List.nil Kd) (List.length (Ref.quiet (QuiX.y x1) (QuiX.now x1) (QuiX.silence x1) x17)) (appRows (List.length (Ref.quiet (QuiX.y x1) (QuiX.now x1) (QuiX.silence x1) x4)) (encL encI (Ref.quiet (QuiX.y x1) (QuiX.now x1) (QuiX.silence x1) x4)) (0 : Nat) (litRows ((D.i (↑x4 : Int) :: @List.nil D) :: @List.nil (List D)))) (encL encI (Ref.quiet (QuiX.y x1) (QuiX.now x1) (QuiX.silence x1) x17)))) ∧
 (((Ref.units (QuiX.y x1) = Ref.units (QuiX.y x1)) ∧
 ((Ref.since (QuiX.y x1) = Ref.since (QuiX.y x1)) ∧
 ((((0 : Nat) = (0 : Nat)) ∧
 (List.length (Ref.news (QuiX.y x1)) = List.length (Ref.news (QuiX.y x1)))) ∧
 (True)))) ∧
 (((RLe (List.length (Ref.news (QuiX.y x1))) (List.length (Ref.news (QuiX.y x1)))) ∧
 (RowsEq (Kd.int IntKind.i64 :: Kd.int IntKind.i64 :: Kd.int IntKind.i64 :: Kd.int IntKind.i64 :: Kd.int IntKind.i64 :: Kd.int IntKind.i64 :: @List.nil Kd) (List.length (Ref.news (QuiX.y x1))) (encL encCame (Ref.news (QuiX.y x1))) (encL encCame (Ref.news (QuiX.y x1))))) ∧
 (True)))))))))))) ∧
 ((decide (max (QuiX.silence x1) (0 : Int) < minMax x15 - Ref.since (QuiX.y x1)) = false) →
 ((((-9223372036854775808 : Int) ≤ (↑x4 : Int) + (1 : Int)) ∧
 ((↑x4 : Int) + (1 : Int) ≤ (9223372036854775807 : Int))) ∧
 (∃ x19 : Nat,
 ((Int.toNat (Ref.units (QuiX.y x1)) - x19 < Int.toNat (Ref.units (QuiX.y x1)) - x4) ∧
 ((x19 ≤ Int.toNat (Ref.units (QuiX.y x1))) ∧
 ((((↑x4 : Int) + (1 : Int) = (↑x19 : Int)) ∧
 ((((0 : Nat) = (0 : Nat)) ∧
 (List.length (Ref.quiet (QuiX.y x1) (QuiX.now x1) (QuiX.silence x1) x4) = List.length (Ref.quiet (QuiX.y x1) (QuiX.now x1) (QuiX.silence x1) x19))) ∧
 ((True) ∧
 ((((0 : Nat) = (0 : Nat)) ∧
 ((0 : Nat) = (0 : Nat))) ∧
 (((Ref.units (QuiX.y x1) = Ref.units (QuiX.y x1)) ∧
 ((Ref.since (QuiX.y x1) = Ref.since (QuiX.y x1)) ∧
 ((((0 : Nat) = (0 : Nat)) ∧
 (List.length (Ref.news (QuiX.y x1)) = List.length (Ref.news (QuiX.y x1)))) ∧
 (True)))) ∧
 ((QuiX.now x1 = QuiX.now x1) ∧
 ((QuiX.silence x1 = QuiX.silence x1) ∧
 (True)))))))) ∧
 (((RLe (List.length (Ref.quiet (QuiX.y x1) (QuiX.now x1) (QuiX.silence x1) x19)) (List.length (Ref.quiet (QuiX.y x1) (QuiX.now x1) (QuiX.silence x1) x4))) ∧
 (RowsEq (Kd.int IntKind.i64 :: @List.nil Kd) (List.length (Ref.quiet (QuiX.y x1) (QuiX.now x1) (QuiX.silence x1) x19)) (encL encI (Ref.quiet (QuiX.y x1) (QuiX.now x1) (QuiX.silence x1) x4)) (encL encI (Ref.quiet (QuiX.y x1) (QuiX.now x1) (QuiX.silence x1) x19)))) ∧
 (((Ref.units (QuiX.y x1) = Ref.units (QuiX.y x1)) ∧
 ((Ref.since (QuiX.y x1) = Ref.since (QuiX.y x1)) ∧
 ((((0 : Nat) = (0 : Nat)) ∧
 (List.length (Ref.news (QuiX.y x1)) = List.length (Ref.news (QuiX.y x1)))) ∧
 (True)))) ∧
 (((RLe (List.length (Ref.news (QuiX.y x1))) (List.length (Ref.news (QuiX.y x1)))) ∧
 (RowsEq (Kd.int IntKind.i64 :: Kd.int IntKind.i64 :: Kd.int IntKind.i64 :: Kd.int IntKind.i64 :: Kd.int IntKind.i64 :: Kd.int IntKind.i64 :: @List.nil Kd) (List.length (Ref.news (QuiX.y x1))) (encL encCame (Ref.news (QuiX.y x1))) (encL encCame (Ref.news (QuiX.y x1))))) ∧
 (True))))))))))))))))))))))) ∧
 ((decide ((↑x4 : Int) < Ref.units (QuiX.y x1)) = false) →
 ((((0 : Nat) = (0 : Nat)) ∧
 (List.length (Ref.quiet (QuiX.y x1) (QuiX.now x1) (QuiX.silence x1) x4) = List.length (Ref.quiet (QuiX.y x1) (QuiX.now x1) (QuiX.silence x1) (Int.toNat (Ref.units (QuiX.y x1)))))) ∧
 (((RLe (List.length (Ref.quiet (QuiX.y x1) (QuiX.now x1) (QuiX.silence x1) (Int.toNat (Ref.units (QuiX.y x1))))) (List.length (Ref.quiet (QuiX.y x1) (QuiX.now x1) (QuiX.silence x1) x4))) ∧
 (RowsEq (Kd.int IntKind.i64 :: @List.nil Kd) (List.length (Ref.quiet (QuiX.y x1) (QuiX.now x1) (QuiX.silence x1) (Int.toNat (Ref.units (QuiX.y x1))))) (encL encI (Ref.quiet (QuiX.y x1) (QuiX.now x1) (QuiX.silence x1) x4)) (encL encI (Ref.quiet (QuiX.y x1) (QuiX.now x1) (QuiX.silence x1) (Int.toNat (Ref.units (QuiX.y x1))))))) ∧
 (True)))))))))))) = Keeps { cfg3 with vars := 13 } Try.f19 quietC quietI by kernel_rfl) (fun x1 => fun h2 => ⟨((0 : Nat)),
 ⟨(by (try dsimp only at *); omega),
 ⟨(by (try dsimp only at *); omega),
 ⟨trivial,
 rfl,
 (by (try dsimp only at *); (rw [quiet_zero]; rfl))⟩,
 trivial,
 ⟨rfl,
 rfl⟩,
 ⟨rfl,
 rfl,
 ⟨rfl,
 rfl⟩,
 trivial⟩,
 rfl,
 rfl,
 trivial⟩,
 (by (try dsimp only at *); (rw [quiet_zero]; rfl)),
 ⟨rfl,
 rfl,
 ⟨rfl,
 rfl⟩,
 trivial⟩,
 ⟨⟨Nat.le_refl _⟩,
 RowsEq.rfl'⟩,
 trivial⟩,
 fun x4 => fun h5 => ⟨fun g6 => have h6 := of_decide_eq_true g6; ⟨({ y := QuiX.y x1, u := (↑x4 : Int) : RefI }),
 (by (try dsimp only at *); (have := h2.1.n; omega)),
 ⟨⟨rfl,
 rfl,
 ⟨rfl,
 rfl⟩,
 trivial⟩,
 rfl,
 trivial⟩,
 ⟨⟨⟨Nat.le_refl _⟩,
 RowsEq.rfl'⟩,
 trivial⟩,
 fun h8 => ⟨(QuiX.now x1),
 trivial,
 ⟨rfl,
 trivial⟩,
 trivial,
 ⟨(by (try dsimp only at *); (have h := Ref.all_heard x1.y x4 h2.2; have h' := h2.2.since; simp only [Ref.heard, minMax, lim] at *; grind)),
 (by (try dsimp only at *); (have h := Ref.all_heard x1.y x4 h2.2; have h' := h2.2.since; simp only [Ref.heard, minMax, lim] at *; grind))⟩,
 fun g10 => have h10 := of_decide_eq_true g10; ⟨⟨⟨trivial,
 trivial⟩,
 trivial⟩,
 ⟨rfl,
 (by (try dsimp only at *); omega),
 (by (try dsimp only at *); omega),
 (by (try dsimp only at *); (have := quiet_len x1.y x1.now x1.silence x4; have := h2.2.units; omega))⟩,
 ⟨(by (try dsimp only at *); omega),
 (by (try dsimp only at *); (have := quiet_len x1.y x1.now x1.silence x4; have := h2.2.units; omega))⟩,
 (x4 + (1 : Nat)),
 (by (try dsimp only at *); omega),
 (by (try dsimp only at *); omega),
 ⟨(by (try dsimp only at *); omega),
 ⟨rfl,
 (by (try dsimp only at *); (rw [quiet_succ, if_pos (by simp only [Ref.quietAt] at *; grind)]; simp))⟩,
 trivial,
 ⟨rfl,
 rfl⟩,
 ⟨rfl,
 rfl,
 ⟨rfl,
 rfl⟩,
 trivial⟩,
 rfl,
 rfl,
 trivial⟩,
 ⟨⟨(by (try dsimp only at *); (rw [quiet_succ, if_pos (by simp only [Ref.quietAt] at *; grind)]; simp))⟩,
 (by (try dsimp only at *); (rw [quiet_succ, if_pos (by simp only [Ref.quietAt] at *; grind)]; exact rowsEq_push rfl (by simp) (by simp only [rowEq, Kd.eqv]; exact ⟨rfl, trivial⟩)))⟩,
 ⟨rfl,
 rfl,
 ⟨rfl,
 rfl⟩,
 trivial⟩,
 ⟨⟨Nat.le_refl _⟩,
 RowsEq.rfl'⟩,
 trivial⟩,
 fun g12 => have h12 := of_decide_eq_false g12; ⟨⟨(by (try dsimp only at *); omega),
 (by (try dsimp only at *); (have := quiet_len x1.y x1.now x1.silence x4; have := h2.2.units; omega))⟩,
 (x4 + (1 : Nat)),
 (by (try dsimp only at *); omega),
 (by (try dsimp only at *); omega),
 ⟨(by (try dsimp only at *); omega),
 ⟨rfl,
 (by (try dsimp only at *); (rw [quiet_succ, if_neg (by simp only [Ref.quietAt] at *; grind)]; simp))⟩,
 trivial,
 ⟨rfl,
 rfl⟩,
 ⟨rfl,
 rfl,
 ⟨rfl,
 rfl⟩,
 trivial⟩,
 rfl,
 rfl,
 trivial⟩,
 ⟨⟨(by (try dsimp only at *); (rw [quiet_succ, if_neg (by simp only [Ref.quietAt] at *; grind)]; simp))⟩,
 (by (try dsimp only at *); (rw [quiet_succ, if_neg (by simp only [Ref.quietAt] at *; grind), List.append_nil]; exact RowsEq.rfl'))⟩,
 ⟨rfl,
 rfl,
 ⟨rfl,
 rfl⟩,
 trivial⟩,
 ⟨⟨Nat.le_refl _⟩,
 RowsEq.rfl'⟩,
 trivial⟩⟩,
 fun h14 => ⟨(QuiX.now x1),
 trivial,
 ⟨rfl,
 trivial⟩,
 trivial,
 ⟨(by (try dsimp only at *); (have h := Ref.all_heard x1.y x4 h2.2; have h' := h2.2.since; simp only [Ref.heard, minMax, lim] at *; grind)),
 (by (try dsimp only at *); (have h := Ref.all_heard x1.y x4 h2.2; have h' := h2.2.since; simp only [Ref.heard, minMax, lim] at *; grind))⟩,
 fun g16 => have h16 := of_decide_eq_true g16; ⟨⟨⟨trivial,
 trivial⟩,
 trivial⟩,
 ⟨rfl,
 (by (try dsimp only at *); omega),
 (by (try dsimp only at *); omega),
 (by (try dsimp only at *); (have := quiet_len x1.y x1.now x1.silence x4; have := h2.2.units; omega))⟩,
 ⟨(by (try dsimp only at *); omega),
 (by (try dsimp only at *); (have := quiet_len x1.y x1.now x1.silence x4; have := h2.2.units; omega))⟩,
 (x4 + (1 : Nat)),
 (by (try dsimp only at *); omega),
 (by (try dsimp only at *); omega),
 ⟨(by (try dsimp only at *); omega),
 ⟨rfl,
 (by (try dsimp only at *); (rw [quiet_succ, if_pos (by simp only [Ref.quietAt] at *; grind)]; simp))⟩,
 trivial,
 ⟨rfl,
 rfl⟩,
 ⟨rfl,
 rfl,
 ⟨rfl,
 rfl⟩,
 trivial⟩,
 rfl,
 rfl,
 trivial⟩,
 ⟨⟨(by (try dsimp only at *); (rw [quiet_succ, if_pos (by simp only [Ref.quietAt] at *; grind)]; simp))⟩,
 (by (try dsimp only at *); (rw [quiet_succ, if_pos (by simp only [Ref.quietAt] at *; grind)]; exact rowsEq_push rfl (by simp) (by simp only [rowEq, Kd.eqv]; exact ⟨rfl, trivial⟩)))⟩,
 ⟨rfl,
 rfl,
 ⟨rfl,
 rfl⟩,
 trivial⟩,
 ⟨⟨Nat.le_refl _⟩,
 RowsEq.rfl'⟩,
 trivial⟩,
 fun g18 => have h18 := of_decide_eq_false g18; ⟨⟨(by (try dsimp only at *); omega),
 (by (try dsimp only at *); (have := quiet_len x1.y x1.now x1.silence x4; have := h2.2.units; omega))⟩,
 (x4 + (1 : Nat)),
 (by (try dsimp only at *); omega),
 (by (try dsimp only at *); omega),
 ⟨(by (try dsimp only at *); omega),
 ⟨rfl,
 (by (try dsimp only at *); (rw [quiet_succ, if_neg (by simp only [Ref.quietAt] at *; grind)]; simp))⟩,
 trivial,
 ⟨rfl,
 rfl⟩,
 ⟨rfl,
 rfl,
 ⟨rfl,
 rfl⟩,
 trivial⟩,
 rfl,
 rfl,
 trivial⟩,
 ⟨⟨(by (try dsimp only at *); (rw [quiet_succ, if_neg (by simp only [Ref.quietAt] at *; grind)]; simp))⟩,
 (by (try dsimp only at *); (rw [quiet_succ, if_neg (by simp only [Ref.quietAt] at *; grind), List.append_nil]; exact RowsEq.rfl'))⟩,
 ⟨rfl,
 rfl,
 ⟨rfl,
 rfl⟩,
 trivial⟩,
 ⟨⟨Nat.le_refl _⟩,
 RowsEq.rfl'⟩,
 trivial⟩⟩⟩,
 fun g20 => have h20 := of_decide_eq_false g20; ⟨⟨rfl,
 (by (try dsimp only at *); grind)⟩,
 ⟨⟨(by (try dsimp only at *); grind)⟩,
 (by (try dsimp only at *); (obtain rfl : x4 = x1.y.units.toNat := (by omega); first | rfl | exact RowsEq.rfl'))⟩,
 trivial⟩⟩⟩)


theorem numbers_good : Good Try.prog 17 numbersC ∧ FnOk Try.prog 17 := good_of (c := { cfg0 with vars := 6 }) tok con0 (fn := Try.f17) rfl (by decide +kernel) (fun _ => rfl) numbers_keeps
theorem silent_good : Good Try.prog 18 silentC ∧ FnOk Try.prog 18 := good_of (c := { cfg1 with vars := 10 }) tok con1 (fn := Try.f18) rfl (by decide +kernel) (fun _ => rfl) silent_keeps
theorem quiet_good : Good Try.prog 19 quietC ∧ FnOk Try.prog 19 := good_of (c := { cfg3 with vars := 13 }) tok con3 (fn := Try.f19) rfl (by decide +kernel) (fun _ => rfl) quiet_keeps
end Go.Sym
