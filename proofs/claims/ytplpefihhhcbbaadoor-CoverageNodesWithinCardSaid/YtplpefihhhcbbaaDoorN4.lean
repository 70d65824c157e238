import Derived.Test.YtplpefihhhcbbaaDoorN3
import Derived.Test.YtplpefihhhcbbaaDoorXD
namespace Go.Sym
set_option linter.unusedVariables false
set_option linter.unusedSimpArgs false
open Go.Proofs
def bitmapC : CT where
 X := List Nat
 pre := WOk
 args := fun ws => [setV ws 100000]
 g0 := fun ws => setH ws .bor 100000
 res := fun ws => .arr kW 64 (encL encW ws)
 g1 := fun ws => []
set_option maxRecDepth 100000 in
theorem bitmap_keeps : Keeps cfgN0 Tryd.f46 bitmapC noIv := Eq.mp (show ((∀ x1 : List Nat, ((WOk x1)-> (((decide (szW x1 = (0 : Nat)) = true)-> ((0=0/\((64 : Nat) = (64 : Nat)))/\((((64 : Nat) = (64 : Nat))/\(RowsEq [.int .u64] 64 (fun (x j : Nat) => zRow [.int .u64] j) (encL encW x1)))/\True)))/\((decide (szW x1 = (0 : Nat)) = false)-> ((szW x1 ≠ (0 : Nat))/\((0=0/\((64 : Nat) <= szW x1))/\((0=0/\((64 : Nat) = (64 : Nat)))/\((((64 : Nat) = (64 : Nat))/\(RowsEq [.int .u64] 64 (encL encW x1) (encL encW x1)))/\True))))))))) = (Keeps cfgN0 Tryd.f46 bitmapC noIv) by kernel_rfl) (fun x1 => fun h2 => ⟨fun g3 => have h3 := of_decide_eq_true g3; ⟨⟨rfl,rfl⟩,
⟨rfl,
(by
       (rw [szW_zero.1 h3]; exact nil_rows))⟩,trivial⟩,
fun g4 => have h4 := of_decide_eq_false g4; ⟨(by omega),
⟨rfl,
(by (rw [szW_full ‹_›]; exact Nat.le_refl _))⟩,
⟨rfl,rfl⟩,
⟨rfl,RowsEq.rfl'⟩,trivial⟩⟩)
theorem bitmap_good : Good Tryd.prog 46 bitmapC /\ FnOk Tryd.prog 46 := good_of tok conN0 (fn := Tryd.f46) rfl (by decide +kernel) (fun _ => rfl) bitmap_keeps
def bothAt (a b : List Nat) (k : Nat) : List Nat := (List.range 64).map fun i => if i < k then a.getD i default &&& b.getD i default else a.getD i default
def bothW (a b : List Nat) : List Nat := bothAt a b 64
theorem bothAt_len (a b : List Nat) (k : Nat) : (bothAt a b k).length = 64 := by simp [bothAt]
theorem bothAt_at {a b : List Nat} {k i : Nat} (h : i < 64) : (bothAt a b k).getD i default = if i < k then a.getD i default &&& b.getD i default else a.getD i default := by
 unfold bothAt; rw [List.getD_eq_getElem?_getD, List.getElem?_map, List.getElem?_range h]; rfl
theorem getD_out {ws : List Nat} (h : ws.length = 64) {i : Nat} (hi : ¬ i < 64) : ws.getD i default = 0 := by
 rw [List.getD_eq_getElem?_getD, List.getElem?_eq_none (by omega)]; rfl
theorem bothAt_ok {a b : List Nat} (ha : WOk a) (hb : WOk b) (k : Nat) : WOk (bothAt a b k) := by
 refine ⟨bothAt_len a b k, fun i => ?_⟩
 by_cases hi : i < 64
 ·rw [bothAt_at hi]
  split
  ·exact Nat.lt_of_le_of_lt Nat.and_le_left (ha.lt i)
  ·exact ha.lt i
 ·rw [getD_out (bothAt_len a b k) hi]; decide
theorem bothAt_zero {a b : List Nat} (ha : WOk a) : bothAt a b 0 = a := by
 apply List.ext_getElem (by rw [bothAt_len, ha.len])
 intro i h1 h2
 have e1 : (bothAt a b 0)[i] = (bothAt a b 0).getD i default := by simp [List.getD_eq_getElem?_getD, h1]
 have e2 : a[i] = a.getD i default := by simp [List.getD_eq_getElem?_getD, h2]
 rw [e1, e2, bothAt_at (by rw [ha.len] at h2; exact h2), if_neg (by omega)]
theorem ge_getD {xs : List Nat} {i : Nat} (h : i < xs.length) : xs[i] = xs.getD i default := by simp [List.getD_eq_getElem?_getD, h]
theorem bothAt_succ {a b : List Nat} {k : Nat} (hk : k < 64) : bothAt a b (k + 1) = (bothAt a b k).set k (a.getD k default &&& b.getD k default) := by
 apply List.ext_getElem (by rw [List.length_set, bothAt_len, bothAt_len])
 intro i h1 h2
 have hi : i < 64 := by rw [bothAt_len] at h1; exact h1
 rw [ge_getD h1, ge_getD h2, bothAt_at hi, getD_set, bothAt_len, bothAt_at hi]
 by_cases e : k = i
 ·subst e; rw [if_pos (by omega), if_pos ⟨rfl, hi⟩]
 ·rw [if_neg (show ¬ (k = i /\ i < 64) from fun q => e q.1)]
  by_cases h3 : i < k
  ·rw [if_pos (show i < k + 1 by omega), if_pos h3]
  ·rw [if_neg (show ¬ i < k + 1 by omega), if_neg h3]
theorem both_step {a b : List Nat} {k : Nat} (ha : WOk a) (hb : WOk b) (hk : k < 64) : IntKind.u64.wrap ((BitVec.ofInt IntKind.u64.bits (((bothAt a b k).getD (0 + ((k : Nat) : Int).toNat) default : Nat) : Int) &&& BitVec.ofInt IntKind.u64.bits ((b.getD (0 + ((k : Nat) : Int).toNat) default : Nat) : Int)).toNat : Int) = ((a.getD k default &&& b.getD k default : Nat) : Int) := by
 rw [Nat.zero_add, Int.toNat_natCast, and_u64 ((bothAt_ok ha hb k).lt _) (hb.lt _), bothAt_at hk, if_neg (by omega)]
theorem hasW_both {a b : List Nat} (ha : WOk a) (k : Nat) : hasW (bothW a b) k = (hasW a k && hasW b k) := by
 unfold hasW bothW
 by_cases hi : k / 64 < 64
 ·rw [bothAt_at hi, if_pos hi, Nat.testBit_and]
 ·rw [getD_out (bothAt_len a b 64) hi, getD_out ha.len hi, Nat.zero_testBit, Bool.false_and]
def CN2 : List (Nat × Con) := [(46, .one bitmapC), (35, .one setOfC)]
def cfgN2 : Cfg := ⟨T, [], CN2, noInv, 25, {}⟩
theorem conN2 : ConOk Tryd.prog cfgN2 := ConL.ok (.cons (ConL.one bitmap_good) (.cons (ConL.one setOf_good) .nil))
def bothC : CT where
 X := TwoX
 pre := fun x => WOk x.a /\ WOk x.b
 args := fun x => [setV x.a 100000, setV x.b 100001]
 g0 := fun x => setH x.a .bor 100000 ++ setH x.b .bor 100001
 res := fun x => setV (bothW x.a x.b) 1
 g1 := fun x => setH (bothW x.a x.b) .own 1
def bothI (x : TwoX) (id : Nat) : Option Inv := match id with
 | 0 => some { X := Nat, ok := fun k => k <= 64, fr := fun k => [(12, .i .i64 k), (4, .p 4 0 0), (5, .p 5 0 0), (6, .p 6 0 0)], hp := fun k => [(4, .one .own [.np]), (5, .rows .own kW 64 (encL encW (bothAt x.a x.b k))), (6, .rows .own kW 64 (encL encW x.b))], me := fun k => 64 - k }
 | _ => none
set_option maxRecDepth 100000 in
theorem both_keeps : Keeps cfgN2 Tryd.f27 bothC bothI := Eq.mp (show ((∀ x1 : TwoX, ((WOk x1.a /\ WOk x1.b)-> (∃ x3 : List Nat, ((WOk x3)/\((((szW x1.a = szW x3)/\True)/\True)/\((((RLe (szW x3) (szW x1.a))/\(RowsEq [.int .u64] (szW x3) (encL encW x1.a) (encL encW x3)))/\True)/\(∃ x4 : List Nat, ((WOk x4)/\((((szW x1.b = szW x4)/\True)/\True)/\((((RLe (szW x4) (szW x1.b))/\(RowsEq [.int .u64] (szW x4) (encL encW x1.b) (encL encW x4)))/\True)/\((0=0/\((64 : Nat) = (64 : Nat)))/\((0=0/\((64 : Nat) = (64 : Nat)))/\(∃ x5 : Nat, (((x5 <= (64 : Nat))/\(((0 = (x5 : Int))/\((0=0 /\ 0=0)/\((0=0 /\ 0=0)/\((0=0 /\ 0=0)/\((((64 : Nat) = (64 : Nat))/\(RowsEq [.int .u64] 64 (encL encW x4) (encL encW x4)))/\(((szW x1.b = szW x1.b)/\True)/\((((64 : Nat) = (64 : Nat))/\(RowsEq [.int .u64] 64 (encL encW x3) (encL encW x3)))/\(((szW x1.a = szW x1.a)/\True)/\((0=0 /\ 0=0)/\((0=0 /\ 0=0)/\(((szW x1.a = szW x1.a)/\True)/\(((szW x1.b = szW x1.b)/\True)/\True))))))))))))/\((True/\True)/\((RLe 64 64/\(RowsEq [.int .u64] 64 (encL encW x3) (encL encW (bothAt x1.a x1.b x5))))/\((RLe 64 64/\(RowsEq [.int .u64] 64 (encL encW x4) (encL encW x1.b)))/\(((szW x1.b = szW x1.b)/\True)/\(((szW x1.a = szW x1.a)/\True)/\(((RLe (szW x1.a) (szW x1.a))/\(RowsEq [.int .u64] (szW x1.a) (encL encW x1.a) (encL encW x1.a)))/\(((RLe (szW x1.b) (szW x1.b))/\(RowsEq [.int .u64] (szW x1.b) (encL encW x1.b) (encL encW x1.b)))/\True)))))))))/\(∀ x6 : Nat, ((x6 <= (64 : Nat))-> (((decide ((x6 : Int) < 64) = true)-> ((((0 : Int) <= (x6 : Int))/\((x6 : Int) < (↑(64 : Nat) : Int)))/\((0 + Int.toNat (x6 : Int) < (64 : Nat))/\((((0 : Int) <= (x6 : Int))/\((x6 : Int) < (↑(64 : Nat) : Int)))/\((0 + Int.toNat (x6 : Int) < (64 : Nat))/\((((0 : Int) <= (x6 : Int))/\((x6 : Int) < (↑(64 : Nat) : Int)))/\(((0 + Int.toNat (x6 : Int) < (64 : Nat))/\(True/\True))/\((((-9223372036854775808 : Int) <= (x6 : Int) + 1)/\((x6 : Int) + 1 <= (9223372036854775807 : Int)))/\(∃ x9 : Nat, (((64 : Nat) - x9 < (64 : Nat) - x6)/\((x9 <= (64 : Nat))/\((((x6 : Int) + 1 = (x9 : Int))/\((0=0 /\ 0=0)/\((0=0 /\ 0=0)/\((0=0 /\ 0=0)/\((((64 : Nat) = (64 : Nat))/\(RowsEq [.int .u64] 64 (encL encW x4) (encL encW x4)))/\(((szW x1.b = szW x1.b)/\True)/\((((64 : Nat) = (64 : Nat))/\(RowsEq [.int .u64] 64 (encL encW x3) (encL encW x3)))/\(((szW x1.a = szW x1.a)/\True)/\((0=0 /\ 0=0)/\((0=0 /\ 0=0)/\(((szW x1.a = szW x1.a)/\True)/\(((szW x1.b = szW x1.b)/\True)/\True))))))))))))/\((True/\True)/\((RLe 64 64/\(RowsEq [.int .u64] 64 (setRow (encL encW (bothAt x1.a x1.b x6)) (0 + Int.toNat (x6 : Int)) 0 (D.i (IntKind.wrap .u64 (↑(BitVec.toNat (BitVec.ofInt (IntKind.bits .u64) (↑((bothAt x1.a x1.b x6).getD (0 + Int.toNat (x6 : Int)) default) : Int) &&& BitVec.ofInt (IntKind.bits .u64) (↑(x1.b.getD (0 + Int.toNat (x6 : Int)) default) : Int))) : Int)) :: @List.nil D)) (encL encW (bothAt x1.a x1.b x9))))/\((RLe 64 64/\(RowsEq [.int .u64] 64 (encL encW x1.b) (encL encW x1.b)))/\(((szW x1.b = szW x1.b)/\True)/\(((szW x1.a = szW x1.a)/\True)/\(((RLe (szW x1.a) (szW x1.a))/\(RowsEq [.int .u64] (szW x1.a) (encL encW x1.a) (encL encW x1.a)))/\(((RLe (szW x1.b) (szW x1.b))/\(RowsEq [.int .u64] (szW x1.b) (encL encW x1.b) (encL encW x1.b)))/\True)))))))))))))))))))/\((decide ((x6 : Int) < 64) = false)-> (∃ x11 : List Nat, ((WOk x11)/\(((0=0 /\ 0=0)/\True)/\(((RLe 64 64/\(RowsEq [.int .u64] 64 (encL encW (bothAt x1.a x1.b x6)) (encL encW x11)))/\True)/\(((szW x11 = szW (bothW x1.a x1.b))/\True)/\(((RLe (szW (bothW x1.a x1.b)) (szW x11))/\(RowsEq [.int .u64] (szW (bothW x1.a x1.b)) (encL encW x11) (encL encW (bothW x1.a x1.b))))/\True))))))))))))))))))))))))) = (Keeps cfgN2 Tryd.f27 bothC bothI) by kernel_rfl) (fun x1 => fun h2 => ⟨(TwoX.a x1),
(by (try dsimp only at *); grind),
⟨⟨rfl,trivial⟩,trivial⟩,
⟨⟨⟨Nat.le_refl _⟩,RowsEq.rfl'⟩,trivial⟩,
(TwoX.b x1),
(by (try dsimp only at *); grind),
⟨⟨rfl,trivial⟩,trivial⟩,
⟨⟨⟨Nat.le_refl _⟩,RowsEq.rfl'⟩,trivial⟩,
⟨rfl,rfl⟩,
⟨rfl,rfl⟩,
((0 : Nat)),
⟨(by (try dsimp only at *); omega),
⟨(by (try dsimp only at *); omega),
⟨rfl,rfl⟩,
⟨rfl,rfl⟩,
⟨rfl,rfl⟩,
⟨rfl,RowsEq.rfl'⟩,
⟨rfl,trivial⟩,
⟨rfl,RowsEq.rfl'⟩,
⟨rfl,trivial⟩,
⟨rfl,rfl⟩,
⟨rfl,rfl⟩,
⟨rfl,trivial⟩,
⟨rfl,trivial⟩,trivial⟩,
⟨trivial,trivial⟩,
⟨⟨Nat.le_refl _⟩,
(by
       (rw [bothAt_zero h2.1]; exact RowsEq.rfl'))⟩,
⟨⟨Nat.le_refl _⟩,RowsEq.rfl'⟩,
⟨rfl,trivial⟩,
⟨rfl,trivial⟩,
⟨⟨Nat.le_refl _⟩,RowsEq.rfl'⟩,
⟨⟨Nat.le_refl _⟩,RowsEq.rfl'⟩,trivial⟩,
fun x6 => fun h7 => ⟨fun g8 => have h8 := of_decide_eq_true g8; ⟨⟨(by (try dsimp only at *); omega),
(by (try dsimp only at *); omega)⟩,
(by (try dsimp only at *); omega),
⟨(by (try dsimp only at *); omega),
(by (try dsimp only at *); omega)⟩,
(by (try dsimp only at *); omega),
⟨(by (try dsimp only at *); omega),
(by (try dsimp only at *); omega)⟩,
⟨(by (try dsimp only at *); omega),trivial,trivial⟩,
⟨(by (try dsimp only at *); omega),
(by (try dsimp only at *); omega)⟩,
(x6 + (1 : Nat)),
(by (try dsimp only at *); omega),
(by (try dsimp only at *); omega),
⟨(by (try dsimp only at *); omega),
⟨rfl,rfl⟩,
⟨rfl,rfl⟩,
⟨rfl,rfl⟩,
⟨rfl,RowsEq.rfl'⟩,
⟨rfl,trivial⟩,
⟨rfl,RowsEq.rfl'⟩,
⟨rfl,trivial⟩,
⟨rfl,rfl⟩,
⟨rfl,rfl⟩,
⟨rfl,trivial⟩,
⟨rfl,trivial⟩,trivial⟩,
⟨trivial,trivial⟩,
⟨⟨Nat.le_refl _⟩,
(by
       (rw [both_step h2.1 h2.2 (by omega), bothAt_succ (by omega), Nat.zero_add, Int.toNat_natCast]; exact rowsEq_set (v := _) (by rw [bothAt_len]; omega) (by simp only [rowEq, Kd.eqv, kW]; exact ⟨rfl, trivial⟩)))⟩,
⟨⟨Nat.le_refl _⟩,RowsEq.rfl'⟩,
⟨rfl,trivial⟩,
⟨rfl,trivial⟩,
⟨⟨Nat.le_refl _⟩,RowsEq.rfl'⟩,
⟨⟨Nat.le_refl _⟩,RowsEq.rfl'⟩,trivial⟩,
fun g10 => have h10 := of_decide_eq_false g10; ⟨(bothAt (TwoX.a x1) (TwoX.b x1) x6),
(by (try dsimp only at *); exact bothAt_ok h2.1 h2.2 _),
⟨⟨rfl,rfl⟩,trivial⟩,
⟨⟨⟨Nat.le_refl _⟩,RowsEq.rfl'⟩,trivial⟩,
⟨(by
       (obtain rfl : x6 = 64 := (by omega); first | rfl | exact Nat.le_refl _ | exact RowsEq.rfl')),trivial⟩,
⟨⟨(by
       (obtain rfl : x6 = 64 := (by omega); first | rfl | exact Nat.le_refl _ | exact RowsEq.rfl'))⟩,
(by
       (obtain rfl : x6 = 64 := (by omega); first | rfl | exact Nat.le_refl _ | exact RowsEq.rfl'))⟩,trivial⟩⟩⟩)
theorem both_good : Good Tryd.prog 27 bothC /\ FnOk Tryd.prog 27 := good_of tok conN2 (fn := Tryd.f27) rfl (by decide +kernel) (fun _ => rfl) both_keeps
end Go.Sym