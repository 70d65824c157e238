import Derived.Test.YtmomlgnnbpkgcaaU2
import Derived.Test.YtmomlgnnbpkgcaaN6
import Derived.Test.YtmomlgnnbpkgcaaXD
namespace Go.Sym
set_option linter.unusedVariables false
set_option linter.unusedSimpArgs false
open Go.Proofs
set_option maxHeartbeats 4000000
def fam (s : ByteArray) : ByteArray := if 0 <= ix s then s.extract 0 (ix s).toNat else s
def aft (s : ByteArray) : ByteArray := if 0 <= ix s then s.extract (ix s + 1).toNat s.size else ByteArray.empty
theorem fam_yes {s : ByteArray} (h : 0 <= ix s) : s.extract (Int.toNat 0) (ix s).toNat = fam s := (if_pos h).symm
theorem aft_yes {s : ByteArray} (h : 0 <= ix s) : s.extract (ix s + ↑(ByteArray.mk #[45]).size).toNat (↑s.size : Int).toNat = aft s := by unfold aft; rw [if_pos h]; rfl
theorem fam_no {s : ByteArray} (h : ¬ 0 <= ix s) : s = fam s := (if_neg h).symm
theorem aft_no {s : ByteArray} (h : ¬ 0 <= ix s) : ByteArray.mk #[] = aft s := (if_neg h).symm
theorem byte_at (s : ByteArray) (k : Nat) : s.data.getD k 0 = s.data.toList.getD k 0 := by simp [List.getD_eq_getElem?_getD]
theorem byte_45 {b : UInt8} (h : (b.toNat : Int) = 45) : b = 45 := UInt8.toNat_inj.1 (by have : (45 : UInt8).toNat = 45 := rfl; omega)
theorem qfam_hit {s : ByteArray} {k : Nat} (h7 : k <= s.size /\ ∀ j, j < k -> s.data.toList.getD j 0 ≠ 45) (h8 : (k : Int) < s.size) (h9 : ((s.data.getD (k : Int).toNat 0).toNat : Int) = 45) : s.extract (Int.toNat 0) (k : Int).toNat = fam s := by
 have e : ix s = k := ix_hit (l := s.data.toList) (by rw [<- Lib.size_eq]; omega) (by rw [<- byte_at]; exact byte_45 h9) h7.2
 unfold fam; rw [e, if_pos (by omega)]; rfl
theorem qfam_step {s : ByteArray} {k j : Nat} (h7 : k <= s.size /\ ∀ j, j < k -> s.data.toList.getD j 0 ≠ 45) (h9 : ¬ ((s.data.getD (k : Int).toNat 0).toNat : Int) = 45) (hj : j < k + 1) : s.data.toList.getD j 0 ≠ 45 := by
 rcases (show j < k ∨ j = k by omega) with h | h
 ·exact h7.2 j h
 ·subst h
  intro e
  apply h9
  rw [show ((j : Int).toNat) = j by omega, byte_at, e]; rfl
theorem qfam_end {s : ByteArray} {k : Nat} (h7 : k <= s.size /\ ∀ j, j < k -> s.data.toList.getD j 0 ≠ 45) (h8 : ¬ (k : Int) < s.size) : s = fam s := by
 have e : ix s = -1 := ix_miss fun j hj => h7.2 j (by rw [<- Lib.size_eq] at hj; omega)
 unfold fam; rw [e]; rfl
def cutC : CT where
 X := ByteArray
 pre := fun s => s.size <= 1073741824
 args := fun s => [.s s, .s ⟨#[45]⟩]
 g0 := fun _ => []
 res := fun s => .tup [.s (fam s), .s (aft s), .b (decide (0 <= ix s))]
 g1 := fun _ => []
def cfgU1 : Cfg := ⟨T, [], [(62, .one idxC)], noInv, 20, {}⟩
theorem conU1 : ConOk Try.prog cfgU1 := ConL.ok (.cons (ConL.one idx_good) .nil)
set_option maxRecDepth 100000 in
theorem slcut_keeps : Keeps cfgU1 Try.f51 cutC noIv := Eq.mp (show ((∀ x1 : ByteArray, ((ByteArray.size x1 <= (1073741824 : Nat))-> (∃ x3 : ByteArray, (True/\((x1 = x3/\(((ByteArray.mk (List.toArray ((45 : UInt8) :: @List.nil UInt8))) = (ByteArray.mk (List.toArray ((45 : UInt8) :: @List.nil UInt8))))/\True))/\(True/\(((decide ((0 : Int) <= ix x3) = true)-> ((((0 : Int) <= (0 : Int))/\(((0 : Int) <= ix x3)/\(ix x3 <= (↑(ByteArray.size x1) : Int))))/\((((-9223372036854775808 : Int) <= ix x3 + (↑(ByteArray.size (ByteArray.mk (List.toArray ((45 : UInt8) :: @List.nil UInt8)))) : Int))/\(ix x3 + (↑(ByteArray.size (ByteArray.mk (List.toArray ((45 : UInt8) :: @List.nil UInt8)))) : Int) <= (9223372036854775807 : Int)))/\((((0 : Int) <= ix x3 + (↑(ByteArray.size (ByteArray.mk (List.toArray ((45 : UInt8) :: @List.nil UInt8)))) : Int))/\((ix x3 + (↑(ByteArray.size (ByteArray.mk (List.toArray ((45 : UInt8) :: @List.nil UInt8)))) : Int) <= (↑(ByteArray.size x1) : Int))/\((↑(ByteArray.size x1) : Int) <= (↑(ByteArray.size x1) : Int))))/\(((ByteArray.extract x1 (Int.toNat (0 : Int)) (Int.toNat (ix x3)) = fam x1)/\((ByteArray.extract x1 (Int.toNat (ix x3 + (↑(ByteArray.size (ByteArray.mk (List.toArray ((45 : UInt8) :: @List.nil UInt8)))) : Int))) (Int.toNat (↑(ByteArray.size x1) : Int)) = aft x1)/\((true = decide ((0 : Int) <= ix x1))/\True)))/\True)))))/\((decide ((0 : Int) <= ix x3) = false)-> (((x1 = fam x1)/\(((ByteArray.mk (List.toArray (@List.nil UInt8))) = aft x1)/\((false = decide ((0 : Int) <= ix x1))/\True)))/\True)))))))))) = (Keeps cfgU1 Try.f51 cutC noIv) by kernel_rfl) (fun x1 => fun h2 => ⟨(x1),trivial,
⟨rfl,rfl,trivial⟩,trivial,
fun g4 => have h4 := of_decide_eq_true g4; ⟨⟨(by (try dsimp only at *); omega),
(by (try dsimp only at *); omega),
(by (try dsimp only at *); (have := ix_rng x1; omega))⟩,
⟨(by (try dsimp only at *); omega),
(by (try dsimp only at *); (have := ix_rng x1; show (_ : Int) + 1 <= _; omega))⟩,
⟨(by (try dsimp only at *); omega),
(by (try dsimp only at *); (have := ix_rng x1; show (_ : Int) + 1 <= _; omega)),
(by (try dsimp only at *); omega)⟩,
⟨(by (try dsimp only at *); exact fam_yes ‹_›),
(by (try dsimp only at *); exact aft_yes ‹_›),
(by (try dsimp only at *); grind),trivial⟩,trivial⟩,
fun g5 => have h5 := of_decide_eq_false g5; ⟨⟨(by (try dsimp only at *); exact fam_no ‹_›),
(by (try dsimp only at *); exact aft_no ‹_›),
(by (try dsimp only at *); grind),trivial⟩,trivial⟩⟩)
theorem slcut_good : Good Try.prog 51 cutC /\ FnOk Try.prog 51 := good_of tok conU1 (fn := Try.f51) rfl (by decide +kernel) (fun _ => rfl) slcut_keeps
def cfgU2 : Cfg := ⟨T, [], [(51, .one cutC)], noInv, 20, {}⟩
theorem conU2 : ConOk Try.prog cfgU2 := ConL.ok (.cons (ConL.one slcut_good) .nil)
set_option maxRecDepth 100000 in
theorem cut_keeps : Keeps cfgU2 Try.f45 cutC noIv := Eq.mp (show ((∀ x1 : ByteArray, ((ByteArray.size x1 <= (1073741824 : Nat))-> (∃ x3 : ByteArray, ((ByteArray.size x3 <= (1073741824 : Nat))/\((x1 = x3/\(((ByteArray.mk (List.toArray ((45 : UInt8) :: @List.nil UInt8))) = (ByteArray.mk (List.toArray ((45 : UInt8) :: @List.nil UInt8))))/\True))/\(True/\(((fam x3 = fam x1)/\((aft x3 = aft x1)/\((decide ((0 : Int) <= ix x3) = decide ((0 : Int) <= ix x1))/\True)))/\True)))))))) = (Keeps cfgU2 Try.f45 cutC noIv) by kernel_rfl) (fun x1 => fun h2 => ⟨(x1),
(by (try dsimp only at *); omega),
⟨rfl,rfl,trivial⟩,trivial,
⟨rfl,rfl,rfl,trivial⟩,trivial⟩)
theorem cut_good : Good Try.prog 45 cutC /\ FnOk Try.prog 45 := good_of tok conU2 (fn := Try.f45) rfl (by decide +kernel) (fun _ => rfl) cut_keeps
def famC : CT where
 X := ByteArray
 pre := fun s => s.size <= 1073741824
 args := fun s => [.s s]
 g0 := fun _ => []
 res := fun s => .s (fam s)
 g1 := fun _ => []
def cfgU3 : Cfg := ⟨T, [], [(45, .one cutC)], noInv, 20, {}⟩
theorem conU3 : ConOk Try.prog cfgU3 := ConL.ok (.cons (ConL.one cut_good) .nil)
set_option maxRecDepth 100000 in
theorem fam_keeps : Keeps cfgU3 Try.f38 famC noIv := Eq.mp (show ((∀ x1 : ByteArray, ((ByteArray.size x1 <= (1073741824 : Nat))-> (∃ x3 : ByteArray, ((ByteArray.size x3 <= (1073741824 : Nat))/\((x1 = x3/\(((ByteArray.mk (List.toArray ((45 : UInt8) :: @List.nil UInt8))) = (ByteArray.mk (List.toArray ((45 : UInt8) :: @List.nil UInt8))))/\True))/\(True/\((fam x3 = fam x1)/\True)))))))) = (Keeps cfgU3 Try.f38 famC noIv) by kernel_rfl) (fun x1 => fun h2 => ⟨(x1),
(by (try dsimp only at *); omega),
⟨rfl,rfl,trivial⟩,trivial,rfl,trivial⟩)
theorem fam_good : Good Try.prog 38 famC /\ FnOk Try.prog 38 := good_of tok conU3 (fn := Try.f38) rfl (by decide +kernel) (fun _ => rfl) fam_keeps
def qfamI (x : ByteArray) (id : Nat) : Option Inv := match id with
 | 0 => some { X := Nat, ok := fun k => k <= x.size /\ ∀ j, j < k -> x.data.toList.getD j 0 ≠ 45, fr := fun k => [(3, .i .i64 k)], hp := fun _ => [], me := fun k => x.size - k }
 | _ => none
set_option maxRecDepth 100000 in
theorem qfam_keeps : Keeps cfgN0 Try.f50 famC qfamI := Eq.mp (show ((∀ x1 : ByteArray, ((ByteArray.size x1 <= (1073741824 : Nat))-> (∃ x3 : Nat, ((((x3 <= ByteArray.size x1)/\(∀ j4 : Nat, ((j4 < x3)-> ((Array.toList (ByteArray.data x1)).getD j4 (0 : UInt8) ≠ (45 : UInt8)))))/\(((0 = (x3 : Int))/\(x1 = x1/\True))/\True))/\(∀ x6 : Nat, ((x6 <= ByteArray.size x1 /\ ∀ (j : Nat), j < x6 -> (Array.toList (ByteArray.data x1)).getD j (0 : UInt8) ≠ (45 : UInt8))-> (((decide ((x6 : Int) < (↑(ByteArray.size x1) : Int)) = true)-> ((((0 : Int) <= (x6 : Int))/\((x6 : Int) < (↑(ByteArray.size x1) : Int)))/\(((decide ((↑(UInt8.toNat (Array.getD (ByteArray.data x1) (Int.toNat (x6 : Int)) (0 : UInt8))) : Int) = 45) = true)-> ((((0 : Int) <= (0 : Int))/\(((0 : Int) <= (x6 : Int))/\((x6 : Int) <= (↑(ByteArray.size x1) : Int))))/\((ByteArray.extract x1 (Int.toNat (0 : Int)) (Int.toNat (x6 : Int)) = fam x1)/\True)))/\((decide ((↑(UInt8.toNat (Array.getD (ByteArray.data x1) (Int.toNat (x6 : Int)) (0 : UInt8))) : Int) = 45) = false)-> ((((-9223372036854775808 : Int) <= (x6 : Int) + 1)/\((x6 : Int) + 1 <= (9223372036854775807 : Int)))/\(∃ x11 : Nat, ((ByteArray.size x1 - x11 < ByteArray.size x1 - x6)/\(((x11 <= ByteArray.size x1)/\(∀ j12 : Nat, ((j12 < x11)-> ((Array.toList (ByteArray.data x1)).getD j12 (0 : UInt8) ≠ (45 : UInt8)))))/\((((x6 : Int) + 1 = (x11 : Int))/\(x1 = x1/\True))/\True)))))))))/\((decide ((x6 : Int) < (↑(ByteArray.size x1) : Int)) = false)-> ((x1 = fam x1)/\True)))))))))) = (Keeps cfgN0 Try.f50 famC qfamI) by kernel_rfl) (fun x1 => fun h2 => ⟨((0 : Nat)),
⟨⟨(by (try dsimp only at *); omega),
fun j4 => fun h5 => (by (try dsimp only at *); omega)⟩,
⟨(by (try dsimp only at *); omega),rfl,trivial⟩,trivial⟩,
fun x6 => fun h7 => ⟨fun g8 => have h8 := of_decide_eq_true g8; ⟨⟨(by (try dsimp only at *); omega),
(by (try dsimp only at *); omega)⟩,
fun g9 => have h9 := of_decide_eq_true g9; ⟨⟨(by (try dsimp only at *); omega),
(by (try dsimp only at *); omega),
(by (try dsimp only at *); omega)⟩,
(by (try dsimp only at *); exact qfam_hit ‹_› ‹_› ‹_›),trivial⟩,
fun g10 => have h10 := of_decide_eq_false g10; ⟨⟨(by (try dsimp only at *); omega),
(by (try dsimp only at *); omega)⟩,
(x6 + (1 : Nat)),
(by (try dsimp only at *); omega),
⟨(by (try dsimp only at *); omega),
fun j12 => fun h13 => (by (try dsimp only at *); exact qfam_step ‹_› ‹_› ‹_›)⟩,
⟨(by (try dsimp only at *); omega),rfl,trivial⟩,trivial⟩⟩,
fun g14 => have h14 := of_decide_eq_false g14; ⟨(by (try dsimp only at *); exact qfam_end ‹_› ‹_›),trivial⟩⟩⟩)
theorem qfam_good : Good Try.prog 50 famC /\ FnOk Try.prog 50 := good_of tok conN0 (fn := Try.f50) rfl (by decide +kernel) (fun _ => rfl) qfam_keeps
structure SSx where
 a : ByteArray
 b : ByteArray
def unkS : ByteArray := ⟨#[117, 110, 107, 110, 111, 119, 110]⟩
def kin (a b : ByteArray) : Bool := a.toList == unkS.toList || b.toList == unkS.toList || (fam a).toList == (fam b).toList
def kinC : CT where
 X := SSx
 pre := fun x => x.a.size <= 1073741824 /\ x.b.size <= 1073741824
 args := fun x => [.s x.a, .s x.b]
 g0 := fun _ => []
 res := fun x => .b (kin x.a x.b)
 g1 := fun _ => []
def cfgU4 : Cfg := ⟨T, [], [(38, .one famC)], noInv, 20, {}⟩
theorem conU4 : ConOk Try.prog cfgU4 := ConL.ok (.cons (ConL.one fam_good) .nil)
set_option maxRecDepth 100000 in
theorem same_keeps : Keeps cfgU4 Try.f25 kinC noIv := Eq.mp (show ((∀ x1 : SSx, ((ByteArray.size x1.a <= (1073741824 : Nat) /\ ByteArray.size x1.b <= (1073741824 : Nat))-> ((((ByteArray.toList x1.a == ByteArray.toList (ByteArray.mk (List.toArray ((117 : UInt8) :: (110 : UInt8) :: (107 : UInt8) :: (110 : UInt8) :: (111 : UInt8) :: (119 : UInt8) :: (110 : UInt8) :: @List.nil UInt8)))) = false)-> ((((ByteArray.toList x1.b == ByteArray.toList (ByteArray.mk (List.toArray ((117 : UInt8) :: (110 : UInt8) :: (107 : UInt8) :: (110 : UInt8) :: (111 : UInt8) :: (119 : UInt8) :: (110 : UInt8) :: @List.nil UInt8)))) = false)-> (∃ x5 : ByteArray, ((ByteArray.size x5 <= (1073741824 : Nat))/\((x1.a = x5/\True)/\(True/\(∃ x6 : ByteArray, ((ByteArray.size x6 <= (1073741824 : Nat))/\((x1.b = x6/\True)/\(True/\(((ByteArray.toList (fam x5) == ByteArray.toList (fam x6)) = kin x1.a x1.b)/\True))))))))))/\(((ByteArray.toList x1.b == ByteArray.toList (ByteArray.mk (List.toArray ((117 : UInt8) :: (110 : UInt8) :: (107 : UInt8) :: (110 : UInt8) :: (111 : UInt8) :: (119 : UInt8) :: (110 : UInt8) :: @List.nil UInt8)))) = true)-> ((true = kin x1.a x1.b)/\True))))/\(((ByteArray.toList x1.a == ByteArray.toList (ByteArray.mk (List.toArray ((117 : UInt8) :: (110 : UInt8) :: (107 : UInt8) :: (110 : UInt8) :: (111 : UInt8) :: (119 : UInt8) :: (110 : UInt8) :: @List.nil UInt8)))) = true)-> ((true = kin x1.a x1.b)/\True)))))) = (Keeps cfgU4 Try.f25 kinC noIv) by kernel_rfl) (fun x1 => fun h2 => ⟨fun h3 => ⟨fun h4 => ⟨(SSx.a x1),
(by (try dsimp only at *); omega),
⟨rfl,trivial⟩,trivial,
(SSx.b x1),
(by (try dsimp only at *); omega),
⟨rfl,trivial⟩,trivial,
(by (try dsimp only at *); (simp only [kin, unkS, *, Bool.true_or, Bool.false_or, Bool.or_true])),trivial⟩,
fun h7 => ⟨(by (try dsimp only at *); (simp only [kin, unkS, *, Bool.true_or, Bool.false_or, Bool.or_true])),trivial⟩⟩,
fun h8 => ⟨(by (try dsimp only at *); (simp only [kin, unkS, *, Bool.true_or, Bool.false_or, Bool.or_true])),trivial⟩⟩)
theorem zsame_good : Good Try.prog 25 kinC /\ FnOk Try.prog 25 := good_of tok conU4 (fn := Try.f25) rfl (by decide +kernel) (fun _ => rfl) same_keeps
def cfgU5 : Cfg := ⟨T, [], [(50, .one famC)], noInv, 20, {}⟩
theorem conU5 : ConOk Try.prog cfgU5 := ConL.ok (.cons (ConL.one qfam_good) .nil)
set_option maxRecDepth 100000 in
theorem kin_keeps : Keeps cfgU5 Try.f44 kinC noIv := Eq.mp (show ((∀ x1 : SSx, ((ByteArray.size x1.a <= (1073741824 : Nat) /\ ByteArray.size x1.b <= (1073741824 : Nat))-> ((((ByteArray.toList x1.a == ByteArray.toList (ByteArray.mk (List.toArray ((117 : UInt8) :: (110 : UInt8) :: (107 : UInt8) :: (110 : UInt8) :: (111 : UInt8) :: (119 : UInt8) :: (110 : UInt8) :: @List.nil UInt8)))) = false)-> ((((ByteArray.toList x1.b == ByteArray.toList (ByteArray.mk (List.toArray ((117 : UInt8) :: (110 : UInt8) :: (107 : UInt8) :: (110 : UInt8) :: (111 : UInt8) :: (119 : UInt8) :: (110 : UInt8) :: @List.nil UInt8)))) = false)-> (∃ x5 : ByteArray, ((ByteArray.size x5 <= (1073741824 : Nat))/\((x1.a = x5/\True)/\(True/\(∃ x6 : ByteArray, ((ByteArray.size x6 <= (1073741824 : Nat))/\((x1.b = x6/\True)/\(True/\(((ByteArray.toList (fam x5) == ByteArray.toList (fam x6)) = kin x1.a x1.b)/\True))))))))))/\(((ByteArray.toList x1.b == ByteArray.toList (ByteArray.mk (List.toArray ((117 : UInt8) :: (110 : UInt8) :: (107 : UInt8) :: (110 : UInt8) :: (111 : UInt8) :: (119 : UInt8) :: (110 : UInt8) :: @List.nil UInt8)))) = true)-> ((true = kin x1.a x1.b)/\True))))/\(((ByteArray.toList x1.a == ByteArray.toList (ByteArray.mk (List.toArray ((117 : UInt8) :: (110 : UInt8) :: (107 : UInt8) :: (110 : UInt8) :: (111 : UInt8) :: (119 : UInt8) :: (110 : UInt8) :: @List.nil UInt8)))) = true)-> ((true = kin x1.a x1.b)/\True)))))) = (Keeps cfgU5 Try.f44 kinC noIv) by kernel_rfl) (fun x1 => fun h2 => ⟨fun h3 => ⟨fun h4 => ⟨(SSx.a x1),
(by (try dsimp only at *); omega),
⟨rfl,trivial⟩,trivial,
(SSx.b x1),
(by (try dsimp only at *); omega),
⟨rfl,trivial⟩,trivial,
(by (try dsimp only at *); (simp only [kin, unkS, *, Bool.true_or, Bool.false_or, Bool.or_true])),trivial⟩,
fun h7 => ⟨(by (try dsimp only at *); (simp only [kin, unkS, *, Bool.true_or, Bool.false_or, Bool.or_true])),trivial⟩⟩,
fun h8 => ⟨(by (try dsimp only at *); (simp only [kin, unkS, *, Bool.true_or, Bool.false_or, Bool.or_true])),trivial⟩⟩)
theorem kin_good : Good Try.prog 44 kinC /\ FnOk Try.prog 44 := good_of tok conU5 (fn := Try.f44) rfl (by decide +kernel) (fun _ => rfl) kin_keeps
def cl (n : Int) : Int := min (max n 0) 4611686018427387904
def clampC : CT where
 X := Int
 pre := fun _ => True
 args := fun n => [.i .i64 n]
 g0 := fun _ => []
 res := fun n => .i .i64 (cl n)
 g1 := fun _ => []
set_option maxRecDepth 100000 in
theorem clamp_keeps : Keeps cfgN0 Try.f48 clampC noIv := Eq.mp (show ((∀ x1 : Int, (True -> ((min (max x1 (0 : Int)) (4611686018427387904 : Int) = cl x1)/\True)))) = (Keeps cfgN0 Try.f48 clampC noIv) by kernel_rfl) (fun x1 => fun h2 => ⟨(by rfl),trivial⟩)
theorem clamp_good : Good Try.prog 48 clampC /\ FnOk Try.prog 48 := good_of tok conN0 (fn := Try.f48) rfl (by decide +kernel) (fun _ => rfl) clamp_keeps
def neverC0 : CT where
 X := Unit
 pre := fun _ => True
 args := fun _ => []
 g0 := fun _ => []
 res := fun _ => .i .i64 4611686018427387904
 g1 := fun _ => []
set_option maxRecDepth 100000 in
theorem hnever_keeps : Keeps cfgN0 Try.f61 neverC0 noIv := Eq.mp (show ((∀ x1 : Unit, (True -> (((4611686018427387904 : Int) = 4611686018427387904)/\True)))) = (Keeps cfgN0 Try.f61 neverC0 noIv) by kernel_rfl) (fun x1 => fun h2 => ⟨rfl,trivial⟩)
theorem hnever_good : Good Try.prog 61 neverC0 /\ FnOk Try.prog 61 := good_of tok conN0 (fn := Try.f61) rfl (by decide +kernel) (fun _ => rfl) hnever_keeps
set_option maxRecDepth 100000 in
theorem xnever_keeps : Keeps cfgN0 Try.f29 neverC0 noIv := Eq.mp (show ((∀ x1 : Unit, (True -> (((4611686018427387904 : Int) = 4611686018427387904)/\True)))) = (Keeps cfgN0 Try.f29 neverC0 noIv) by kernel_rfl) (fun x1 => fun h2 => ⟨rfl,trivial⟩)
theorem xnever_good : Good Try.prog 29 neverC0 /\ FnOk Try.prog 29 := good_of tok conN0 (fn := Try.f29) rfl (by decide +kernel) (fun _ => rfl) xnever_keeps
def cfgU6 : Cfg := ⟨T, [], [(61, .one neverC0)], noInv, 20, {}⟩
theorem conU6 : ConOk Try.prog cfgU6 := ConL.ok (.cons (ConL.one hnever_good) .nil)
set_option maxRecDepth 100000 in
theorem hold_keeps : Keeps cfgU6 Try.f49 clampC noIv := Eq.mp (show ((∀ x1 : Int, (True -> (((decide (x1 < 0) = true)-> (((0 : Int) = cl x1)/\True))/\((decide (x1 < 0) = false)-> (∃ x5 : Unit, (True/\(True/\(True/\(((decide (4611686018427387904 < x1) = true)-> (∃ x7 : Unit, (True/\(True/\(True/\(((4611686018427387904 : Int) = cl x1)/\True))))))/\((decide (4611686018427387904 < x1) = false)-> ((x1 = cl x1)/\True)))))))))))) = (Keeps cfgU6 Try.f49 clampC noIv) by kernel_rfl) (fun x1 => fun h2 => ⟨fun g3 => have h3 := of_decide_eq_true g3; ⟨(by (show _ = min (max _ 0) _; omega)),trivial⟩,
fun g4 => have h4 := of_decide_eq_false g4; ⟨(()),trivial,trivial,trivial,
fun g6 => have h6 := of_decide_eq_true g6; ⟨(()),trivial,trivial,trivial,
(by (try dsimp only at *); (show _ = min (max _ 0) _; omega)),trivial⟩,
fun g8 => have h8 := of_decide_eq_false g8; ⟨(by (try dsimp only at *); (show _ = min (max _ 0) _; omega)),trivial⟩⟩⟩)
theorem hold_good : Good Try.prog 49 clampC /\ FnOk Try.prog 49 := good_of tok conU6 (fn := Try.f49) rfl (by decide +kernel) (fun _ => rfl) hold_keeps
structure IIx where
 a : Int
 b : Int
def el (a b : Int) : Int := max (cl a - cl b) 0
theorem cl_rng (n : Int) : 0 <= cl n /\ cl n <= 4611686018427387904 := by unfold cl; omega
def elC : CT where
 X := IIx
 pre := fun _ => True
 args := fun x => [.i .i64 x.a, .i .i64 x.b]
 g0 := fun _ => []
 res := fun x => .i .i64 (el x.a x.b)
 g1 := fun _ => []
def cfgU7 : Cfg := ⟨T, [], [(48, .one clampC), (49, .one clampC)], noInv, 20, {}⟩
theorem conU7 : ConOk Try.prog cfgU7 := ConL.ok (.cons (ConL.one clamp_good) (.cons (ConL.one hold_good) .nil))
theorem el_cl {a b : Int} : cl (cl a - cl b) = el a b := by have := cl_rng a; have := cl_rng b; unfold el; generalize cl a = u at *; generalize cl b = v at *; unfold cl; omega
set_option maxRecDepth 100000 in
theorem elapsed_keeps : Keeps cfgU7 Try.f42 elC noIv := Eq.mp (show ((∀ x1 : IIx, (True -> (∃ x3 : Int, (True/\((x1.a = x3/\True)/\(True/\(∃ x4 : Int, (True/\((x1.b = x4/\True)/\(True/\((((-9223372036854775808 : Int) <= cl x3 - cl x4)/\(cl x3 - cl x4 <= (9223372036854775807 : Int)))/\((max (cl x3 - cl x4) (0 : Int) = el x1.a x1.b)/\True))))))))))))) = (Keeps cfgU7 Try.f42 elC noIv) by kernel_rfl) (fun x1 => fun h2 => ⟨(IIx.a x1),trivial,
⟨rfl,trivial⟩,trivial,
(IIx.b x1),trivial,
⟨rfl,trivial⟩,trivial,
⟨(by (try dsimp only at *); (have := cl_rng x1.a; have := cl_rng x1.b; omega)),
(by (try dsimp only at *); (have := cl_rng x1.a; have := cl_rng x1.b; omega))⟩,
(by (try dsimp only at *); rfl),trivial⟩)
theorem elapsed_good : Good Try.prog 42 elC /\ FnOk Try.prog 42 := good_of tok conU7 (fn := Try.f42) rfl (by decide +kernel) (fun _ => rfl) elapsed_keeps
set_option maxRecDepth 100000 in
theorem ago_keeps : Keeps cfgU7 Try.f43 elC noIv := Eq.mp (show ((∀ x1 : IIx, (True -> (∃ x3 : Int, (True/\((x1.a = x3/\True)/\(True/\(∃ x4 : Int, (True/\((x1.b = x4/\True)/\(True/\((((-9223372036854775808 : Int) <= cl x3 - cl x4)/\(cl x3 - cl x4 <= (9223372036854775807 : Int)))/\(∃ x5 : Int, (True/\(((cl x3 - cl x4 = x5)/\True)/\(True/\((cl x5 = el x1.a x1.b)/\True))))))))))))))))) = (Keeps cfgU7 Try.f43 elC noIv) by kernel_rfl) (fun x1 => fun h2 => ⟨(IIx.a x1),trivial,
⟨rfl,trivial⟩,trivial,
(IIx.b x1),trivial,
⟨rfl,trivial⟩,trivial,
⟨(by (try dsimp only at *); (have := cl_rng x1.a; have := cl_rng x1.b; omega)),
(by (try dsimp only at *); (have := cl_rng x1.a; have := cl_rng x1.b; omega))⟩,
(cl (IIx.a x1) - cl (IIx.b x1)),trivial,
⟨rfl,trivial⟩,trivial,
(by (try dsimp only at *); exact el_cl),trivial⟩)
theorem ago_good : Good Try.prog 43 elC /\ FnOk Try.prog 43 := good_of tok conU7 (fn := Try.f43) rfl (by decide +kernel) (fun _ => rfl) ago_keeps
structure TWx where
 a : Int
 b : Int
 w : Int
def apart (a b : Int) : Int := el (max a b) (min a b)
theorem apart_eq (a b : Int) : el a b + el b a = apart a b := by unfold apart el cl; omega
theorem apart_sym (a b : Int) : apart a b = apart b a := by unfold apart; rw [Int.max_comm, Int.min_comm]
def stimeC : CT where
 X := TWx
 pre := fun _ => True
 args := fun x => [.i .i64 x.a, .i .i64 x.b, .i .i64 x.w]
 g0 := fun _ => []
 res := fun x => .b (decide (apart x.a x.b <= x.w))
 g1 := fun _ => []
def cfgU8 : Cfg := ⟨T, [], [(42, .one elC)], noInv, 20, {}⟩
theorem conU8 : ConOk Try.prog cfgU8 := ConL.ok (.cons (ConL.one elapsed_good) .nil)
set_option maxRecDepth 100000 in
theorem stime_keeps : Keeps cfgU8 Try.f31 stimeC noIv := Eq.mp (show ((∀ x1 : TWx, (True -> (∃ x3 : IIx, (True/\(((max x1.a x1.b = x3.a)/\((min x1.a x1.b = x3.b)/\True))/\(True/\((decide (el x3.a x3.b <= x1.w) = decide (apart x1.a x1.b <= x1.w))/\True)))))))) = (Keeps cfgU8 Try.f31 stimeC noIv) by kernel_rfl) (fun x1 => fun h2 => ⟨({ a := max (TWx.a x1) (TWx.b x1), b := min (TWx.a x1) (TWx.b x1) : IIx }),trivial,
⟨rfl,rfl,trivial⟩,trivial,
(by (try dsimp only at *); rfl),trivial⟩)
theorem stime_good : Good Try.prog 31 stimeC /\ FnOk Try.prog 31 := good_of tok conU8 (fn := Try.f31) rfl (by decide +kernel) (fun _ => rfl) stime_keeps
def wthin (d near : Int) : Bool := decide (d <= near /\ d < 4611686018427387904)
def withinC : CT where
 X := IIx
 pre := fun _ => True
 args := fun x => [.i .i64 x.a, .i .i64 x.b]
 g0 := fun _ => []
 res := fun x => .b (wthin x.a x.b)
 g1 := fun _ => []
set_option maxRecDepth 100000 in
theorem within_keeps : Keeps cfgN0 Try.f32 withinC noIv := Eq.mp (show ((∀ x1 : IIx, (True -> (((decide (x1.a <= x1.b) = true)-> ((decide (x1.a < (4611686018427387904 : Int)) = wthin x1.a x1.b)/\True))/\((decide (x1.a <= x1.b) = false)-> ((false = wthin x1.a x1.b)/\True)))))) = (Keeps cfgN0 Try.f32 withinC noIv) by kernel_rfl) (fun x1 => fun h2 => ⟨fun g3 => have h3 := of_decide_eq_true g3; ⟨(by (apply decide_eq_decide.2; omega)),trivial⟩,
fun g4 => have h4 := of_decide_eq_false g4; ⟨(by (exact (decide_eq_false (by omega)).symm)),trivial⟩⟩)
theorem zwithin_good : Good Try.prog 32 withinC /\ FnOk Try.prog 32 := good_of tok conN0 (fn := Try.f32) rfl (by decide +kernel) (fun _ => rfl) within_keeps
structure Inc where
 id : Int
 urg : Int
 code : ByteArray
 nodes : List Int
 dis : Int
 since : Int
 calls : List Int
 units : List Int
 merged : Int
 closed : Bool
def incA (x : Inc) (a b c : Nat) : SV := .agg [.i .i64 x.id, .i .i64 x.urg, .s x.code, .sl a 0 x.nodes.length, .i .i64 x.dis, .i .i64 x.since, .sl b 0 x.calls.length, .sl c 0 x.units.length, .i .i64 x.merged, .b x.closed]
def incH (x : Inc) (a b c : Nat) : List (Nat × Blk) := [(a, .rows .bor k1 x.nodes.length (encL encI x.nodes)), (b, .rows .bor k1 x.calls.length (encL encI x.calls)), (c, .rows .bor k1 x.units.length (encL encI x.units))]
def opn (x : Inc) : Bool := !x.closed && decide (x.merged = 0)
def openC : CT where
 X := Inc
 pre := fun _ => True
 args := fun x => [incA x 100000 100001 100002]
 g0 := fun x => incH x 100000 100001 100002
 res := fun x => .b (opn x)
 g1 := fun _ => []
set_option maxRecDepth 100000 in
theorem open_keeps : Keeps cfgN0 Try.f30 openC noIv := Eq.mp (show ((∀ x1 : Inc, (True -> ((((!x1.closed) = true)-> ((decide (x1.merged = (0 : Int)) = opn x1)/\True))/\(((!x1.closed) = false)-> ((false = opn x1)/\True)))))) = (Keeps cfgN0 Try.f30 openC noIv) by kernel_rfl) (fun x1 => fun h2 => ⟨fun h3 => ⟨(by (simp [opn, *])),trivial⟩,
fun h4 => ⟨(by (simp [opn, *])),trivial⟩⟩)
theorem open_good : Good Try.prog 30 openC /\ FnOk Try.prog 30 := good_of tok conN0 (fn := Try.f30) rfl (by decide +kernel) (fun _ => rfl) open_keeps
set_option maxRecDepth 100000 in
theorem xopen_keeps : Keeps cfgN0 Try.f33 openC noIv := Eq.mp (show ((∀ x1 : Inc, (True -> ((((!x1.closed) = true)-> ((decide (x1.merged = (0 : Int)) = opn x1)/\True))/\(((!x1.closed) = false)-> ((false = opn x1)/\True)))))) = (Keeps cfgN0 Try.f33 openC noIv) by kernel_rfl) (fun x1 => fun h2 => ⟨fun h3 => ⟨(by (simp [opn, *])),trivial⟩,
fun h4 => ⟨(by (simp [opn, *])),trivial⟩⟩)
theorem xopen_good : Good Try.prog 33 openC /\ FnOk Try.prog 33 := good_of tok conN0 (fn := Try.f33) rfl (by decide +kernel) (fun _ => rfl) xopen_keeps
end Go.Sym