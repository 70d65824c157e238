import Derived.Test.YtpommejalaechaaDoorI1
import Derived.Test.YtpommejalaechaaDoorN6
import Derived.Test.YtpommejalaechaaDoorXD
namespace Go.Sym
set_option linter.unusedVariables false
set_option linter.unusedSimpArgs false
open Go.Proofs
set_option maxRecDepth 100000
set_option maxHeartbeats 4000000
def digs : ByteArray := { data := #[48, 49, 50, 51, 52, 53, 54, 55, 56, 57, 97, 98, 99, 100, 101, 102, 103, 104, 105, 106, 107, 108, 109, 110, 111, 112, 113, 114, 115, 116, 117, 118, 119, 120, 121, 122] }
def smC : CT where
 X := Int
 pre := fun x => 0 <= x /\ x < 10
 args := fun x => [.i .i64 x]
 g0 := fun _ => []
 res := fun x => .s (digs.extract x.toNat (x + 1).toNat)
 g1 := fun _ => []
def smI (_ : Int) (id : Nat) : Option Inv := match id with
 | 100004 => some (cutT 4 true)
 | _ => none
set_option maxRecDepth 100000 in
theorem sm_keeps : Keeps cfgN0 Tryd.f99 smC smI := Eq.mp (show ((∀ x1 : Int, (((0 : Int) <= x1 /\ x1 < 10)-> ((∃ x3 : Unit, (True/\((decide (x1 < 10) = true)/\True)))/\(∀ x4 : Unit, (True -> ((((-9223372036854775808 : Int) <= x1 + 1)/\(x1 + 1 <= (9223372036854775807 : Int)))/\((((0 : Int) <= x1)/\((x1 <= x1 + 1)/\(x1 + 1 <= (↑(ByteArray.size (ByteArray.mk (List.toArray ((48 : UInt8) :: (49 : UInt8) :: (50 : UInt8) :: (51 : UInt8) :: (52 : UInt8) :: (53 : UInt8) :: (54 : UInt8) :: (55 : UInt8) :: (56 : UInt8) :: (57 : UInt8) :: (97 : UInt8) :: (98 : UInt8) :: (99 : UInt8) :: (100 : UInt8) :: (101 : UInt8) :: (102 : UInt8) :: (103 : UInt8) :: (104 : UInt8) :: (105 : UInt8) :: (106 : UInt8) :: (107 : UInt8) :: (108 : UInt8) :: (109 : UInt8) :: (110 : UInt8) :: (111 : UInt8) :: (112 : UInt8) :: (113 : UInt8) :: (114 : UInt8) :: (115 : UInt8) :: (116 : UInt8) :: (117 : UInt8) :: (118 : UInt8) :: (119 : UInt8) :: (120 : UInt8) :: (121 : UInt8) :: (122 : UInt8) :: @List.nil UInt8)))) : Int))))/\((ByteArray.extract (ByteArray.mk (List.toArray ((48 : UInt8) :: (49 : UInt8) :: (50 : UInt8) :: (51 : UInt8) :: (52 : UInt8) :: (53 : UInt8) :: (54 : UInt8) :: (55 : UInt8) :: (56 : UInt8) :: (57 : UInt8) :: (97 : UInt8) :: (98 : UInt8) :: (99 : UInt8) :: (100 : UInt8) :: (101 : UInt8) :: (102 : UInt8) :: (103 : UInt8) :: (104 : UInt8) :: (105 : UInt8) :: (106 : UInt8) :: (107 : UInt8) :: (108 : UInt8) :: (109 : UInt8) :: (110 : UInt8) :: (111 : UInt8) :: (112 : UInt8) :: (113 : UInt8) :: (114 : UInt8) :: (115 : UInt8) :: (116 : UInt8) :: (117 : UInt8) :: (118 : UInt8) :: (119 : UInt8) :: (120 : UInt8) :: (121 : UInt8) :: (122 : UInt8) :: @List.nil UInt8))) (Int.toNat x1) (Int.toNat (x1 + 1)) = ByteArray.extract digs (Int.toNat x1) (Int.toNat (x1 + 1)))/\True))))))))) = (Keeps cfgN0 Tryd.f99 smC smI) by kernel_rfl) (fun x1 => fun h2 => ⟨⟨(default),trivial,
(by grind),trivial⟩,
fun x4 => fun h5 => ⟨⟨(by omega),
(by omega)⟩,
⟨(by omega),
(by omega),
(by show x1 + 1 <= 36; omega)⟩,rfl,trivial⟩⟩)
theorem sm_good : Good Tryd.prog 99 smC /\ FnOk Tryd.prog 99 := good_of tok conN0 (fn := Tryd.f99) rfl (by decide +kernel) (fun _ => rfl) sm_keeps
def cfgS1 : Cfg := ⟨T, [], [(99, .one smC)], noInv, 20, {}⟩
theorem conS1 : ConOk Tryd.prog cfgS1 := ConL.ok (.cons (ConL.one sm_good) .nil)
def fmC : CT where
 X := Int
 pre := fun x => 0 <= x /\ x < 10
 args := fun x => [.i .i64 x, .i .i64 10]
 g0 := fun _ => []
 res := fun x => .s (digs.extract x.toNat (x + 1).toNat)
 g1 := fun _ => []
def fmI (_ : Int) (id : Nat) : Option Inv := match id with
 | 100011 => some (cutT 11 true)
 | 100017 => some (cutT 17 true)
 | _ => none
set_option maxRecDepth 100000 in
theorem fm_keeps : Keeps cfgS1 Tryd.f90 fmC fmI := Eq.mp (show ((∀ x1 : Int, (((0 : Int) <= x1 /\ x1 < 10)-> ((∃ x3 : Unit, (True/\((decide ((10 : Int) = 10) = true)/\True)))/\(∀ x4 : Unit, (True -> ((((decide ((0 : Int) <= x1) = true)-> (∃ x7 : Unit, (True/\((decide (x1 < 100) = true)/\True))))/\((decide ((0 : Int) <= x1) = false)-> (∃ x9 : Unit, (True/\(false = true/\True)))))/\(∀ x10 : Unit, (True -> (∃ x12 : Int, ((((0 : Int) <= x12)/\(x12 < 10))/\((x1 = x12/\True)/\(True/\((ByteArray.extract digs (Int.toNat x12) (Int.toNat (x12 + 1)) = ByteArray.extract digs (Int.toNat x1) (Int.toNat (x1 + 1)))/\True)))))))))))))) = (Keeps cfgS1 Tryd.f90 fmC fmI) by kernel_rfl) (fun x1 => fun h2 => ⟨⟨(default),trivial,
(by grind),trivial⟩,
fun x4 => fun h5 => ⟨⟨fun g6 => have h6 := dT g6; ⟨(default),trivial,
(by grind),trivial⟩,
fun g8 => have h8 := dF g8; ⟨(default),trivial,
(by omega),trivial⟩⟩,
fun x10 => fun h11 => ⟨(x1),
⟨(by omega),
(by omega)⟩,
⟨rfl,trivial⟩,trivial,rfl,trivial⟩⟩⟩)
theorem fm_good : Good Tryd.prog 90 fmC /\ FnOk Tryd.prog 90 := good_of tok conS1 (fn := Tryd.f90) rfl (by decide +kernel) (fun _ => rfl) fm_keeps
def cfgS2 : Cfg := ⟨T, [], [(90, .one fmC)], noInv, 20, {}⟩
theorem conS2 : ConOk Tryd.prog cfgS2 := ConL.ok (.cons (ConL.one fm_good) .nil)
set_option maxRecDepth 100000 in
theorem ic_keeps : Keeps cfgS2 Tryd.f71 smC noIv := Eq.mp (show ((∀ x1 : Int, (((0 : Int) <= x1 /\ x1 < 10)-> (∃ x3 : Int, ((((0 : Int) <= x3)/\(x3 < 10))/\((x1 = x3/\(((10 : Int) = 10)/\True))/\(True/\((ByteArray.extract digs (Int.toNat x3) (Int.toNat (x3 + 1)) = ByteArray.extract digs (Int.toNat x1) (Int.toNat (x1 + 1)))/\True)))))))) = (Keeps cfgS2 Tryd.f71 smC noIv) by kernel_rfl) (fun x1 => fun h2 => ⟨(x1),
⟨(by omega),
(by omega)⟩,
⟨rfl,rfl,trivial⟩,trivial,rfl,trivial⟩)
theorem ic_good : Good Tryd.prog 71 smC /\ FnOk Tryd.prog 71 := good_of tok conS2 (fn := Tryd.f71) rfl (by decide +kernel) (fun _ => rfl) ic_keeps
def cfgS3 : Cfg := ⟨T, [], [(71, .one smC)], noInv, 20, {}⟩
theorem conS3 : ConOk Tryd.prog cfgS3 := ConL.ok (.cons (ConL.one ic_good) .nil)
set_option maxRecDepth 100000 in
theorem sc_keeps : Keeps cfgS3 Tryd.f60 smC noIv := Eq.mp (show ((∀ x1 : Int, (((0 : Int) <= x1 /\ x1 < 10)-> (∃ x3 : Int, ((((0 : Int) <= x3)/\(x3 < 10))/\((x1 = x3/\True)/\(True/\((ByteArray.extract digs (Int.toNat x3) (Int.toNat (x3 + 1)) = ByteArray.extract digs (Int.toNat x1) (Int.toNat (x1 + 1)))/\True)))))))) = (Keeps cfgS3 Tryd.f60 smC noIv) by kernel_rfl) (fun x1 => fun h2 => ⟨(x1),
⟨(by omega),
(by omega)⟩,
⟨rfl,trivial⟩,trivial,rfl,trivial⟩)
theorem sc_good : Good Tryd.prog 60 smC /\ FnOk Tryd.prog 60 := good_of tok conS3 (fn := Tryd.f60) rfl (by decide +kernel) (fun _ => rfl) sc_keeps
def t01 : ByteArray := { data := #[48, 45, 49] }
def ruC : CT where
 X := Unit
 pre := fun _ => True
 args := fun _ => [.i .i64 0, .i .i64 1]
 g0 := fun _ => []
 res := fun _ => .s t01
 g1 := fun _ => []
def ruI (_ : Unit) (id : Nat) : Option Inv := match id with
 | 100007 => some (cutT 7 false)
 | _ => none
def cfgS4 : Cfg := ⟨T, [], [(60, .one smC)], noInv, 20, {}⟩
theorem conS4 : ConOk Tryd.prog cfgS4 := ConL.ok (.cons (ConL.one sc_good) .nil)
set_option maxRecDepth 100000 in
theorem ru_keeps : Keeps cfgS4 Tryd.f43 ruC ruI := Eq.mp (show ((∀ x1 : Unit, (True -> ((∃ x3 : Unit, (True/\((decide ((0 : Int) = 1) = false)/\True)))/\(∀ x4 : Unit, (True -> (∃ x6 : Int, ((((0 : Int) <= x6)/\(x6 < 10))/\((0 = x6/\True)/\(True/\((ByteArray.size (ByteArray.extract digs (Int.toNat x6) (Int.toNat (x6 + 1))) + ByteArray.size (ByteArray.mk (List.toArray ((45 : UInt8) :: @List.nil UInt8))) <= (9223372036854775807 : Nat))/\(∃ x7 : Int, ((((0 : Int) <= x7)/\(x7 < 10))/\((1 = x7/\True)/\(True/\((ByteArray.size (ByteArray.extract digs (Int.toNat x6) (Int.toNat (x6 + 1)) ++ (ByteArray.mk (List.toArray ((45 : UInt8) :: @List.nil UInt8)))) + ByteArray.size (ByteArray.extract digs (Int.toNat x7) (Int.toNat (x7 + 1))) <= (9223372036854775807 : Nat))/\((ByteArray.extract digs (Int.toNat x6) (Int.toNat (x6 + 1)) ++ (ByteArray.mk (List.toArray ((45 : UInt8) :: @List.nil UInt8))) ++ ByteArray.extract digs (Int.toNat x7) (Int.toNat (x7 + 1)) = t01)/\True))))))))))))))))) = (Keeps cfgS4 Tryd.f43 ruC ruI) by kernel_rfl) (fun x1 => fun h2 => ⟨⟨(default),trivial,
(by grind),trivial⟩,
fun x4 => fun h5 => ⟨((0 : Int)),
⟨(by omega),
(by omega)⟩,
⟨rfl,trivial⟩,trivial,
(by decide),
((1 : Int)),
⟨(by omega),
(by omega)⟩,
⟨rfl,trivial⟩,trivial,
(by decide),
(by decide),trivial⟩⟩)
theorem ru_good : Good Tryd.prog 43 ruC /\ FnOk Tryd.prog 43 := good_of tok conS4 (fn := Tryd.f43) rfl (by decide +kernel) (fun _ => rfl) ru_keeps
def kS : List Kd := [.str]
def encS1 (b : ByteArray) : Nat -> Nat -> D := fun _ _ => .s b
def joC : CT where
 X := ByteArray
 pre := fun _ => True
 args := fun b => [.sl 100000 0 1, .s { data := #[44] }]
 g0 := fun b => [(100000, .rows .bor kS 1 (encS1 b))]
 res := fun b => .s b
 g1 := fun _ => []
def joI (_ : ByteArray) (id : Nat) : Option Inv := match id with
 | 100013 => some (cutT 13 false)
 | 100015 => some (cutT 15 true)
 | _ => none
set_option maxRecDepth 100000 in
theorem jo_keeps : Keeps cfgN0 Tryd.f44 joC joI := Eq.mp (show ((∀ x1 : ByteArray, (True -> ((∃ x3 : Unit, (True/\((decide ((↑(1 : Nat) : Int) = 0) = false)/\True)))/\(∀ x4 : Unit, (True -> ((∃ x6 : Unit, (True/\((decide ((↑(1 : Nat) : Int) = 1) = true)/\True)))/\(∀ x7 : Unit, (True -> ((((0 : Int) <= (0 : Int))/\(0 < (↑(1 : Nat) : Int)))/\((0 + Int.toNat (0 : Int) < (1 : Nat))/\(x1 = x1/\True)))))))))))) = (Keeps cfgN0 Tryd.f44 joC joI) by kernel_rfl) (fun x1 => fun h2 => ⟨⟨(default),trivial,
(by grind),trivial⟩,
fun x4 => fun h5 => ⟨⟨(default),trivial,
(by grind),trivial⟩,
fun x7 => fun h8 => ⟨⟨(by omega),
(by omega)⟩,
(by omega),rfl,trivial⟩⟩⟩)
theorem jo_good : Good Tryd.prog 44 joC /\ FnOk Tryd.prog 44 := good_of tok conN0 (fn := Tryd.f44) rfl (by decide +kernel) (fun _ => rfl) jo_keeps
def fs01 (k : Nat) : Int := if k = 0 then -1 else 0
def strS : LS where
 it := eachIt
 g := 58
 X := List Nat
 pre := fun ws => WOk ws /\ elemsZ ws = [0, 1]
 slots := [3, 4, 5]
 vals := fun _ => [.p 100000 0 0, .p 100001 0 0, .p 100002 0 0]
 caps := fun _ => [.p 100003 0 0]
 g0 := fun ws => [(100000, .one .own [.ns]), (100001, .one .own [.i .i64 (-1)]), (100002, .one .own [.i .i64 (-1)]), (100003, .one .bor [.q 100004 (szW ws)]), (100004, .rows .bor kW (szW ws) (encL encW ws))]
 g1 := fun ws => [(100000, .one .own [.ns]), (100001, .one .own [.i .i64 0]), (100002, .one .own [.i .i64 1])]
 hp := fun ws k => [(100000, .one .own [.ns]), (100001, .one .own [.i .i64 (fs01 k)]), (100002, .one .own [.i .i64 ((k : Int) - 1)]), (100003, .one .bor [.q 100004 (szW ws)]), (100004, .rows .bor kW (szW ws) (encL encW ws))]
 y := fun ws => ws
 m := fun ws => (elemsW ws).length
 inn := fun ws k id => match id with
  | 100017 => some (cutB 17 (decide (k = 0)))
  | 100019 => some (cutT 19 false)
  | _ => none
def cfgS5 : Cfg := ⟨T, [], [], noInv, 16, { scp := false }⟩
theorem at01 {ws : List Nat} (h : elemsZ ws = [0, 1]) {k : Nat} (hk : k < (elemsW ws).length) : atW ws k = k /\ k < 2 := by
 have hl : (elemsW ws).length = 2 := by rw [<- elemsZ_len, h]; rfl
 have e : atW ws k = (elemsZ ws).getD k default := by
  unfold atW elemsZ
  simp [List.getD_eq_getElem?_getD, hk]
 rw [e, h]
 rcases (show k = 0 ∨ k = 1 by omega) with q | q <;> subst q <;> exact ⟨rfl, by omega⟩
theorem f01 (k : Nat) : (k = 0 /\ fs01 k = -1) ∨ (k ≠ 0 /\ fs01 k = 0) := by unfold fs01; split <;> simp_all
theorem len01 {ws : List Nat} (h : elemsZ ws = [0, 1]) : (elemsW ws).length = 2 := by rw [<- elemsZ_len, h]; rfl
set_option maxRecDepth 100000 in
theorem str_loop : KeepsLoop cfgS5 (rf0 Tryd.f27 0).2.1.toList (rf0 Tryd.f27 0).2.2.1 (rf0 Tryd.f27 0).2.2.2 strS := Eq.mp (show ((∀ x1 : List Nat, ((WOk x1 /\ elemsZ x1 = 0 :: (1 : Int) :: @List.nil Int)-> ((WOk x1)/\(((elemsW x1).length <= (elemsW x1).length)/\((True/\(((0=0 /\ 0=0)/\((0=0 /\ 0=0)/\((0=0 /\ 0=0)/\True)))/\((True/\True)/\((((-1 : Int) = fs01 0)/\True)/\(((-1 = (↑(0 : Nat) : Int) - 1)/\True)/\(((szW x1 = szW x1)/\True)/\(((RLe (szW x1) (szW x1))/\(RowsEq [.int .u64] (szW x1) (encL encW x1) (encL encW x1)))/\True)))))))/\((∀ k3 : Nat, ((k3 <= (elemsW x1).length)-> ((WOk x1)/\(((0=0 /\ 0=0)/\True)/\((((szW x1 = szW x1)/\True)/\(((RLe (szW x1) (szW x1))/\(RowsEq [.int .u64] (szW x1) (encL encW x1) (encL encW x1)))/\True))/\True)))))/\((∀ k5 : Nat, ((k5 < (elemsW x1).length)-> ((Nat.beq (lenV (Value.int .i64 (atW x1 k5) :: @List.nil Value)) (lenN (Array.toList (Prod.fst (Prod.snd (rf0 Tryd.f27 0))))) = true)/\((((decide (fs01 k5 < 0) = false)-> ((((-9223372036854775808 : Int) <= (k5 : Int) - 1 + 1)/\((k5 : Int) - 1 + 1 <= (9223372036854775807 : Int)))/\(∃ x8 : Unit, (True/\((decide ((k5 : Int) - 1 + 1 < atW x1 k5) = decide (k5 = (0 : Nat)))/\True)))))/\((decide (fs01 k5 < 0) = true)-> (∃ x10 : Unit, (True/\((true = decide (k5 = (0 : Nat)))/\True)))))/\(∀ x11 : Unit, (True -> (((decide (k5 = (0 : Nat)) = true)-> ((∃ x14 : Unit, (True/\((decide ((0 : Int) <= fs01 k5) = false)/\True)))/\(∀ x15 : Unit, (True -> (True/\(((0=0 /\ 0=0)/\((0=0 /\ 0=0)/\((0=0 /\ 0=0)/\True)))/\((True/\True)/\(((atW x1 k5 = fs01 (k5 + (1 : Nat)))/\True)/\(((atW x1 k5 = (↑(k5 + (1 : Nat)) : Int) - 1)/\True)/\(((szW x1 = szW x1)/\True)/\(((RLe (szW x1) (szW x1))/\(RowsEq [.int .u64] (szW x1) (encL encW x1) (encL encW x1)))/\True)))))))))))/\((decide (k5 = (0 : Nat)) = false)-> (True/\(((0=0 /\ 0=0)/\((0=0 /\ 0=0)/\((0=0 /\ 0=0)/\True)))/\((True/\True)/\(((fs01 k5 = fs01 (k5 + (1 : Nat)))/\True)/\(((atW x1 k5 = (↑(k5 + (1 : Nat)) : Int) - 1)/\True)/\(((szW x1 = szW x1)/\True)/\(((RLe (szW x1) (szW x1))/\(RowsEq [.int .u64] (szW x1) (encL encW x1) (encL encW x1)))/\True)))))))))))))))/\(((elemsW x1).length = (elemsW x1).length)/\(True/\((True/\True)/\(((fs01 (elemsW x1).length = (0 : Int))/\True)/\((((↑(elemsW x1).length : Int) - 1 = 1)/\True)/\True))))))))))))) = (KeepsLoop cfgS5 (rf0 Tryd.f27 0).2.1.toList (rf0 Tryd.f27 0).2.2.1 (rf0 Tryd.f27 0).2.2.2 strS) by kernel_rfl) (fun x1 => fun h2 => ⟨(by grind),
(by omega),
⟨trivial,
⟨⟨rfl,rfl⟩,
⟨rfl,rfl⟩,
⟨rfl,rfl⟩,trivial⟩,
⟨trivial,trivial⟩,
⟨rfl,trivial⟩,
⟨(by omega),trivial⟩,
⟨rfl,trivial⟩,
⟨rl,rr⟩,trivial⟩,
fun k3 => fun h4 => ⟨(by grind),
⟨⟨rfl,rfl⟩,trivial⟩,
⟨⟨rfl,trivial⟩,
⟨rl,rr⟩,trivial⟩,trivial⟩,
fun k5 => fun h6 => ⟨rfl,
⟨fun g7 => have h7 := dF g7; ⟨⟨(by omega),
(by have q := at01 h2.2 h6; have := f01 k5; have := f01 (k5 + 1); omega)⟩,
(default),trivial,
(by have q := at01 h2.2 h6; have := f01 k5; apply decide_eq_decide.2; omega),trivial⟩,
fun g9 => have h9 := dT g9; ⟨(default),trivial,
(by have := f01 k5; exact (decide_eq_true (by omega)).symm),trivial⟩⟩,
fun x11 => fun h12 => ⟨fun g13 => have h13 := dT g13; ⟨⟨(default),trivial,
(by have := f01 k5; exact decide_eq_false (by omega)),trivial⟩,
fun x15 => fun h16 => ⟨trivial,
⟨⟨rfl,rfl⟩,
⟨rfl,rfl⟩,
⟨rfl,rfl⟩,trivial⟩,
⟨trivial,trivial⟩,
⟨(by have q := at01 h2.2 h6; have := f01 k5; have := f01 (k5 + 1); omega),trivial⟩,
⟨(by have q := at01 h2.2 h6; have := f01 k5; have := f01 (k5 + 1); omega),trivial⟩,
⟨rfl,trivial⟩,
⟨rl,rr⟩,trivial⟩⟩,
fun g17 => have h17 := dF g17; ⟨trivial,
⟨⟨rfl,rfl⟩,
⟨rfl,rfl⟩,
⟨rfl,rfl⟩,trivial⟩,
⟨trivial,trivial⟩,
⟨(by have q := at01 h2.2 h6; have := f01 k5; have := f01 (k5 + 1); omega),trivial⟩,
⟨(by have q := at01 h2.2 h6; have := f01 k5; have := f01 (k5 + 1); omega),trivial⟩,
⟨rfl,trivial⟩,
⟨rl,rr⟩,trivial⟩⟩⟩,rfl,trivial,
⟨trivial,trivial⟩,
⟨(by rw [len01 h2.2]; rfl),trivial⟩,
⟨(by rw [len01 h2.2]; rfl),trivial⟩,trivial⟩)
theorem strLoop_good : LoopGood Tryd.prog Tryd.f27.ntmps (rf0 Tryd.f27 0) strS.lc := loop_good tok (ConL.ok .nil) ⟨rfl, rfl, rfl⟩ each_good (by decide +kernel) str_loop
def eachC : CT where
 X := List Nat
 pre := WOk
 args := fun ws => [setV ws 100000]
 g0 := fun ws => setH ws .bor 100000
 res := fun _ => .fn 58 [.p 1 0 0]
 g1 := fun ws => [(1, .one .own [.q 100000 (szW ws)])]
set_option maxRecDepth 100000 in
theorem each_keeps : Keeps cfgN0 Tryd.f42 eachC noIv := Eq.mp (show ((∀ x1 : List Nat, ((WOk x1)-> (((0=0 /\ 0=0)/\True)/\(((szW x1 = szW x1)/\True)/\True))))) = (Keeps cfgN0 Tryd.f42 eachC noIv) by kernel_rfl) (fun x1 => fun h2 => ⟨⟨⟨rfl,rfl⟩,trivial⟩,
⟨rfl,trivial⟩,trivial⟩)
theorem eachC_good : Good Tryd.prog 42 eachC /\ FnOk Tryd.prog 42 := good_of tok conN0 (fn := Tryd.f42) rfl (by decide +kernel) (fun _ => rfl) each_keeps
def strC : CT where
 X := List Nat
 pre := fun ws => WOk ws /\ elemsZ ws = [0, 1]
 args := fun ws => [setV ws 100000]
 g0 := fun ws => setH ws .bor 100000
 res := fun _ => .s t01
 g1 := fun _ => []
def strI (_ : List Nat) (id : Nat) : Option Inv := match id with
 | 100029 => some (cutT 29 true)
 | _ => none
def cfgS6 : Cfg := ⟨T, [], [(42, .one eachC), (43, .one ruC), (44, .one joC)], noInv, 16, { lps := [(9, strS.lc)] }⟩
theorem conS6 : ConOk Tryd.prog cfgS6 := ConL.ok (.cons (ConL.one eachC_good) (.cons (ConL.one ru_good) (.cons (ConL.one jo_good) .nil)))
set_option maxRecDepth 100000 in
theorem str_keeps : Keeps cfgS6 Tryd.f27 strC strI := Eq.mp (show ((∀ x1 : List Nat, ((WOk x1 /\ elemsZ x1 = 0 :: (1 : Int) :: @List.nil Int)-> (∃ x3 : List Nat, ((WOk x3)/\((((szW x1 = szW x3)/\True)/\True)/\((((RLe (szW x3) (szW x1))/\(RowsEq [.int .u64] (szW x3) (encL encW x1) (encL encW x3)))/\True)/\(∃ x4 : LS.X strS, (((WOk x4)/\(elemsZ x4 = 0 :: (1 : Int) :: @List.nil Int))/\(((0=0 /\ 0=0)/\((0=0 /\ 0=0)/\((0=0 /\ 0=0)/\(((0=0 /\ 0=0)/\True)/\True))))/\(((True/\True)/\((((-1 : Int) = -1)/\True)/\((((-1 : Int) = -1)/\True)/\(((szW x3 = szW x4)/\True)/\(((RLe (szW x4) (szW x1))/\(RowsEq [.int .u64] (szW x4) (encL encW x1) (encL encW x4)))/\True)))))/\((∃ x5 : Unit, (True/\((decide ((0 : Int) <= (0 : Int)) = true)/\True)))/\(∀ x6 : Unit, (True -> (∃ x8 : Unit, (True/\((((0 : Int) = 0)/\(((1 : Int) = 1)/\True))/\(True/\(((True/\True)/\True)/\((((1 : Nat) <= (1 : Nat))/\((1 : Nat) <= (1073741824 : Nat)))/\(∃ x9 : ByteArray, (True/\(((0=0/\((1 : Nat) = (1 : Nat)))/\(((ByteArray.mk (List.toArray ((44 : UInt8) :: @List.nil UInt8))) = (ByteArray.mk (List.toArray ((44 : UInt8) :: @List.nil UInt8))))/\True))/\(((RLe 1 1/\(RowsEq (Kd.str :: []) 1 (appRows 0 (fun (x x_1 : Nat) => D.i 0) 0 (litRows ((D.s t01 :: @List.nil D) :: @List.nil (List D)))) (encS1 x9)))/\True)/\(x9 = t01/\True))))))))))))))))))))))))) = (Keeps cfgS6 Tryd.f27 strC strI) by kernel_rfl) (fun x1 => fun h2 => ⟨(x1),
(by grind),
⟨⟨rfl,trivial⟩,trivial⟩,
⟨⟨rl,rr⟩,trivial⟩,
(x1),
⟨(by grind),
(by grind)⟩,
⟨⟨rfl,rfl⟩,
⟨rfl,rfl⟩,
⟨rfl,rfl⟩,
⟨⟨rfl,rfl⟩,trivial⟩,trivial⟩,
⟨⟨trivial,trivial⟩,
⟨rfl,trivial⟩,
⟨rfl,trivial⟩,
⟨rfl,trivial⟩,
⟨rl,rr⟩,trivial⟩,
⟨(default),trivial,
(by grind),trivial⟩,
fun x6 => fun h7 => ⟨(default),trivial,
⟨rfl,rfl,trivial⟩,trivial,
⟨⟨trivial,trivial⟩,trivial⟩,
⟨(by omega),
(by omega)⟩,
(t01),trivial,
⟨⟨rfl,rfl⟩,rfl,trivial⟩,
⟨⟨rl,
(by exact ⟨fun r hr => by rw [show r = 0 by omega]; exact ⟨rfl, trivial⟩⟩)⟩,trivial⟩,rfl,trivial⟩⟩)
theorem str_good : Good Tryd.prog 27 strC /\ FnOk Tryd.prog 27 := good_ofX tok conS6 (fn := Tryd.f27) rfl (by decide +kernel) (fun _ => rfl) str_keeps (fun g hg => by cases hg) (one_loop rfl strLoop_good)
end Go.Sym