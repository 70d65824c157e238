import Derived.Test.YtpommejalaechaaDoorR4
import Derived.Test.YtpommejalaechaaDoorXD
namespace Go.Sym
set_option linter.unusedVariables false
set_option linter.unusedSimpArgs false
open Go.Proofs
set_option maxRecDepth 100000
set_option maxHeartbeats 4000000
structure LIX where
 l : List Int
 n : Int
def qhasC : CT where
 X := LIX
 pre := fun x => x.l.length <= 1073741824
 args := fun x => [.sl 100000 0 x.l.length, .i .i64 x.n]
 g0 := fun x => [(100000, .rows .bor k1 x.l.length (encL encI x.l))]
 res := fun x => .b (decide (x.n ∈ x.l))
 g1 := fun _ => []
def qhasI (x : LIX) (id : Nat) : Option Inv := match id with
 | 0 => some { X := Nat, ok := fun k => k <= x.l.length /\ x.n ∉ x.l.take k, fr := fun k => [(9, .i .i64 k)], hp := fun _ => [], me := fun k => x.l.length - k }
 | _ => none
theorem has_step {l : List Int} {n : Int} {k : Nat} (hk : (k : Int) < l.length) (h : ¬ l.getD (0 + (k : Int).toNat) default = n) (ht : k <= l.length /\ n ∉ l.take k) : n ∉ l.take (k + 1) := by
 rw [nat0] at h
 rw [take_succ_getD (d := default) (by omega), List.mem_append, List.mem_singleton]
 exact fun q => q.elim ht.2 (fun e => h e.symm)
set_option maxRecDepth 100000 in
theorem qhas_keeps : Keeps cfgN0 Tryd.f55 qhasC qhasI := Eq.mp (show ((∀ x1 : LIX, ((x1.l.length <= (1073741824 : Nat))-> (∃ x3 : Nat, ((((x3 <= x1.l.length)/\(¬x1.n ∈ List.take x3 x1.l))/\(((0 = (x3 : Int))/\(((x1.l.length : Int) = (x1.l.length : Int))/\((0=0 /\ x1.l.length = x1.l.length)/\((0=0 /\ x1.l.length = x1.l.length)/\(x1.n = x1.n/\True)))))/\(((RLe x1.l.length x1.l.length)/\(RI x1.l.length x1.l x1.l))/\True)))/\(∀ x4 : Nat, ((x4 <= x1.l.length /\ ¬x1.n ∈ List.take x4 x1.l)-> (((decide ((x4 : Int) < (x1.l.length : Int)) = true)-> ((((0 : Int) <= (x4 : Int))/\((x4 : Int) < (x1.l.length : Int)))/\((0 + Int.toNat (x4 : Int) < x1.l.length)/\(((decide (x1.l.getD (0 + Int.toNat (x4 : Int)) default = x1.n) = true)-> ((true = decide (x1.n ∈ x1.l))/\True))/\((decide (x1.l.getD (0 + Int.toNat (x4 : Int)) default = x1.n) = false)-> ((((-9223372036854775808 : Int) <= (x4 : Int) + 1)/\((x4 : Int) + 1 <= (9223372036854775807 : Int)))/\(∃ x9 : Nat, ((x1.l.length - x9 < x1.l.length - x4)/\(((x9 <= x1.l.length)/\(¬x1.n ∈ List.take x9 x1.l))/\((((x4 : Int) + 1 = (x9 : Int))/\(((x1.l.length : Int) = (x1.l.length : Int))/\((0=0 /\ x1.l.length = x1.l.length)/\((0=0 /\ x1.l.length = x1.l.length)/\(x1.n = x1.n/\True)))))/\(((RLe x1.l.length x1.l.length)/\(RI x1.l.length x1.l x1.l))/\True)))))))))))/\((decide ((x4 : Int) < (x1.l.length : Int)) = false)-> ((false = decide (x1.n ∈ x1.l))/\True)))))))))) = (Keeps cfgN0 Tryd.f55 qhasC qhasI) by kernel_rfl) (fun x1 => fun h2 => ⟨((0 : Nat)),
⟨⟨(by omega),
(by grind)⟩,
⟨(by omega),rfl,
⟨rfl,rfl⟩,
⟨rfl,rfl⟩,rfl,trivial⟩,
⟨rl,rr⟩,trivial⟩,
fun x4 => fun h5 => ⟨fun g6 => have h6 := dT g6; ⟨⟨(by omega),
(by omega)⟩,
(by omega),
fun g7 => have h7 := dT g7; ⟨(by grind),trivial⟩,
fun g8 => have h8 := dF g8; ⟨⟨(by omega),
(by omega)⟩,
(x4 + (1 : Nat)),
(by omega),
⟨(by omega),
(has_step (by assumption) (by assumption) (by assumption))⟩,
⟨(by omega),rfl,
⟨rfl,rfl⟩,
⟨rfl,rfl⟩,rfl,trivial⟩,
⟨rl,rr⟩,trivial⟩⟩,
fun g10 => have h10 := dF g10; ⟨(by grind),trivial⟩⟩⟩)
theorem qhas_good : Good Tryd.prog 55 qhasC /\ FnOk Tryd.prog 55 := good_of tok conN0 (fn := Tryd.f55) rfl (by decide +kernel) (fun _ => rfl) qhas_keeps
def orR : List Int -> List Int -> List Int
 | [], b => b
 | x :: a, [] => x :: a
 | x :: a, y :: b => if x < y then x :: orR a (y :: b) else if y < x then y :: orR (x :: a) b else x :: orR a b
structure OX where
 a : List Int
 b : List Int
structure OS where
 i : Nat
 k : Nat
 o : List Int
def osOk (x : OX) (s : OS) : Prop := s.i <= x.a.length /\ s.k <= x.b.length /\ s.o ++ orR (x.a.drop s.i) (x.b.drop s.k) = orR x.a x.b /\ s.o.length <= s.i + s.k
def orC : CT where
 X := OX
 pre := fun x => x.a.length <= 1048576 /\ x.b.length <= 1048576
 args := fun x => [.sl 100000 0 x.a.length, .sl 100001 0 x.b.length]
 g0 := fun x => [(100000, .rows .bor k1 x.a.length (encL encI x.a)), (100001, .rows .bor k1 x.b.length (encL encI x.b))]
 res := fun x => .sl 1 0 (orR x.a x.b).length
 g1 := fun x => [(1, .rows .own k1 (orR x.a x.b).length (encL encI (orR x.a x.b)))]
def encO17 (x : OX) (s : OS) : Bool := decide ((s.i : Int) < x.a.length ∨ (s.k : Int) < x.b.length)
def encO29 (x : OX) (s : OS) : Bool := decide ((s.k : Int) = x.b.length ∨ ((s.i : Int) < x.a.length /\ x.a.getD s.i default < x.b.getD s.k default))
def encO60 (x : OX) (s : OS) : Bool := decide ((s.i : Int) = x.a.length ∨ x.b.getD s.k default < x.a.getD s.i default)
def orI (x : OX) (id : Nat) : Option Inv := match id with
 | 0 => some { X := OS, ok := osOk x, fr := fun s => [(6, .i .i64 s.i), (7, .i .i64 s.k), (5, .sl 61 0 s.o.length)], hp := fun s => [(61, .rows .own k1 s.o.length (encL encI s.o))], me := fun s => (x.a.length - s.i) + (x.b.length - s.k),
               inn := fun s id => match id with
                | 100017 => some (cutB 17 (encO17 x s))
                | 100029 => some (cutB 29 (encO29 x s))
                | 100060 => some (cutB 60 (encO60 x s))
                | _ => none }
 | _ => none
theorem drop_getD {l : List Int} {i : Nat} (h : i < l.length) : l.drop i = l.getD i default :: l.drop (i + 1) := by
 rw [List.drop_eq_getElem_cons h, List.getD_eq_getElem?_getD, List.getElem?_eq_getElem h]; rfl
theorem os_0 (x : OX) : osOk x ⟨0, 0, []⟩ := ⟨Nat.zero_le _, Nat.zero_le _, rfl, Nat.le_refl _⟩
theorem orR_nil (a : List Int) : orR a [] = a := by cases a <;> simp [orR]
theorem orR_nil' (b : List Int) : orR [] b = b := by rw [orR]
theorem os_a {x : OX} {s : OS} (h : osOk x s) (hi : s.i < x.a.length) (hk : s.k = x.b.length ∨ (s.k < x.b.length /\ x.a.getD s.i default < x.b.getD s.k default)) : osOk x ⟨s.i + 1, s.k, s.o ++ [x.a.getD s.i default]⟩ := by
 obtain ⟨h1, h2, h3, h4⟩ := h
 refine ⟨hi, h2, ?_, by simp; omega⟩
 show s.o ++ [x.a.getD s.i default] ++ orR (x.a.drop (s.i + 1)) (x.b.drop s.k) = _
 rw [<- h3, drop_getD hi, List.append_assoc]
 congr 1
 rcases hk with q | ⟨q, l⟩
 ·have e : x.b.drop s.k = [] := List.drop_of_length_le (by omega)
  rw [e, orR_nil, orR_nil]; rfl
 ·rw [drop_getD q, orR, if_pos l]; rfl
theorem os_b {x : OX} {s : OS} (h : osOk x s) (hk : s.k < x.b.length) (hi : s.i = x.a.length ∨ (s.i < x.a.length /\ x.b.getD s.k default < x.a.getD s.i default)) : osOk x ⟨s.i, s.k + 1, s.o ++ [x.b.getD s.k default]⟩ := by
 obtain ⟨h1, h2, h3, h4⟩ := h
 refine ⟨h1, hk, ?_, by simp; omega⟩
 show s.o ++ [x.b.getD s.k default] ++ orR (x.a.drop s.i) (x.b.drop (s.k + 1)) = _
 rw [<- h3, drop_getD hk, List.append_assoc]
 congr 1
 rcases hi with q | ⟨q, l⟩
 ·have e : x.a.drop s.i = [] := List.drop_of_length_le (by omega)
  rw [e, orR_nil', orR_nil']; rfl
 ·rw [drop_getD q, orR, if_neg (by omega), if_pos l]; rfl
theorem os_c {x : OX} {s : OS} (h : osOk x s) (hi : s.i < x.a.length) (hk : s.k < x.b.length) (h1 : ¬ x.a.getD s.i default < x.b.getD s.k default) (h2 : ¬ x.b.getD s.k default < x.a.getD s.i default) : osOk x ⟨s.i + 1, s.k + 1, s.o ++ [x.a.getD s.i default]⟩ := by
 obtain ⟨q1, q2, h3, h4⟩ := h
 refine ⟨hi, hk, ?_, by simp; omega⟩
 rw [<- h3, drop_getD hi, drop_getD hk, List.append_assoc, orR, if_neg h1, if_neg h2]; rfl
theorem os_end {x : OX} {s : OS} (h : osOk x s) (hi : ¬ (s.i : Int) < x.a.length) (hk : ¬ (s.k : Int) < x.b.length) : s.o = orR x.a x.b := by
 obtain ⟨h1, h2, h3, _⟩ := h
 rw [<- h3, List.drop_of_length_le (by omega), List.drop_of_length_le (by omega)]; simp [orR]
theorem or_rows {l : List Int} {c : Int} : RowsEq k1 (l ++ [c]).length (appRows l.length (encL encI l) 0 (litRows [[.i c]])) (encL encI (l ++ [c])) := rowsEq_push rfl (by simp) ⟨rfl, trivial⟩
theorem os_lt {x : OX} (hx : x.a.length <= 1048576 /\ x.b.length <= 1048576) {s : OS} (h : osOk x s) : s.o.length + 1 <= 1073741824 /\ s.i <= x.a.length /\ s.k <= x.b.length := ⟨by have := h.2.2.2; have := h.1; have := h.2.1; omega, h.1, h.2.1⟩
set_option maxRecDepth 100000 in
theorem or_keeps : Keeps cfgN0 Tryd.f56 orC orI := Eq.mp (show ((∀ x1 : OX, ((x1.a.length <= (1048576 : Nat) /\ x1.b.length <= (1048576 : Nat))-> (∃ x3 : OS, (((osOk x1 x3)/\(((0 = (x3.i : Int))/\((0 = (x3.k : Int))/\((True/\(0=0/\(x3.o.length = (0 : Nat))))/\(True/\((0=0 /\ x1.a.length = x1.a.length)/\((0=0 /\ x1.b.length = x1.b.length)/\True))))))/\((x3.o.length = (0 : Nat))/\(((RLe x1.a.length x1.a.length)/\(RI x1.a.length x1.a x1.a))/\(((RLe x1.b.length x1.b.length)/\(RI x1.b.length x1.b x1.b))/\True)))))/\(∀ x4 : OS, ((osOk x1 x4)-> ((((decide ((x4.i : Int) < (x1.a.length : Int)) = false)-> (∃ x7 : Unit, (True/\((decide ((x4.k : Int) < (x1.b.length : Int)) = decide ((x4.i : Int) < (x1.a.length : Int) ∨ (x4.k : Int) < (x1.b.length : Int)))/\True))))/\((decide ((x4.i : Int) < (x1.a.length : Int)) = true)-> (∃ x9 : Unit, (True/\((true = decide ((x4.i : Int) < (x1.a.length : Int) ∨ (x4.k : Int) < (x1.b.length : Int)))/\True)))))/\(∀ x10 : Unit, (True -> (((decide ((x4.i : Int) < (x1.a.length : Int) ∨ (x4.k : Int) < (x1.b.length : Int)) = true)-> ((((decide ((x4.k : Int) = (x1.b.length : Int)) = false)-> (((decide ((x4.i : Int) < (x1.a.length : Int)) = true)-> ((((0 : Int) <= (x4.i : Int))/\((x4.i : Int) < (x1.a.length : Int)))/\((0 + Int.toNat (x4.i : Int) < x1.a.length)/\((((0 : Int) <= (x4.k : Int))/\((x4.k : Int) < (x1.b.length : Int)))/\((0 + Int.toNat (x4.k : Int) < x1.b.length)/\(∃ x15 : Unit, (True/\((decide (x1.a.getD (0 + Int.toNat (x4.i : Int)) default < x1.b.getD (0 + Int.toNat (x4.k : Int)) default) = decide ((x4.k : Int) = (x1.b.length : Int) ∨ (x4.i : Int) < (x1.a.length : Int) /\ x1.a.getD x4.i default < x1.b.getD x4.k default))/\True))))))))/\((decide ((x4.i : Int) < (x1.a.length : Int)) = false)-> (∃ x17 : Unit, (True/\((false = decide ((x4.k : Int) = (x1.b.length : Int) ∨ (x4.i : Int) < (x1.a.length : Int) /\ x1.a.getD x4.i default < x1.b.getD x4.k default))/\True))))))/\((decide ((x4.k : Int) = (x1.b.length : Int)) = true)-> (∃ x19 : Unit, (True/\((true = decide ((x4.k : Int) = (x1.b.length : Int) ∨ (x4.i : Int) < (x1.a.length : Int) /\ x1.a.getD x4.i default < x1.b.getD x4.k default))/\True)))))/\(∀ x20 : Unit, (True -> (((decide ((x4.k : Int) = (x1.b.length : Int) ∨ (x4.i : Int) < (x1.a.length : Int) /\ x1.a.getD x4.i default < x1.b.getD x4.k default) = true)-> ((((0 : Int) <= (x4.i : Int))/\((x4.i : Int) < (x1.a.length : Int)))/\((0 + Int.toNat (x4.i : Int) < x1.a.length)/\(((True/\True)/\True)/\((0=0/\((x4.o.length <= x4.o.length)/\(((1 : Nat) <= (1 : Nat))/\(x4.o.length + (1 : Nat) <= (1073741824 : Nat)))))/\((((-9223372036854775808 : Int) <= (x4.i : Int) + 1)/\((x4.i : Int) + 1 <= (9223372036854775807 : Int)))/\(∃ x23 : OS, ((x1.a.length - x23.i + (x1.b.length - x23.k) < x1.a.length - x4.i + (x1.b.length - x4.k))/\((osOk x1 x23)/\((((x4.i : Int) + 1 = (x23.i : Int))/\(((x4.k : Int) = (x23.k : Int))/\((0=0/\(x4.o.length + (1 : Nat) = x23.o.length))/\(True/\((0=0 /\ x1.a.length = x1.a.length)/\((0=0 /\ x1.b.length = x1.b.length)/\True))))))/\(((RLe x23.o.length (x4.o.length + (1 : Nat)))/\(RowsEq [.int .i64] x23.o.length (appRows x4.o.length (encL encI x4.o) 0 (litRows ((D.i (x1.a.getD (0 + Int.toNat (x4.i : Int)) default) :: @List.nil D) :: @List.nil (List D)))) (encL encI x23.o)))/\(((RLe x1.a.length x1.a.length)/\(RI x1.a.length x1.a x1.a))/\(((RLe x1.b.length x1.b.length)/\(RI x1.b.length x1.b x1.b))/\True)))))))))))))/\((decide ((x4.k : Int) = (x1.b.length : Int) ∨ (x4.i : Int) < (x1.a.length : Int) /\ x1.a.getD x4.i default < x1.b.getD x4.k default) = false)-> ((((decide ((x4.i : Int) = (x1.a.length : Int)) = false)-> ((((0 : Int) <= (x4.k : Int))/\((x4.k : Int) < (x1.b.length : Int)))/\((0 + Int.toNat (x4.k : Int) < x1.b.length)/\((((0 : Int) <= (x4.i : Int))/\((x4.i : Int) < (x1.a.length : Int)))/\((0 + Int.toNat (x4.i : Int) < x1.a.length)/\(∃ x26 : Unit, (True/\((decide (x1.b.getD (0 + Int.toNat (x4.k : Int)) default < x1.a.getD (0 + Int.toNat (x4.i : Int)) default) = decide ((x4.i : Int) = (x1.a.length : Int) ∨ x1.b.getD x4.k default < x1.a.getD x4.i default))/\True))))))))/\((decide ((x4.i : Int) = (x1.a.length : Int)) = true)-> (∃ x28 : Unit, (True/\((true = decide ((x4.i : Int) = (x1.a.length : Int) ∨ x1.b.getD x4.k default < x1.a.getD x4.i default))/\True)))))/\(∀ x29 : Unit, (True -> (((decide ((x4.i : Int) = (x1.a.length : Int) ∨ x1.b.getD x4.k default < x1.a.getD x4.i default) = true)-> ((((0 : Int) <= (x4.k : Int))/\((x4.k : Int) < (x1.b.length : Int)))/\((0 + Int.toNat (x4.k : Int) < x1.b.length)/\(((True/\True)/\True)/\((0=0/\((x4.o.length <= x4.o.length)/\(((1 : Nat) <= (1 : Nat))/\(x4.o.length + (1 : Nat) <= (1073741824 : Nat)))))/\((((-9223372036854775808 : Int) <= (x4.k : Int) + 1)/\((x4.k : Int) + 1 <= (9223372036854775807 : Int)))/\(∃ x32 : OS, ((x1.a.length - x32.i + (x1.b.length - x32.k) < x1.a.length - x4.i + (x1.b.length - x4.k))/\((osOk x1 x32)/\((((x4.i : Int) = (x32.i : Int))/\(((x4.k : Int) + 1 = (x32.k : Int))/\((0=0/\(x4.o.length + (1 : Nat) = x32.o.length))/\(True/\((0=0 /\ x1.a.length = x1.a.length)/\((0=0 /\ x1.b.length = x1.b.length)/\True))))))/\(((RLe x32.o.length (x4.o.length + (1 : Nat)))/\(RowsEq [.int .i64] x32.o.length (appRows x4.o.length (encL encI x4.o) 0 (litRows ((D.i (x1.b.getD (0 + Int.toNat (x4.k : Int)) default) :: @List.nil D) :: @List.nil (List D)))) (encL encI x32.o)))/\(((RLe x1.a.length x1.a.length)/\(RI x1.a.length x1.a x1.a))/\(((RLe x1.b.length x1.b.length)/\(RI x1.b.length x1.b x1.b))/\True)))))))))))))/\((decide ((x4.i : Int) = (x1.a.length : Int) ∨ x1.b.getD x4.k default < x1.a.getD x4.i default) = false)-> ((((0 : Int) <= (x4.i : Int))/\((x4.i : Int) < (x1.a.length : Int)))/\((0 + Int.toNat (x4.i : Int) < x1.a.length)/\(((True/\True)/\True)/\((0=0/\((x4.o.length <= x4.o.length)/\(((1 : Nat) <= (1 : Nat))/\(x4.o.length + (1 : Nat) <= (1073741824 : Nat)))))/\((((-9223372036854775808 : Int) <= (x4.i : Int) + 1)/\((x4.i : Int) + 1 <= (9223372036854775807 : Int)))/\((((-9223372036854775808 : Int) <= (x4.k : Int) + 1)/\((x4.k : Int) + 1 <= (9223372036854775807 : Int)))/\(∃ x34 : OS, ((x1.a.length - x34.i + (x1.b.length - x34.k) < x1.a.length - x4.i + (x1.b.length - x4.k))/\((osOk x1 x34)/\((((x4.i : Int) + 1 = (x34.i : Int))/\(((x4.k : Int) + 1 = (x34.k : Int))/\((0=0/\(x4.o.length + (1 : Nat) = x34.o.length))/\(True/\((0=0 /\ x1.a.length = x1.a.length)/\((0=0 /\ x1.b.length = x1.b.length)/\True))))))/\(((RLe x34.o.length (x4.o.length + (1 : Nat)))/\(RowsEq [.int .i64] x34.o.length (appRows x4.o.length (encL encI x4.o) 0 (litRows ((D.i (x1.a.getD (0 + Int.toNat (x4.i : Int)) default) :: @List.nil D) :: @List.nil (List D)))) (encL encI x34.o)))/\(((RLe x1.a.length x1.a.length)/\(RI x1.a.length x1.a x1.a))/\(((RLe x1.b.length x1.b.length)/\(RI x1.b.length x1.b x1.b))/\True))))))))))))))))))))))))/\((decide ((x4.i : Int) < (x1.a.length : Int) ∨ (x4.k : Int) < (x1.b.length : Int)) = false)-> ((0=0/\(x4.o.length = (orR x1.a x1.b).length))/\(((RLe (orR x1.a x1.b).length x4.o.length)/\(RowsEq [.int .i64] (orR x1.a x1.b).length (encL encI x4.o) (encL encI (orR x1.a x1.b))))/\True)))))))))))))) = (Keeps cfgN0 Tryd.f56 orC orI) by kernel_rfl) (fun x1 => fun h2 => ⟨({ i := (0 : Nat), k := (0 : Nat), o := @List.nil Int : OS }),
⟨(os_0 _),
⟨(by (try dsimp only at *); omega),
(by (try dsimp only at *); omega),
⟨trivial,rfl,
(by grind)⟩,trivial,
⟨rfl,rfl⟩,
⟨rfl,rfl⟩,trivial⟩,
(by grind),
⟨rl,rr⟩,
⟨rl,rr⟩,trivial⟩,
fun x4 => fun h5 => ⟨⟨fun g6 => have h6 := dF g6; ⟨(default),trivial,
(by grind),trivial⟩,
fun g8 => have h8 := dT g8; ⟨(default),trivial,
(by grind),trivial⟩⟩,
fun x10 => fun h11 => ⟨fun g12 => have h12 := dT g12; ⟨⟨fun g13 => have h13 := dF g13; ⟨fun g14 => have h14 := dT g14; ⟨⟨(by omega),
(by omega)⟩,
(by omega),
⟨(by omega),
(by have := os_lt h2 h5; omega)⟩,
(by have := os_lt h2 h5; omega),
(default),trivial,
(by grind),trivial⟩,
fun g16 => have h16 := dF g16; ⟨(default),trivial,
(by grind),trivial⟩⟩,
fun g18 => have h18 := dT g18; ⟨(default),trivial,
(by grind),trivial⟩⟩,
fun x20 => fun h21 => ⟨fun g22 => have h22 := dT g22; ⟨⟨(by omega),
(by omega)⟩,
(by omega),
⟨⟨trivial,trivial⟩,trivial⟩,
⟨rfl,
(by omega),
(by omega),
(by have := os_lt h2 h5; omega)⟩,
⟨(by omega),
(by omega)⟩,
({ i := OS.i x4 + (1 : Nat), k := OS.k x4, o := OS.o x4 ++ List.getD (OX.a x1) (OS.i x4) default :: @List.nil Int : OS }),
(by (try dsimp only at *); omega),
(by have := os_lt h2 h5; exact os_a h5 (by omega) (by omega)),
⟨(by (try dsimp only at *); omega),rfl,
⟨rfl,
(by grind)⟩,trivial,
⟨rfl,rfl⟩,
⟨rfl,rfl⟩,trivial⟩,
⟨⟨(by grind)⟩,
(by simp only [nat0] at *; exact or_rows)⟩,
⟨rl,rr⟩,
⟨rl,rr⟩,trivial⟩,
fun g24 => have h24 := dF g24; ⟨⟨fun g25 => have h25 := dF g25; ⟨⟨(by omega),
(by have := os_lt h2 h5; omega)⟩,
(by have := os_lt h2 h5; omega),
⟨(by omega),
(by have := os_lt h2 h5; omega)⟩,
(by have := os_lt h2 h5; omega),
(default),trivial,
(by grind),trivial⟩,
fun g27 => have h27 := dT g27; ⟨(default),trivial,
(by grind),trivial⟩⟩,
fun x29 => fun h30 => ⟨fun g31 => have h31 := dT g31; ⟨⟨(by omega),
(by have := os_lt h2 h5; omega)⟩,
(by have := os_lt h2 h5; omega),
⟨⟨trivial,trivial⟩,trivial⟩,
⟨rfl,
(by omega),
(by omega),
(by have := os_lt h2 h5; omega)⟩,
⟨(by omega),
(by have := os_lt h2 h5; omega)⟩,
({ i := OS.i x4, k := OS.k x4 + (1 : Nat), o := OS.o x4 ++ List.getD (OX.b x1) (OS.k x4) default :: @List.nil Int : OS }),
(by (try dsimp only at *); (have := os_lt h2 h5; omega)),
(by have := os_lt h2 h5; exact os_b h5 (by omega) (by omega)),
⟨rfl,
(by (try dsimp only at *); omega),
⟨rfl,
(by grind)⟩,trivial,
⟨rfl,rfl⟩,
⟨rfl,rfl⟩,trivial⟩,
⟨⟨(by grind)⟩,
(by simp only [nat0] at *; exact or_rows)⟩,
⟨rl,rr⟩,
⟨rl,rr⟩,trivial⟩,
fun g33 => have h33 := dF g33; ⟨⟨(by omega),
(by have := os_lt h2 h5; omega)⟩,
(by have := os_lt h2 h5; omega),
⟨⟨trivial,trivial⟩,trivial⟩,
⟨rfl,
(by omega),
(by omega),
(by have := os_lt h2 h5; omega)⟩,
⟨(by omega),
(by have := os_lt h2 h5; omega)⟩,
⟨(by omega),
(by have := os_lt h2 h5; omega)⟩,
({ i := OS.i x4 + (1 : Nat), k := OS.k x4 + (1 : Nat), o := OS.o x4 ++ List.getD (OX.a x1) (OS.i x4) default :: @List.nil Int : OS }),
(by (try dsimp only at *); omega),
(by have := os_lt h2 h5; exact os_c h5 (by omega) (by omega) (by omega) (by omega)),
⟨(by (try dsimp only at *); omega),
(by (try dsimp only at *); omega),
⟨rfl,
(by grind)⟩,trivial,
⟨rfl,rfl⟩,
⟨rfl,rfl⟩,trivial⟩,
⟨⟨(by grind)⟩,
(by simp only [nat0] at *; exact or_rows)⟩,
⟨rl,rr⟩,
⟨rl,rr⟩,trivial⟩⟩⟩⟩⟩,
fun g35 => have h35 := dF g35; ⟨⟨rfl,
(by have := os_lt h2 h5; have e := os_end h5 (by omega) (by omega); (rw [e]; done))⟩,
⟨⟨(by have := os_lt h2 h5; have e := os_end h5 (by omega) (by omega); (rw [e]; exact Nat.le_refl _))⟩,
(by have := os_lt h2 h5; have e := os_end h5 (by omega) (by omega); (rw [e]; exact rr))⟩,trivial⟩⟩⟩⟩)
theorem or_good : Good Tryd.prog 56 orC /\ FnOk Tryd.prog 56 := good_of tok conN0 (fn := Tryd.f56) rfl (by decide +kernel) (fun _ => rfl) or_keeps
def leL (a b : List Int) : List Int := a.filter fun x => !decide (x ∈ b)
def leAt (x : OX) (k : Nat) : List Int := leL (x.a.take k) x.b
theorem leAt_yes {x : OX} {k : Nat} (h : (k : Int) < x.a.length) (h1 : (!decide (x.a.getD k default ∈ x.b)) = true) : leAt x (k + 1) = leAt x k ++ [x.a.getD k default] := by
 unfold leAt leL; rw [take_succ_getD (d := default) (by omega), List.filter_append, List.filter_cons, if_pos h1]; rfl
theorem leAt_no {x : OX} {k : Nat} (h : (k : Int) < x.a.length) (h1 : (!decide (x.a.getD k default ∈ x.b)) = false) : leAt x (k + 1) = leAt x k := by
 unfold leAt leL; rw [take_succ_getD (d := default) (by omega), List.filter_append, List.filter_cons, if_neg (by rw [h1]; decide)]; simp
theorem leAt_full {x : OX} {k : Nat} (h : k <= x.a.length) (h2 : ¬ (k : Int) < x.a.length) : leAt x k = leL x.a x.b := by unfold leAt; rw [List.take_of_length_le (by omega)]
theorem leAt_len (x : OX) (k : Nat) : (leAt x k).length <= k := by
 have := List.length_filter_le (fun v => !decide (v ∈ x.b)) (x.a.take k)
 have q : (x.a.take k).length <= k := by rw [List.length_take]; omega
 show ((x.a.take k).filter _).length <= k; omega
def leC : CT where
 X := OX
 pre := fun x => x.a.length <= 1048576 /\ x.b.length <= 1048576
 args := fun x => [.sl 100000 0 x.a.length, .sl 100001 0 x.b.length]
 g0 := fun x => [(100000, .rows .bor k1 x.a.length (encL encI x.a)), (100001, .rows .bor k1 x.b.length (encL encI x.b))]
 res := fun x => .sl 1 0 (leL x.a x.b).length
 g1 := fun x => [(1, .rows .own k1 (leL x.a x.b).length (encL encI (leL x.a x.b)))]
def leI (x : OX) (id : Nat) : Option Inv := match id with
 | 0 => some { X := Nat, ok := fun k => k <= x.a.length, fr := fun k => [(10, .i .i64 k), (5, .sl 61 0 (leAt x k).length)], hp := fun k => [(61, .rows .own k1 (leAt x k).length (encL encI (leAt x k)))], me := fun k => x.a.length - k }
 | _ => none
def cfgW1 : Cfg := ⟨T, [], [(55, .one qhasC)], noInv, 50, {}⟩
theorem conW1 : ConOk Tryd.prog cfgW1 := ConL.ok (.cons (ConL.one qhas_good) .nil)
set_option maxRecDepth 100000 in
theorem le_keeps : Keeps cfgW1 Tryd.f57 leC leI := Eq.mp (show ((∀ x1 : OX, ((x1.a.length <= (1048576 : Nat) /\ x1.b.length <= (1048576 : Nat))-> (∃ x3 : Nat, (((x3 <= x1.a.length)/\(((0 = (x3 : Int))/\((True/\(0=0/\((leAt x1 x3).length = (0 : Nat))))/\(((x1.a.length : Int) = (x1.a.length : Int))/\((0=0 /\ x1.a.length = x1.a.length)/\(True/\((0=0 /\ x1.a.length = x1.a.length)/\((0=0 /\ x1.b.length = x1.b.length)/\True)))))))/\(((leAt x1 x3).length = (0 : Nat))/\(((RLe x1.a.length x1.a.length)/\(RI x1.a.length x1.a x1.a))/\(((RLe x1.b.length x1.b.length)/\(RI x1.b.length x1.b x1.b))/\True)))))/\(∀ x4 : Nat, ((x4 <= x1.a.length)-> (((decide ((x4 : Int) < (x1.a.length : Int)) = true)-> ((((0 : Int) <= (x4 : Int))/\((x4 : Int) < (x1.a.length : Int)))/\((0 + Int.toNat (x4 : Int) < x1.a.length)/\(∃ x7 : LIX, ((x7.l.length <= (1073741824 : Nat))/\(((0=0 /\ x1.b.length = x7.l.length)/\((x1.a.getD (0 + Int.toNat (x4 : Int)) default = x7.n)/\True))/\((((RLe x7.l.length x1.b.length)/\(RI x7.l.length x1.b x7.l))/\True)/\((((!decide (x7.n ∈ x7.l)) = true)-> (((True/\True)/\True)/\((0=0/\(((leAt x1 x4).length <= (leAt x1 x4).length)/\(((1 : Nat) <= (1 : Nat))/\((leAt x1 x4).length + (1 : Nat) <= (1073741824 : Nat)))))/\((((-9223372036854775808 : Int) <= (x4 : Int) + 1)/\((x4 : Int) + 1 <= (9223372036854775807 : Int)))/\(∃ x9 : Nat, ((x1.a.length - x9 < x1.a.length - x4)/\((x9 <= x1.a.length)/\((((x4 : Int) + 1 = (x9 : Int))/\((0=0/\((leAt x1 x4).length + (1 : Nat) = (leAt x1 x9).length))/\(((x1.a.length : Int) = (x1.a.length : Int))/\((0=0 /\ x1.a.length = x1.a.length)/\(True/\((0=0 /\ x1.a.length = x1.a.length)/\((0=0 /\ x1.b.length = x1.b.length)/\True)))))))/\(((RLe (leAt x1 x9).length ((leAt x1 x4).length + (1 : Nat)))/\(RowsEq [.int .i64] (leAt x1 x9).length (appRows (leAt x1 x4).length (encL encI (leAt x1 x4)) 0 (litRows ((D.i (x1.a.getD (0 + Int.toNat (x4 : Int)) default) :: @List.nil D) :: @List.nil (List D)))) (encL encI (leAt x1 x9))))/\(((RLe x1.a.length x1.a.length)/\(RI x1.a.length x1.a x1.a))/\(((RLe x1.b.length x1.b.length)/\(RI x1.b.length x1.b x1.b))/\True)))))))))))/\(((!decide (x7.n ∈ x7.l)) = false)-> ((((-9223372036854775808 : Int) <= (x4 : Int) + 1)/\((x4 : Int) + 1 <= (9223372036854775807 : Int)))/\(∃ x11 : Nat, ((x1.a.length - x11 < x1.a.length - x4)/\((x11 <= x1.a.length)/\((((x4 : Int) + 1 = (x11 : Int))/\((0=0/\((leAt x1 x4).length = (leAt x1 x11).length))/\(((x1.a.length : Int) = (x1.a.length : Int))/\((0=0 /\ x1.a.length = x1.a.length)/\(True/\((0=0 /\ x1.a.length = x1.a.length)/\((0=0 /\ x1.b.length = x1.b.length)/\True)))))))/\(((RLe (leAt x1 x11).length (leAt x1 x4).length)/\(RowsEq [.int .i64] (leAt x1 x11).length (encL encI (leAt x1 x4)) (encL encI (leAt x1 x11))))/\(((RLe x1.a.length x1.a.length)/\(RI x1.a.length x1.a x1.a))/\(((RLe x1.b.length x1.b.length)/\(RI x1.b.length x1.b x1.b))/\True)))))))))))))))))/\((decide ((x4 : Int) < (x1.a.length : Int)) = false)-> ((0=0/\((leAt x1 x4).length = (leL x1.a x1.b).length))/\(((RLe (leL x1.a x1.b).length (leAt x1 x4).length)/\(RowsEq [.int .i64] (leL x1.a x1.b).length (encL encI (leAt x1 x4)) (encL encI (leL x1.a x1.b))))/\True))))))))))) = (Keeps cfgW1 Tryd.f57 leC leI) by kernel_rfl) (fun x1 => fun h2 => ⟨((0 : Nat)),
⟨(by omega),
⟨(by omega),
⟨trivial,rfl,rfl⟩,rfl,
⟨rfl,rfl⟩,trivial,
⟨rfl,rfl⟩,
⟨rfl,rfl⟩,trivial⟩,rfl,
⟨rl,rr⟩,
⟨rl,rr⟩,trivial⟩,
fun x4 => fun h5 => ⟨fun g6 => have h6 := dT g6; ⟨⟨(by omega),
(by omega)⟩,
(by omega),
({ l := OX.b x1, n := List.getD (OX.a x1) ((0 : Nat) + Int.toNat (↑x4 : Int)) default : LIX }),
(by (try dsimp only at *); omega),
⟨⟨rfl,rfl⟩,rfl,trivial⟩,
⟨⟨rl,rr⟩,trivial⟩,
fun g8 => have h8 := nT g8; ⟨⟨⟨trivial,trivial⟩,trivial⟩,
⟨rfl,
(by omega),
(by omega),
(by have := leAt_len x1 x4; omega)⟩,
⟨(by omega),
(by omega)⟩,
(x4 + (1 : Nat)),
(by omega),
(by omega),
⟨(by omega),
⟨rfl,
(by (try simp only [nat0] at *); have e := leAt_yes (x := x1) (k := x4) ‹_› ‹_›; (simp only [e, List.length_append, List.length_cons, List.length_nil]; done))⟩,rfl,
⟨rfl,rfl⟩,trivial,
⟨rfl,rfl⟩,
⟨rfl,rfl⟩,trivial⟩,
⟨⟨(by (try simp only [nat0] at *); have e := leAt_yes (x := x1) (k := x4) ‹_› ‹_›; (simp only [e, List.length_append, List.length_cons, List.length_nil]; omega))⟩,
(by (try simp only [nat0] at *); have e := leAt_yes (x := x1) (k := x4) ‹_› ‹_›; (rw [e]; exact or_rows))⟩,
⟨rl,rr⟩,
⟨rl,rr⟩,trivial⟩,
fun g10 => have h10 := nF g10; ⟨⟨(by omega),
(by omega)⟩,
(x4 + (1 : Nat)),
(by omega),
(by omega),
⟨(by omega),
⟨rfl,
(by (try simp only [nat0] at *); have e := leAt_no (x := x1) (k := x4) ‹_› ‹_›; (rw [e]; done))⟩,rfl,
⟨rfl,rfl⟩,trivial,
⟨rfl,rfl⟩,
⟨rfl,rfl⟩,trivial⟩,
⟨⟨(by (try simp only [nat0] at *); have e := leAt_no (x := x1) (k := x4) ‹_› ‹_›; (rw [e]; exact Nat.le_refl _))⟩,
(by (try simp only [nat0] at *); have e := leAt_no (x := x1) (k := x4) ‹_› ‹_›; (rw [e]; exact rr))⟩,
⟨rl,rr⟩,
⟨rl,rr⟩,trivial⟩⟩,
fun g12 => have h12 := dF g12; ⟨⟨rfl,
(by rw [(leAt_full (x := x1) (k := x4) ‹_› ‹_›)])⟩,
⟨⟨(by rw [(leAt_full (x := x1) (k := x4) ‹_› ‹_›)]; exact Nat.le_refl _)⟩,
(by rw [(leAt_full (x := x1) (k := x4) ‹_› ‹_›)]; exact rr)⟩,trivial⟩⟩⟩)
theorem le_good : Good Tryd.prog 57 leC /\ FnOk Tryd.prog 57 := good_of tok conW1 (fn := Tryd.f57) rfl (by decide +kernel) (fun _ => rfl) le_keeps
end Go.Sym