import Derived.Test.YtmomlgnnbpkgcaaC1
import Derived.Test.YtmomlgnnbpkgcaaXD
namespace Go.Sym
set_option linter.unusedVariables false
set_option linter.unusedSimpArgs false
open Go.Proofs
structure NewX where
 n : Int
 es : List Ed
def edVB (n : Int) (e : Ed) : Bool := decide (0 <= e.f /\ e.f < n /\ 0 <= e.t /\ e.t < n /\ ((1 <= e.d /\ e.d <= 1048576) ∨ e.d = 4611686018427387904))
def errN (x : NewX) : Int := if x.n < 1 ∨ 4096 < x.n then 1 else if 16384 < x.es.length then 3 else if x.es.all (edVB x.n) then 0 else 1
def szN (x : NewX) : Nat := if errN x = 0 then 1 else 0
def NewX.g (x : NewX) : Gr := ⟨x.n.toNat, x.es⟩
def newC : CT where
 X := NewX
 pre := fun x => x.es.length <= 1073741824
 args := fun x => [.i .i64 x.n, .sl 100000 0 x.es.length]
 g0 := fun x => [(100000, .rows .bor kE x.es.length (encL encE x.es))]
 res := fun x => .tup [.q 1 (szN x), .i .i64 (errN x)]
 g1 := fun x => [(1, .rows .own kG (szN x) (encG x.g))]
def newI (x : NewX) (id : Nat) : Option Inv := match id with
 | 0 => some { X := Nat, ok := fun k => k <= x.es.length /\ (x.es.take k).all (edVB x.n) = true, fr := fun k => [(19, .i .i64 k)], hp := fun k => [], me := fun k => x.es.length - k }
 | _ => none
def cfgNew : Cfg := ⟨T, [], [(37, .one (cloneC kE)), (36, .one buildC)], noInv, 20, {}⟩
theorem conNew : ConOk Try.prog cfgNew := ConL.ok (.cons (ConL.one cloneE_good) (.cons (ConL.one build_good) .nil))
theorem szN0 {x : NewX} (h : errN x ≠ 0) : szN x = 0 := if_neg h
theorem szN_le (x : NewX) : szN x <= 1 := by unfold szN; split <;> omega
theorem err_range {x : NewX} (h : x.n < 1 ∨ 4096 < x.n) : errN x = 1 := if_pos h
theorem err_many {x : NewX} (h1 : ¬ x.n < 1) (h2 : ¬ 4096 < x.n) (h : 16384 < x.es.length) : errN x = 3 := by unfold errN; rw [if_neg (by omega), if_pos h]
theorem err_bad {x : NewX} {k : Nat} (h1 : ¬ x.n < 1) (h2 : ¬ 4096 < x.n) (h3 : ¬ 16384 < x.es.length) (hk : k < x.es.length)
  (hb : ¬ (0 <= (x.es.getD k default).f /\ (x.es.getD k default).f < x.n /\ 0 <= (x.es.getD k default).t /\ (x.es.getD k default).t < x.n /\ ((1 <= (x.es.getD k default).d /\ (x.es.getD k default).d <= 1048576) ∨ (x.es.getD k default).d = 4611686018427387904))) : errN x = 1 := by
 unfold errN
 rw [if_neg (by omega), if_neg h3, if_neg]
 intro h
 rw [List.all_eq_true] at h
 have := h (x.es.getD k default) (by rw [List.getD_eq_getElem?_getD, List.getElem?_eq_getElem hk]; exact List.getElem_mem hk)
 exact hb (of_decide_eq_true this)
theorem err_ok {x : NewX} (h1 : ¬ x.n < 1) (h2 : ¬ 4096 < x.n) (h3 : ¬ 16384 < x.es.length) (h : x.es.all (edVB x.n) = true) : errN x = 0 := by
 unfold errN
 rw [if_neg (by omega), if_neg h3, if_pos h]
theorem all_succ {α : Type} {d : α} {xs : List α} {p : α -> Bool} {k : Nat} (hk : k < xs.length) (h : (xs.take k).all p = true) (hb : p (xs.getD k d) = true) : (xs.take (k + 1)).all p = true := by
 rw [take_succ_getD (d := d) hk, List.all_append, h, List.all_cons, hb]
 rfl
theorem all_at {α : Type} {d : α} {xs : List α} {p : α -> Bool} (h : xs.all p = true) {k : Nat} (hk : k < xs.length) : p (xs.getD k d) = true := by
 rw [List.all_eq_true] at h
 exact h _ (by rw [List.getD_eq_getElem?_getD, List.getElem?_eq_getElem hk]; exact List.getElem_mem hk)
theorem gok {x : NewX} (h1 : ¬ x.n < 1) (h2 : ¬ 4096 < x.n) (h3 : ¬ 16384 < x.es.length) (h : x.es.all (edVB x.n) = true) : GOk x.g := by
 refine ⟨by show 1 <= x.n.toNat; omega, by show x.n.toNat <= 4096; omega, by show x.es.length <= 16384; omega, fun k hk => ?_⟩
 have := of_decide_eq_true (all_at (d := default) h hk)
 have e : ((x.g.n : Nat) : Int) = x.n := by show ((x.n.toNat : Nat) : Int) = x.n; omega
 unfold edOk
 rw [e]
 exact ⟨this.1, this.2.1, this.2.2.1, this.2.2.2.1⟩
theorem take_all {α : Type} {xs : List α} {p : α -> Bool} {k : Nat} (h1 : k <= xs.length /\ (xs.take k).all p = true) (h2 : ¬ (k : Int) < xs.length) : xs.all p = true := by
 have := h1.2
 rwa [List.take_of_length_le (by omega)] at this
set_option maxRecDepth 100000 in
theorem new_keeps : Keeps cfgNew Try.f24 newC newI := Eq.mp (show ((∀ x1 : NewX, ((x1.es.length <= (1073741824 : Nat))-> (((decide (x1.n < (1 : Int)) = false)-> (((decide (4096 < x1.n) = true)-> (((szN x1 = (0 : Nat))/\(((1 : Int) = errN x1)/\True))/\((szN x1 = (0 : Nat))/\True)))/\((decide (4096 < x1.n) = false)-> (((decide (16384 < (x1.es.length : Int)) = true)-> (((szN x1 = (0 : Nat))/\(((3 : Int) = errN x1)/\True))/\((szN x1 = (0 : Nat))/\True)))/\((decide (16384 < (x1.es.length : Int)) = false)-> (∃ x8 : Nat, ((((x8 <= x1.es.length)/\(List.all (List.take x8 x1.es) (edVB x1.n) = true))/\(((0 = (x8 : Int))/\(((x1.es.length : Int) = (x1.es.length : Int))/\((0=0 /\ x1.es.length = x1.es.length)/\((decide (16384 < (x1.es.length : Int)) = decide (16384 < (x1.es.length : Int)))/\(((x1.es.length : Int) = (x1.es.length : Int))/\((0=0 /\ x1.es.length = x1.es.length)/\((decide (4096 < x1.n) = decide (4096 < x1.n))/\((decide (4096 < x1.n) = decide (4096 < x1.n))/\(x1.n = x1.n/\((decide (x1.n < (1 : Int)) = decide (x1.n < (1 : Int)))/\((decide (x1.n < (1 : Int)) = decide (x1.n < (1 : Int)))/\(x1.n = x1.n/\(x1.n = x1.n/\((0=0 /\ x1.es.length = x1.es.length)/\True))))))))))))))/\(((RLe x1.es.length x1.es.length)/\(RowsEq [.int .i64, .int .i64, .int .i64] x1.es.length (encL encE x1.es) (encL encE x1.es)))/\True)))/\(∀ x9 : Nat, ((x9 <= x1.es.length /\ List.all (List.take x9 x1.es) (edVB x1.n) = true)-> (((decide ((x9 : Int) < (x1.es.length : Int)) = true)-> ((((0 : Int) <= (x9 : Int))/\((x9 : Int) < (x1.es.length : Int)))/\((0 + Int.toNat (x9 : Int) < x1.es.length)/\(((decide ((x1.es.getD (0 + Int.toNat (x9 : Int)) default).f < (0 : Int)) = false)-> (((decide (x1.n <= (x1.es.getD (0 + Int.toNat (x9 : Int)) default).f) = false)-> (((decide ((x1.es.getD (0 + Int.toNat (x9 : Int)) default).t < (0 : Int)) = false)-> (((decide (x1.n <= (x1.es.getD (0 + Int.toNat (x9 : Int)) default).t) = true)-> (((szN x1 = (0 : Nat))/\(((1 : Int) = errN x1)/\True))/\((szN x1 = (0 : Nat))/\True)))/\((decide (x1.n <= (x1.es.getD (0 + Int.toNat (x9 : Int)) default).t) = false)-> (((decide ((x1.es.getD (0 + Int.toNat (x9 : Int)) default).d < (1 : Int)) = false)-> (((decide (1048576 < (x1.es.getD (0 + Int.toNat (x9 : Int)) default).d) = true)-> (((decide ((x1.es.getD (0 + Int.toNat (x9 : Int)) default).d ≠ (4611686018427387904 : Int)) = true)-> (((szN x1 = (0 : Nat))/\(((1 : Int) = errN x1)/\True))/\((szN x1 = (0 : Nat))/\True)))/\((decide ((x1.es.getD (0 + Int.toNat (x9 : Int)) default).d ≠ (4611686018427387904 : Int)) = false)-> ((((-9223372036854775808 : Int) <= (x9 : Int) + 1)/\((x9 : Int) + 1 <= (9223372036854775807 : Int)))/\(∃ x21 : Nat, ((x1.es.length - x21 < x1.es.length - x9)/\(((x21 <= x1.es.length)/\(List.all (List.take x21 x1.es) (edVB x1.n) = true))/\((((x9 : Int) + 1 = (x21 : Int))/\(((x1.es.length : Int) = (x1.es.length : Int))/\((0=0 /\ x1.es.length = x1.es.length)/\((decide (16384 < (x1.es.length : Int)) = decide (16384 < (x1.es.length : Int)))/\(((x1.es.length : Int) = (x1.es.length : Int))/\((0=0 /\ x1.es.length = x1.es.length)/\((decide (4096 < x1.n) = decide (4096 < x1.n))/\((decide (4096 < x1.n) = decide (4096 < x1.n))/\(x1.n = x1.n/\((decide (x1.n < (1 : Int)) = decide (x1.n < (1 : Int)))/\((decide (x1.n < (1 : Int)) = decide (x1.n < (1 : Int)))/\(x1.n = x1.n/\(x1.n = x1.n/\((0=0 /\ x1.es.length = x1.es.length)/\True))))))))))))))/\(((RLe x1.es.length x1.es.length)/\(RowsEq [.int .i64, .int .i64, .int .i64] x1.es.length (encL encE x1.es) (encL encE x1.es)))/\True)))))))))/\((decide (1048576 < (x1.es.getD (0 + Int.toNat (x9 : Int)) default).d) = false)-> ((((-9223372036854775808 : Int) <= (x9 : Int) + 1)/\((x9 : Int) + 1 <= (9223372036854775807 : Int)))/\(∃ x23 : Nat, ((x1.es.length - x23 < x1.es.length - x9)/\(((x23 <= x1.es.length)/\(List.all (List.take x23 x1.es) (edVB x1.n) = true))/\((((x9 : Int) + 1 = (x23 : Int))/\(((x1.es.length : Int) = (x1.es.length : Int))/\((0=0 /\ x1.es.length = x1.es.length)/\((decide (16384 < (x1.es.length : Int)) = decide (16384 < (x1.es.length : Int)))/\(((x1.es.length : Int) = (x1.es.length : Int))/\((0=0 /\ x1.es.length = x1.es.length)/\((decide (4096 < x1.n) = decide (4096 < x1.n))/\((decide (4096 < x1.n) = decide (4096 < x1.n))/\(x1.n = x1.n/\((decide (x1.n < (1 : Int)) = decide (x1.n < (1 : Int)))/\((decide (x1.n < (1 : Int)) = decide (x1.n < (1 : Int)))/\(x1.n = x1.n/\(x1.n = x1.n/\((0=0 /\ x1.es.length = x1.es.length)/\True))))))))))))))/\(((RLe x1.es.length x1.es.length)/\(RowsEq [.int .i64, .int .i64, .int .i64] x1.es.length (encL encE x1.es) (encL encE x1.es)))/\True)))))))))/\((decide ((x1.es.getD (0 + Int.toNat (x9 : Int)) default).d < (1 : Int)) = true)-> (((decide ((x1.es.getD (0 + Int.toNat (x9 : Int)) default).d ≠ (4611686018427387904 : Int)) = true)-> (((szN x1 = (0 : Nat))/\(((1 : Int) = errN x1)/\True))/\((szN x1 = (0 : Nat))/\True)))/\((decide ((x1.es.getD (0 + Int.toNat (x9 : Int)) default).d ≠ (4611686018427387904 : Int)) = false)-> ((((-9223372036854775808 : Int) <= (x9 : Int) + 1)/\((x9 : Int) + 1 <= (9223372036854775807 : Int)))/\(∃ x27 : Nat, ((x1.es.length - x27 < x1.es.length - x9)/\(((x27 <= x1.es.length)/\(List.all (List.take x27 x1.es) (edVB x1.n) = true))/\((((x9 : Int) + 1 = (x27 : Int))/\(((x1.es.length : Int) = (x1.es.length : Int))/\((0=0 /\ x1.es.length = x1.es.length)/\((decide (16384 < (x1.es.length : Int)) = decide (16384 < (x1.es.length : Int)))/\(((x1.es.length : Int) = (x1.es.length : Int))/\((0=0 /\ x1.es.length = x1.es.length)/\((decide (4096 < x1.n) = decide (4096 < x1.n))/\((decide (4096 < x1.n) = decide (4096 < x1.n))/\(x1.n = x1.n/\((decide (x1.n < (1 : Int)) = decide (x1.n < (1 : Int)))/\((decide (x1.n < (1 : Int)) = decide (x1.n < (1 : Int)))/\(x1.n = x1.n/\(x1.n = x1.n/\((0=0 /\ x1.es.length = x1.es.length)/\True))))))))))))))/\(((RLe x1.es.length x1.es.length)/\(RowsEq [.int .i64, .int .i64, .int .i64] x1.es.length (encL encE x1.es) (encL encE x1.es)))/\True)))))))))))))/\((decide ((x1.es.getD (0 + Int.toNat (x9 : Int)) default).t < (0 : Int)) = true)-> (((szN x1 = (0 : Nat))/\(((1 : Int) = errN x1)/\True))/\((szN x1 = (0 : Nat))/\True)))))/\((decide (x1.n <= (x1.es.getD (0 + Int.toNat (x9 : Int)) default).f) = true)-> (((szN x1 = (0 : Nat))/\(((1 : Int) = errN x1)/\True))/\((szN x1 = (0 : Nat))/\True)))))/\((decide ((x1.es.getD (0 + Int.toNat (x9 : Int)) default).f < (0 : Int)) = true)-> (((szN x1 = (0 : Nat))/\(((1 : Int) = errN x1)/\True))/\((szN x1 = (0 : Nat))/\True)))))))/\((decide ((x9 : Int) < (x1.es.length : Int)) = false)-> (∃ x32 : RX, ((x32.n <= (1073741824 : Nat))/\(((0=0 /\ x1.es.length = x32.n)/\True)/\((((RLe x32.n x1.es.length)/\(RowsEq [.int .i64, .int .i64, .int .i64] x32.n (encL encE x1.es) x32.f))/\True)/\(∃ x33 : Gr, ((GOk x33)/\(((x1.n = (x33.n : Int))/\((0=0 /\ x32.n = x33.es.length)/\True))/\((((RLe x33.es.length x32.n)/\(RowsEq [.int .i64, .int .i64, .int .i64] x33.es.length x32.f (encL encE x33.es)))/\True)/\(((0=0/\(0=0/\(szN x1 ≠ (0 : Nat))))/\(((0 : Int) = errN x1)/\True))/\(((RLe (szN x1) 1)/\(RowsEq [.sl [.int .i64, .int .i64, .int .i64], .sl [.sl [.int .i64]], .sl [.sl [.int .i64]]] (szN x1) (encG x33) (encG (NewX.g x1))))/\True)))))))))))))))))))))/\((decide (x1.n < (1 : Int)) = true)-> (((szN x1 = (0 : Nat))/\(((1 : Int) = errN x1)/\True))/\((szN x1 = (0 : Nat))/\True))))))) = (Keeps cfgNew Try.f24 newC newI) by kernel_rfl) (fun x1 => fun h2 => ⟨fun g3 => have h3 := of_decide_eq_false g3; ⟨fun g4 => have h4 := of_decide_eq_true g4; ⟨⟨(by exact szN0 (by rw [err_range (by omega)]; decide)),
(by exact (err_range (by omega)).symm),trivial⟩,
(by exact szN0 (by rw [err_range (by omega)]; decide)),trivial⟩,
fun g5 => have h5 := of_decide_eq_false g5; ⟨fun g6 => have h6 := of_decide_eq_true g6; ⟨⟨(by exact szN0 (by rw [err_many h3 h5 (by omega)]; decide)),
(by exact (err_many h3 h5 (by omega)).symm),trivial⟩,
(by exact szN0 (by rw [err_many h3 h5 (by omega)]; decide)),trivial⟩,
fun g7 => have h7 := of_decide_eq_false g7; ⟨((0 : Nat)),
⟨⟨(by (try dsimp only at *); omega),
(by (try dsimp only at *); grind)⟩,
⟨(by (try dsimp only at *); omega),rfl,
⟨rfl,rfl⟩,rfl,rfl,
⟨rfl,rfl⟩,rfl,rfl,rfl,rfl,rfl,rfl,rfl,
⟨rfl,rfl⟩,trivial⟩,
⟨⟨Nat.le_refl _⟩,RowsEq.rfl'⟩,trivial⟩,
fun x9 => fun h10 => ⟨fun g11 => have h11 := of_decide_eq_true g11; ⟨⟨(by (try dsimp only at *); omega),
(by (try dsimp only at *); omega)⟩,
(by (try dsimp only at *); omega),
fun g12 => have h12 := of_decide_eq_false g12; ⟨fun g13 => have h13 := of_decide_eq_false g13; ⟨fun g14 => have h14 := of_decide_eq_false g14; ⟨fun g15 => have h15 := of_decide_eq_true g15; ⟨⟨(by (try dsimp only at *); (simp only [nat0] at *; exact szN0 (by rw [err_bad (k := x9) h3 h5 (by omega) (by omega) (by omega)]; decide))),
(by (try dsimp only at *); (simp only [nat0] at *; exact (err_bad (k := x9) h3 h5 (by omega) (by omega) (by omega)).symm)),trivial⟩,
(by (try dsimp only at *); (simp only [nat0] at *; exact szN0 (by rw [err_bad (k := x9) h3 h5 (by omega) (by omega) (by omega)]; decide))),trivial⟩,
fun g16 => have h16 := of_decide_eq_false g16; ⟨fun g17 => have h17 := of_decide_eq_false g17; ⟨fun g18 => have h18 := of_decide_eq_true g18; ⟨fun g19 => have h19 := of_decide_eq_true g19; ⟨⟨(by (try dsimp only at *); (simp only [nat0] at *; exact szN0 (by rw [err_bad (k := x9) h3 h5 (by omega) (by omega) (by omega)]; decide))),
(by (try dsimp only at *); (simp only [nat0] at *; exact (err_bad (k := x9) h3 h5 (by omega) (by omega) (by omega)).symm)),trivial⟩,
(by (try dsimp only at *); (simp only [nat0] at *; exact szN0 (by rw [err_bad (k := x9) h3 h5 (by omega) (by omega) (by omega)]; decide))),trivial⟩,
fun g20 => have h20 := of_decide_eq_false g20; ⟨⟨(by (try dsimp only at *); omega),
(by (try dsimp only at *); omega)⟩,
(x9 + (1 : Nat)),
(by (try dsimp only at *); omega),
⟨(by (try dsimp only at *); omega),
(by (try dsimp only at *); (simp only [nat0] at *; exact all_succ (d := default) (by omega) h10.2 (decide_eq_true (by omega))))⟩,
⟨(by (try dsimp only at *); omega),rfl,
⟨rfl,rfl⟩,rfl,rfl,
⟨rfl,rfl⟩,rfl,rfl,rfl,rfl,rfl,rfl,rfl,
⟨rfl,rfl⟩,trivial⟩,
⟨⟨Nat.le_refl _⟩,RowsEq.rfl'⟩,trivial⟩⟩,
fun g22 => have h22 := of_decide_eq_false g22; ⟨⟨(by (try dsimp only at *); omega),
(by (try dsimp only at *); omega)⟩,
(x9 + (1 : Nat)),
(by (try dsimp only at *); omega),
⟨(by (try dsimp only at *); omega),
(by (try dsimp only at *); (simp only [nat0] at *; exact all_succ (d := default) (by omega) h10.2 (decide_eq_true (by omega))))⟩,
⟨(by (try dsimp only at *); omega),rfl,
⟨rfl,rfl⟩,rfl,rfl,
⟨rfl,rfl⟩,rfl,rfl,rfl,rfl,rfl,rfl,rfl,
⟨rfl,rfl⟩,trivial⟩,
⟨⟨Nat.le_refl _⟩,RowsEq.rfl'⟩,trivial⟩⟩,
fun g24 => have h24 := of_decide_eq_true g24; ⟨fun g25 => have h25 := of_decide_eq_true g25; ⟨⟨(by (try dsimp only at *); (simp only [nat0] at *; exact szN0 (by rw [err_bad (k := x9) h3 h5 (by omega) (by omega) (by omega)]; decide))),
(by (try dsimp only at *); (simp only [nat0] at *; exact (err_bad (k := x9) h3 h5 (by omega) (by omega) (by omega)).symm)),trivial⟩,
(by (try dsimp only at *); (simp only [nat0] at *; exact szN0 (by rw [err_bad (k := x9) h3 h5 (by omega) (by omega) (by omega)]; decide))),trivial⟩,
fun g26 => have h26 := of_decide_eq_false g26; ⟨⟨(by (try dsimp only at *); omega),
(by (try dsimp only at *); omega)⟩,
(x9 + (1 : Nat)),
(by (try dsimp only at *); omega),
⟨(by (try dsimp only at *); omega),
(by (try dsimp only at *); omega)⟩,
⟨(by (try dsimp only at *); omega),rfl,
⟨rfl,rfl⟩,rfl,rfl,
⟨rfl,rfl⟩,rfl,rfl,rfl,rfl,rfl,rfl,rfl,
⟨rfl,rfl⟩,trivial⟩,
⟨⟨Nat.le_refl _⟩,RowsEq.rfl'⟩,trivial⟩⟩⟩⟩,
fun g28 => have h28 := of_decide_eq_true g28; ⟨⟨(by (try dsimp only at *); (simp only [nat0] at *; exact szN0 (by rw [err_bad (k := x9) h3 h5 (by omega) (by omega) (by omega)]; decide))),
(by (try dsimp only at *); (simp only [nat0] at *; exact (err_bad (k := x9) h3 h5 (by omega) (by omega) (by omega)).symm)),trivial⟩,
(by (try dsimp only at *); (simp only [nat0] at *; exact szN0 (by rw [err_bad (k := x9) h3 h5 (by omega) (by omega) (by omega)]; decide))),trivial⟩⟩,
fun g29 => have h29 := of_decide_eq_true g29; ⟨⟨(by (try dsimp only at *); (simp only [nat0] at *; exact szN0 (by rw [err_bad (k := x9) h3 h5 (by omega) (by omega) (by omega)]; decide))),
(by (try dsimp only at *); (simp only [nat0] at *; exact (err_bad (k := x9) h3 h5 (by omega) (by omega) (by omega)).symm)),trivial⟩,
(by (try dsimp only at *); (simp only [nat0] at *; exact szN0 (by rw [err_bad (k := x9) h3 h5 (by omega) (by omega) (by omega)]; decide))),trivial⟩⟩,
fun g30 => have h30 := of_decide_eq_true g30; ⟨⟨(by (try dsimp only at *); (simp only [nat0] at *; exact szN0 (by rw [err_bad (k := x9) h3 h5 (by omega) (by omega) (by omega)]; decide))),
(by (try dsimp only at *); (simp only [nat0] at *; exact (err_bad (k := x9) h3 h5 (by omega) (by omega) (by omega)).symm)),trivial⟩,
(by (try dsimp only at *); (simp only [nat0] at *; exact szN0 (by rw [err_bad (k := x9) h3 h5 (by omega) (by omega) (by omega)]; decide))),trivial⟩⟩,
fun g31 => have h31 := of_decide_eq_false g31; ⟨({ n := List.length (NewX.es x1), f := encL encE (NewX.es x1) : RX }),
(by (try dsimp only at *); omega),
⟨⟨rfl,rfl⟩,trivial⟩,
⟨⟨⟨Nat.le_refl _⟩,RowsEq.rfl'⟩,trivial⟩,
(NewX.g x1),
(by (try dsimp only at *); exact gok h3 h5 (by omega) (take_all h10 h31)),
⟨(by (try dsimp only at *); (show x1.n = ((x1.n.toNat : Nat) : Int); omega)),
⟨rfl,
(by (try dsimp only at *); rfl)⟩,trivial⟩,
⟨⟨⟨(by (try dsimp only at *); exact Nat.le_refl _)⟩,
(by (try dsimp only at *); exact RowsEq.rfl')⟩,trivial⟩,
⟨⟨rfl,rfl,
(by (try dsimp only at *); (unfold szN; rw [err_ok h3 h5 (by omega) (take_all h10 h31)]; decide))⟩,
(by (try dsimp only at *); exact (err_ok h3 h5 (by omega) (take_all h10 h31)).symm),trivial⟩,
⟨⟨(by (try dsimp only at *); exact szN_le _)⟩,RowsEq.rfl'⟩,trivial⟩⟩⟩⟩⟩,
fun g34 => have h34 := of_decide_eq_true g34; ⟨⟨(by (try dsimp only at *); exact szN0 (by rw [err_range (by omega)]; decide)),
(by (try dsimp only at *); exact (err_range (by omega)).symm),trivial⟩,
(by (try dsimp only at *); exact szN0 (by rw [err_range (by omega)]; decide)),trivial⟩⟩)
theorem new_good : Good Try.prog 24 newC /\ FnOk Try.prog 24 := good_of tok conNew (fn := Try.f24) rfl (by decide +kernel) (fun _ => rfl) new_keeps
end Go.Sym