import Derived.Test.YtplpefihhhcbbaaDoorR4
import Derived.Test.YtplpefihhhcbbaaDoorR2
import Derived.Test.YtplpefihhhcbbaaDoorXD
namespace Go.Sym
set_option linter.unusedVariables false
set_option linter.unusedSimpArgs false
open Go.Proofs
set_option maxHeartbeats 4000000
theorem filter_yes {α : Type} {d : α} {p : α -> Bool} {l : List α} {k : Nat} (hk : k < l.length) (h : p (l.getD k d) = true) : (l.take (k + 1)).filter p = (l.take k).filter p ++ [l.getD k d] := by
 rw [take_succ_getD (d := d) hk, List.filter_append, List.filter_cons, if_pos h, List.filter_nil]
theorem filter_no {α : Type} {d : α} {p : α -> Bool} {l : List α} {k : Nat} (hk : k < l.length) (h : ¬ p (l.getD k d) = true) : (l.take (k + 1)).filter p = (l.take k).filter p := by
 rw [take_succ_getD (d := d) hk, List.filter_append, List.filter_cons, if_neg h, List.filter_nil, List.append_nil]
theorem filter_len {α : Type} {p : α -> Bool} {l : List α} {k c : Nat} (h : l.length <= c) : ((l.take k).filter p).length <= c := by
 have := List.length_filter_le p (l.take k)
 have h2 : (l.take k).length <= l.length := by rw [List.length_take]; omega
 omega
def nodesAt (n : Nat) (of : List Int) (k : Nat) : List Int := ((ofZ of of.length).take k).filter fun x => decide (x < n)
def nodesL (n : Nat) (of : List Int) : List Int := (ofZ of of.length).filter fun x => decide (x < n)
structure NOX where
 g : Gr
 of : List Int
def vnodesC : CT where
 X := NOX
 pre := fun x => x.of.length <= 1048576
 args := fun x => [.agg [.i .i64 x.g.n, .sl 100000 0 x.g.es.length], .sl 100001 0 x.of.length]
 g0 := fun x => [(100000, .rows .bor kE x.g.es.length (encL encE x.g.es)), (100001, .rows .bor k1 x.of.length (encL encI x.of))]
 res := fun x => .sl 1 0 (nodesL x.g.n x.of).length
 g1 := fun x => [(1, .rows .own k1 (nodesL x.g.n x.of).length (encL encI (nodesL x.g.n x.of)))]
def vnodesI (x : NOX) (id : Nat) : Option Inv := match id with
 | 0 => some { X := Nat, ok := fun k => k <= (ofZ x.of x.of.length).length, fr := fun k => [(7, .i .i64 k), (5, .sl 61 0 (nodesAt x.g.n x.of k).length)], hp := fun k => [(61, .rows .own k1 (nodesAt x.g.n x.of k).length (encL encI (nodesAt x.g.n x.of k)))], me := fun k => (ofZ x.of x.of.length).length - k }
 | _ => none
theorem nodes_yes {n : Nat} {of : List Int} {k : Nat} (hk : (k : Int) < (ofZ of of.length).length) (h : (ofZ of of.length).getD k default < n) : nodesAt n of (k + 1) = nodesAt n of k ++ [(ofZ of of.length).getD k default] := filter_yes (by omega) (decide_eq_true h)
theorem nodes_no {n : Nat} {of : List Int} {k : Nat} (hk : (k : Int) < (ofZ of of.length).length) (h : ¬ (ofZ of of.length).getD k default < n) : nodesAt n of (k + 1) = nodesAt n of k := filter_no (d := default) (by omega) (by rw [decide_eq_false h]; decide)
theorem nodes_end {n : Nat} {of : List Int} {k : Nat} (hle : k <= (ofZ of of.length).length) (hk : ¬ (k : Int) < (ofZ of of.length).length) : nodesAt n of k = nodesL n of := by unfold nodesAt nodesL; rw [List.take_of_length_le (by omega)]
theorem nodesAt_len (n : Nat) (of : List Int) (k : Nat) : (nodesAt n of k).length <= 4096 := filter_len (ofZ_len _ _)
theorem nodesL_len (n : Nat) (of : List Int) : (nodesL n of).length <= 4096 := by
 have := List.length_filter_le (fun x : Int => decide (x < n)) (ofZ of of.length); have := ofZ_len of of.length; unfold nodesL; omega
theorem nodesL_at {n : Nat} {of : List Int} {k : Nat} (hk : k < (nodesL n of).length) : 0 <= (nodesL n of).getD k default /\ (nodesL n of).getD k default < n := by
 have h : (nodesL n of).getD k default ∈ nodesL n of := by rw [List.getD_eq_getElem?_getD, List.getElem?_eq_getElem hk]; exact List.getElem_mem hk
 generalize (nodesL n of).getD k default = v at h
 unfold nodesL at h
 rw [List.mem_filter] at h
 exact ⟨(elemsZ_mem.1 h.1).1, of_decide_eq_true h.2⟩
def cfgVn : Cfg := ⟨T, [], [(58, .one qofC)], noInv, 50, {}⟩
theorem conVn : ConOk Tryd.prog cfgVn := ConL.ok (.cons (ConL.one qof_good) .nil)
set_option maxRecDepth 100000 in
theorem vnodes_keeps : Keeps cfgVn Tryd.f45 vnodesC vnodesI := Eq.mp (show ((∀ x1 : NOX, ((x1.of.length <= (1048576 : Nat))-> (∃ x3 : List Int, ((x3.length <= (1048576 : Nat))/\(((0=0 /\ x1.of.length = x3.length)/\True)/\((((RLe x3.length x1.of.length)/\(RowsEq [.int .i64] x3.length (encL encI x1.of) (encL encI x3)))/\True)/\(∃ x4 : Nat, (((x4 <= (ofZ x1.of x1.of.length).length)/\(((0 = (x4 : Int))/\((True/\(0=0/\((nodesAt x1.g.n x1.of x4).length = (0 : Nat))))/\((0=0/\((ofZ x3 x3.length).length = (ofZ x3 x3.length).length))/\((0=0/\((ofZ x3 x3.length).length = (ofZ x3 x3.length).length))/\((0=0 /\ x1.of.length = x1.of.length)/\(True/\((0=0 /\ 0=0)/\((((x1.g.n : Int) = (x1.g.n : Int))/\((0=0 /\ x1.g.es.length = x1.g.es.length)/\True))/\((0=0 /\ x1.of.length = x1.of.length)/\True)))))))))/\(((nodesAt x1.g.n x1.of x4).length = (0 : Nat))/\(((RLe (ofZ x3 x3.length).length (ofZ x3 x3.length).length)/\(RowsEq [.int .i64] (ofZ x3 x3.length).length (encL encI (ofZ x3 x3.length)) (encL encI (ofZ x3 x3.length))))/\((((x1.g.n : Int) = (x1.g.n : Int))/\((0=0 /\ x1.g.es.length = x1.g.es.length)/\True))/\(((RLe x1.g.es.length x1.g.es.length)/\(RowsEq [.int .i64, .int .i64, .int .i64] x1.g.es.length (encL encE x1.g.es) (encL encE x1.g.es)))/\(((RLe x1.of.length x1.of.length)/\(RowsEq [.int .i64] x1.of.length (encL encI x1.of) (encL encI x1.of)))/\True)))))))/\(∀ x5 : Nat, ((x5 <= (ofZ x1.of x1.of.length).length)-> (((decide ((x5 : Int) < (↑(ofZ x3 x3.length).length : Int)) = true)-> ((((0 : Int) <= (x5 : Int))/\((x5 : Int) < (↑(ofZ x3 x3.length).length : Int)))/\((0 + Int.toNat (x5 : Int) < (ofZ x3 x3.length).length)/\(((decide ((ofZ x3 x3.length).getD (0 + Int.toNat (x5 : Int)) default < (x1.g.n : Int)) = true)-> ((((0 : Int) <= (x5 : Int))/\((x5 : Int) < (↑(ofZ x3 x3.length).length : Int)))/\((0 + Int.toNat (x5 : Int) < (ofZ x3 x3.length).length)/\(((True/\True)/\True)/\((0=0/\(((nodesAt x1.g.n x1.of x5).length <= (nodesAt x1.g.n x1.of x5).length)/\(((1 : Nat) <= (1 : Nat))/\((nodesAt x1.g.n x1.of x5).length + (1 : Nat) <= (1073741824 : Nat)))))/\((((-9223372036854775808 : Int) <= (x5 : Int) + 1)/\((x5 : Int) + 1 <= (9223372036854775807 : Int)))/\(∃ x9 : Nat, (((ofZ x1.of x1.of.length).length - x9 < (ofZ x1.of x1.of.length).length - x5)/\((x9 <= (ofZ x1.of x1.of.length).length)/\((((x5 : Int) + 1 = (x9 : Int))/\((0=0/\((nodesAt x1.g.n x1.of x5).length + (1 : Nat) = (nodesAt x1.g.n x1.of x9).length))/\((0=0/\((ofZ x3 x3.length).length = (ofZ x3 x3.length).length))/\((0=0/\((ofZ x3 x3.length).length = (ofZ x3 x3.length).length))/\((0=0 /\ x1.of.length = x1.of.length)/\(True/\((0=0 /\ 0=0)/\((((x1.g.n : Int) = (x1.g.n : Int))/\((0=0 /\ x1.g.es.length = x1.g.es.length)/\True))/\((0=0 /\ x1.of.length = x1.of.length)/\True)))))))))/\(((RLe (nodesAt x1.g.n x1.of x9).length ((nodesAt x1.g.n x1.of x5).length + (1 : Nat)))/\(RowsEq [.int .i64] (nodesAt x1.g.n x1.of x9).length (appRows (nodesAt x1.g.n x1.of x5).length (encL encI (nodesAt x1.g.n x1.of x5)) 0 (litRows ((D.i ((ofZ x3 x3.length).getD (0 + Int.toNat (x5 : Int)) default) :: @List.nil D) :: @List.nil (List D)))) (encL encI (nodesAt x1.g.n x1.of x9))))/\(((RLe (ofZ x3 x3.length).length (ofZ x3 x3.length).length)/\(RowsEq [.int .i64] (ofZ x3 x3.length).length (encL encI (ofZ x3 x3.length)) (encL encI (ofZ x3 x3.length))))/\((((x1.g.n : Int) = (x1.g.n : Int))/\((0=0 /\ x1.g.es.length = x1.g.es.length)/\True))/\(((RLe x1.g.es.length x1.g.es.length)/\(RowsEq [.int .i64, .int .i64, .int .i64] x1.g.es.length (encL encE x1.g.es) (encL encE x1.g.es)))/\(((RLe x1.of.length x1.of.length)/\(RowsEq [.int .i64] x1.of.length (encL encI x1.of) (encL encI x1.of)))/\True)))))))))))))))/\((decide ((ofZ x3 x3.length).getD (0 + Int.toNat (x5 : Int)) default < (x1.g.n : Int)) = false)-> ((((-9223372036854775808 : Int) <= (x5 : Int) + 1)/\((x5 : Int) + 1 <= (9223372036854775807 : Int)))/\(∃ x11 : Nat, (((ofZ x1.of x1.of.length).length - x11 < (ofZ x1.of x1.of.length).length - x5)/\((x11 <= (ofZ x1.of x1.of.length).length)/\((((x5 : Int) + 1 = (x11 : Int))/\((0=0/\((nodesAt x1.g.n x1.of x5).length = (nodesAt x1.g.n x1.of x11).length))/\((0=0/\((ofZ x3 x3.length).length = (ofZ x3 x3.length).length))/\((0=0/\((ofZ x3 x3.length).length = (ofZ x3 x3.length).length))/\((0=0 /\ x1.of.length = x1.of.length)/\(True/\((0=0 /\ 0=0)/\((((x1.g.n : Int) = (x1.g.n : Int))/\((0=0 /\ x1.g.es.length = x1.g.es.length)/\True))/\((0=0 /\ x1.of.length = x1.of.length)/\True)))))))))/\(((RLe (nodesAt x1.g.n x1.of x11).length (nodesAt x1.g.n x1.of x5).length)/\(RowsEq [.int .i64] (nodesAt x1.g.n x1.of x11).length (encL encI (nodesAt x1.g.n x1.of x5)) (encL encI (nodesAt x1.g.n x1.of x11))))/\(((RLe (ofZ x3 x3.length).length (ofZ x3 x3.length).length)/\(RowsEq [.int .i64] (ofZ x3 x3.length).length (encL encI (ofZ x3 x3.length)) (encL encI (ofZ x3 x3.length))))/\((((x1.g.n : Int) = (x1.g.n : Int))/\((0=0 /\ x1.g.es.length = x1.g.es.length)/\True))/\(((RLe x1.g.es.length x1.g.es.length)/\(RowsEq [.int .i64, .int .i64, .int .i64] x1.g.es.length (encL encE x1.g.es) (encL encE x1.g.es)))/\(((RLe x1.of.length x1.of.length)/\(RowsEq [.int .i64] x1.of.length (encL encI x1.of) (encL encI x1.of)))/\True)))))))))))))))/\((decide ((x5 : Int) < (↑(ofZ x3 x3.length).length : Int)) = false)-> ((0=0/\((nodesAt x1.g.n x1.of x5).length = (nodesL x1.g.n x1.of).length))/\(((RLe (nodesL x1.g.n x1.of).length (nodesAt x1.g.n x1.of x5).length)/\(RowsEq [.int .i64] (nodesL x1.g.n x1.of).length (encL encI (nodesAt x1.g.n x1.of x5)) (encL encI (nodesL x1.g.n x1.of))))/\True))))))))))))))) = (Keeps cfgVn Tryd.f45 vnodesC vnodesI) by kernel_rfl) (fun x1 => fun h2 => ⟨(NOX.of x1),
(by (try dsimp only at *); omega),
⟨⟨rfl,rfl⟩,trivial⟩,
⟨⟨⟨Nat.le_refl _⟩,RowsEq.rfl'⟩,trivial⟩,
((0 : Nat)),
⟨(by (try dsimp only at *); omega),
⟨(by (try dsimp only at *); omega),
⟨trivial,rfl,
(by (try dsimp only at *); rfl)⟩,
⟨rfl,rfl⟩,
⟨rfl,rfl⟩,
⟨rfl,rfl⟩,trivial,
⟨rfl,rfl⟩,
⟨rfl,
⟨rfl,rfl⟩,trivial⟩,
⟨rfl,rfl⟩,trivial⟩,
(by (try dsimp only at *); rfl),
⟨⟨Nat.le_refl _⟩,RowsEq.rfl'⟩,
⟨rfl,
⟨rfl,rfl⟩,trivial⟩,
⟨⟨Nat.le_refl _⟩,RowsEq.rfl'⟩,
⟨⟨Nat.le_refl _⟩,RowsEq.rfl'⟩,trivial⟩,
fun x5 => fun h6 => ⟨fun g7 => have h7 := of_decide_eq_true g7; ⟨⟨(by (try dsimp only at *); omega),
(by (try dsimp only at *); omega)⟩,
(by (try dsimp only at *); omega),
fun g8 => have h8 := of_decide_eq_true g8; ⟨⟨(by (try dsimp only at *); omega),
(by (try dsimp only at *); omega)⟩,
(by (try dsimp only at *); omega),
⟨⟨trivial,trivial⟩,trivial⟩,
⟨rfl,
(by (try dsimp only at *); omega),
(by (try dsimp only at *); omega),
(by (try dsimp only at *); (have := nodesAt_len x1.g.n x1.of x5; omega))⟩,
⟨(by (try dsimp only at *); omega),
(by (try dsimp only at *); (have := ofZ_len x1.of x1.of.length; omega))⟩,
(x5 + (1 : Nat)),
(by (try dsimp only at *); omega),
(by (try dsimp only at *); omega),
⟨(by (try dsimp only at *); omega),
⟨rfl,
(by (try dsimp only at *); (((try simp only [Nat.zero_add, Int.toNat_natCast] at *); have e := (nodes_yes ‹_› ‹_›); first | (rw [e]; done) | (rw [e]; rfl) | (rw [e]; exact RowsEq.rfl') | (rw [e]; exact pushL_rows) | (simp only [e, List.length_append, List.length_singleton]; done) | (simp only [e, List.length_append, List.length_singleton]; omega))))⟩,
⟨rfl,rfl⟩,
⟨rfl,rfl⟩,
⟨rfl,rfl⟩,trivial,
⟨rfl,rfl⟩,
⟨rfl,
⟨rfl,rfl⟩,trivial⟩,
⟨rfl,rfl⟩,trivial⟩,
⟨⟨(by (try dsimp only at *); (((try simp only [Nat.zero_add, Int.toNat_natCast] at *); have e := (nodes_yes ‹_› ‹_›); first | (rw [e]; done) | (rw [e]; rfl) | (rw [e]; exact RowsEq.rfl') | (rw [e]; exact pushL_rows) | (simp only [e, List.length_append, List.length_singleton]; done) | (simp only [e, List.length_append, List.length_singleton]; omega))))⟩,
(by (try dsimp only at *); (((try simp only [Nat.zero_add, Int.toNat_natCast] at *); have e := (nodes_yes ‹_› ‹_›); first | (rw [e]; done) | (rw [e]; rfl) | (rw [e]; exact RowsEq.rfl') | (rw [e]; exact pushL_rows) | (simp only [e, List.length_append, List.length_singleton]; done) | (simp only [e, List.length_append, List.length_singleton]; omega))))⟩,
⟨⟨Nat.le_refl _⟩,RowsEq.rfl'⟩,
⟨rfl,
⟨rfl,rfl⟩,trivial⟩,
⟨⟨Nat.le_refl _⟩,RowsEq.rfl'⟩,
⟨⟨Nat.le_refl _⟩,RowsEq.rfl'⟩,trivial⟩,
fun g10 => have h10 := of_decide_eq_false g10; ⟨⟨(by (try dsimp only at *); omega),
(by (try dsimp only at *); (have := ofZ_len x1.of x1.of.length; omega))⟩,
(x5 + (1 : Nat)),
(by (try dsimp only at *); omega),
(by (try dsimp only at *); omega),
⟨(by (try dsimp only at *); omega),
⟨rfl,
(by (try dsimp only at *); (((try simp only [Nat.zero_add, Int.toNat_natCast] at *); have e := (nodes_no ‹_› ‹_›); first | (rw [e]; done) | (rw [e]; rfl) | (rw [e]; exact RowsEq.rfl') | (rw [e]; exact pushL_rows) | (simp only [e, List.length_append, List.length_singleton]; done) | (simp only [e, List.length_append, List.length_singleton]; omega))))⟩,
⟨rfl,rfl⟩,
⟨rfl,rfl⟩,
⟨rfl,rfl⟩,trivial,
⟨rfl,rfl⟩,
⟨rfl,
⟨rfl,rfl⟩,trivial⟩,
⟨rfl,rfl⟩,trivial⟩,
⟨⟨(by (try dsimp only at *); (((try simp only [Nat.zero_add, Int.toNat_natCast] at *); have e := (nodes_no ‹_› ‹_›); first | (rw [e]; done) | (rw [e]; rfl) | (rw [e]; exact RowsEq.rfl') | (rw [e]; exact pushL_rows) | (simp only [e, List.length_append, List.length_singleton]; done) | (simp only [e, List.length_append, List.length_singleton]; omega))))⟩,
(by (try dsimp only at *); (((try simp only [Nat.zero_add, Int.toNat_natCast] at *); have e := (nodes_no ‹_› ‹_›); first | (rw [e]; done) | (rw [e]; rfl) | (rw [e]; exact RowsEq.rfl') | (rw [e]; exact pushL_rows) | (simp only [e, List.length_append, List.length_singleton]; done) | (simp only [e, List.length_append, List.length_singleton]; omega))))⟩,
⟨⟨Nat.le_refl _⟩,RowsEq.rfl'⟩,
⟨rfl,
⟨rfl,rfl⟩,trivial⟩,
⟨⟨Nat.le_refl _⟩,RowsEq.rfl'⟩,
⟨⟨Nat.le_refl _⟩,RowsEq.rfl'⟩,trivial⟩⟩,
fun g12 => have h12 := of_decide_eq_false g12; ⟨⟨rfl,
(by (try dsimp only at *); (((try simp only [Nat.zero_add, Int.toNat_natCast] at *); have e := (nodes_end (n := x1.g.n) h6 h12); first | (rw [e]; done) | (rw [e]; rfl) | (rw [e]; exact RowsEq.rfl') | (rw [e]; exact pushL_rows) | (simp only [e, List.length_append, List.length_singleton]; done) | (simp only [e, List.length_append, List.length_singleton]; omega))))⟩,
⟨⟨(by (try dsimp only at *); (((try simp only [Nat.zero_add, Int.toNat_natCast] at *); have e := (nodes_end (n := x1.g.n) h6 h12); first | (rw [e]; done) | (rw [e]; rfl) | (rw [e]; exact RowsEq.rfl') | (rw [e]; exact pushL_rows) | (simp only [e, List.length_append, List.length_singleton]; done) | (simp only [e, List.length_append, List.length_singleton]; omega))))⟩,
(by (try dsimp only at *); (((try simp only [Nat.zero_add, Int.toNat_natCast] at *); have e := (nodes_end (n := x1.g.n) h6 h12); first | (rw [e]; done) | (rw [e]; rfl) | (rw [e]; exact RowsEq.rfl') | (rw [e]; exact pushL_rows) | (simp only [e, List.length_append, List.length_singleton]; done) | (simp only [e, List.length_append, List.length_singleton]; omega))))⟩,trivial⟩⟩⟩)
structure Un where
 id : Int
 b : Int
 c : Int
 st : Int
 nd : Int
 f : Int
 g : Int
 h : Int
 i : Int
 j : Int
deriving Inhabited, DecidableEq
def kU : List Kd := [.int .i64, .int .i64, .int .i64, .int .i64, .int .i64, .int .i64, .int .i64, .int .i64, .int .i64, .int .i64]
def encU (u : Un) : Nat -> D := encN [.i u.id, .i u.b, .i u.c, .i u.st, .i u.nd, .i u.f, .i u.g, .i u.h, .i u.i, .i u.j]
def freeAt (us : List Un) (k : Nat) : List Int := ((us.take k).filter fun u => decide (u.st = 1)).map fun u => u.nd
def freeL (us : List Un) : List Int := (us.filter fun u => decide (u.st = 1)).map fun u => u.nd
theorem free_yes {us : List Un} {k : Nat} (hk : (k : Int) < us.length) (h : (us.getD k default).st = 1) : freeAt us (k + 1) = freeAt us k ++ [(us.getD k default).nd] := by
 unfold freeAt; rw [filter_yes (d := default) (p := fun u : Un => decide (u.st = 1)) (l := us) (k := k) (by omega) (decide_eq_true h), List.map_append]; rfl
theorem free_no {us : List Un} {k : Nat} (hk : (k : Int) < us.length) (h : ¬ (us.getD k default).st = 1) : freeAt us (k + 1) = freeAt us k := by
 unfold freeAt; rw [filter_no (d := default) (p := fun u : Un => decide (u.st = 1)) (l := us) (k := k) (by omega) (by rw [decide_eq_false h]; decide)]
theorem free_end {us : List Un} {k : Nat} (hle : k <= us.length) (hk : ¬ (k : Int) < us.length) : freeAt us k = freeL us := by unfold freeAt freeL; rw [List.take_of_length_le (by omega)]
theorem freeAt_len {us : List Un} {k c : Nat} (h : us.length <= c) : (freeAt us k).length <= c := by unfold freeAt; rw [List.length_map]; exact filter_len h
theorem freeL_len (us : List Un) : (freeL us).length <= us.length := by unfold freeL; rw [List.length_map]; exact List.length_filter_le _ _
def vfreeC : CT where
 X := List Un
 pre := fun us => us.length <= 1048576
 args := fun us => [.sl 100000 0 us.length]
 g0 := fun us => [(100000, .rows .bor kU us.length (encL encU us))]
 res := fun us => .sl 1 0 (freeL us).length
 g1 := fun us => [(1, .rows .own k1 (freeL us).length (encL encI (freeL us)))]
def vfreeI (us : List Un) (id : Nat) : Option Inv := match id with
 | 0 => some { X := Nat, ok := fun k => k <= us.length, fr := fun k => [(4, .i .i64 k), (3, .sl 61 0 (freeAt us k).length)], hp := fun k => [(61, .rows .own k1 (freeAt us k).length (encL encI (freeAt us k)))], me := fun k => us.length - k }
 | _ => none
set_option maxRecDepth 100000 in
theorem vfree_keeps : Keeps cfgN0 Tryd.f37 vfreeC vfreeI := Eq.mp (show ((∀ x1 : List Un, ((x1.length <= (1048576 : Nat))-> (∃ x3 : Nat, (((x3 <= x1.length)/\(((0 = (x3 : Int))/\((True/\(0=0/\((freeAt x1 x3).length = (0 : Nat))))/\(True/\((0=0 /\ x1.length = x1.length)/\True))))/\(((freeAt x1 x3).length = (0 : Nat))/\(((RLe x1.length x1.length)/\(RowsEq [.int .i64, .int .i64, .int .i64, .int .i64, .int .i64, .int .i64, .int .i64, .int .i64, .int .i64, .int .i64] x1.length (encL encU x1) (encL encU x1)))/\True))))/\(∀ x4 : Nat, ((x4 <= x1.length)-> (((decide ((x4 : Int) < (x1.length : Int)) = true)-> ((((0 : Int) <= (x4 : Int))/\((x4 : Int) < (x1.length : Int)))/\((0 + Int.toNat (x4 : Int) < x1.length)/\(((decide ((x1.getD (0 + Int.toNat (x4 : Int)) default).st = (1 : Int)) = true)-> ((((0 : Int) <= (x4 : Int))/\((x4 : Int) < (x1.length : Int)))/\((0 + Int.toNat (x4 : Int) < x1.length)/\(((True/\True)/\True)/\((0=0/\(((freeAt x1 x4).length <= (freeAt x1 x4).length)/\(((1 : Nat) <= (1 : Nat))/\((freeAt x1 x4).length + (1 : Nat) <= (1073741824 : Nat)))))/\((((-9223372036854775808 : Int) <= (x4 : Int) + 1)/\((x4 : Int) + 1 <= (9223372036854775807 : Int)))/\(∃ x8 : Nat, ((x1.length - x8 < x1.length - x4)/\((x8 <= x1.length)/\((((x4 : Int) + 1 = (x8 : Int))/\((0=0/\((freeAt x1 x4).length + (1 : Nat) = (freeAt x1 x8).length))/\(True/\((0=0 /\ x1.length = x1.length)/\True))))/\(((RLe (freeAt x1 x8).length ((freeAt x1 x4).length + (1 : Nat)))/\(RowsEq [.int .i64] (freeAt x1 x8).length (appRows (freeAt x1 x4).length (encL encI (freeAt x1 x4)) 0 (litRows ((D.i (x1.getD (0 + Int.toNat (x4 : Int)) default).nd :: @List.nil D) :: @List.nil (List D)))) (encL encI (freeAt x1 x8))))/\(((RLe x1.length x1.length)/\(RowsEq [.int .i64, .int .i64, .int .i64, .int .i64, .int .i64, .int .i64, .int .i64, .int .i64, .int .i64, .int .i64] x1.length (encL encU x1) (encL encU x1)))/\True))))))))))))/\((decide ((x1.getD (0 + Int.toNat (x4 : Int)) default).st = (1 : Int)) = false)-> ((((-9223372036854775808 : Int) <= (x4 : Int) + 1)/\((x4 : Int) + 1 <= (9223372036854775807 : Int)))/\(∃ x10 : Nat, ((x1.length - x10 < x1.length - x4)/\((x10 <= x1.length)/\((((x4 : Int) + 1 = (x10 : Int))/\((0=0/\((freeAt x1 x4).length = (freeAt x1 x10).length))/\(True/\((0=0 /\ x1.length = x1.length)/\True))))/\(((RLe (freeAt x1 x10).length (freeAt x1 x4).length)/\(RowsEq [.int .i64] (freeAt x1 x10).length (encL encI (freeAt x1 x4)) (encL encI (freeAt x1 x10))))/\(((RLe x1.length x1.length)/\(RowsEq [.int .i64, .int .i64, .int .i64, .int .i64, .int .i64, .int .i64, .int .i64, .int .i64, .int .i64, .int .i64] x1.length (encL encU x1) (encL encU x1)))/\True))))))))))))/\((decide ((x4 : Int) < (x1.length : Int)) = false)-> ((0=0/\((freeAt x1 x4).length = (freeL x1).length))/\(((RLe (freeL x1).length (freeAt x1 x4).length)/\(RowsEq [.int .i64] (freeL x1).length (encL encI (freeAt x1 x4)) (encL encI (freeL x1))))/\True))))))))))) = (Keeps cfgN0 Tryd.f37 vfreeC vfreeI) by kernel_rfl) (fun x1 => fun h2 => ⟨((0 : Nat)),
⟨(by (try dsimp only at *); omega),
⟨(by (try dsimp only at *); omega),
⟨trivial,rfl,
(by (try dsimp only at *); rfl)⟩,trivial,
⟨rfl,rfl⟩,trivial⟩,
(by (try dsimp only at *); rfl),
⟨⟨Nat.le_refl _⟩,RowsEq.rfl'⟩,trivial⟩,
fun x4 => fun h5 => ⟨fun g6 => have h6 := of_decide_eq_true g6; ⟨⟨(by (try dsimp only at *); omega),
(by (try dsimp only at *); omega)⟩,
(by (try dsimp only at *); omega),
fun g7 => have h7 := of_decide_eq_true g7; ⟨⟨(by (try dsimp only at *); omega),
(by (try dsimp only at *); omega)⟩,
(by (try dsimp only at *); omega),
⟨⟨trivial,trivial⟩,trivial⟩,
⟨rfl,
(by (try dsimp only at *); omega),
(by (try dsimp only at *); omega),
(by (try dsimp only at *); (have := freeAt_len (k := x4) h2; omega))⟩,
⟨(by (try dsimp only at *); omega),
(by (try dsimp only at *); omega)⟩,
(x4 + (1 : Nat)),
(by (try dsimp only at *); omega),
(by (try dsimp only at *); omega),
⟨(by (try dsimp only at *); omega),
⟨rfl,
(by (try dsimp only at *); (((try simp only [Nat.zero_add, Int.toNat_natCast] at *); have e := (free_yes ‹_› ‹_›); first | (rw [e]; done) | (rw [e]; rfl) | (rw [e]; exact RowsEq.rfl') | (rw [e]; exact pushL_rows) | (simp only [e, List.length_append, List.length_singleton]; done) | (simp only [e, List.length_append, List.length_singleton]; omega))))⟩,trivial,
⟨rfl,rfl⟩,trivial⟩,
⟨⟨(by (try dsimp only at *); (((try simp only [Nat.zero_add, Int.toNat_natCast] at *); have e := (free_yes ‹_› ‹_›); first | (rw [e]; done) | (rw [e]; rfl) | (rw [e]; exact RowsEq.rfl') | (rw [e]; exact pushL_rows) | (simp only [e, List.length_append, List.length_singleton]; done) | (simp only [e, List.length_append, List.length_singleton]; omega))))⟩,
(by (try dsimp only at *); (((try simp only [Nat.zero_add, Int.toNat_natCast] at *); have e := (free_yes ‹_› ‹_›); first | (rw [e]; done) | (rw [e]; rfl) | (rw [e]; exact RowsEq.rfl') | (rw [e]; exact pushL_rows) | (simp only [e, List.length_append, List.length_singleton]; done) | (simp only [e, List.length_append, List.length_singleton]; omega))))⟩,
⟨⟨Nat.le_refl _⟩,RowsEq.rfl'⟩,trivial⟩,
fun g9 => have h9 := of_decide_eq_false g9; ⟨⟨(by (try dsimp only at *); omega),
(by (try dsimp only at *); omega)⟩,
(x4 + (1 : Nat)),
(by (try dsimp only at *); omega),
(by (try dsimp only at *); omega),
⟨(by (try dsimp only at *); omega),
⟨rfl,
(by (try dsimp only at *); (((try simp only [Nat.zero_add, Int.toNat_natCast] at *); have e := (free_no ‹_› ‹_›); first | (rw [e]; done) | (rw [e]; rfl) | (rw [e]; exact RowsEq.rfl') | (rw [e]; exact pushL_rows) | (simp only [e, List.length_append, List.length_singleton]; done) | (simp only [e, List.length_append, List.length_singleton]; omega))))⟩,trivial,
⟨rfl,rfl⟩,trivial⟩,
⟨⟨(by (try dsimp only at *); (((try simp only [Nat.zero_add, Int.toNat_natCast] at *); have e := (free_no ‹_› ‹_›); first | (rw [e]; done) | (rw [e]; rfl) | (rw [e]; exact RowsEq.rfl') | (rw [e]; exact pushL_rows) | (simp only [e, List.length_append, List.length_singleton]; done) | (simp only [e, List.length_append, List.length_singleton]; omega))))⟩,
(by (try dsimp only at *); (((try simp only [Nat.zero_add, Int.toNat_natCast] at *); have e := (free_no ‹_› ‹_›); first | (rw [e]; done) | (rw [e]; rfl) | (rw [e]; exact RowsEq.rfl') | (rw [e]; exact pushL_rows) | (simp only [e, List.length_append, List.length_singleton]; done) | (simp only [e, List.length_append, List.length_singleton]; omega))))⟩,
⟨⟨Nat.le_refl _⟩,RowsEq.rfl'⟩,trivial⟩⟩,
fun g11 => have h11 := of_decide_eq_false g11; ⟨⟨rfl,
(by (try dsimp only at *); (((try simp only [Nat.zero_add, Int.toNat_natCast] at *); have e := (free_end ‹_› ‹_›); first | (rw [e]; done) | (rw [e]; rfl) | (rw [e]; exact RowsEq.rfl') | (rw [e]; exact pushL_rows) | (simp only [e, List.length_append, List.length_singleton]; done) | (simp only [e, List.length_append, List.length_singleton]; omega))))⟩,
⟨⟨(by (try dsimp only at *); (((try simp only [Nat.zero_add, Int.toNat_natCast] at *); have e := (free_end ‹_› ‹_›); first | (rw [e]; done) | (rw [e]; rfl) | (rw [e]; exact RowsEq.rfl') | (rw [e]; exact pushL_rows) | (simp only [e, List.length_append, List.length_singleton]; done) | (simp only [e, List.length_append, List.length_singleton]; omega))))⟩,
(by (try dsimp only at *); (((try simp only [Nat.zero_add, Int.toNat_natCast] at *); have e := (free_end ‹_› ‹_›); first | (rw [e]; done) | (rw [e]; rfl) | (rw [e]; exact RowsEq.rfl') | (rw [e]; exact pushL_rows) | (simp only [e, List.length_append, List.length_singleton]; done) | (simp only [e, List.length_append, List.length_singleton]; omega))))⟩,trivial⟩⟩⟩)
theorem vnodes_good : Good Tryd.prog 45 vnodesC /\ FnOk Tryd.prog 45 := good_of tok conVn (fn := Tryd.f45) rfl (by decide +kernel) (fun _ => rfl) vnodes_keeps
theorem vfree_good : Good Tryd.prog 37 vfreeC /\ FnOk Tryd.prog 37 := good_of tok conN0 (fn := Tryd.f37) rfl (by decide +kernel) (fun _ => rfl) vfree_keeps
def worstS (D : List Int) (s : Int × Int) (v : Int) : Int × Int := if s.2 < 0 ∨ s.1 < D.getD v.toNat default then (D.getD v.toNat default, v) else s
def worstAt (D l : List Int) (k : Nat) : Int × Int := (l.take k).foldl (worstS D) (0, -1)
def worstF (D l : List Int) : Int × Int := l.foldl (worstS D) (0, -1)
theorem worstAt_succ {D l : List Int} {k : Nat} (h : k < l.length) : worstAt D l (k + 1) = worstS D (worstAt D l k) (l.getD k default) := by
 unfold worstAt; rw [take_succ_getD (d := default) h, List.foldl_append]; rfl
theorem worst_neg {D l : List Int} {k : Nat} (h : (k : Int) < l.length) (h2 : (worstAt D l k).2 < 0) : worstAt D l (k + 1) = (D.getD (l.getD k default).toNat default, l.getD k default) := by
 rw [worstAt_succ (by omega)]; exact if_pos (.inl h2)
theorem worst_up {D l : List Int} {k : Nat} (h : (k : Int) < l.length) (h2 : (worstAt D l k).1 < D.getD (l.getD k default).toNat default) : worstAt D l (k + 1) = (D.getD (l.getD k default).toNat default, l.getD k default) := by
 rw [worstAt_succ (by omega)]; exact if_pos (.inr h2)
theorem worst_no {D l : List Int} {k : Nat} (h : (k : Int) < l.length) (h1 : ¬ (worstAt D l k).2 < 0) (h2 : ¬ (worstAt D l k).1 < D.getD (l.getD k default).toNat default) : worstAt D l (k + 1) = worstAt D l k := by
 rw [worstAt_succ (by omega)]; exact if_neg (fun q => q.elim h1 h2)
theorem worst_end {D l : List Int} {k : Nat} (hle : k <= l.length) (h : ¬ (k : Int) < l.length) : worstAt D l k = worstF D l := by unfold worstAt worstF; rw [List.take_of_length_le (by omega)]
structure WX where
 g : Gr
 ts : List Int
 src : List Int
 of : List Int
def WX.fx (x : WX) : FX := ⟨x.g, x.ts, x.src⟩
structure WXok (x : WX) : Prop where
 fx : FXok x.fx
 of : x.of.length <= 1048576
def worstR (g : Gr) (ts src of : List Int) : Int × Int := worstF (distG g ts src true) (nodesL g.n of)
def vworstC : CT where
 X := WX
 pre := WXok
 args := fun x => [.agg [.i .i64 x.g.n, .sl 100000 0 x.g.es.length], .sl 100001 0 x.ts.length, .sl 100002 0 x.src.length, .sl 100003 0 x.of.length]
 g0 := fun x => [(100000, .rows .bor kE x.g.es.length (encL encE x.g.es)), (100001, .rows .bor k1 x.ts.length (encL encI x.ts)), (100002, .rows .bor k1 x.src.length (encL encI x.src)), (100003, .rows .bor k1 x.of.length (encL encI x.of))]
 res := fun x => .tup [.i .i64 (worstR x.g x.ts x.src x.of).1, .i .i64 (worstR x.g x.ts x.src x.of).2]
 g1 := fun _ => []
def vworstI (x : WX) (id : Nat) : Option Inv := match id with
 | 0 => some { X := Nat, ok := fun k => k <= (nodesL x.g.n x.of).length, fr := fun k => [(14, .i .i64 k), (11, .i .i64 (worstAt (distG x.g x.ts x.src true) (nodesL x.g.n x.of) k).1), (12, .i .i64 (worstAt (distG x.g x.ts x.src true) (nodesL x.g.n x.of) k).2)],
               hp := fun _ => [], me := fun k => (nodesL x.g.n x.of).length - k }
 | _ => none
def cfgVw : Cfg := ⟨T, [], [(44, .one qfromC), (45, .one vnodesC)], noInv, 50, {}⟩
theorem conVw : ConOk Tryd.prog cfgVw := ConL.ok (.cons (ConL.one qfrom_good) (.cons (ConL.one vnodes_good) .nil))
set_option maxRecDepth 100000 in
theorem vworst_keeps : Keeps cfgVw Tryd.f36 vworstC vworstI := Eq.mp (show ((∀ x1 : WX, ((WXok x1)-> (∃ x3 : FX, ((FXok x3)/\(((((x1.g.n : Int) = (x3.g.n : Int))/\((0=0 /\ x1.g.es.length = x3.g.es.length)/\True))/\((0=0 /\ x1.ts.length = x3.ts.length)/\((0=0 /\ x1.src.length = x3.src.length)/\True)))/\((((RLe x3.g.es.length x1.g.es.length)/\(RowsEq [.int .i64, .int .i64, .int .i64] x3.g.es.length (encL encE x1.g.es) (encL encE x3.g.es)))/\(((RLe x3.ts.length x1.ts.length)/\(RowsEq [.int .i64] x3.ts.length (encL encI x1.ts) (encL encI x3.ts)))/\(((RLe x3.src.length x1.src.length)/\(RowsEq [.int .i64] x3.src.length (encL encI x1.src) (encL encI x3.src)))/\True)))/\(∃ x4 : NOX, ((x4.of.length <= (1048576 : Nat))/\(((((x1.g.n : Int) = (x4.g.n : Int))/\((0=0 /\ x1.g.es.length = x4.g.es.length)/\True))/\((0=0 /\ x1.of.length = x4.of.length)/\True))/\((((RLe x4.g.es.length x1.g.es.length)/\(RowsEq [.int .i64, .int .i64, .int .i64] x4.g.es.length (encL encE x1.g.es) (encL encE x4.g.es)))/\(((RLe x4.of.length x1.of.length)/\(RowsEq [.int .i64] x4.of.length (encL encI x1.of) (encL encI x4.of)))/\True))/\(∃ x5 : Nat, (((x5 <= (nodesL x1.g.n x1.of).length)/\(((0 = (x5 : Int))/\(((0 : Int) = Prod.fst (worstAt (distG x1.g x1.ts x1.src true) (nodesL x1.g.n x1.of) x5))/\(((-1 : Int) = Prod.snd (worstAt (distG x1.g x1.ts x1.src true) (nodesL x1.g.n x1.of) x5))/\((0=0/\((nodesL x4.g.n x4.of).length = (nodesL x4.g.n x4.of).length))/\((0=0/\((nodesL x4.g.n x4.of).length = (nodesL x4.g.n x4.of).length))/\((0=0 /\ x1.of.length = x1.of.length)/\((((x1.g.n : Int) = (x1.g.n : Int))/\((0=0 /\ x1.g.es.length = x1.g.es.length)/\True))/\((0=0 /\ x3.g.n = x3.g.n)/\((0=0 /\ x3.g.n = x3.g.n)/\((0=0 /\ x1.src.length = x1.src.length)/\((0=0 /\ x1.ts.length = x1.ts.length)/\((((x1.g.n : Int) = (x1.g.n : Int))/\((0=0 /\ x1.g.es.length = x1.g.es.length)/\True))/\(((0 : Int) = 0)/\(((0 : Int) = 0)/\((0=0 /\ 0=0)/\((((x1.g.n : Int) = (x1.g.n : Int))/\((0=0 /\ x1.g.es.length = x1.g.es.length)/\True))/\((0=0 /\ x1.ts.length = x1.ts.length)/\((0=0 /\ x1.src.length = x1.src.length)/\((0=0 /\ x1.of.length = x1.of.length)/\True)))))))))))))))))))/\(((RLe (nodesL x4.g.n x4.of).length (nodesL x4.g.n x4.of).length)/\(RowsEq [.int .i64] (nodesL x4.g.n x4.of).length (encL encI (nodesL x4.g.n x4.of)) (encL encI (nodesL x4.g.n x4.of))))/\(((RLe x3.g.n x3.g.n)/\(RowsEq [.int .i64] x3.g.n (encL encI (distG x3.g x3.ts x3.src true)) (encL encI (distG x3.g x3.ts x3.src true))))/\((((x1.g.n : Int) = (x1.g.n : Int))/\((0=0 /\ x1.g.es.length = x1.g.es.length)/\True))/\(((RLe x1.g.es.length x1.g.es.length)/\(RowsEq [.int .i64, .int .i64, .int .i64] x1.g.es.length (encL encE x1.g.es) (encL encE x1.g.es)))/\(((RLe x1.ts.length x1.ts.length)/\(RowsEq [.int .i64] x1.ts.length (encL encI x1.ts) (encL encI x1.ts)))/\(((RLe x1.src.length x1.src.length)/\(RowsEq [.int .i64] x1.src.length (encL encI x1.src) (encL encI x1.src)))/\(((RLe x1.of.length x1.of.length)/\(RowsEq [.int .i64] x1.of.length (encL encI x1.of) (encL encI x1.of)))/\True)))))))))/\(∀ x6 : Nat, ((x6 <= (nodesL x1.g.n x1.of).length)-> (((decide ((x6 : Int) < (↑(nodesL x4.g.n x4.of).length : Int)) = true)-> (((decide (Prod.snd (worstAt (distG x1.g x1.ts x1.src true) (nodesL x1.g.n x1.of) x6) < (0 : Int)) = false)-> ((((0 : Int) <= (x6 : Int))/\((x6 : Int) < (↑(nodesL x4.g.n x4.of).length : Int)))/\((0 + Int.toNat (x6 : Int) < (nodesL x4.g.n x4.of).length)/\((((0 : Int) <= (nodesL x4.g.n x4.of).getD (0 + Int.toNat (x6 : Int)) default)/\((nodesL x4.g.n x4.of).getD (0 + Int.toNat (x6 : Int)) default < (x3.g.n : Int)))/\((0 + Int.toNat ((nodesL x4.g.n x4.of).getD (0 + Int.toNat (x6 : Int)) default) < x3.g.n)/\(((decide (Prod.fst (worstAt (distG x1.g x1.ts x1.src true) (nodesL x1.g.n x1.of) x6) < (distG x3.g x3.ts x3.src true).getD (0 + Int.toNat ((nodesL x4.g.n x4.of).getD (0 + Int.toNat (x6 : Int)) default)) default) = true)-> ((((0 : Int) <= (x6 : Int))/\((x6 : Int) < (↑(nodesL x4.g.n x4.of).length : Int)))/\((0 + Int.toNat (x6 : Int) < (nodesL x4.g.n x4.of).length)/\((((0 : Int) <= (nodesL x4.g.n x4.of).getD (0 + Int.toNat (x6 : Int)) default)/\((nodesL x4.g.n x4.of).getD (0 + Int.toNat (x6 : Int)) default < (x3.g.n : Int)))/\((0 + Int.toNat ((nodesL x4.g.n x4.of).getD (0 + Int.toNat (x6 : Int)) default) < x3.g.n)/\((((0 : Int) <= (x6 : Int))/\((x6 : Int) < (↑(nodesL x4.g.n x4.of).length : Int)))/\((0 + Int.toNat (x6 : Int) < (nodesL x4.g.n x4.of).length)/\((((-9223372036854775808 : Int) <= (x6 : Int) + 1)/\((x6 : Int) + 1 <= (9223372036854775807 : Int)))/\(∃ x11 : Nat, (((nodesL x1.g.n x1.of).length - x11 < (nodesL x1.g.n x1.of).length - x6)/\((x11 <= (nodesL x1.g.n x1.of).length)/\((((x6 : Int) + 1 = (x11 : Int))/\(((distG x3.g x3.ts x3.src true).getD (0 + Int.toNat ((nodesL x4.g.n x4.of).getD (0 + Int.toNat (x6 : Int)) default)) default = Prod.fst (worstAt (distG x1.g x1.ts x1.src true) (nodesL x1.g.n x1.of) x11))/\(((nodesL x4.g.n x4.of).getD (0 + Int.toNat (x6 : Int)) default = Prod.snd (worstAt (distG x1.g x1.ts x1.src true) (nodesL x1.g.n x1.of) x11))/\((0=0/\((nodesL x4.g.n x4.of).length = (nodesL x4.g.n x4.of).length))/\((0=0/\((nodesL x4.g.n x4.of).length = (nodesL x4.g.n x4.of).length))/\((0=0 /\ x1.of.length = x1.of.length)/\((((x1.g.n : Int) = (x1.g.n : Int))/\((0=0 /\ x1.g.es.length = x1.g.es.length)/\True))/\((0=0 /\ x3.g.n = x3.g.n)/\((0=0 /\ x3.g.n = x3.g.n)/\((0=0 /\ x1.src.length = x1.src.length)/\((0=0 /\ x1.ts.length = x1.ts.length)/\((((x1.g.n : Int) = (x1.g.n : Int))/\((0=0 /\ x1.g.es.length = x1.g.es.length)/\True))/\(((0 : Int) = 0)/\(((0 : Int) = 0)/\((0=0 /\ 0=0)/\((((x1.g.n : Int) = (x1.g.n : Int))/\((0=0 /\ x1.g.es.length = x1.g.es.length)/\True))/\((0=0 /\ x1.ts.length = x1.ts.length)/\((0=0 /\ x1.src.length = x1.src.length)/\((0=0 /\ x1.of.length = x1.of.length)/\True)))))))))))))))))))/\(((RLe (nodesL x4.g.n x4.of).length (nodesL x4.g.n x4.of).length)/\(RowsEq [.int .i64] (nodesL x4.g.n x4.of).length (encL encI (nodesL x4.g.n x4.of)) (encL encI (nodesL x4.g.n x4.of))))/\(((RLe x3.g.n x3.g.n)/\(RowsEq [.int .i64] x3.g.n (encL encI (distG x3.g x3.ts x3.src true)) (encL encI (distG x3.g x3.ts x3.src true))))/\((((x1.g.n : Int) = (x1.g.n : Int))/\((0=0 /\ x1.g.es.length = x1.g.es.length)/\True))/\(((RLe x1.g.es.length x1.g.es.length)/\(RowsEq [.int .i64, .int .i64, .int .i64] x1.g.es.length (encL encE x1.g.es) (encL encE x1.g.es)))/\(((RLe x1.ts.length x1.ts.length)/\(RowsEq [.int .i64] x1.ts.length (encL encI x1.ts) (encL encI x1.ts)))/\(((RLe x1.src.length x1.src.length)/\(RowsEq [.int .i64] x1.src.length (encL encI x1.src) (encL encI x1.src)))/\(((RLe x1.of.length x1.of.length)/\(RowsEq [.int .i64] x1.of.length (encL encI x1.of) (encL encI x1.of)))/\True)))))))))))))))))))/\((decide (Prod.fst (worstAt (distG x1.g x1.ts x1.src true) (nodesL x1.g.n x1.of) x6) < (distG x3.g x3.ts x3.src true).getD (0 + Int.toNat ((nodesL x4.g.n x4.of).getD (0 + Int.toNat (x6 : Int)) default)) default) = false)-> ((((-9223372036854775808 : Int) <= (x6 : Int) + 1)/\((x6 : Int) + 1 <= (9223372036854775807 : Int)))/\(∃ x13 : Nat, (((nodesL x1.g.n x1.of).length - x13 < (nodesL x1.g.n x1.of).length - x6)/\((x13 <= (nodesL x1.g.n x1.of).length)/\((((x6 : Int) + 1 = (x13 : Int))/\((Prod.fst (worstAt (distG x1.g x1.ts x1.src true) (nodesL x1.g.n x1.of) x6) = Prod.fst (worstAt (distG x1.g x1.ts x1.src true) (nodesL x1.g.n x1.of) x13))/\((Prod.snd (worstAt (distG x1.g x1.ts x1.src true) (nodesL x1.g.n x1.of) x6) = Prod.snd (worstAt (distG x1.g x1.ts x1.src true) (nodesL x1.g.n x1.of) x13))/\((0=0/\((nodesL x4.g.n x4.of).length = (nodesL x4.g.n x4.of).length))/\((0=0/\((nodesL x4.g.n x4.of).length = (nodesL x4.g.n x4.of).length))/\((0=0 /\ x1.of.length = x1.of.length)/\((((x1.g.n : Int) = (x1.g.n : Int))/\((0=0 /\ x1.g.es.length = x1.g.es.length)/\True))/\((0=0 /\ x3.g.n = x3.g.n)/\((0=0 /\ x3.g.n = x3.g.n)/\((0=0 /\ x1.src.length = x1.src.length)/\((0=0 /\ x1.ts.length = x1.ts.length)/\((((x1.g.n : Int) = (x1.g.n : Int))/\((0=0 /\ x1.g.es.length = x1.g.es.length)/\True))/\(((0 : Int) = 0)/\(((0 : Int) = 0)/\((0=0 /\ 0=0)/\((((x1.g.n : Int) = (x1.g.n : Int))/\((0=0 /\ x1.g.es.length = x1.g.es.length)/\True))/\((0=0 /\ x1.ts.length = x1.ts.length)/\((0=0 /\ x1.src.length = x1.src.length)/\((0=0 /\ x1.of.length = x1.of.length)/\True)))))))))))))))))))/\(((RLe (nodesL x4.g.n x4.of).length (nodesL x4.g.n x4.of).length)/\(RowsEq [.int .i64] (nodesL x4.g.n x4.of).length (encL encI (nodesL x4.g.n x4.of)) (encL encI (nodesL x4.g.n x4.of))))/\(((RLe x3.g.n x3.g.n)/\(RowsEq [.int .i64] x3.g.n (encL encI (distG x3.g x3.ts x3.src true)) (encL encI (distG x3.g x3.ts x3.src true))))/\((((x1.g.n : Int) = (x1.g.n : Int))/\((0=0 /\ x1.g.es.length = x1.g.es.length)/\True))/\(((RLe x1.g.es.length x1.g.es.length)/\(RowsEq [.int .i64, .int .i64, .int .i64] x1.g.es.length (encL encE x1.g.es) (encL encE x1.g.es)))/\(((RLe x1.ts.length x1.ts.length)/\(RowsEq [.int .i64] x1.ts.length (encL encI x1.ts) (encL encI x1.ts)))/\(((RLe x1.src.length x1.src.length)/\(RowsEq [.int .i64] x1.src.length (encL encI x1.src) (encL encI x1.src)))/\(((RLe x1.of.length x1.of.length)/\(RowsEq [.int .i64] x1.of.length (encL encI x1.of) (encL encI x1.of)))/\True)))))))))))))))))))/\((decide (Prod.snd (worstAt (distG x1.g x1.ts x1.src true) (nodesL x1.g.n x1.of) x6) < (0 : Int)) = true)-> ((((0 : Int) <= (x6 : Int))/\((x6 : Int) < (↑(nodesL x4.g.n x4.of).length : Int)))/\((0 + Int.toNat (x6 : Int) < (nodesL x4.g.n x4.of).length)/\((((0 : Int) <= (nodesL x4.g.n x4.of).getD (0 + Int.toNat (x6 : Int)) default)/\((nodesL x4.g.n x4.of).getD (0 + Int.toNat (x6 : Int)) default < (x3.g.n : Int)))/\((0 + Int.toNat ((nodesL x4.g.n x4.of).getD (0 + Int.toNat (x6 : Int)) default) < x3.g.n)/\((((0 : Int) <= (x6 : Int))/\((x6 : Int) < (↑(nodesL x4.g.n x4.of).length : Int)))/\((0 + Int.toNat (x6 : Int) < (nodesL x4.g.n x4.of).length)/\((((-9223372036854775808 : Int) <= (x6 : Int) + 1)/\((x6 : Int) + 1 <= (9223372036854775807 : Int)))/\(∃ x15 : Nat, (((nodesL x1.g.n x1.of).length - x15 < (nodesL x1.g.n x1.of).length - x6)/\((x15 <= (nodesL x1.g.n x1.of).length)/\((((x6 : Int) + 1 = (x15 : Int))/\(((distG x3.g x3.ts x3.src true).getD (0 + Int.toNat ((nodesL x4.g.n x4.of).getD (0 + Int.toNat (x6 : Int)) default)) default = Prod.fst (worstAt (distG x1.g x1.ts x1.src true) (nodesL x1.g.n x1.of) x15))/\(((nodesL x4.g.n x4.of).getD (0 + Int.toNat (x6 : Int)) default = Prod.snd (worstAt (distG x1.g x1.ts x1.src true) (nodesL x1.g.n x1.of) x15))/\((0=0/\((nodesL x4.g.n x4.of).length = (nodesL x4.g.n x4.of).length))/\((0=0/\((nodesL x4.g.n x4.of).length = (nodesL x4.g.n x4.of).length))/\((0=0 /\ x1.of.length = x1.of.length)/\((((x1.g.n : Int) = (x1.g.n : Int))/\((0=0 /\ x1.g.es.length = x1.g.es.length)/\True))/\((0=0 /\ x3.g.n = x3.g.n)/\((0=0 /\ x3.g.n = x3.g.n)/\((0=0 /\ x1.src.length = x1.src.length)/\((0=0 /\ x1.ts.length = x1.ts.length)/\((((x1.g.n : Int) = (x1.g.n : Int))/\((0=0 /\ x1.g.es.length = x1.g.es.length)/\True))/\(((0 : Int) = 0)/\(((0 : Int) = 0)/\((0=0 /\ 0=0)/\((((x1.g.n : Int) = (x1.g.n : Int))/\((0=0 /\ x1.g.es.length = x1.g.es.length)/\True))/\((0=0 /\ x1.ts.length = x1.ts.length)/\((0=0 /\ x1.src.length = x1.src.length)/\((0=0 /\ x1.of.length = x1.of.length)/\True)))))))))))))))))))/\(((RLe (nodesL x4.g.n x4.of).length (nodesL x4.g.n x4.of).length)/\(RowsEq [.int .i64] (nodesL x4.g.n x4.of).length (encL encI (nodesL x4.g.n x4.of)) (encL encI (nodesL x4.g.n x4.of))))/\(((RLe x3.g.n x3.g.n)/\(RowsEq [.int .i64] x3.g.n (encL encI (distG x3.g x3.ts x3.src true)) (encL encI (distG x3.g x3.ts x3.src true))))/\((((x1.g.n : Int) = (x1.g.n : Int))/\((0=0 /\ x1.g.es.length = x1.g.es.length)/\True))/\(((RLe x1.g.es.length x1.g.es.length)/\(RowsEq [.int .i64, .int .i64, .int .i64] x1.g.es.length (encL encE x1.g.es) (encL encE x1.g.es)))/\(((RLe x1.ts.length x1.ts.length)/\(RowsEq [.int .i64] x1.ts.length (encL encI x1.ts) (encL encI x1.ts)))/\(((RLe x1.src.length x1.src.length)/\(RowsEq [.int .i64] x1.src.length (encL encI x1.src) (encL encI x1.src)))/\(((RLe x1.of.length x1.of.length)/\(RowsEq [.int .i64] x1.of.length (encL encI x1.of) (encL encI x1.of)))/\True)))))))))))))))))))))/\((decide ((x6 : Int) < (↑(nodesL x4.g.n x4.of).length : Int)) = false)-> (((Prod.fst (worstAt (distG x1.g x1.ts x1.src true) (nodesL x1.g.n x1.of) x6) = Prod.fst (worstR x1.g x1.ts x1.src x1.of))/\((Prod.snd (worstAt (distG x1.g x1.ts x1.src true) (nodesL x1.g.n x1.of) x6) = Prod.snd (worstR x1.g x1.ts x1.src x1.of))/\True))/\True)))))))))))))))))) = (Keeps cfgVw Tryd.f36 vworstC vworstI) by kernel_rfl) (fun x1 => fun h2 => ⟨({ g := WX.g x1, ts := WX.ts x1, src := WX.src x1 : FX }),
(by (try dsimp only at *); exact h2.fx),
⟨⟨rfl,
⟨rfl,rfl⟩,trivial⟩,
⟨rfl,rfl⟩,
⟨rfl,rfl⟩,trivial⟩,
⟨⟨⟨Nat.le_refl _⟩,RowsEq.rfl'⟩,
⟨⟨Nat.le_refl _⟩,RowsEq.rfl'⟩,
⟨⟨Nat.le_refl _⟩,RowsEq.rfl'⟩,trivial⟩,
({ g := WX.g x1, of := WX.of x1 : NOX }),
(by (try dsimp only at *); exact h2.of),
⟨⟨rfl,
⟨rfl,rfl⟩,trivial⟩,
⟨rfl,rfl⟩,trivial⟩,
⟨⟨⟨Nat.le_refl _⟩,RowsEq.rfl'⟩,
⟨⟨Nat.le_refl _⟩,RowsEq.rfl'⟩,trivial⟩,
((0 : Nat)),
⟨(by (try dsimp only at *); omega),
⟨(by (try dsimp only at *); omega),
(by (try dsimp only at *); rfl),
(by (try dsimp only at *); rfl),
⟨rfl,rfl⟩,
⟨rfl,rfl⟩,
⟨rfl,rfl⟩,
⟨rfl,
⟨rfl,rfl⟩,trivial⟩,
⟨rfl,rfl⟩,
⟨rfl,rfl⟩,
⟨rfl,rfl⟩,
⟨rfl,rfl⟩,
⟨rfl,
⟨rfl,rfl⟩,trivial⟩,rfl,rfl,
⟨rfl,rfl⟩,
⟨rfl,
⟨rfl,rfl⟩,trivial⟩,
⟨rfl,rfl⟩,
⟨rfl,rfl⟩,
⟨rfl,rfl⟩,trivial⟩,
⟨⟨Nat.le_refl _⟩,RowsEq.rfl'⟩,
⟨⟨Nat.le_refl _⟩,RowsEq.rfl'⟩,
⟨rfl,
⟨rfl,rfl⟩,trivial⟩,
⟨⟨Nat.le_refl _⟩,RowsEq.rfl'⟩,
⟨⟨Nat.le_refl _⟩,RowsEq.rfl'⟩,
⟨⟨Nat.le_refl _⟩,RowsEq.rfl'⟩,
⟨⟨Nat.le_refl _⟩,RowsEq.rfl'⟩,trivial⟩,
fun x6 => fun h7 => ⟨fun g8 => have h8 := of_decide_eq_true g8; ⟨fun g9 => have h9 := of_decide_eq_false g9; ⟨⟨(by (try dsimp only at *); omega),
(by (try dsimp only at *); omega)⟩,
(by (try dsimp only at *); omega),
⟨(by (try dsimp only at *); ((try simp only [Nat.zero_add, Int.toNat_natCast] at *); have := nodesL_at (n := x1.g.n) (of := x1.of) (k := x6) (by omega); omega)),
(by (try dsimp only at *); ((try simp only [Nat.zero_add, Int.toNat_natCast] at *); have := nodesL_at (n := x1.g.n) (of := x1.of) (k := x6) (by omega); omega))⟩,
(by (try dsimp only at *); ((try simp only [Nat.zero_add, Int.toNat_natCast] at *); have := nodesL_at (n := x1.g.n) (of := x1.of) (k := x6) (by omega); omega)),
fun g10 => have h10 := of_decide_eq_true g10; ⟨⟨(by (try dsimp only at *); omega),
(by (try dsimp only at *); omega)⟩,
(by (try dsimp only at *); omega),
⟨(by (try dsimp only at *); ((try simp only [Nat.zero_add, Int.toNat_natCast] at *); have := nodesL_at (n := x1.g.n) (of := x1.of) (k := x6) (by omega); omega)),
(by (try dsimp only at *); ((try simp only [Nat.zero_add, Int.toNat_natCast] at *); have := nodesL_at (n := x1.g.n) (of := x1.of) (k := x6) (by omega); omega))⟩,
(by (try dsimp only at *); ((try simp only [Nat.zero_add, Int.toNat_natCast] at *); have := nodesL_at (n := x1.g.n) (of := x1.of) (k := x6) (by omega); omega)),
⟨(by (try dsimp only at *); omega),
(by (try dsimp only at *); omega)⟩,
(by (try dsimp only at *); omega),
⟨(by (try dsimp only at *); omega),
(by (try dsimp only at *); (have := nodesL_len x1.g.n x1.of; (try simp only at *); omega))⟩,
(x6 + (1 : Nat)),
(by (try dsimp only at *); omega),
(by (try dsimp only at *); omega),
⟨(by (try dsimp only at *); omega),
(by (try dsimp only at *); (((try simp only [Nat.zero_add, Int.toNat_natCast] at *); have e := (worst_up ‹_› ‹_›); first | (rw [e]; done) | (rw [e]; rfl) | (rw [e]; exact RowsEq.rfl') | (rw [e]; exact pushL_rows) | (simp only [e, List.length_append, List.length_singleton]; done) | (simp only [e, List.length_append, List.length_singleton]; omega)))),
(by (try dsimp only at *); (((try simp only [Nat.zero_add, Int.toNat_natCast] at *); have e := (worst_up ‹_› ‹_›); first | (rw [e]; done) | (rw [e]; rfl) | (rw [e]; exact RowsEq.rfl') | (rw [e]; exact pushL_rows) | (simp only [e, List.length_append, List.length_singleton]; done) | (simp only [e, List.length_append, List.length_singleton]; omega)))),
⟨rfl,rfl⟩,
⟨rfl,rfl⟩,
⟨rfl,rfl⟩,
⟨rfl,
⟨rfl,rfl⟩,trivial⟩,
⟨rfl,rfl⟩,
⟨rfl,rfl⟩,
⟨rfl,rfl⟩,
⟨rfl,rfl⟩,
⟨rfl,
⟨rfl,rfl⟩,trivial⟩,rfl,rfl,
⟨rfl,rfl⟩,
⟨rfl,
⟨rfl,rfl⟩,trivial⟩,
⟨rfl,rfl⟩,
⟨rfl,rfl⟩,
⟨rfl,rfl⟩,trivial⟩,
⟨⟨Nat.le_refl _⟩,RowsEq.rfl'⟩,
⟨⟨Nat.le_refl _⟩,RowsEq.rfl'⟩,
⟨rfl,
⟨rfl,rfl⟩,trivial⟩,
⟨⟨Nat.le_refl _⟩,RowsEq.rfl'⟩,
⟨⟨Nat.le_refl _⟩,RowsEq.rfl'⟩,
⟨⟨Nat.le_refl _⟩,RowsEq.rfl'⟩,
⟨⟨Nat.le_refl _⟩,RowsEq.rfl'⟩,trivial⟩,
fun g12 => have h12 := of_decide_eq_false g12; ⟨⟨(by (try dsimp only at *); omega),
(by (try dsimp only at *); (have := nodesL_len x1.g.n x1.of; (try simp only at *); omega))⟩,
(x6 + (1 : Nat)),
(by (try dsimp only at *); omega),
(by (try dsimp only at *); omega),
⟨(by (try dsimp only at *); omega),
(by (try dsimp only at *); (((try simp only [Nat.zero_add, Int.toNat_natCast] at *); have e := (worst_no ‹_› ‹_› ‹_›); first | (rw [e]; done) | (rw [e]; rfl) | (rw [e]; exact RowsEq.rfl') | (rw [e]; exact pushL_rows) | (simp only [e, List.length_append, List.length_singleton]; done) | (simp only [e, List.length_append, List.length_singleton]; omega)))),
(by (try dsimp only at *); (((try simp only [Nat.zero_add, Int.toNat_natCast] at *); have e := (worst_no ‹_› ‹_› ‹_›); first | (rw [e]; done) | (rw [e]; rfl) | (rw [e]; exact RowsEq.rfl') | (rw [e]; exact pushL_rows) | (simp only [e, List.length_append, List.length_singleton]; done) | (simp only [e, List.length_append, List.length_singleton]; omega)))),
⟨rfl,rfl⟩,
⟨rfl,rfl⟩,
⟨rfl,rfl⟩,
⟨rfl,
⟨rfl,rfl⟩,trivial⟩,
⟨rfl,rfl⟩,
⟨rfl,rfl⟩,
⟨rfl,rfl⟩,
⟨rfl,rfl⟩,
⟨rfl,
⟨rfl,rfl⟩,trivial⟩,rfl,rfl,
⟨rfl,rfl⟩,
⟨rfl,
⟨rfl,rfl⟩,trivial⟩,
⟨rfl,rfl⟩,
⟨rfl,rfl⟩,
⟨rfl,rfl⟩,trivial⟩,
⟨⟨Nat.le_refl _⟩,RowsEq.rfl'⟩,
⟨⟨Nat.le_refl _⟩,RowsEq.rfl'⟩,
⟨rfl,
⟨rfl,rfl⟩,trivial⟩,
⟨⟨Nat.le_refl _⟩,RowsEq.rfl'⟩,
⟨⟨Nat.le_refl _⟩,RowsEq.rfl'⟩,
⟨⟨Nat.le_refl _⟩,RowsEq.rfl'⟩,
⟨⟨Nat.le_refl _⟩,RowsEq.rfl'⟩,trivial⟩⟩,
fun g14 => have h14 := of_decide_eq_true g14; ⟨⟨(by (try dsimp only at *); omega),
(by (try dsimp only at *); omega)⟩,
(by (try dsimp only at *); omega),
⟨(by (try dsimp only at *); ((try simp only [Nat.zero_add, Int.toNat_natCast] at *); have := nodesL_at (n := x1.g.n) (of := x1.of) (k := x6) (by omega); omega)),
(by (try dsimp only at *); ((try simp only [Nat.zero_add, Int.toNat_natCast] at *); have := nodesL_at (n := x1.g.n) (of := x1.of) (k := x6) (by omega); omega))⟩,
(by (try dsimp only at *); ((try simp only [Nat.zero_add, Int.toNat_natCast] at *); have := nodesL_at (n := x1.g.n) (of := x1.of) (k := x6) (by omega); omega)),
⟨(by (try dsimp only at *); omega),
(by (try dsimp only at *); omega)⟩,
(by (try dsimp only at *); omega),
⟨(by (try dsimp only at *); omega),
(by (try dsimp only at *); (have := nodesL_len x1.g.n x1.of; (try simp only at *); omega))⟩,
(x6 + (1 : Nat)),
(by (try dsimp only at *); omega),
(by (try dsimp only at *); omega),
⟨(by (try dsimp only at *); omega),
(by (try dsimp only at *); (((try simp only [Nat.zero_add, Int.toNat_natCast] at *); have e := (worst_neg ‹_› ‹_›); first | (rw [e]; done) | (rw [e]; rfl) | (rw [e]; exact RowsEq.rfl') | (rw [e]; exact pushL_rows) | (simp only [e, List.length_append, List.length_singleton]; done) | (simp only [e, List.length_append, List.length_singleton]; omega)))),
(by (try dsimp only at *); (((try simp only [Nat.zero_add, Int.toNat_natCast] at *); have e := (worst_neg ‹_› ‹_›); first | (rw [e]; done) | (rw [e]; rfl) | (rw [e]; exact RowsEq.rfl') | (rw [e]; exact pushL_rows) | (simp only [e, List.length_append, List.length_singleton]; done) | (simp only [e, List.length_append, List.length_singleton]; omega)))),
⟨rfl,rfl⟩,
⟨rfl,rfl⟩,
⟨rfl,rfl⟩,
⟨rfl,
⟨rfl,rfl⟩,trivial⟩,
⟨rfl,rfl⟩,
⟨rfl,rfl⟩,
⟨rfl,rfl⟩,
⟨rfl,rfl⟩,
⟨rfl,
⟨rfl,rfl⟩,trivial⟩,rfl,rfl,
⟨rfl,rfl⟩,
⟨rfl,
⟨rfl,rfl⟩,trivial⟩,
⟨rfl,rfl⟩,
⟨rfl,rfl⟩,
⟨rfl,rfl⟩,trivial⟩,
⟨⟨Nat.le_refl _⟩,RowsEq.rfl'⟩,
⟨⟨Nat.le_refl _⟩,RowsEq.rfl'⟩,
⟨rfl,
⟨rfl,rfl⟩,trivial⟩,
⟨⟨Nat.le_refl _⟩,RowsEq.rfl'⟩,
⟨⟨Nat.le_refl _⟩,RowsEq.rfl'⟩,
⟨⟨Nat.le_refl _⟩,RowsEq.rfl'⟩,
⟨⟨Nat.le_refl _⟩,RowsEq.rfl'⟩,trivial⟩⟩,
fun g16 => have h16 := of_decide_eq_false g16; ⟨⟨(by (try dsimp only at *); exact congrArg Prod.fst (worst_end h7 h16)),
(by (try dsimp only at *); exact congrArg Prod.snd (worst_end h7 h16)),trivial⟩,trivial⟩⟩⟩)
theorem vworst_good : Good Tryd.prog 36 vworstC /\ FnOk Tryd.prog 36 := good_of tok conVw (fn := Tryd.f36) rfl (by decide +kernel) (fun _ => rfl) vworst_keeps
structure UX where
 g : Gr
 ts : List Int
 us : List Un
 of : List Int
structure UXok (x : UX) : Prop where
 g : GOk x.g
 n : x.g.n <= 12
 us : x.us.length <= 1048576
 of : x.of.length <= 1048576
theorem UXok.w {x : UX} (h : UXok x) : WXok ⟨x.g, x.ts, freeL x.us, x.of⟩ := ⟨⟨h.g, h.n, Nat.le_trans (freeL_len _) h.us⟩, h.of⟩
theorem UXok.f {x : UX} (h : UXok x) : FXok ⟨x.g, x.ts, freeL x.us⟩ := h.w.fx
def worstU (g : Gr) (ts : List Int) (us : List Un) (of : List Int) : Int × Int := worstR g ts (freeL us) of
def netA (g : Gr) : SV := .agg [.i .i64 g.n, .sl 100000 0 g.es.length]
def netH (g : Gr) : List (Nat × Blk) := [(100000, .rows .bor kE g.es.length (encL encE g.es))]
def vWorstC : CT where
 X := UX
 pre := UXok
 args := fun x => [netA x.g, .sl 100001 0 x.ts.length, .sl 100002 0 x.us.length, .sl 100003 0 x.of.length]
 g0 := fun x => [(100000, .rows .bor kE x.g.es.length (encL encE x.g.es)), (100001, .rows .bor k1 x.ts.length (encL encI x.ts)), (100002, .rows .bor kU x.us.length (encL encU x.us)), (100003, .rows .bor k1 x.of.length (encL encI x.of))]
 res := fun x => .tup [.i .i64 (worstU x.g x.ts x.us x.of).1, .i .i64 (worstU x.g x.ts x.us x.of).2]
 g1 := fun _ => []
def cfgVW : Cfg := ⟨T, [], [(37, .one vfreeC), (36, .one vworstC)], noInv, 50, {}⟩
theorem conVW : ConOk Tryd.prog cfgVW := ConL.ok (.cons (ConL.one vfree_good) (.cons (ConL.one vworst_good) .nil))
set_option maxRecDepth 100000 in
theorem vWorst_keeps : Keeps cfgVW Tryd.f15 vWorstC noIv := Eq.mp (show ((∀ x1 : UX, ((UXok x1)-> (∃ x3 : List Un, ((x3.length <= (1048576 : Nat))/\(((0=0 /\ x1.us.length = x3.length)/\True)/\((((RLe x3.length x1.us.length)/\(RowsEq [.int .i64, .int .i64, .int .i64, .int .i64, .int .i64, .int .i64, .int .i64, .int .i64, .int .i64, .int .i64] x3.length (encL encU x1.us) (encL encU x3)))/\True)/\(∃ x4 : WX, ((WXok x4)/\(((((x1.g.n : Int) = (x4.g.n : Int))/\((0=0 /\ x1.g.es.length = x4.g.es.length)/\True))/\((0=0 /\ x1.ts.length = x4.ts.length)/\((0=0/\((freeL x3).length = x4.src.length))/\((0=0 /\ x1.of.length = x4.of.length)/\True))))/\((((RLe x4.g.es.length x1.g.es.length)/\(RowsEq [.int .i64, .int .i64, .int .i64] x4.g.es.length (encL encE x1.g.es) (encL encE x4.g.es)))/\(((RLe x4.ts.length x1.ts.length)/\(RowsEq [.int .i64] x4.ts.length (encL encI x1.ts) (encL encI x4.ts)))/\(((RLe x4.src.length (freeL x3).length)/\(RowsEq [.int .i64] x4.src.length (encL encI (freeL x3)) (encL encI x4.src)))/\(((RLe x4.of.length x1.of.length)/\(RowsEq [.int .i64] x4.of.length (encL encI x1.of) (encL encI x4.of)))/\True))))/\(((Prod.fst (worstR x4.g x4.ts x4.src x4.of) = Prod.fst (worstU x1.g x1.ts x1.us x1.of))/\((Prod.snd (worstR x4.g x4.ts x4.src x4.of) = Prod.snd (worstU x1.g x1.ts x1.us x1.of))/\True))/\True)))))))))))) = (Keeps cfgVW Tryd.f15 vWorstC noIv) by kernel_rfl) (fun x1 => fun h2 => ⟨(UX.us x1),
(by (try dsimp only at *); exact h2.us),
⟨⟨rfl,rfl⟩,trivial⟩,
⟨⟨⟨Nat.le_refl _⟩,RowsEq.rfl'⟩,trivial⟩,
({ g := UX.g x1, ts := UX.ts x1, src := freeL (UX.us x1), of := UX.of x1 : WX }),
(by (try dsimp only at *); exact h2.w),
⟨⟨rfl,
⟨rfl,rfl⟩,trivial⟩,
⟨rfl,rfl⟩,
⟨rfl,rfl⟩,
⟨rfl,rfl⟩,trivial⟩,
⟨⟨⟨Nat.le_refl _⟩,RowsEq.rfl'⟩,
⟨⟨Nat.le_refl _⟩,RowsEq.rfl'⟩,
⟨⟨Nat.le_refl _⟩,RowsEq.rfl'⟩,
⟨⟨Nat.le_refl _⟩,RowsEq.rfl'⟩,trivial⟩,
⟨(by (try dsimp only at *); rfl),
(by (try dsimp only at *); rfl),trivial⟩,trivial⟩)
theorem vWorst_good : Good Tryd.prog 15 vWorstC /\ FnOk Tryd.prog 15 := good_of tok conVW (fn := Tryd.f15) rfl (by decide +kernel) (fun _ => rfl) vWorst_keeps
end Go.Sym