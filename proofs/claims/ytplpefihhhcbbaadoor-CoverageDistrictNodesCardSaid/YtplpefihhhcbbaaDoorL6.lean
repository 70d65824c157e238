import Derived.Test.YtplpefihhhcbbaaDoorL1
import Derived.Test.YtplpefihhhcbbaaDoorQ5
import Derived.Test.YtplpefihhhcbbaaDoorQ6
import Derived.Test.YtplpefihhhcbbaaDoorQ1
import Derived.Test.YtplpefihhhcbbaaDoorQ2
import Derived.Test.YtplpefihhhcbbaaDoorXD
namespace Go.Sym
set_option linter.unusedVariables false
set_option linter.unusedSimpArgs false
open Go.Proofs
set_option maxHeartbeats 4000000
theorem dists_mem {ds : List Int} {d : Int} {v : Int} : v ∈ distsL ds d ↔ 0 <= v /\ v < ds.length /\ ds.getD v.toNat default = d := by
 unfold distsL
 rw [List.mem_map]
 constructor
 ·rintro ⟨i, h, rfl⟩
  rw [List.mem_filter, List.mem_range, decide_eq_true_eq] at h
  exact ⟨by omega, by omega, h.2⟩
 ·rintro ⟨h1, h2, h3⟩
  exact ⟨v.toNat, List.mem_filter.2 ⟨List.mem_range.2 (by omega), decide_eq_true h3⟩, by omega⟩
theorem dists_sorted (ds : List Int) (d : Int) : (distsL ds d).Pairwise (· < ·) := by
 unfold distsL
 rw [List.pairwise_map]
 exact (List.Pairwise.filter _ List.pairwise_lt_range).imp fun h => by omega
theorem dists_places {ds : List Int} {d : Int} (h : ds.length <= 60) : elemsZ (ofW (distsL ds d) (distsL ds d).length) = placesL ds d := by
 rw [ofW_sorted (dists_sorted ds d) fun x hx => by have := dists_mem.1 hx; omega]
 unfold distsL placesL placesAt
 congr 1
 apply List.filter_congr
 intro i hi
 have := List.mem_range.1 hi
 apply decide_eq_decide.2
 exact ⟨fun q => ⟨q, by omega⟩, fun q => q.1⟩
theorem dists_has {ds : List Int} {d : Int} {k : Nat} (hl : ds.length <= 60) (hk : (k : Int) < ds.length) : (decide (0 <= (k : Int)) && hasW (ofW (distsL ds d) (distsL ds d).length) (k : Int).toNat) = decide (ds.getD k default = d) := by
 have e : (k : Int) ∈ elemsZ (ofW (distsL ds d) (distsL ds d).length) ↔ _ := ofW_mem
 rw [elemsZ_mem, dists_mem] at e
 rw [Bool.eq_iff_iff, Bool.and_eq_true, decide_eq_true_eq, decide_eq_true_eq]
 constructor
 ·rintro ⟨_, q⟩
  have := (e.1 ⟨by omega, by omega, q⟩).1.2.2
  exact this
 ·intro q
  exact ⟨by omega, (e.2 ⟨⟨by omega, hk, q⟩, by omega, by omega⟩).2.2⟩
theorem dists_q1 {ds : List Int} {d : Int} {k : Nat} (hl : ¬ 60 < (ds.length : Int)) (hk : (k : Int) < ds.length) (h : ((decide (0 <= (k : Int)) && hasW (ofW (distsL ds d) (distsL ds d).length) (k : Int).toNat) != decide (ds.getD (0 + (k : Int).toNat) default = d)) = true) : False := by
 rw [dists_has (by omega) hk, nat0] at h; simp at h
theorem dists_q2 {ds : List Int} {k : Nat} (hl : ¬ 60 < (ds.length : Int)) (hk : (k : Int) < ds.length) (h : ((decide (0 <= (k : Int)) && hasW (ofW (distsL ds (ds.getD (0 + (k : Int).toNat) default)) (distsL ds (ds.getD (0 + (k : Int).toNat) default)).length) (k : Int).toNat) != true) = true) : False := by
 rw [dists_has (by omega) hk, nat0] at h; simp at h
def lawDi : CT where
 X := DX
 pre := fun x => True
 args := fun x => [.sl 100000 0 x.ds.length, .i .i64 x.d]
 g0 := fun x => [(100000, .rows .bor k1 x.ds.length (encL encI x.ds))]
 res := fun x => .b true
 g1 := fun x => []
def distI (x : DX) (id : Nat) : Option Inv := match id with
 | 0 => some { X := Nat, ok := fun k => k <= x.ds.length, fr := fun k => [(25, .i .i64 k)], hp := fun _ => [], me := fun k => x.ds.length - k }
 | _ => none
def CDi : List (Nat × Con) := [(10, .one wakesC), (20, .one cdistC), (21, .one listC), (22, .one vplacesC), (18, .one sameC), (23, .one hasC)]
def cfgDi : Cfg := ⟨T, [], CDi, noInv, 60, {}⟩
theorem conDi : ConOk Tryd.prog cfgDi := ConL.ok (.cons (ConL.one wakes_good) (.cons (ConL.one cdist_good) (.cons (ConL.one list_good) (.cons (ConL.one vplaces_good) (.cons (ConL.one same_good) (.cons (ConL.one has_good) .nil))))))
set_option maxRecDepth 100000 in
theorem di_keeps : Keeps cfgDi Tryd.f7 lawDi distI := Eq.mp (show ((∀ x1 : DX, (True -> (∃ x3 : Unit, (True/\(True/\(True/\((false = true -> (false = true/\True))/\(false = false -> (((decide (60 < (x1.ds.length : Int)) = true)-> (true = true/\True))/\((decide (60 < (x1.ds.length : Int)) = false)-> (∃ x8 : DX, ((x8.ds.length <= (1048576 : Nat))/\(((0=0 /\ x1.ds.length = x8.ds.length)/\(x1.d = x8.d/\True))/\((((RLe x8.ds.length x1.ds.length)/\(RowsEq [.int .i64] x8.ds.length (encL encI x1.ds) (encL encI x8.ds)))/\True)/\(∃ x9 : List Nat, ((WOk x9)/\((((szW (ofW (distsL x8.ds x8.d) (distsL x8.ds x8.d).length) = szW x9)/\True)/\True)/\((((RLe (szW x9) (szW (ofW (distsL x8.ds x8.d) (distsL x8.ds x8.d).length)))/\(RowsEq [.int .u64] (szW x9) (encL encW (ofW (distsL x8.ds x8.d) (distsL x8.ds x8.d).length)) (encL encW x9)))/\True)/\(∃ x10 : DX, ((x10.ds.length <= (1048576 : Nat))/\(((0=0 /\ x1.ds.length = x10.ds.length)/\(x1.d = x10.d/\True))/\((((RLe x10.ds.length x1.ds.length)/\(RowsEq [.int .i64] x10.ds.length (encL encI x1.ds) (encL encI x10.ds)))/\True)/\(∃ x11 : LLX, ((x11.a.length <= (1073741824 : Nat))/\(((0=0/\((elemsW x9).length = x11.a.length))/\((0=0/\((placesL x10.ds x10.d).length = x11.b.length))/\True))/\((((RLe x11.a.length (elemsW x9).length)/\(RowsEq [.int .i64] x11.a.length (encL encI (elemsZ x9)) (encL encI x11.a)))/\(((RLe x11.b.length (placesL x10.ds x10.d).length)/\(RowsEq [.int .i64] x11.b.length (encL encI (placesL x10.ds x10.d)) (encL encI x11.b)))/\True))/\((((!decide (x11.a = x11.b)) = true)-> (false = true/\True))/\(((!decide (x11.a = x11.b)) = false)-> (∃ x14 : Nat, (((x14 <= x1.ds.length)/\(((0 = (x14 : Int))/\(((x1.ds.length : Int) = (x1.ds.length : Int))/\((0=0 /\ x1.ds.length = x1.ds.length)/\(((!decide (x11.a = x11.b)) = !decide (x11.a = x11.b))/\((decide (x11.a = x11.b) = decide (x11.a = x11.b))/\((0=0/\((placesL x10.ds x10.d).length = (placesL x10.ds x10.d).length))/\(x1.d = x1.d/\((0=0 /\ x1.ds.length = x1.ds.length)/\((0=0/\((elemsW x9).length = (elemsW x9).length))/\(((szW (ofW (distsL x8.ds x8.d) (distsL x8.ds x8.d).length) = szW (ofW (distsL x8.ds x8.d) (distsL x8.ds x8.d).length))/\True)/\((0=0 /\ 0=0)/\(((szW (ofW (distsL x8.ds x8.d) (distsL x8.ds x8.d).length) = szW (ofW (distsL x8.ds x8.d) (distsL x8.ds x8.d).length))/\True)/\(x1.d = x1.d/\((0=0 /\ x1.ds.length = x1.ds.length)/\((decide (60 < (x1.ds.length : Int)) = decide (60 < (x1.ds.length : Int)))/\(((x1.ds.length : Int) = (x1.ds.length : Int))/\((0=0 /\ x1.ds.length = x1.ds.length)/\(false = false/\(true = true/\((0=0 /\ x1.ds.length = x1.ds.length)/\(x1.d = x1.d/\True)))))))))))))))))))))/\(((RLe (placesL x10.ds x10.d).length (placesL x10.ds x10.d).length)/\(RowsEq [.int .i64] (placesL x10.ds x10.d).length (encL encI (placesL x10.ds x10.d)) (encL encI (placesL x10.ds x10.d))))/\(((RLe (elemsW x9).length (elemsW x9).length)/\(RowsEq [.int .i64] (elemsW x9).length (encL encI (elemsZ x9)) (encL encI (elemsZ x9))))/\(((szW (ofW (distsL x8.ds x8.d) (distsL x8.ds x8.d).length) = szW (ofW (distsL x8.ds x8.d) (distsL x8.ds x8.d).length))/\True)/\(((RLe (szW (ofW (distsL x8.ds x8.d) (distsL x8.ds x8.d).length)) (szW (ofW (distsL x8.ds x8.d) (distsL x8.ds x8.d).length)))/\(RowsEq [.int .u64] (szW (ofW (distsL x8.ds x8.d) (distsL x8.ds x8.d).length)) (encL encW (ofW (distsL x8.ds x8.d) (distsL x8.ds x8.d).length)) (encL encW (ofW (distsL x8.ds x8.d) (distsL x8.ds x8.d).length))))/\(((RLe x1.ds.length x1.ds.length)/\(RowsEq [.int .i64] x1.ds.length (encL encI x1.ds) (encL encI x1.ds)))/\True)))))))/\(∀ x15 : Nat, ((x15 <= x1.ds.length)-> (((decide ((x15 : Int) < (x1.ds.length : Int)) = true)-> ((((0 : Int) <= (x15 : Int))/\((x15 : Int) < (x1.ds.length : Int)))/\((0 + Int.toNat (x15 : Int) < x1.ds.length)/\(∃ x18 : DX, ((x18.ds.length <= (1048576 : Nat))/\(((0=0 /\ x1.ds.length = x18.ds.length)/\((x1.ds.getD (0 + Int.toNat (x15 : Int)) default = x18.d)/\True))/\((((RLe x18.ds.length x1.ds.length)/\(RowsEq [.int .i64] x18.ds.length (encL encI x1.ds) (encL encI x18.ds)))/\True)/\(∃ x19 : BitX, ((WOk x19.ws)/\((((szW (ofW (distsL x18.ds x18.d) (distsL x18.ds x18.d).length) = szW x19.ws)/\True)/\(((x15 : Int) = x19.n)/\True))/\((((RLe (szW x19.ws) (szW (ofW (distsL x18.ds x18.d) (distsL x18.ds x18.d).length)))/\(RowsEq [.int .u64] (szW x19.ws) (encL encW (ofW (distsL x18.ds x18.d) (distsL x18.ds x18.d).length)) (encL encW x19.ws)))/\True)/\(((((decide ((0 : Int) <= x19.n) && hasW x19.ws (Int.toNat x19.n)) != true) = false)-> (∃ x21 : BitX, ((WOk x21.ws)/\((((szW (ofW (distsL x8.ds x8.d) (distsL x8.ds x8.d).length) = szW x21.ws)/\True)/\(((x15 : Int) = x21.n)/\True))/\((((RLe (szW x21.ws) (szW (ofW (distsL x8.ds x8.d) (distsL x8.ds x8.d).length)))/\(RowsEq [.int .u64] (szW x21.ws) (encL encW (ofW (distsL x8.ds x8.d) (distsL x8.ds x8.d).length)) (encL encW x21.ws)))/\True)/\(((((decide ((0 : Int) <= x21.n) && hasW x21.ws (Int.toNat x21.n)) != decide (x1.ds.getD (0 + Int.toNat (x15 : Int)) default = x1.d)) = true)-> (false = true/\True))/\((((decide ((0 : Int) <= x21.n) && hasW x21.ws (Int.toNat x21.n)) != decide (x1.ds.getD (0 + Int.toNat (x15 : Int)) default = x1.d)) = false)-> ((((-9223372036854775808 : Int) <= (x15 : Int) + 1)/\((x15 : Int) + 1 <= (9223372036854775807 : Int)))/\(∃ x24 : Nat, ((x1.ds.length - x24 < x1.ds.length - x15)/\((x24 <= x1.ds.length)/\((((x15 : Int) + 1 = (x24 : Int))/\(((x1.ds.length : Int) = (x1.ds.length : Int))/\((0=0 /\ x1.ds.length = x1.ds.length)/\(((!decide (x11.a = x11.b)) = !decide (x11.a = x11.b))/\((decide (x11.a = x11.b) = decide (x11.a = x11.b))/\((0=0/\((placesL x10.ds x10.d).length = (placesL x10.ds x10.d).length))/\(x1.d = x1.d/\((0=0 /\ x1.ds.length = x1.ds.length)/\((0=0/\((elemsW x9).length = (elemsW x9).length))/\(((szW (ofW (distsL x8.ds x8.d) (distsL x8.ds x8.d).length) = szW (ofW (distsL x8.ds x8.d) (distsL x8.ds x8.d).length))/\True)/\((0=0 /\ 0=0)/\(((szW (ofW (distsL x8.ds x8.d) (distsL x8.ds x8.d).length) = szW (ofW (distsL x8.ds x8.d) (distsL x8.ds x8.d).length))/\True)/\(x1.d = x1.d/\((0=0 /\ x1.ds.length = x1.ds.length)/\((decide (60 < (x1.ds.length : Int)) = decide (60 < (x1.ds.length : Int)))/\(((x1.ds.length : Int) = (x1.ds.length : Int))/\((0=0 /\ x1.ds.length = x1.ds.length)/\(false = false/\(true = true/\((0=0 /\ x1.ds.length = x1.ds.length)/\(x1.d = x1.d/\True)))))))))))))))))))))/\(((RLe (placesL x10.ds x10.d).length (placesL x10.ds x10.d).length)/\(RowsEq [.int .i64] (placesL x10.ds x10.d).length (encL encI (placesL x10.ds x10.d)) (encL encI (placesL x10.ds x10.d))))/\(((RLe (elemsW x9).length (elemsW x9).length)/\(RowsEq [.int .i64] (elemsW x9).length (encL encI (elemsZ x9)) (encL encI (elemsZ x9))))/\(((szW (ofW (distsL x8.ds x8.d) (distsL x8.ds x8.d).length) = szW (ofW (distsL x8.ds x8.d) (distsL x8.ds x8.d).length))/\True)/\(((RLe (szW (ofW (distsL x8.ds x8.d) (distsL x8.ds x8.d).length)) (szW (ofW (distsL x8.ds x8.d) (distsL x8.ds x8.d).length)))/\(RowsEq [.int .u64] (szW (ofW (distsL x8.ds x8.d) (distsL x8.ds x8.d).length)) (encL encW (ofW (distsL x8.ds x8.d) (distsL x8.ds x8.d).length)) (encL encW (ofW (distsL x8.ds x8.d) (distsL x8.ds x8.d).length))))/\(((RLe x1.ds.length x1.ds.length)/\(RowsEq [.int .i64] x1.ds.length (encL encI x1.ds) (encL encI x1.ds)))/\True)))))))))))))))))/\((((decide ((0 : Int) <= x19.n) && hasW x19.ws (Int.toNat x19.n)) != true) = true)-> (false = true/\True))))))))))))))/\((decide ((x15 : Int) < (x1.ds.length : Int)) = false)-> (true = true/\True)))))))))))))))))))))))))))))))))))) = (Keeps cfgDi Tryd.f7 lawDi distI) by kernel_rfl) (fun x1 => fun h2 => ⟨(()),
 trivial,trivial,trivial,
fun h4 => ⟨(by (try dsimp only at *); omega),trivial⟩,
fun h5 => ⟨fun g6 => have h6 := of_decide_eq_true g6; ⟨rfl,trivial⟩,
fun g7 => have h7 := of_decide_eq_false g7; ⟨(x1),
(by (try dsimp only at *); omega),
⟨⟨rfl,rfl⟩,rfl,trivial⟩,
⟨⟨⟨Nat.le_refl _⟩,RowsEq.rfl'⟩,trivial⟩,
(ofW (distsL (DX.ds x1) (DX.d x1)) (List.length (distsL (DX.ds x1) (DX.d x1)))),
(by (try dsimp only at *); exact ofW_ok _ _),
⟨⟨rfl,trivial⟩,trivial⟩,
⟨⟨⟨Nat.le_refl _⟩,RowsEq.rfl'⟩,trivial⟩,
(x1),
(by (try dsimp only at *); omega),
⟨⟨rfl,rfl⟩,rfl,trivial⟩,
⟨⟨⟨Nat.le_refl _⟩,RowsEq.rfl'⟩,trivial⟩,
({ a := elemsZ (ofW (distsL (DX.ds x1) (DX.d x1)) (List.length (distsL (DX.ds x1) (DX.d x1)))), b := placesL (DX.ds x1) (DX.d x1) : LLX }),
(by (try dsimp only at *); (show (elemsZ _).length <= 1073741824; rw [elemsZ_len]; have := elemsW_len (ofW (distsL x1.ds x1.d) (distsL x1.ds x1.d).length); omega)),
⟨⟨rfl,
(by (try dsimp only at *); exact (elemsZ_len _).symm)⟩,
⟨rfl,rfl⟩,trivial⟩,
⟨⟨⟨(by (try dsimp only at *); exact Nat.le_of_eq (elemsZ_len _))⟩,RowsEq.rfl'⟩,
⟨⟨Nat.le_refl _⟩,RowsEq.rfl'⟩,trivial⟩,
fun g12 => have h12 := of_not_decide_true g12; ⟨(by (try dsimp only at *); exact absurd (dists_places (ds := x1.ds) (d := x1.d) (by omega)) h12),trivial⟩,
fun g13 => have h13 := of_not_decide_false g13; ⟨((0 : Nat)),
⟨(by (try dsimp only at *); omega),
⟨(by (try dsimp only at *); omega),rfl,
⟨rfl,rfl⟩,rfl,rfl,
⟨rfl,rfl⟩,rfl,
⟨rfl,rfl⟩,
⟨rfl,rfl⟩,
⟨rfl,trivial⟩,
⟨rfl,rfl⟩,
⟨rfl,trivial⟩,rfl,
⟨rfl,rfl⟩,rfl,rfl,
⟨rfl,rfl⟩,rfl,rfl,
⟨rfl,rfl⟩,rfl,trivial⟩,
⟨⟨Nat.le_refl _⟩,RowsEq.rfl'⟩,
⟨⟨Nat.le_refl _⟩,RowsEq.rfl'⟩,
⟨rfl,trivial⟩,
⟨⟨Nat.le_refl _⟩,RowsEq.rfl'⟩,
⟨⟨Nat.le_refl _⟩,RowsEq.rfl'⟩,trivial⟩,
fun x15 => fun h16 => ⟨fun g17 => have h17 := of_decide_eq_true g17; ⟨⟨(by (try dsimp only at *); omega),
(by (try dsimp only at *); omega)⟩,
(by (try dsimp only at *); omega),
({ ds := DX.ds x1, d := List.getD (DX.ds x1) ((0 : Nat) + Int.toNat (↑x15 : Int)) default : DX }),
(by (try dsimp only at *); omega),
⟨⟨rfl,rfl⟩,rfl,trivial⟩,
⟨⟨⟨Nat.le_refl _⟩,RowsEq.rfl'⟩,trivial⟩,
({ ws := ofW (distsL (DX.ds x1) (List.getD (DX.ds x1) ((0 : Nat) + Int.toNat (↑x15 : Int)) default)) (List.length (distsL (DX.ds x1) (List.getD (DX.ds x1) ((0 : Nat) + Int.toNat (↑x15 : Int)) default))), n := (↑x15 : Int) : BitX }),
(by (try dsimp only at *); exact ofW_ok _ _),
⟨⟨rfl,trivial⟩,rfl,trivial⟩,
⟨⟨⟨Nat.le_refl _⟩,RowsEq.rfl'⟩,trivial⟩,
fun h20 => ⟨({ ws := ofW (distsL (DX.ds x1) (DX.d x1)) (List.length (distsL (DX.ds x1) (DX.d x1))), n := (↑x15 : Int) : BitX }),
(by (try dsimp only at *); exact ofW_ok _ _),
⟨⟨rfl,trivial⟩,rfl,trivial⟩,
⟨⟨⟨Nat.le_refl _⟩,RowsEq.rfl'⟩,trivial⟩,
fun h22 => ⟨(by (try dsimp only at *); exact (dists_q1 h7 h17 h22).elim),trivial⟩,
fun h23 => ⟨⟨(by (try dsimp only at *); omega),
(by (try dsimp only at *); omega)⟩,
(x15 + (1 : Nat)),
(by (try dsimp only at *); omega),
(by (try dsimp only at *); omega),
⟨(by (try dsimp only at *); omega),rfl,
⟨rfl,rfl⟩,rfl,rfl,
⟨rfl,rfl⟩,rfl,
⟨rfl,rfl⟩,
⟨rfl,rfl⟩,
⟨rfl,trivial⟩,
⟨rfl,rfl⟩,
⟨rfl,trivial⟩,rfl,
⟨rfl,rfl⟩,rfl,rfl,
⟨rfl,rfl⟩,rfl,rfl,
⟨rfl,rfl⟩,rfl,trivial⟩,
⟨⟨Nat.le_refl _⟩,RowsEq.rfl'⟩,
⟨⟨Nat.le_refl _⟩,RowsEq.rfl'⟩,
⟨rfl,trivial⟩,
⟨⟨Nat.le_refl _⟩,RowsEq.rfl'⟩,
⟨⟨Nat.le_refl _⟩,RowsEq.rfl'⟩,trivial⟩⟩,
fun h25 => ⟨(by (try dsimp only at *); exact (dists_q2 h7 h17 h25).elim),trivial⟩⟩,
fun g26 => have h26 := of_decide_eq_false g26; ⟨rfl,trivial⟩⟩⟩⟩⟩⟩)
theorem di_good : Good Tryd.prog 7 lawDi := (good_of tok conDi (fn := Tryd.f7) rfl (by decide +kernel) (fun _ => rfl) di_keeps).1
end Go.Sym