import Derived.Test.YtplpefihhhcbbaaDoorP6
import Derived.Test.YtplpefihhhcbbaaDoorXD
namespace Go.Sym
set_option linter.unusedVariables false
set_option linter.unusedSimpArgs false
open Go.Proofs
set_option maxHeartbeats 4000000
def placesAt (ds : List Int) (d : Int) (k : Nat) : List Int := ((List.range k).filter fun (i : Nat) => decide (ds.getD i default = d /\ i < 4096)).map fun (i : Nat) => (i : Int)
def placesL (ds : List Int) (d : Int) : List Int := placesAt ds d ds.length
structure DX where
 ds : List Int
 d : Int
def vplacesC : CT where
 X := DX
 pre := fun x => x.ds.length <= 1048576
 args := fun x => [.sl 100000 0 x.ds.length, .i .i64 x.d]
 g0 := fun x => [(100000, .rows .bor k1 x.ds.length (encL encI x.ds))]
 res := fun x => .sl 1 0 (placesL x.ds x.d).length
 g1 := fun x => [(1, .rows .own k1 (placesL x.ds x.d).length (encL encI (placesL x.ds x.d)))]
theorem placesAt_len (ds : List Int) (d : Int) (k : Nat) : (placesAt ds d k).length <= k := by
 unfold placesAt; rw [List.length_map]
 have := List.length_filter_le (fun i => decide (ds.getD i default = d /\ i < 4096)) (List.range k); simpa using this
theorem places_yes {ds : List Int} {d : Int} {k : Nat} (h : ds.getD k default = d) (h2 : (k : Int) < 4096) : placesAt ds d (k + 1) = placesAt ds d k ++ [(k : Int)] := by
 unfold placesAt; rw [List.range_succ, List.filter_append, List.filter_cons, if_pos (decide_eq_true ⟨h, by omega⟩), List.map_append]; rfl
theorem places_no1 {ds : List Int} {d : Int} {k : Nat} (h : ¬ ds.getD k default = d) : placesAt ds d (k + 1) = placesAt ds d k := by
 unfold placesAt; rw [List.range_succ, List.filter_append, List.filter_cons, if_neg (by rw [decide_eq_false (fun q => h q.1)]; decide)]; simp
theorem places_no2 {ds : List Int} {d : Int} {k : Nat} (h : ¬ (k : Int) < 4096) : placesAt ds d (k + 1) = placesAt ds d k := by
 unfold placesAt; rw [List.range_succ, List.filter_append, List.filter_cons, if_neg (by rw [decide_eq_false (fun q => by omega)]; decide)]; simp
theorem places_end {ds : List Int} {d : Int} {k : Nat} (hle : k <= ds.length) (h : ¬ (k : Int) < ds.length) : placesAt ds d k = placesL ds d := by
 have : k = ds.length := by omega
 rw [this]; rfl
def vplacesI (x : DX) (id : Nat) : Option Inv := match id with
 | 0 => some { X := Nat, ok := fun k => k <= x.ds.length, fr := fun k => [(6, .i .i64 k), (5, .sl 61 0 (placesAt x.ds x.d k).length)], hp := fun k => [(61, .rows .own k1 (placesAt x.ds x.d k).length (encL encI (placesAt x.ds x.d k)))], me := fun k => x.ds.length - k }
 | _ => none
set_option maxRecDepth 100000 in
theorem vplaces_keeps : Keeps cfgN0 Tryd.f22 vplacesC vplacesI := Eq.mp (show ((∀ x1 : DX, ((x1.ds.length <= (1048576 : Nat))-> (∃ x3 : Nat, (((x3 <= x1.ds.length)/\(((0 = (x3 : Int))/\((True/\(0=0/\((placesAt x1.ds x1.d x3).length = (0 : Nat))))/\(True/\((0=0 /\ x1.ds.length = x1.ds.length)/\(x1.d = x1.d/\True)))))/\(((placesAt x1.ds x1.d x3).length = (0 : Nat))/\(((RLe x1.ds.length x1.ds.length)/\(RowsEq [.int .i64] x1.ds.length (encL encI x1.ds) (encL encI x1.ds)))/\True))))/\(∀ x4 : Nat, ((x4 <= x1.ds.length)-> (((decide ((x4 : Int) < (x1.ds.length : Int)) = true)-> ((((0 : Int) <= (x4 : Int))/\((x4 : Int) < (x1.ds.length : Int)))/\((0 + Int.toNat (x4 : Int) < x1.ds.length)/\(((decide (x1.ds.getD (0 + Int.toNat (x4 : Int)) default = x1.d) = true)-> (((decide ((x4 : Int) < 4096) = true)-> (((True/\True)/\True)/\((0=0/\(((placesAt x1.ds x1.d x4).length <= (placesAt x1.ds x1.d x4).length)/\(((1 : Nat) <= (1 : Nat))/\((placesAt x1.ds x1.d x4).length + (1 : Nat) <= (1073741824 : Nat)))))/\((((-9223372036854775808 : Int) <= (x4 : Int) + 1)/\((x4 : Int) + 1 <= (9223372036854775807 : Int)))/\(∃ x9 : Nat, ((x1.ds.length - x9 < x1.ds.length - x4)/\((x9 <= x1.ds.length)/\((((x4 : Int) + 1 = (x9 : Int))/\((0=0/\((placesAt x1.ds x1.d x4).length + (1 : Nat) = (placesAt x1.ds x1.d x9).length))/\(True/\((0=0 /\ x1.ds.length = x1.ds.length)/\(x1.d = x1.d/\True)))))/\(((RLe (placesAt x1.ds x1.d x9).length ((placesAt x1.ds x1.d x4).length + (1 : Nat)))/\(RowsEq [.int .i64] (placesAt x1.ds x1.d x9).length (appRows (placesAt x1.ds x1.d x4).length (encL encI (placesAt x1.ds x1.d x4)) 0 (litRows ((D.i (x4 : Int) :: @List.nil D) :: @List.nil (List D)))) (encL encI (placesAt x1.ds x1.d x9))))/\(((RLe x1.ds.length x1.ds.length)/\(RowsEq [.int .i64] x1.ds.length (encL encI x1.ds) (encL encI x1.ds)))/\True))))))))))/\((decide ((x4 : Int) < 4096) = false)-> ((((-9223372036854775808 : Int) <= (x4 : Int) + 1)/\((x4 : Int) + 1 <= (9223372036854775807 : Int)))/\(∃ x11 : Nat, ((x1.ds.length - x11 < x1.ds.length - x4)/\((x11 <= x1.ds.length)/\((((x4 : Int) + 1 = (x11 : Int))/\((0=0/\((placesAt x1.ds x1.d x4).length = (placesAt x1.ds x1.d x11).length))/\(True/\((0=0 /\ x1.ds.length = x1.ds.length)/\(x1.d = x1.d/\True)))))/\(((RLe (placesAt x1.ds x1.d x11).length (placesAt x1.ds x1.d x4).length)/\(RowsEq [.int .i64] (placesAt x1.ds x1.d x11).length (encL encI (placesAt x1.ds x1.d x4)) (encL encI (placesAt x1.ds x1.d x11))))/\(((RLe x1.ds.length x1.ds.length)/\(RowsEq [.int .i64] x1.ds.length (encL encI x1.ds) (encL encI x1.ds)))/\True))))))))))/\((decide (x1.ds.getD (0 + Int.toNat (x4 : Int)) default = x1.d) = false)-> ((((-9223372036854775808 : Int) <= (x4 : Int) + 1)/\((x4 : Int) + 1 <= (9223372036854775807 : Int)))/\(∃ x13 : Nat, ((x1.ds.length - x13 < x1.ds.length - x4)/\((x13 <= x1.ds.length)/\((((x4 : Int) + 1 = (x13 : Int))/\((0=0/\((placesAt x1.ds x1.d x4).length = (placesAt x1.ds x1.d x13).length))/\(True/\((0=0 /\ x1.ds.length = x1.ds.length)/\(x1.d = x1.d/\True)))))/\(((RLe (placesAt x1.ds x1.d x13).length (placesAt x1.ds x1.d x4).length)/\(RowsEq [.int .i64] (placesAt x1.ds x1.d x13).length (encL encI (placesAt x1.ds x1.d x4)) (encL encI (placesAt x1.ds x1.d x13))))/\(((RLe x1.ds.length x1.ds.length)/\(RowsEq [.int .i64] x1.ds.length (encL encI x1.ds) (encL encI x1.ds)))/\True))))))))))))/\((decide ((x4 : Int) < (x1.ds.length : Int)) = false)-> ((0=0/\((placesAt x1.ds x1.d x4).length = (placesL x1.ds x1.d).length))/\(((RLe (placesL x1.ds x1.d).length (placesAt x1.ds x1.d x4).length)/\(RowsEq [.int .i64] (placesL x1.ds x1.d).length (encL encI (placesAt x1.ds x1.d x4)) (encL encI (placesL x1.ds x1.d))))/\True))))))))))) = (Keeps cfgN0 Tryd.f22 vplacesC vplacesI) by kernel_rfl) (fun x1 => fun h2 => ⟨((0 : Nat)),
⟨(by (try dsimp only at *); omega),
⟨(by (try dsimp only at *); omega),
⟨trivial,rfl,
(by (try dsimp only at *); rfl)⟩,trivial,
⟨rfl,rfl⟩,rfl,trivial⟩,
(by (try dsimp only at *); rfl),
⟨⟨Nat.le_refl _⟩,RowsEq.rfl'⟩,trivial⟩,
fun x4 => fun h5 => ⟨fun g6 => have h6 := of_decide_eq_true g6; ⟨⟨(by (try dsimp only at *); omega),
(by (try dsimp only at *); omega)⟩,
(by (try dsimp only at *); omega),
fun g7 => have h7 := of_decide_eq_true g7; ⟨fun g8 => have h8 := of_decide_eq_true g8; ⟨⟨⟨trivial,trivial⟩,trivial⟩,
⟨rfl,
(by (try dsimp only at *); omega),
(by (try dsimp only at *); omega),
(by (try dsimp only at *); (have := placesAt_len x1.ds x1.d x4; omega))⟩,
⟨(by (try dsimp only at *); omega),
(by (try dsimp only at *); omega)⟩,
(x4 + (1 : Nat)),
(by (try dsimp only at *); omega),
(by (try dsimp only at *); omega),
⟨(by (try dsimp only at *); omega),
⟨rfl,
(by (try dsimp only at *); (((try simp only [Nat.zero_add, Int.toNat_natCast] at *); have e := (places_yes ‹_› ‹_›); first | (rw [e]; done) | (rw [e]; rfl) | (rw [e]; exact RowsEq.rfl') | (rw [e]; exact pushL_rows) | (simp only [e, List.length_append, List.length_singleton]; done) | (simp only [e, List.length_append, List.length_singleton]; omega))))⟩,trivial,
⟨rfl,rfl⟩,rfl,trivial⟩,
⟨⟨(by (try dsimp only at *); (((try simp only [Nat.zero_add, Int.toNat_natCast] at *); have e := (places_yes ‹_› ‹_›); first | (rw [e]; done) | (rw [e]; rfl) | (rw [e]; exact RowsEq.rfl') | (rw [e]; exact pushL_rows) | (simp only [e, List.length_append, List.length_singleton]; done) | (simp only [e, List.length_append, List.length_singleton]; omega))))⟩,
(by (try dsimp only at *); (((try simp only [Nat.zero_add, Int.toNat_natCast] at *); have e := (places_yes ‹_› ‹_›); first | (rw [e]; done) | (rw [e]; rfl) | (rw [e]; exact RowsEq.rfl') | (rw [e]; exact pushL_rows) | (simp only [e, List.length_append, List.length_singleton]; done) | (simp only [e, List.length_append, List.length_singleton]; omega))))⟩,
⟨⟨Nat.le_refl _⟩,RowsEq.rfl'⟩,trivial⟩,
fun g10 => have h10 := of_decide_eq_false g10; ⟨⟨(by (try dsimp only at *); omega),
(by (try dsimp only at *); omega)⟩,
(x4 + (1 : Nat)),
(by (try dsimp only at *); omega),
(by (try dsimp only at *); omega),
⟨(by (try dsimp only at *); omega),
⟨rfl,
(by (try dsimp only at *); (((try simp only [Nat.zero_add, Int.toNat_natCast] at *); have e := (places_no2 (ds := x1.ds) (d := x1.d) ‹_›); first | (rw [e]; done) | (rw [e]; rfl) | (rw [e]; exact RowsEq.rfl') | (rw [e]; exact pushL_rows) | (simp only [e, List.length_append, List.length_singleton]; done) | (simp only [e, List.length_append, List.length_singleton]; omega))))⟩,trivial,
⟨rfl,rfl⟩,rfl,trivial⟩,
⟨⟨(by (try dsimp only at *); (((try simp only [Nat.zero_add, Int.toNat_natCast] at *); have e := (places_no2 (ds := x1.ds) (d := x1.d) ‹_›); first | (rw [e]; done) | (rw [e]; rfl) | (rw [e]; exact RowsEq.rfl') | (rw [e]; exact pushL_rows) | (simp only [e, List.length_append, List.length_singleton]; done) | (simp only [e, List.length_append, List.length_singleton]; omega))))⟩,
(by (try dsimp only at *); (((try simp only [Nat.zero_add, Int.toNat_natCast] at *); have e := (places_no2 (ds := x1.ds) (d := x1.d) ‹_›); first | (rw [e]; done) | (rw [e]; rfl) | (rw [e]; exact RowsEq.rfl') | (rw [e]; exact pushL_rows) | (simp only [e, List.length_append, List.length_singleton]; done) | (simp only [e, List.length_append, List.length_singleton]; omega))))⟩,
⟨⟨Nat.le_refl _⟩,RowsEq.rfl'⟩,trivial⟩⟩,
fun g12 => have h12 := of_decide_eq_false g12; ⟨⟨(by (try dsimp only at *); omega),
(by (try dsimp only at *); omega)⟩,
(x4 + (1 : Nat)),
(by (try dsimp only at *); omega),
(by (try dsimp only at *); omega),
⟨(by (try dsimp only at *); omega),
⟨rfl,
(by (try dsimp only at *); (((try simp only [Nat.zero_add, Int.toNat_natCast] at *); have e := (places_no1 ‹_›); first | (rw [e]; done) | (rw [e]; rfl) | (rw [e]; exact RowsEq.rfl') | (rw [e]; exact pushL_rows) | (simp only [e, List.length_append, List.length_singleton]; done) | (simp only [e, List.length_append, List.length_singleton]; omega))))⟩,trivial,
⟨rfl,rfl⟩,rfl,trivial⟩,
⟨⟨(by (try dsimp only at *); (((try simp only [Nat.zero_add, Int.toNat_natCast] at *); have e := (places_no1 ‹_›); first | (rw [e]; done) | (rw [e]; rfl) | (rw [e]; exact RowsEq.rfl') | (rw [e]; exact pushL_rows) | (simp only [e, List.length_append, List.length_singleton]; done) | (simp only [e, List.length_append, List.length_singleton]; omega))))⟩,
(by (try dsimp only at *); (((try simp only [Nat.zero_add, Int.toNat_natCast] at *); have e := (places_no1 ‹_›); first | (rw [e]; done) | (rw [e]; rfl) | (rw [e]; exact RowsEq.rfl') | (rw [e]; exact pushL_rows) | (simp only [e, List.length_append, List.length_singleton]; done) | (simp only [e, List.length_append, List.length_singleton]; omega))))⟩,
⟨⟨Nat.le_refl _⟩,RowsEq.rfl'⟩,trivial⟩⟩,
fun g14 => have h14 := of_decide_eq_false g14; ⟨⟨rfl,
(by (try dsimp only at *); (((try simp only [Nat.zero_add, Int.toNat_natCast] at *); have e := (places_end (d := x1.d) h5 h14); first | (rw [e]; done) | (rw [e]; rfl) | (rw [e]; exact RowsEq.rfl') | (rw [e]; exact pushL_rows) | (simp only [e, List.length_append, List.length_singleton]; done) | (simp only [e, List.length_append, List.length_singleton]; omega))))⟩,
⟨⟨(by (try dsimp only at *); (((try simp only [Nat.zero_add, Int.toNat_natCast] at *); have e := (places_end (d := x1.d) h5 h14); first | (rw [e]; done) | (rw [e]; rfl) | (rw [e]; exact RowsEq.rfl') | (rw [e]; exact pushL_rows) | (simp only [e, List.length_append, List.length_singleton]; done) | (simp only [e, List.length_append, List.length_singleton]; omega))))⟩,
(by (try dsimp only at *); (((try simp only [Nat.zero_add, Int.toNat_natCast] at *); have e := (places_end (d := x1.d) h5 h14); first | (rw [e]; done) | (rw [e]; rfl) | (rw [e]; exact RowsEq.rfl') | (rw [e]; exact pushL_rows) | (simp only [e, List.length_append, List.length_singleton]; done) | (simp only [e, List.length_append, List.length_singleton]; omega))))⟩,trivial⟩⟩⟩)
theorem vplaces_good : Good Tryd.prog 22 vplacesC /\ FnOk Tryd.prog 22 := good_of tok conN0 (fn := Tryd.f22) rfl (by decide +kernel) (fun _ => rfl) vplaces_keeps
end Go.Sym