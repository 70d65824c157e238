import Derived.Test.YtplpefihhhcbbaaDoorR9
import Derived.Test.YtplpefihhhcbbaaDoorXD
namespace Go.Sym
set_option linter.unusedVariables false
set_option linter.unusedSimpArgs false
open Go.Proofs
set_option maxHeartbeats 4000000
structure DYX where
 ds : List Int
 d : Int
def distsL (ds : List Int) (d : Int) : List Int := ((List.range ds.length).filter fun (i : Nat) => decide (ds.getD i default = d)).map fun (i : Nat) => (i : Int)
def distsAt (ds : List Int) (d : Int) (k : Nat) : List Int := ((List.range k).filter fun (i : Nat) => decide (ds.getD i default = d)).map fun (i : Nat) => (i : Int)
theorem distsAt_len (ds : List Int) (d : Int) (k : Nat) : (distsAt ds d k).length <= k := by
 unfold distsAt; rw [List.length_map]
 have := List.length_filter_le (fun i => decide (ds.getD i default = d)) (List.range k); simpa using this
theorem dists_yes {ds : List Int} {d : Int} {k : Nat} (h : ds.getD k default = d) : distsAt ds d (k + 1) = distsAt ds d k ++ [(k : Int)] := by
 unfold distsAt; rw [List.range_succ, List.filter_append, List.filter_cons, if_pos (decide_eq_true h), List.map_append]; rfl
theorem dists_no {ds : List Int} {d : Int} {k : Nat} (h : ¬ ds.getD k default = d) : distsAt ds d (k + 1) = distsAt ds d k := by
 unfold distsAt; rw [List.range_succ, List.filter_append, List.filter_cons, if_neg (by rw [decide_eq_false h]; decide)]; simp
theorem dists_end {ds : List Int} {d : Int} {k : Nat} (hle : k <= ds.length) (h : ¬ (k : Int) < ds.length) : distsAt ds d k = distsL ds d := by
 have : k = ds.length := by omega
 rw [this]; rfl
def cdistC : CT where
 X := DX
 pre := fun x => x.ds.length <= 1048576
 args := fun x => [.sl 100000 0 x.ds.length, .i .i64 x.d]
 g0 := fun x => [(100000, .rows .bor k1 x.ds.length (encL encI x.ds))]
 res := fun x => setV (ofW (distsL x.ds x.d) (distsL x.ds x.d).length) 1
 g1 := fun x => setH (ofW (distsL x.ds x.d) (distsL x.ds x.d).length) .own 1
def cdistI (x : DX) (id : Nat) : Option Inv := match id with
 | 0 => some { X := Nat, ok := fun k => k <= x.ds.length, fr := fun k => [(10, .i .i64 k), (5, .sl 61 0 (distsAt x.ds x.d k).length)], hp := fun k => [(61, .rows .own k1 (distsAt x.ds x.d k).length (encL encI (distsAt x.ds x.d k)))], me := fun k => x.ds.length - k }
 | _ => none
def cfgQ5 : Cfg := ⟨T, [], [(14, .one ofC)], noInv, 60, {}⟩
theorem conQ5 : ConOk Tryd.prog cfgQ5 := ConL.ok (.cons (ConL.one of_good) .nil)
set_option maxRecDepth 100000 in
theorem cdist_keeps : Keeps cfgQ5 Tryd.f20 cdistC cdistI := Eq.mp (show ((∀ x1 : DX, ((x1.ds.length <= (1048576 : Nat))-> (∃ x3 : Nat, (((x3 <= x1.ds.length)/\(((0 = (x3 : Int))/\((True/\(0=0/\((distsAt x1.ds x1.d x3).length = (0 : Nat))))/\(((x1.ds.length : Int) = (x1.ds.length : Int))/\((0=0 /\ x1.ds.length = x1.ds.length)/\((0=0 /\ 0=0)/\((0=0 /\ x1.ds.length = x1.ds.length)/\(x1.d = x1.d/\True)))))))/\(((distsAt x1.ds x1.d x3).length = (0 : Nat))/\((True/\True)/\(((RLe x1.ds.length x1.ds.length)/\(RowsEq [.int .i64] x1.ds.length (encL encI x1.ds) (encL encI x1.ds)))/\True)))))/\(∀ x4 : Nat, ((x4 <= x1.ds.length)-> (((decide ((x4 : Int) < (x1.ds.length : Int)) = true)-> ((((0 : Int) <= (x4 : Int))/\((x4 : Int) < (x1.ds.length : Int)))/\((0 + Int.toNat (x4 : Int) < x1.ds.length)/\(((decide (x1.ds.getD (0 + Int.toNat (x4 : Int)) default = x1.d) = true)-> (((True/\True)/\True)/\((0=0/\(((distsAt x1.ds x1.d x4).length <= (distsAt x1.ds x1.d x4).length)/\(((1 : Nat) <= (1 : Nat))/\((distsAt x1.ds x1.d x4).length + (1 : Nat) <= (1073741824 : Nat)))))/\((((-9223372036854775808 : Int) <= (x4 : Int) + 1)/\((x4 : Int) + 1 <= (9223372036854775807 : Int)))/\(∃ x8 : Nat, ((x1.ds.length - x8 < x1.ds.length - x4)/\((x8 <= x1.ds.length)/\((((x4 : Int) + 1 = (x8 : Int))/\((0=0/\((distsAt x1.ds x1.d x4).length + (1 : Nat) = (distsAt x1.ds x1.d x8).length))/\(((x1.ds.length : Int) = (x1.ds.length : Int))/\((0=0 /\ x1.ds.length = x1.ds.length)/\((0=0 /\ 0=0)/\((0=0 /\ x1.ds.length = x1.ds.length)/\(x1.d = x1.d/\True)))))))/\(((RLe (distsAt x1.ds x1.d x8).length ((distsAt x1.ds x1.d x4).length + (1 : Nat)))/\(RowsEq [.int .i64] (distsAt x1.ds x1.d x8).length (appRows (distsAt x1.ds x1.d x4).length (encL encI (distsAt x1.ds x1.d x4)) 0 (litRows ((D.i (x4 : Int) :: @List.nil D) :: @List.nil (List D)))) (encL encI (distsAt x1.ds x1.d x8))))/\((True/\True)/\(((RLe x1.ds.length x1.ds.length)/\(RowsEq [.int .i64] x1.ds.length (encL encI x1.ds) (encL encI x1.ds)))/\True)))))))))))/\((decide (x1.ds.getD (0 + Int.toNat (x4 : Int)) default = x1.d) = false)-> ((((-9223372036854775808 : Int) <= (x4 : Int) + 1)/\((x4 : Int) + 1 <= (9223372036854775807 : Int)))/\(∃ x10 : Nat, ((x1.ds.length - x10 < x1.ds.length - x4)/\((x10 <= x1.ds.length)/\((((x4 : Int) + 1 = (x10 : Int))/\((0=0/\((distsAt x1.ds x1.d x4).length = (distsAt x1.ds x1.d x10).length))/\(((x1.ds.length : Int) = (x1.ds.length : Int))/\((0=0 /\ x1.ds.length = x1.ds.length)/\((0=0 /\ 0=0)/\((0=0 /\ x1.ds.length = x1.ds.length)/\(x1.d = x1.d/\True)))))))/\(((RLe (distsAt x1.ds x1.d x10).length (distsAt x1.ds x1.d x4).length)/\(RowsEq [.int .i64] (distsAt x1.ds x1.d x10).length (encL encI (distsAt x1.ds x1.d x4)) (encL encI (distsAt x1.ds x1.d x10))))/\((True/\True)/\(((RLe x1.ds.length x1.ds.length)/\(RowsEq [.int .i64] x1.ds.length (encL encI x1.ds) (encL encI x1.ds)))/\True)))))))))))))/\((decide ((x4 : Int) < (x1.ds.length : Int)) = false)-> (∃ x12 : List Int, ((x12.length <= (1048576 : Nat))/\(((0=0/\((distsAt x1.ds x1.d x4).length = x12.length))/\True)/\((((RLe x12.length (distsAt x1.ds x1.d x4).length)/\(RowsEq [.int .i64] x12.length (encL encI (distsAt x1.ds x1.d x4)) (encL encI x12)))/\True)/\(((szW (ofW x12 x12.length) = szW (ofW (distsL x1.ds x1.d) (distsL x1.ds x1.d).length))/\True)/\(((RLe (szW (ofW (distsL x1.ds x1.d) (distsL x1.ds x1.d).length)) (szW (ofW x12 x12.length)))/\(RowsEq [.int .u64] (szW (ofW (distsL x1.ds x1.d) (distsL x1.ds x1.d).length)) (encL encW (ofW x12 x12.length)) (encL encW (ofW (distsL x1.ds x1.d) (distsL x1.ds x1.d).length))))/\True))))))))))))))) = (Keeps cfgQ5 Tryd.f20 cdistC cdistI) by kernel_rfl) (fun x1 => fun h2 => ⟨((0 : Nat)),
⟨(by (try dsimp only at *); omega),
⟨(by (try dsimp only at *); omega),
⟨trivial,rfl,
(by (try dsimp only at *); rfl)⟩,rfl,
⟨rfl,rfl⟩,
⟨rfl,rfl⟩,
⟨rfl,rfl⟩,rfl,trivial⟩,
(by (try dsimp only at *); rfl),
⟨trivial,trivial⟩,
⟨⟨Nat.le_refl _⟩,RowsEq.rfl'⟩,trivial⟩,
fun x4 => fun h5 => ⟨fun g6 => have h6 := of_decide_eq_true g6; ⟨⟨(by (try dsimp only at *); omega),
(by (try dsimp only at *); omega)⟩,
(by (try dsimp only at *); omega),
fun g7 => have h7 := of_decide_eq_true g7; ⟨⟨⟨trivial,trivial⟩,trivial⟩,
⟨rfl,
(by (try dsimp only at *); omega),
(by (try dsimp only at *); omega),
(by (try dsimp only at *); (have := distsAt_len x1.ds x1.d x4; omega))⟩,
⟨(by (try dsimp only at *); omega),
(by (try dsimp only at *); omega)⟩,
(x4 + (1 : Nat)),
(by (try dsimp only at *); omega),
(by (try dsimp only at *); omega),
⟨(by (try dsimp only at *); omega),
⟨rfl,
(by (try dsimp only at *); (((try simp only [Nat.zero_add, Int.toNat_natCast] at *); have e := (dists_yes ‹_›); first | (rw [e]; done) | (rw [e]; rfl) | (rw [e]; exact RowsEq.rfl') | (rw [e]; exact pushL_rows) | (simp only [e, List.length_append, List.length_singleton]; done) | (simp only [e, List.length_append, List.length_singleton]; omega))))⟩,rfl,
⟨rfl,rfl⟩,
⟨rfl,rfl⟩,
⟨rfl,rfl⟩,rfl,trivial⟩,
⟨⟨(by (try dsimp only at *); (((try simp only [Nat.zero_add, Int.toNat_natCast] at *); have e := (dists_yes ‹_›); first | (rw [e]; done) | (rw [e]; rfl) | (rw [e]; exact RowsEq.rfl') | (rw [e]; exact pushL_rows) | (simp only [e, List.length_append, List.length_singleton]; done) | (simp only [e, List.length_append, List.length_singleton]; omega))))⟩,
(by (try dsimp only at *); (((try simp only [Nat.zero_add, Int.toNat_natCast] at *); have e := (dists_yes ‹_›); first | (rw [e]; done) | (rw [e]; rfl) | (rw [e]; exact RowsEq.rfl') | (rw [e]; exact pushL_rows) | (simp only [e, List.length_append, List.length_singleton]; done) | (simp only [e, List.length_append, List.length_singleton]; omega))))⟩,
⟨trivial,trivial⟩,
⟨⟨Nat.le_refl _⟩,RowsEq.rfl'⟩,trivial⟩,
fun g9 => have h9 := of_decide_eq_false g9; ⟨⟨(by (try dsimp only at *); omega),
(by (try dsimp only at *); omega)⟩,
(x4 + (1 : Nat)),
(by (try dsimp only at *); omega),
(by (try dsimp only at *); omega),
⟨(by (try dsimp only at *); omega),
⟨rfl,
(by (try dsimp only at *); (((try simp only [Nat.zero_add, Int.toNat_natCast] at *); have e := (dists_no ‹_›); first | (rw [e]; done) | (rw [e]; rfl) | (rw [e]; exact RowsEq.rfl') | (rw [e]; exact pushL_rows) | (simp only [e, List.length_append, List.length_singleton]; done) | (simp only [e, List.length_append, List.length_singleton]; omega))))⟩,rfl,
⟨rfl,rfl⟩,
⟨rfl,rfl⟩,
⟨rfl,rfl⟩,rfl,trivial⟩,
⟨⟨(by (try dsimp only at *); (((try simp only [Nat.zero_add, Int.toNat_natCast] at *); have e := (dists_no ‹_›); first | (rw [e]; done) | (rw [e]; rfl) | (rw [e]; exact RowsEq.rfl') | (rw [e]; exact pushL_rows) | (simp only [e, List.length_append, List.length_singleton]; done) | (simp only [e, List.length_append, List.length_singleton]; omega))))⟩,
(by (try dsimp only at *); (((try simp only [Nat.zero_add, Int.toNat_natCast] at *); have e := (dists_no ‹_›); first | (rw [e]; done) | (rw [e]; rfl) | (rw [e]; exact RowsEq.rfl') | (rw [e]; exact pushL_rows) | (simp only [e, List.length_append, List.length_singleton]; done) | (simp only [e, List.length_append, List.length_singleton]; omega))))⟩,
⟨trivial,trivial⟩,
⟨⟨Nat.le_refl _⟩,RowsEq.rfl'⟩,trivial⟩⟩,
fun g11 => have h11 := of_decide_eq_false g11; ⟨(distsAt (DX.ds x1) (DX.d x1) x4),
(by (try dsimp only at *); (have := distsAt_len x1.ds x1.d x4; omega)),
⟨⟨rfl,rfl⟩,trivial⟩,
⟨⟨⟨Nat.le_refl _⟩,RowsEq.rfl'⟩,trivial⟩,
⟨(by (try dsimp only at *); (rw [dists_end h5 h11]; done)),trivial⟩,
⟨⟨(by (try dsimp only at *); (rw [dists_end h5 h11]; exact Nat.le_refl _))⟩,
(by (try dsimp only at *); (rw [dists_end h5 h11]; exact RowsEq.rfl'))⟩,trivial⟩⟩⟩)
theorem cdist_good : Good Tryd.prog 20 cdistC /\ FnOk Tryd.prog 20 := good_of tok conQ5 (fn := Tryd.f20) rfl (by decide +kernel) (fun _ => rfl) cdist_keeps
end Go.Sym