import Derived.Test.YtplpefihhhcbbaaDoorP6
import Derived.Test.YtplpefihhhcbbaaDoorI2
import Derived.Test.YtplpefihhhcbbaaDoorXD
namespace Go.Sym
set_option linter.unusedVariables false
set_option linter.unusedSimpArgs false
open Go.Proofs
set_option maxHeartbeats 4000000
theorem hasW_all : ∀ (k : Nat), k <= 4096 -> ∀ i, hasW (allW k) i = decide (i < k)
 | 0, _, i => by show hasW nilW i = _; rw [hasW_nil]; simp
 | k + 1, h, i => by
  rw [allW_succ, hasW_add (allW_ok k) (by omega), hasW_all k (by omega)]
  by_cases h1 : i < k
  ·simp [h1]; omega
  ·by_cases h2 : i = k
   ·simp [h2]
   ·have : ¬ i < k + 1 := by omega
    simp [h1, h2, this]
def nodesW (n : Nat) (ws : List Nat) : List Int := (elemsZ ws).filter fun x => decide (x < n)
theorem elems_both {ws : List Nat} (h : WOk ws) {n : Nat} (hn : n <= 4096) : elemsZ (bothW ws (allW n)) = nodesW n ws := by
 unfold nodesW
 refine sorted_ext (elemsZ_sorted _) ((elemsZ_sorted _).filter _) fun x => ?_
 rw [elemsZ_mem, List.mem_filter, elemsZ_mem, hasW_both h, hasW_all n hn]
 constructor
 ·rintro ⟨a, b, c⟩
  rw [Bool.and_eq_true] at c
  have := of_decide_eq_true c.2
  exact ⟨⟨a, b, c.1⟩, decide_eq_true (by omega)⟩
 ·rintro ⟨⟨a, b, c⟩, d⟩
  have := of_decide_eq_true d
  exact ⟨a, b, by rw [Bool.and_eq_true]; exact ⟨c, decide_eq_true (by omega)⟩⟩
theorem bothW_ok {a b : List Nat} (ha : WOk a) (hb : WOk b) : WOk (bothW a b) := bothAt_ok ha hb 64
theorem nodesW_at {n : Nat} {ws : List Nat} {k : Nat} (hk : k < (nodesW n ws).length) : 0 <= (nodesW n ws).getD k default /\ (nodesW n ws).getD k default < n := by
 have h : (nodesW n ws).getD k default ∈ nodesW n ws := by rw [List.getD_eq_getElem?_getD, List.getElem?_eq_getElem hk]; exact List.getElem_mem hk
 generalize (nodesW n ws).getD k default = v at h
 unfold nodesW at h
 rw [List.mem_filter] at h
 exact ⟨(elemsZ_mem.1 h.1).1, of_decide_eq_true h.2⟩
theorem nodesW_len (n : Nat) (ws : List Nat) : (nodesW n ws).length <= 4096 := by
 have := List.length_filter_le (fun x : Int => decide (x < n)) (elemsZ ws); have := elemsW_len ws; unfold nodesW; rw [elemsZ_len] at *; omega
structure GWX where
 g : Gr
 ws : List Nat
structure GWok (x : GWX) : Prop where
 n : x.g.n <= 4096
 w : WOk x.ws
def nodesOfC : CT where
 X := GWX
 pre := GWok
 args := fun x => [.p 100000 0 0, setV x.ws 100001]
 g0 := fun x => graphH x.g 100000 ++ setH x.ws .bor 100001
 res := fun x => .sl 1 0 (nodesW x.g.n x.ws).length
 g1 := fun x => [(1, .rows .own k1 (nodesW x.g.n x.ws).length (encL encI (nodesW x.g.n x.ws)))]
def cfgKn : Cfg := ⟨T, [], [(38, .one nodesC), (19, .one allNC), (27, .one bothC), (21, .one listC)], noInv, 30, {}⟩
theorem conKn : ConOk Tryd.prog cfgKn := ConL.ok (.cons (ConL.one nodes_good) (.cons (ConL.one all_good) (.cons (ConL.one both_good) (.cons (ConL.one list_good) .nil))))
theorem minN {n : Nat} (h : n <= 4096) : (min (n : Int) 4096).toNat = n := by omega
theorem elems_min {ws : List Nat} (h : WOk ws) {n : Nat} (hn : n <= 4096) : elemsZ (bothW ws (allW (min (n : Int) 4096).toNat)) = nodesW n ws := by rw [minN hn]; exact elems_both h hn
set_option maxRecDepth 100000 in
theorem nodesOf_keeps : Keeps cfgKn Tryd.f33 nodesOfC noIv := Eq.mp (show ((∀ x1 : GWX, ((GWok x1)-> (∃ x3 : Gr, (True/\(((0=0 /\ 0=0)/\True)/\(((RLe 1 1/\(RowsEq [.sl [.int .i64, .int .i64, .int .i64], .sl [.sl [.int .i64]], .sl [.sl [.int .i64]]] 1 (encG x1.g) (encG x3)))/\True)/\(∃ x4 : Int, (((0 : Int) <= x4)/\((((x3.n : Int) = x4)/\True)/\(True/\(∃ x5 : TwoX, (((WOk x5.a)/\(WOk x5.b))/\((((szW x1.ws = szW x5.a)/\True)/\(((szW (allW (Int.toNat (min x4 (4096 : Int)))) = szW x5.b)/\True)/\True))/\((((RLe (szW x5.a) (szW x1.ws))/\(RowsEq [.int .u64] (szW x5.a) (encL encW x1.ws) (encL encW x5.a)))/\(((RLe (szW x5.b) (szW (allW (Int.toNat (min x4 (4096 : Int))))))/\(RowsEq [.int .u64] (szW x5.b) (encL encW (allW (Int.toNat (min x4 (4096 : Int))))) (encL encW x5.b)))/\True))/\(∃ x6 : List Nat, ((WOk x6)/\((((szW (bothW x5.a x5.b) = szW x6)/\True)/\True)/\((((RLe (szW x6) (szW (bothW x5.a x5.b)))/\(RowsEq [.int .u64] (szW x6) (encL encW (bothW x5.a x5.b)) (encL encW x6)))/\True)/\((0=0/\((elemsW x6).length = (nodesW x1.g.n x1.ws).length))/\(((RLe (nodesW x1.g.n x1.ws).length (elemsW x6).length)/\(RowsEq [.int .i64] (nodesW x1.g.n x1.ws).length (encL encI (elemsZ x6)) (encL encI (nodesW x1.g.n x1.ws))))/\True))))))))))))))))))))) = (Keeps cfgKn Tryd.f33 nodesOfC noIv) by kernel_rfl) (fun x1 => fun h2 => ⟨(GWX.g x1),trivial,
⟨⟨rfl,rfl⟩,trivial⟩,
⟨⟨⟨Nat.le_refl _⟩,RowsEq.rfl'⟩,trivial⟩,
((↑(Gr.n (GWX.g x1)) : Int)),
(by (try dsimp only at *); omega),
⟨rfl,trivial⟩,trivial,
({ a := GWX.ws x1, b := allW (Int.toNat (min (↑(Gr.n (GWX.g x1)) : Int) (4096 : Int))) : TwoX }),
⟨(by (try dsimp only at *); exact h2.w),
(by (try dsimp only at *); exact allW_ok _)⟩,
⟨⟨rfl,trivial⟩,
⟨rfl,trivial⟩,trivial⟩,
⟨⟨⟨Nat.le_refl _⟩,RowsEq.rfl'⟩,
⟨⟨Nat.le_refl _⟩,RowsEq.rfl'⟩,trivial⟩,
(bothW (GWX.ws x1) (allW (Int.toNat (min (↑(Gr.n (GWX.g x1)) : Int) (4096 : Int))))),
(by (try dsimp only at *); exact bothW_ok h2.w (allW_ok _)),
⟨⟨rfl,trivial⟩,trivial⟩,
⟨⟨⟨Nat.le_refl _⟩,RowsEq.rfl'⟩,trivial⟩,
⟨rfl,
(by (try dsimp only at *); (rw [<- elemsZ_len, elems_min h2.w h2.n]; done))⟩,
⟨⟨(by (try dsimp only at *); (rw [<- elemsZ_len, elems_min h2.w h2.n]; exact Nat.le_refl _))⟩,
(by (try dsimp only at *); (rw [elems_min h2.w h2.n]; exact RowsEq.rfl'))⟩,trivial⟩)
theorem nodesOf_good : Good Tryd.prog 33 nodesOfC /\ FnOk Tryd.prog 33 := good_of tok conKn (fn := Tryd.f33) rfl (by decide +kernel) (fun _ => rfl) nodesOf_keeps
def respC : CT where
 X := UX
 pre := UXok
 args := fun x => [.p 100000 0 0, .sl 100001 0 x.ts.length, .sl 100002 0 x.us.length]
 g0 := fun x => graphH x.g 100000 ++ [(100001, .rows .bor k1 x.ts.length (encL encI x.ts)), (100002, .rows .bor kU x.us.length (encL encU x.us))]
 res := fun x => .sl 1 0 x.g.n
 g1 := fun x => [(1, .rows .own k1 x.g.n (encL encI (distG x.g x.ts (freeL x.us) true)))]
def respI (x : UX) (id : Nat) : Option Inv := match id with
 | 0 => some { X := Nat, ok := fun k => k <= x.us.length, fr := fun k => [(12, .i .i64 k), (7, .sl 61 0 (freeAt x.us k).length)], hp := fun k => [(61, .rows .own k1 (freeAt x.us k).length (encL encI (freeAt x.us k)))], me := fun k => x.us.length - k }
 | _ => none
def cfgKr : Cfg := ⟨T, [], [(39, .one (fromC true))], noInv, 30, {}⟩
theorem conKr : ConOk Tryd.prog cfgKr := ConL.ok (.cons (ConL.one from_good) .nil)
set_option maxRecDepth 100000 in
theorem resp_keeps : Keeps cfgKr Tryd.f32 respC respI := Eq.mp (show ((∀ x1 : UX, ((UXok x1)-> (∃ x3 : Nat, (((x3 <= x1.us.length)/\(((0 = (x3 : Int))/\((True/\(0=0/\((freeAt x1.us x3).length = (0 : Nat))))/\(((x1.us.length : Int) = (x1.us.length : Int))/\((0=0 /\ x1.us.length = x1.us.length)/\(True/\((0=0 /\ 0=0)/\((0=0 /\ x1.ts.length = x1.ts.length)/\((0=0 /\ x1.us.length = x1.us.length)/\True))))))))/\(((freeAt x1.us x3).length = (0 : Nat))/\((RLe 1 1/\(RowsEq [.sl [.int .i64, .int .i64, .int .i64], .sl [.sl [.int .i64]], .sl [.sl [.int .i64]]] 1 (encG x1.g) (encG x1.g)))/\(((RLe x1.ts.length x1.ts.length)/\(RowsEq [.int .i64] x1.ts.length (encL encI x1.ts) (encL encI x1.ts)))/\(((RLe x1.us.length x1.us.length)/\(RowsEq [.int .i64, .int .i64, .int .i64, .int .i64, .int .i64, .int .i64, .int .i64, .int .i64, .int .i64, .int .i64] x1.us.length (encL encU x1.us) (encL encU x1.us)))/\True))))))/\(∀ x4 : Nat, ((x4 <= x1.us.length)-> (((decide ((x4 : Int) < (x1.us.length : Int)) = true)-> ((((0 : Int) <= (x4 : Int))/\((x4 : Int) < (x1.us.length : Int)))/\((0 + Int.toNat (x4 : Int) < x1.us.length)/\(((decide ((x1.us.getD (0 + Int.toNat (x4 : Int)) default).st = (1 : Int)) = true)-> (((True/\True)/\True)/\((0=0/\(((freeAt x1.us x4).length <= (freeAt x1.us x4).length)/\(((1 : Nat) <= (1 : Nat))/\((freeAt x1.us x4).length + (1 : Nat) <= (1073741824 : Nat)))))/\((((-9223372036854775808 : Int) <= (x4 : Int) + 1)/\((x4 : Int) + 1 <= (9223372036854775807 : Int)))/\(∃ x8 : Nat, ((x1.us.length - x8 < x1.us.length - x4)/\((x8 <= x1.us.length)/\((((x4 : Int) + 1 = (x8 : Int))/\((0=0/\((freeAt x1.us x4).length + (1 : Nat) = (freeAt x1.us x8).length))/\(((x1.us.length : Int) = (x1.us.length : Int))/\((0=0 /\ x1.us.length = x1.us.length)/\(True/\((0=0 /\ 0=0)/\((0=0 /\ x1.ts.length = x1.ts.length)/\((0=0 /\ x1.us.length = x1.us.length)/\True))))))))/\(((RLe (freeAt x1.us x8).length ((freeAt x1.us x4).length + (1 : Nat)))/\(RowsEq [.int .i64] (freeAt x1.us x8).length (appRows (freeAt x1.us x4).length (encL encI (freeAt x1.us x4)) 0 (litRows ((D.i (x1.us.getD (0 + Int.toNat (x4 : Int)) default).nd :: @List.nil D) :: @List.nil (List D)))) (encL encI (freeAt x1.us x8))))/\((RLe 1 1/\(RowsEq [.sl [.int .i64, .int .i64, .int .i64], .sl [.sl [.int .i64]], .sl [.sl [.int .i64]]] 1 (encG x1.g) (encG x1.g)))/\(((RLe x1.ts.length x1.ts.length)/\(RowsEq [.int .i64] x1.ts.length (encL encI x1.ts) (encL encI x1.ts)))/\(((RLe x1.us.length x1.us.length)/\(RowsEq [.int .i64, .int .i64, .int .i64, .int .i64, .int .i64, .int .i64, .int .i64, .int .i64, .int .i64, .int .i64] x1.us.length (encL encU x1.us) (encL encU x1.us)))/\True))))))))))))/\((decide ((x1.us.getD (0 + Int.toNat (x4 : Int)) default).st = (1 : Int)) = false)-> ((((-9223372036854775808 : Int) <= (x4 : Int) + 1)/\((x4 : Int) + 1 <= (9223372036854775807 : Int)))/\(∃ x10 : Nat, ((x1.us.length - x10 < x1.us.length - x4)/\((x10 <= x1.us.length)/\((((x4 : Int) + 1 = (x10 : Int))/\((0=0/\((freeAt x1.us x4).length = (freeAt x1.us x10).length))/\(((x1.us.length : Int) = (x1.us.length : Int))/\((0=0 /\ x1.us.length = x1.us.length)/\(True/\((0=0 /\ 0=0)/\((0=0 /\ x1.ts.length = x1.ts.length)/\((0=0 /\ x1.us.length = x1.us.length)/\True))))))))/\(((RLe (freeAt x1.us x10).length (freeAt x1.us x4).length)/\(RowsEq [.int .i64] (freeAt x1.us x10).length (encL encI (freeAt x1.us x4)) (encL encI (freeAt x1.us x10))))/\((RLe 1 1/\(RowsEq [.sl [.int .i64, .int .i64, .int .i64], .sl [.sl [.int .i64]], .sl [.sl [.int .i64]]] 1 (encG x1.g) (encG x1.g)))/\(((RLe x1.ts.length x1.ts.length)/\(RowsEq [.int .i64] x1.ts.length (encL encI x1.ts) (encL encI x1.ts)))/\(((RLe x1.us.length x1.us.length)/\(RowsEq [.int .i64, .int .i64, .int .i64, .int .i64, .int .i64, .int .i64, .int .i64, .int .i64, .int .i64, .int .i64] x1.us.length (encL encU x1.us) (encL encU x1.us)))/\True))))))))))))))/\((decide ((x4 : Int) < (x1.us.length : Int)) = false)-> (∃ x12 : FX, ((FXok x12)/\(((0=0 /\ 0=0)/\((0=0 /\ x1.ts.length = x12.ts.length)/\((0=0/\((freeAt x1.us x4).length = x12.src.length))/\True)))/\(((RLe 1 1/\(RowsEq [.sl [.int .i64, .int .i64, .int .i64], .sl [.sl [.int .i64]], .sl [.sl [.int .i64]]] 1 (encG x1.g) (encG x12.g)))/\(((RLe x12.ts.length x1.ts.length)/\(RowsEq [.int .i64] x12.ts.length (encL encI x1.ts) (encL encI x12.ts)))/\(((RLe x12.src.length (freeAt x1.us x4).length)/\(RowsEq [.int .i64] x12.src.length (encL encI (freeAt x1.us x4)) (encL encI x12.src)))/\True)))/\((0=0 /\ x12.g.n = x1.g.n)/\(((RLe x1.g.n x12.g.n)/\(RowsEq [.int .i64] x1.g.n (encL encI (distG x12.g x12.ts x12.src true)) (encL encI (distG x1.g x1.ts (freeL x1.us) true))))/\True))))))))))))))) = (Keeps cfgKr Tryd.f32 respC respI) by kernel_rfl) (fun x1 => fun h2 => ⟨((0 : Nat)),
⟨(by (try dsimp only at *); omega),
⟨(by (try dsimp only at *); omega),
⟨trivial,rfl,
(by (try dsimp only at *); rfl)⟩,rfl,
⟨rfl,rfl⟩,trivial,
⟨rfl,rfl⟩,
⟨rfl,rfl⟩,
⟨rfl,rfl⟩,trivial⟩,
(by (try dsimp only at *); rfl),
⟨⟨Nat.le_refl _⟩,RowsEq.rfl'⟩,
⟨⟨Nat.le_refl _⟩,RowsEq.rfl'⟩,
⟨⟨Nat.le_refl _⟩,RowsEq.rfl'⟩,trivial⟩,
fun x4 => fun h5 => ⟨fun g6 => have h6 := of_decide_eq_true g6; ⟨⟨(by (try dsimp only at *); omega),
(by (try dsimp only at *); omega)⟩,
(by (try dsimp only at *); omega),
fun g7 => have h7 := of_decide_eq_true g7; ⟨⟨⟨trivial,trivial⟩,trivial⟩,
⟨rfl,
(by (try dsimp only at *); omega),
(by (try dsimp only at *); omega),
(by (try dsimp only at *); (have := freeAt_len (k := x4) h2.us; omega))⟩,
⟨(by (try dsimp only at *); omega),
(by (try dsimp only at *); (have := h2.us; omega))⟩,
(x4 + (1 : Nat)),
(by (try dsimp only at *); omega),
(by (try dsimp only at *); omega),
⟨(by (try dsimp only at *); omega),
⟨rfl,
(by (try dsimp only at *); (((try simp only [Nat.zero_add, Int.toNat_natCast] at *); have e := (free_yes ‹_› ‹_›); first | (rw [e]; done) | (rw [e]; rfl) | (rw [e]; exact RowsEq.rfl') | (rw [e]; exact pushL_rows) | (simp only [e, List.length_append, List.length_singleton]; done) | (simp only [e, List.length_append, List.length_singleton]; omega))))⟩,rfl,
⟨rfl,rfl⟩,trivial,
⟨rfl,rfl⟩,
⟨rfl,rfl⟩,
⟨rfl,rfl⟩,trivial⟩,
⟨⟨(by (try dsimp only at *); (((try simp only [Nat.zero_add, Int.toNat_natCast] at *); have e := (free_yes ‹_› ‹_›); first | (rw [e]; done) | (rw [e]; rfl) | (rw [e]; exact RowsEq.rfl') | (rw [e]; exact pushL_rows) | (simp only [e, List.length_append, List.length_singleton]; done) | (simp only [e, List.length_append, List.length_singleton]; omega))))⟩,
(by (try dsimp only at *); (((try simp only [Nat.zero_add, Int.toNat_natCast] at *); have e := (free_yes ‹_› ‹_›); first | (rw [e]; done) | (rw [e]; rfl) | (rw [e]; exact RowsEq.rfl') | (rw [e]; exact pushL_rows) | (simp only [e, List.length_append, List.length_singleton]; done) | (simp only [e, List.length_append, List.length_singleton]; omega))))⟩,
⟨⟨Nat.le_refl _⟩,RowsEq.rfl'⟩,
⟨⟨Nat.le_refl _⟩,RowsEq.rfl'⟩,
⟨⟨Nat.le_refl _⟩,RowsEq.rfl'⟩,trivial⟩,
fun g9 => have h9 := of_decide_eq_false g9; ⟨⟨(by (try dsimp only at *); omega),
(by (try dsimp only at *); (have := h2.us; omega))⟩,
(x4 + (1 : Nat)),
(by (try dsimp only at *); omega),
(by (try dsimp only at *); omega),
⟨(by (try dsimp only at *); omega),
⟨rfl,
(by (try dsimp only at *); (((try simp only [Nat.zero_add, Int.toNat_natCast] at *); have e := (free_no ‹_› ‹_›); first | (rw [e]; done) | (rw [e]; rfl) | (rw [e]; exact RowsEq.rfl') | (rw [e]; exact pushL_rows) | (simp only [e, List.length_append, List.length_singleton]; done) | (simp only [e, List.length_append, List.length_singleton]; omega))))⟩,rfl,
⟨rfl,rfl⟩,trivial,
⟨rfl,rfl⟩,
⟨rfl,rfl⟩,
⟨rfl,rfl⟩,trivial⟩,
⟨⟨(by (try dsimp only at *); (((try simp only [Nat.zero_add, Int.toNat_natCast] at *); have e := (free_no ‹_› ‹_›); first | (rw [e]; done) | (rw [e]; rfl) | (rw [e]; exact RowsEq.rfl') | (rw [e]; exact pushL_rows) | (simp only [e, List.length_append, List.length_singleton]; done) | (simp only [e, List.length_append, List.length_singleton]; omega))))⟩,
(by (try dsimp only at *); (((try simp only [Nat.zero_add, Int.toNat_natCast] at *); have e := (free_no ‹_› ‹_›); first | (rw [e]; done) | (rw [e]; rfl) | (rw [e]; exact RowsEq.rfl') | (rw [e]; exact pushL_rows) | (simp only [e, List.length_append, List.length_singleton]; done) | (simp only [e, List.length_append, List.length_singleton]; omega))))⟩,
⟨⟨Nat.le_refl _⟩,RowsEq.rfl'⟩,
⟨⟨Nat.le_refl _⟩,RowsEq.rfl'⟩,
⟨⟨Nat.le_refl _⟩,RowsEq.rfl'⟩,trivial⟩⟩,
fun g11 => have h11 := of_decide_eq_false g11; ⟨({ g := UX.g x1, ts := UX.ts x1, src := freeAt (UX.us x1) x4 : FX }),
(by (try dsimp only at *); (rw [free_end h5 h11]; exact h2.f)),
⟨⟨rfl,rfl⟩,
⟨rfl,rfl⟩,
⟨rfl,rfl⟩,trivial⟩,
⟨⟨⟨Nat.le_refl _⟩,RowsEq.rfl'⟩,
⟨⟨Nat.le_refl _⟩,RowsEq.rfl'⟩,
⟨⟨Nat.le_refl _⟩,RowsEq.rfl'⟩,trivial⟩,
⟨rfl,rfl⟩,
⟨⟨Nat.le_refl _⟩,
(by (try dsimp only at *); ((try simp only at *); rw [free_end h5 h11]; exact RowsEq.rfl'))⟩,trivial⟩⟩⟩)
theorem resp_good : Good Tryd.prog 32 respC /\ FnOk Tryd.prog 32 := good_of tok conKr (fn := Tryd.f32) rfl (by decide +kernel) (fun _ => rfl) resp_keeps
end Go.Sym