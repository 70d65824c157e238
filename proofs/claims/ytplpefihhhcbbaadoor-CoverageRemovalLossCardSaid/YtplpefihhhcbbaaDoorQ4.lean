import Derived.Test.YtplpefihhhcbbaaDoorK2
import Derived.Test.YtplpefihhhcbbaaDoorQ3
import Derived.Test.YtplpefihhhcbbaaDoorXD
namespace Go.Sym
set_option linter.unusedVariables false
set_option linter.unusedSimpArgs false
open Go.Proofs
set_option maxHeartbeats 4000000
theorem worstW_rng {g : Gr} (hg : GOk g) (ts : List Int) (us : List Un) (ws : List Nat) : 0 <= (worstW g ts us ws).1 /\ (worstW g ts us ws).1 <= 4611686018427387904 := by
  unfold worstW
  have hm : ∀ v ∈ nodesW g.n ws, 0 <= v /\ v < g.n := fun v h => by
    unfold nodesW at h
    rw [List.mem_filter] at h
    exact ⟨(elemsZ_mem.1 h.1).1, of_decide_eq_true h.2⟩
  rcases worst_spec (D := distG g ts (freeL us) true) (l := nodesW g.n ws) (fun v hv => (hm v hv).1) with ⟨_, h⟩ | ⟨_, _, _, v, hv, h⟩
  · rw [h]; exact ⟨by decide, by decide⟩
  · rw [h]
    have := hm v hv
    exact dist_rng hg ts (freeL us) true (by omega)
def lossW (g : Gr) (ts : List Int) (us : List Un) (ws : List Nat) (id : Int) : Int :=
  if (worstW g ts us ws).1 = (worstW g ts (restL us id) ws).1 then 0 else if (worstW g ts (restL us id) ws).1 = 4611686018427387904 then 4611686018427387904 else (worstW g ts (restL us id) ws).1 - (worstW g ts us ws).1
theorem lossW_0 {g : Gr} {ts : List Int} {us : List Un} {ws : List Nat} {id : Int} (h : (worstW g ts us ws).1 = (worstW g ts (restL us id) ws).1) : lossW g ts us ws id = 0 := if_pos h
theorem lossW_inf {g : Gr} {ts : List Int} {us : List Un} {ws : List Nat} {id : Int} (h : ¬ (worstW g ts us ws).1 = (worstW g ts (restL us id) ws).1) (h2 : (worstW g ts (restL us id) ws).1 = 4611686018427387904) : lossW g ts us ws id = 4611686018427387904 := by
  unfold lossW; rw [if_neg h, if_pos h2]
theorem lossW_sub {g : Gr} {ts : List Int} {us : List Un} {ws : List Nat} {id : Int} (h : ¬ (worstW g ts us ws).1 = (worstW g ts (restL us id) ws).1) (h2 : ¬ (worstW g ts (restL us id) ws).1 = 4611686018427387904) :
    lossW g ts us ws id = (worstW g ts (restL us id) ws).1 - (worstW g ts us ws).1 := by
  unfold lossW; rw [if_neg h, if_neg h2]
def clossC : CT where
  X := YX
  pre := YXok
  args := fun x => [.p 100000 0 0, .sl 100001 0 x.ts.length, .sl 100002 0 x.us.length, setV x.ws 100003, .i .i64 x.t]
  g0 := fun x => graphH x.g 100000 ++ [(100001, .rows .bor k1 x.ts.length (encL encI x.ts)), (100002, .rows .bor kU x.us.length (encL encU x.us))] ++ setH x.ws .bor 100003
  res := fun x => .i .i64 (lossW x.g x.ts x.us x.ws x.t)
  g1 := fun x => []
def clossI (x : YX) (id : Nat) : Option Inv := match id with
  | 0 => some { X := Nat, ok := fun k => k <= x.us.length, fr := fun k => [(20, .i .i64 k), (11, .sl 61 0 (restAt x.us x.t k).length)],
                hp := fun k => [(61, .rows .own kU (restAt x.us x.t k).length (encL encU (restAt x.us x.t k)))], me := fun k => x.us.length - k }
  | _ => none
def cfgKl : Cfg := ⟨T, [], [(13, .one wwaitC)], noInv, 60, {}⟩
theorem conKl : ConOk Tryd.prog cfgKl := ConL.ok (.cons (ConL.one wwait_good) .nil)
set_option maxRecDepth 100000 in
theorem closs_keeps : Keeps cfgKl Tryd.f28 clossC clossI := Eq.mp (show ((∀ x1 : YX, ((YXok x1)-> (∃ x3 : Nat, (((x3 <= x1.us.length)/\(((0 = (x3 : Int))/\((True/\((0=0)/\((restAt x1.us x1.t x3).length = (0 : Nat))))/\(((x1.us.length : Int) = (x1.us.length : Int))/\(((0=0)/\(x1.us.length = x1.us.length))/\(((0 : Int) = 0)/\(((0=0)/\(0=0))/\(((0=0)/\(0=0))/\(((0=0)/\(x1.ts.length = x1.ts.length))/\(((0=0)/\(x1.us.length = x1.us.length))/\(((szW x1.ws = szW x1.ws)/\True)/\((x1.t = x1.t)/\True)))))))))))/\(((restAt x1.us x1.t x3).length = (0 : Nat))/\(((szW x1.ws = szW x1.ws)/\True)/\((RLe 1 1/\(RowsEq [.sl [.int .i64, .int .i64, .int .i64], .sl [.sl [.int .i64]], .sl [.sl [.int .i64]]] 1 (encG x1.g) (encG x1.g)))/\(((RLe x1.ts.length x1.ts.length)/\(RowsEq [.int .i64] x1.ts.length (encL encI x1.ts) (encL encI x1.ts)))/\(((RLe x1.us.length x1.us.length)/\(RowsEq [.int .i64, .int .i64, .int .i64, .int .i64, .int .i64, .int .i64, .int .i64, .int .i64, .int .i64, .int .i64] x1.us.length (encL encU x1.us) (encL encU x1.us)))/\(((RLe (szW x1.ws) (szW x1.ws))/\(RowsEq [.int .u64] (szW x1.ws) (encL encW x1.ws) (encL encW x1.ws)))/\True))))))))/\(∀ x4 : Nat, ((x4 <= x1.us.length)-> (((decide ((x4 : Int) < (x1.us.length : Int)) = true)-> ((((0 : Int) <= (x4 : Int))/\((x4 : Int) < (x1.us.length : Int)))/\((0 + Int.toNat (x4 : Int) < x1.us.length)/\(((decide ((x1.us.getD (0 + Int.toNat (x4 : Int)) default).id ≠ x1.t) = true)-> (((True/\(True/\(True/\(True/\(True/\(True/\(True/\(True/\(True/\(True/\True))))))))))/\True)/\(((0=0)/\(((restAt x1.us x1.t x4).length <= (restAt x1.us x1.t x4).length)/\(((1 : Nat) <= (1 : Nat))/\((restAt x1.us x1.t x4).length + (1 : Nat) <= (1073741824 : Nat)))))/\((((-9223372036854775808 : Int) <= (x4 : Int) + 1)/\((x4 : Int) + 1 <= (9223372036854775807 : Int)))/\(∃ x8 : Nat, ((x1.us.length - x8 < x1.us.length - x4)/\((x8 <= x1.us.length)/\((((x4 : Int) + 1 = (x8 : Int))/\(((0=0)/\((restAt x1.us x1.t x4).length + (1 : Nat) = (restAt x1.us x1.t x8).length))/\(((x1.us.length : Int) = (x1.us.length : Int))/\(((0=0)/\(x1.us.length = x1.us.length))/\(((0 : Int) = 0)/\(((0=0)/\(0=0))/\(((0=0)/\(0=0))/\(((0=0)/\(x1.ts.length = x1.ts.length))/\(((0=0)/\(x1.us.length = x1.us.length))/\(((szW x1.ws = szW x1.ws)/\True)/\((x1.t = x1.t)/\True)))))))))))/\(((RLe (restAt x1.us x1.t x8).length ((restAt x1.us x1.t x4).length + (1 : Nat)))/\(RowsEq [.int .i64, .int .i64, .int .i64, .int .i64, .int .i64, .int .i64, .int .i64, .int .i64, .int .i64, .int .i64] (restAt x1.us x1.t x8).length (appRows (restAt x1.us x1.t x4).length (encL encU (restAt x1.us x1.t x4)) 0 (litRows ((D.i (x1.us.getD (0 + Int.toNat (x4 : Int)) default).id :: D.i (x1.us.getD (0 + Int.toNat (x4 : Int)) default).b :: D.i (x1.us.getD (0 + Int.toNat (x4 : Int)) default).c :: D.i (x1.us.getD (0 + Int.toNat (x4 : Int)) default).st :: D.i (x1.us.getD (0 + Int.toNat (x4 : Int)) default).nd :: D.i (x1.us.getD (0 + Int.toNat (x4 : Int)) default).f :: D.i (x1.us.getD (0 + Int.toNat (x4 : Int)) default).g :: D.i (x1.us.getD (0 + Int.toNat (x4 : Int)) default).h :: D.i (x1.us.getD (0 + Int.toNat (x4 : Int)) default).i :: D.i (x1.us.getD (0 + Int.toNat (x4 : Int)) default).j :: @List.nil D) :: @List.nil (List D)))) (encL encU (restAt x1.us x1.t x8))))/\(((szW x1.ws = szW x1.ws)/\True)/\((RLe 1 1/\(RowsEq [.sl [.int .i64, .int .i64, .int .i64], .sl [.sl [.int .i64]], .sl [.sl [.int .i64]]] 1 (encG x1.g) (encG x1.g)))/\(((RLe x1.ts.length x1.ts.length)/\(RowsEq [.int .i64] x1.ts.length (encL encI x1.ts) (encL encI x1.ts)))/\(((RLe x1.us.length x1.us.length)/\(RowsEq [.int .i64, .int .i64, .int .i64, .int .i64, .int .i64, .int .i64, .int .i64, .int .i64, .int .i64, .int .i64] x1.us.length (encL encU x1.us) (encL encU x1.us)))/\(((RLe (szW x1.ws) (szW x1.ws))/\(RowsEq [.int .u64] (szW x1.ws) (encL encW x1.ws) (encL encW x1.ws)))/\True))))))))))))))/\((decide ((x1.us.getD (0 + Int.toNat (x4 : Int)) default).id ≠ x1.t) = false)-> ((((-9223372036854775808 : Int) <= (x4 : Int) + 1)/\((x4 : Int) + 1 <= (9223372036854775807 : Int)))/\(∃ x10 : Nat, ((x1.us.length - x10 < x1.us.length - x4)/\((x10 <= x1.us.length)/\((((x4 : Int) + 1 = (x10 : Int))/\(((0=0)/\((restAt x1.us x1.t x4).length = (restAt x1.us x1.t x10).length))/\(((x1.us.length : Int) = (x1.us.length : Int))/\(((0=0)/\(x1.us.length = x1.us.length))/\(((0 : Int) = 0)/\(((0=0)/\(0=0))/\(((0=0)/\(0=0))/\(((0=0)/\(x1.ts.length = x1.ts.length))/\(((0=0)/\(x1.us.length = x1.us.length))/\(((szW x1.ws = szW x1.ws)/\True)/\((x1.t = x1.t)/\True)))))))))))/\(((RLe (restAt x1.us x1.t x10).length (restAt x1.us x1.t x4).length)/\(RowsEq [.int .i64, .int .i64, .int .i64, .int .i64, .int .i64, .int .i64, .int .i64, .int .i64, .int .i64, .int .i64] (restAt x1.us x1.t x10).length (encL encU (restAt x1.us x1.t x4)) (encL encU (restAt x1.us x1.t x10))))/\(((szW x1.ws = szW x1.ws)/\True)/\((RLe 1 1/\(RowsEq [.sl [.int .i64, .int .i64, .int .i64], .sl [.sl [.int .i64]], .sl [.sl [.int .i64]]] 1 (encG x1.g) (encG x1.g)))/\(((RLe x1.ts.length x1.ts.length)/\(RowsEq [.int .i64] x1.ts.length (encL encI x1.ts) (encL encI x1.ts)))/\(((RLe x1.us.length x1.us.length)/\(RowsEq [.int .i64, .int .i64, .int .i64, .int .i64, .int .i64, .int .i64, .int .i64, .int .i64, .int .i64, .int .i64] x1.us.length (encL encU x1.us) (encL encU x1.us)))/\(((RLe (szW x1.ws) (szW x1.ws))/\(RowsEq [.int .u64] (szW x1.ws) (encL encW x1.ws) (encL encW x1.ws)))/\True))))))))))))))))/\((decide ((x4 : Int) < (x1.us.length : Int)) = false)-> (∃ x12 : YX, ((YXok x12)/\((((0=0)/\(0=0))/\(((0=0)/\(x1.ts.length = x12.ts.length))/\(((0=0)/\(x1.us.length = x12.us.length))/\(((szW x1.ws = szW x12.ws)/\True)/\True))))/\(((RLe 1 1/\(RowsEq [.sl [.int .i64, .int .i64, .int .i64], .sl [.sl [.int .i64]], .sl [.sl [.int .i64]]] 1 (encG x1.g) (encG x12.g)))/\(((RLe x12.ts.length x1.ts.length)/\(RowsEq [.int .i64] x12.ts.length (encL encI x1.ts) (encL encI x12.ts)))/\(((RLe x12.us.length x1.us.length)/\(RowsEq [.int .i64, .int .i64, .int .i64, .int .i64, .int .i64, .int .i64, .int .i64, .int .i64, .int .i64, .int .i64] x12.us.length (encL encU x1.us) (encL encU x12.us)))/\(((RLe (szW x12.ws) (szW x1.ws))/\(RowsEq [.int .u64] (szW x12.ws) (encL encW x1.ws) (encL encW x12.ws)))/\True))))/\(∃ x13 : YX, ((YXok x13)/\((((0=0)/\(0=0))/\(((0=0)/\(x1.ts.length = x13.ts.length))/\(((0=0)/\((restAt x1.us x1.t x4).length = x13.us.length))/\(((szW x1.ws = szW x13.ws)/\True)/\True))))/\(((RLe 1 1/\(RowsEq [.sl [.int .i64, .int .i64, .int .i64], .sl [.sl [.int .i64]], .sl [.sl [.int .i64]]] 1 (encG x1.g) (encG x13.g)))/\(((RLe x13.ts.length x1.ts.length)/\(RowsEq [.int .i64] x13.ts.length (encL encI x1.ts) (encL encI x13.ts)))/\(((RLe x13.us.length (restAt x1.us x1.t x4).length)/\(RowsEq [.int .i64, .int .i64, .int .i64, .int .i64, .int .i64, .int .i64, .int .i64, .int .i64, .int .i64, .int .i64] x13.us.length (encL encU (restAt x1.us x1.t x4)) (encL encU x13.us)))/\(((RLe (szW x13.ws) (szW x1.ws))/\(RowsEq [.int .u64] (szW x13.ws) (encL encW x1.ws) (encL encW x13.ws)))/\True))))/\(((decide (Prod.fst (worstW x12.g x12.ts x12.us x12.ws) = Prod.fst (worstW x13.g x13.ts x13.us x13.ws)) = true)-> (((0 : Int) = lossW x1.g x1.ts x1.us x1.ws x1.t)/\True))/\((decide (Prod.fst (worstW x12.g x12.ts x12.us x12.ws) = Prod.fst (worstW x13.g x13.ts x13.us x13.ws)) = false)-> (((decide (Prod.fst (worstW x13.g x13.ts x13.us x13.ws) = (4611686018427387904 : Int)) = true)-> (((4611686018427387904 : Int) = lossW x1.g x1.ts x1.us x1.ws x1.t)/\True))/\((decide (Prod.fst (worstW x13.g x13.ts x13.us x13.ws) = (4611686018427387904 : Int)) = false)-> ((((-9223372036854775808 : Int) <= Prod.fst (worstW x13.g x13.ts x13.us x13.ws) - Prod.fst (worstW x12.g x12.ts x12.us x12.ws))/\(Prod.fst (worstW x13.g x13.ts x13.us x13.ws) - Prod.fst (worstW x12.g x12.ts x12.us x12.ws) <= (9223372036854775807 : Int)))/\((Prod.fst (worstW x13.g x13.ts x13.us x13.ws) - Prod.fst (worstW x12.g x12.ts x12.us x12.ws) = lossW x1.g x1.ts x1.us x1.ws x1.t)/\True))))))))))))))))))))))) = (Keeps cfgKl Tryd.f28 clossC clossI) by kernel_rfl) (fun x1 => fun h2 => ⟨((0 : Nat)),
 ⟨(by (try dsimp only at *); omega),
 ⟨(by (try dsimp only at *); omega),
 ⟨trivial,
 rfl,
 (by (try dsimp only at *); rfl)⟩,
 rfl,
 ⟨rfl,
 rfl⟩,
 rfl,
 ⟨rfl,
 rfl⟩,
 ⟨rfl,
 rfl⟩,
 ⟨rfl,
 rfl⟩,
 ⟨rfl,
 rfl⟩,
 ⟨rfl,
 trivial⟩,
 rfl,
 trivial⟩,
 (by (try dsimp only at *); rfl),
 ⟨rfl,
 trivial⟩,
 ⟨⟨Nat.le_refl _⟩,
 RowsEq.rfl'⟩,
 ⟨⟨Nat.le_refl _⟩,
 RowsEq.rfl'⟩,
 ⟨⟨Nat.le_refl _⟩,
 RowsEq.rfl'⟩,
 ⟨⟨Nat.le_refl _⟩,
 RowsEq.rfl'⟩,
 trivial⟩,
 fun x4 => fun h5 => ⟨fun g6 => have h6 := of_decide_eq_true g6; ⟨⟨(by (try dsimp only at *); omega),
 (by (try dsimp only at *); omega)⟩,
 (by (try dsimp only at *); omega),
 fun g7 => have h7 := of_decide_eq_true g7; ⟨⟨⟨trivial,
 trivial,
 trivial,
 trivial,
 trivial,
 trivial,
 trivial,
 trivial,
 trivial,
 trivial,
 trivial⟩,
 trivial⟩,
 ⟨rfl,
 (by (try dsimp only at *); omega),
 (by (try dsimp only at *); omega),
 (by (try dsimp only at *); (have := h2.u.us; simp only at this; have := restAt_len (id := x1.t) (k := x4) this; omega))⟩,
 ⟨(by (try dsimp only at *); omega),
 (by (try dsimp only at *); (have := h2.u.us; simp only at this; omega))⟩,
 (x4 + (1 : Nat)),
 (by (try dsimp only at *); omega),
 (by (try dsimp only at *); omega),
 ⟨(by (try dsimp only at *); omega),
 ⟨rfl,
 (by (try dsimp only at *); (((try simp only [Nat.zero_add, Int.toNat_natCast] at *); have e := (rest_yes h6 h7); first | (rw [e]; done) | (rw [e]; rfl) | (rw [e]; exact RowsEq.rfl') | (rw [e]; exact pushL_rows) | (simp only [e, List.length_append, List.length_singleton]; done) | (simp only [e, List.length_append, List.length_singleton]; omega))))⟩,
 rfl,
 ⟨rfl,
 rfl⟩,
 rfl,
 ⟨rfl,
 rfl⟩,
 ⟨rfl,
 rfl⟩,
 ⟨rfl,
 rfl⟩,
 ⟨rfl,
 rfl⟩,
 ⟨rfl,
 trivial⟩,
 rfl,
 trivial⟩,
 ⟨⟨(by (try dsimp only at *); (((try simp only [Nat.zero_add, Int.toNat_natCast] at *); have e := (rest_yes h6 h7); first | (rw [e]; done) | (rw [e]; rfl) | (rw [e]; exact RowsEq.rfl') | (rw [e]; exact pushL_rows) | (simp only [e, List.length_append, List.length_singleton]; done) | (simp only [e, List.length_append, List.length_singleton]; omega))))⟩,
 (by (try dsimp only at *); ((try simp only [Nat.zero_add, Int.toNat_natCast] at *); rw [rest_yes h6 h7]; exact pushU_rows ⟨rfl, rfl, rfl, rfl, rfl, rfl, rfl, rfl, rfl, rfl, trivial⟩))⟩,
 ⟨rfl,
 trivial⟩,
 ⟨⟨Nat.le_refl _⟩,
 RowsEq.rfl'⟩,
 ⟨⟨Nat.le_refl _⟩,
 RowsEq.rfl'⟩,
 ⟨⟨Nat.le_refl _⟩,
 RowsEq.rfl'⟩,
 ⟨⟨Nat.le_refl _⟩,
 RowsEq.rfl'⟩,
 trivial⟩,
 fun g9 => have h9 := of_decide_eq_false g9; ⟨⟨(by (try dsimp only at *); omega),
 (by (try dsimp only at *); (have := h2.u.us; simp only at this; omega))⟩,
 (x4 + (1 : Nat)),
 (by (try dsimp only at *); omega),
 (by (try dsimp only at *); omega),
 ⟨(by (try dsimp only at *); omega),
 ⟨rfl,
 (by (try dsimp only at *); (((try simp only [Nat.zero_add, Int.toNat_natCast] at *); have e := (rest_no h6 h9); first | (rw [e]; done) | (rw [e]; rfl) | (rw [e]; exact RowsEq.rfl') | (rw [e]; exact pushL_rows) | (simp only [e, List.length_append, List.length_singleton]; done) | (simp only [e, List.length_append, List.length_singleton]; omega))))⟩,
 rfl,
 ⟨rfl,
 rfl⟩,
 rfl,
 ⟨rfl,
 rfl⟩,
 ⟨rfl,
 rfl⟩,
 ⟨rfl,
 rfl⟩,
 ⟨rfl,
 rfl⟩,
 ⟨rfl,
 trivial⟩,
 rfl,
 trivial⟩,
 ⟨⟨(by (try dsimp only at *); (((try simp only [Nat.zero_add, Int.toNat_natCast] at *); have e := (rest_no h6 h9); first | (rw [e]; done) | (rw [e]; rfl) | (rw [e]; exact RowsEq.rfl') | (rw [e]; exact pushL_rows) | (simp only [e, List.length_append, List.length_singleton]; done) | (simp only [e, List.length_append, List.length_singleton]; omega))))⟩,
 (by (try dsimp only at *); (((try simp only [Nat.zero_add, Int.toNat_natCast] at *); have e := (rest_no h6 h9); first | (rw [e]; done) | (rw [e]; rfl) | (rw [e]; exact RowsEq.rfl') | (rw [e]; exact pushL_rows) | (simp only [e, List.length_append, List.length_singleton]; done) | (simp only [e, List.length_append, List.length_singleton]; omega))))⟩,
 ⟨rfl,
 trivial⟩,
 ⟨⟨Nat.le_refl _⟩,
 RowsEq.rfl'⟩,
 ⟨⟨Nat.le_refl _⟩,
 RowsEq.rfl'⟩,
 ⟨⟨Nat.le_refl _⟩,
 RowsEq.rfl'⟩,
 ⟨⟨Nat.le_refl _⟩,
 RowsEq.rfl'⟩,
 trivial⟩⟩,
 fun g11 => have h11 := of_decide_eq_false g11; ⟨({ g := YX.g x1, ts := YX.ts x1, us := YX.us x1, ws := YX.ws x1, t := default : YX }),
 (by (try dsimp only at *); exact ⟨h2.u, h2.w⟩),
 ⟨⟨rfl,
 rfl⟩,
 ⟨rfl,
 rfl⟩,
 ⟨rfl,
 rfl⟩,
 ⟨rfl,
 trivial⟩,
 trivial⟩,
 ⟨⟨⟨Nat.le_refl _⟩,
 RowsEq.rfl'⟩,
 ⟨⟨Nat.le_refl _⟩,
 RowsEq.rfl'⟩,
 ⟨⟨Nat.le_refl _⟩,
 RowsEq.rfl'⟩,
 ⟨⟨Nat.le_refl _⟩,
 RowsEq.rfl'⟩,
 trivial⟩,
 ({ g := YX.g x1, ts := YX.ts x1, us := restAt (YX.us x1) (YX.t x1) x4, ws := YX.ws x1, t := default : YX }),
 (by (try dsimp only at *); (rw [rest_end h5 h11]; exact ⟨h2.u.rest _, h2.w⟩)),
 ⟨⟨rfl,
 rfl⟩,
 ⟨rfl,
 rfl⟩,
 ⟨rfl,
 rfl⟩,
 ⟨rfl,
 trivial⟩,
 trivial⟩,
 ⟨⟨⟨Nat.le_refl _⟩,
 RowsEq.rfl'⟩,
 ⟨⟨Nat.le_refl _⟩,
 RowsEq.rfl'⟩,
 ⟨⟨Nat.le_refl _⟩,
 RowsEq.rfl'⟩,
 ⟨⟨Nat.le_refl _⟩,
 RowsEq.rfl'⟩,
 trivial⟩,
 fun g14 => have h14 := of_decide_eq_true g14; ⟨(by (try dsimp only at *); ((try simp only at *); rw [rest_end h5 h11] at *; first | exact (lossW_0 h14).symm | exact (lossW_inf h15 h16).symm | exact (lossW_sub h15 h17).symm)),
 trivial⟩,
 fun g15 => have h15 := of_decide_eq_false g15; ⟨fun g16 => have h16 := of_decide_eq_true g16; ⟨(by (try dsimp only at *); ((try simp only at *); rw [rest_end h5 h11] at *; first | exact (lossW_0 h14).symm | exact (lossW_inf h15 h16).symm | exact (lossW_sub h15 h17).symm)),
 trivial⟩,
 fun g17 => have h17 := of_decide_eq_false g17; ⟨⟨(by (try dsimp only at *); ((try simp only at *); rw [rest_end h5 h11] at *; have := worstW_rng h2.u.g x1.ts x1.us x1.ws; have := worstW_rng h2.u.g x1.ts (restL x1.us x1.t) x1.ws; (try simp only at *); omega)),
 (by (try dsimp only at *); ((try simp only at *); rw [rest_end h5 h11] at *; have := worstW_rng h2.u.g x1.ts x1.us x1.ws; have := worstW_rng h2.u.g x1.ts (restL x1.us x1.t) x1.ws; (try simp only at *); omega))⟩,
 (by (try dsimp only at *); ((try simp only at *); rw [rest_end h5 h11] at *; first | exact (lossW_0 h14).symm | exact (lossW_inf h15 h16).symm | exact (lossW_sub h15 h17).symm)),
 trivial⟩⟩⟩⟩⟩)
theorem closs_good : Good Tryd.prog 28 clossC /\ FnOk Tryd.prog 28 := good_of tok conKl (fn := Tryd.f28) rfl (by decide +kernel) (fun _ => rfl) closs_keeps
end Go.Sym