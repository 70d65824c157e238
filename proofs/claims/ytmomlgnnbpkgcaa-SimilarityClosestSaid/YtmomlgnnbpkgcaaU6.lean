import Derived.Test.YtmomlgnnbpkgcaaU5
import Derived.Test.YtmomlgnnbpkgcaaXD
namespace Go.Sym
set_option linter.unusedVariables false
set_option linter.unusedSimpArgs false
open Go.Proofs
set_option maxHeartbeats 4000000
instance : Inhabited Inc := ⟨⟨0, 0, ByteArray.empty, [], 0, 0, [], [], 0, false⟩⟩
def kInc : List Kd := [.int .i64, .int .i64, .str, .sl k1, .int .i64, .int .i64, .sl k1, .sl k1, .int .i64, .bool]
def encInc (x : Inc) : Nat -> D := encN [.i x.id, .i x.urg, .s x.code, .l x.nodes.length (encL encI x.nodes), .i x.dis, .i x.since, .l x.calls.length (encL encI x.calls), .l x.units.length (encL encI x.units), .i x.merged, .b x.closed]
def incsH (l : List Inc) (a : Nat) : List (Nat × Blk) := [(a, .rows .bor kInc l.length (encL encInc l))]
def incFew (x : Inc) : Bool := decide (x.nodes.length <= 30 /\ x.code.size <= 100)
def fewB (l : List Inc) : Bool := decide (l.length <= 12) && l.all incFew
def fewC : CT where
 X := List Inc
 pre := fun l => True
 args := fun l => [.sl 100000 0 l.length]
 g0 := fun l => incsH l 100000
 res := fun l => .b (fewB l)
 g1 := fun _ => []
def fewI (l : List Inc) (id : Nat) : Option Inv := match id with
 | 0 => some { X := Nat, ok := fun k => k <= l.length /\ (l.take k).all incFew = true, fr := fun k => [(3, .i .i64 k)], hp := fun _ => [], me := fun k => l.length - k }
 | _ => none
theorem getD_mem {α : Type} [Inhabited α] {l : List α} {k : Nat} (h : k < l.length) : l.getD k default ∈ l := by
 rw [List.getD_eq_getElem?_getD, List.getElem?_eq_getElem h]; exact List.getElem_mem _
theorem few_big {l : List Inc} (h : ¬ (l.length : Int) <= 12) : false = fewB l := by unfold fewB; rw [decide_eq_false (by omega)]; rfl
theorem few_bad {l : List Inc} {k : Nat} (hk : (k : Int) < l.length) (h : ¬ ((l.getD k default).nodes.length <= 30 /\ (l.getD k default).code.size <= 100)) : false = fewB l := by
 have : l.all incFew = false := by
  rw [List.all_eq_false]
  exact ⟨l.getD k default, getD_mem (by omega), by unfold incFew; rw [decide_eq_false h]; decide⟩
 unfold fewB; rw [this, Bool.and_false]
theorem few_step {l : List Inc} {k : Nat} (hk : (k : Int) < l.length) (h : (l.getD k default).nodes.length <= 30 /\ (l.getD k default).code.size <= 100) (ht : k <= l.length /\ (l.take k).all incFew = true) : (l.take (k + 1)).all incFew = true := by
 rw [take_succ_getD (d := default) (by omega), List.all_append, ht.2, List.all_cons, List.all_nil]
 unfold incFew; rw [decide_eq_true h]; rfl
theorem few_end {l : List Inc} {k : Nat} (hk : ¬ (k : Int) < l.length) (h0 : (l.length : Int) <= 12) (ht : k <= l.length /\ (l.take k).all incFew = true) : true = fewB l := by
 have h := ht.2
 rw [List.take_of_length_le (by omega)] at h
 unfold fewB; rw [h, decide_eq_true (by omega)]; rfl
set_option maxRecDepth 100000 in
theorem few_keeps : Keeps cfgN0 Try.f17 fewC fewI := Eq.mp (show ((∀ x1 : List Inc, (True -> (((decide (12 < (x1.length : Int)) = true)-> ((false = fewB x1)/\True))/\((decide (12 < (x1.length : Int)) = false)-> (∃ x5 : Nat, ((((x5 <= x1.length)/\(List.all (List.take x5 x1) incFew = true))/\(((0 = (x5 : Int))/\((decide (12 < (x1.length : Int)) = decide (12 < (x1.length : Int)))/\(((x1.length : Int) = (x1.length : Int))/\((0=0 /\ x1.length = x1.length)/\((0=0 /\ x1.length = x1.length)/\True)))))/\(((RLe x1.length x1.length)/\(RowsEq (.int .i64 :: .int .i64 :: Kd.str :: .sl [.int .i64] :: .int .i64 :: .int .i64 :: .sl [.int .i64] :: .sl [.int .i64] :: .int .i64 :: Kd.bool :: []) x1.length (encL encInc x1) (encL encInc x1)))/\True)))/\(∀ x6 : Nat, ((x6 <= x1.length /\ List.all (List.take x6 x1) incFew = true)-> (((decide ((x6 : Int) < (x1.length : Int)) = true)-> ((((0 : Int) <= (x6 : Int))/\((x6 : Int) < (x1.length : Int)))/\((0 + Int.toNat (x6 : Int) < x1.length)/\(((decide (30 < (↑(x1.getD (0 + Int.toNat (x6 : Int)) default).nodes.length : Int)) = false)-> ((((0 : Int) <= (x6 : Int))/\((x6 : Int) < (x1.length : Int)))/\((0 + Int.toNat (x6 : Int) < x1.length)/\(((decide (100 < (↑(ByteArray.size (x1.getD (0 + Int.toNat (x6 : Int)) default).code) : Int)) = true)-> ((false = fewB x1)/\True))/\((decide (100 < (↑(ByteArray.size (x1.getD (0 + Int.toNat (x6 : Int)) default).code) : Int)) = false)-> ((((-9223372036854775808 : Int) <= (x6 : Int) + 1)/\((x6 : Int) + 1 <= (9223372036854775807 : Int)))/\(∃ x12 : Nat, ((x1.length - x12 < x1.length - x6)/\(((x12 <= x1.length)/\(List.all (List.take x12 x1) incFew = true))/\((((x6 : Int) + 1 = (x12 : Int))/\((decide (12 < (x1.length : Int)) = decide (12 < (x1.length : Int)))/\(((x1.length : Int) = (x1.length : Int))/\((0=0 /\ x1.length = x1.length)/\((0=0 /\ x1.length = x1.length)/\True)))))/\(((RLe x1.length x1.length)/\(RowsEq (.int .i64 :: .int .i64 :: Kd.str :: .sl [.int .i64] :: .int .i64 :: .int .i64 :: .sl [.int .i64] :: .sl [.int .i64] :: .int .i64 :: Kd.bool :: []) x1.length (encL encInc x1) (encL encInc x1)))/\True)))))))))))/\((decide (30 < (↑(x1.getD (0 + Int.toNat (x6 : Int)) default).nodes.length : Int)) = true)-> ((false = fewB x1)/\True))))))/\((decide ((x6 : Int) < (x1.length : Int)) = false)-> ((true = fewB x1)/\True)))))))))))) = (Keeps cfgN0 Try.f17 fewC fewI) by kernel_rfl) (fun x1 => fun h2 => ⟨fun g3 => have h3 := of_decide_eq_true g3; ⟨(by exact few_big (by omega)),trivial⟩,
fun g4 => have h4 := of_decide_eq_false g4; ⟨((0 : Nat)),
⟨⟨(by (try dsimp only at *); omega),
(by (try dsimp only at *); grind)⟩,
⟨(by (try dsimp only at *); omega),rfl,rfl,
⟨rfl,rfl⟩,
⟨rfl,rfl⟩,trivial⟩,
⟨⟨Nat.le_refl _⟩,RowsEq.rfl'⟩,trivial⟩,
fun x6 => fun h7 => ⟨fun g8 => have h8 := of_decide_eq_true g8; ⟨⟨(by (try dsimp only at *); omega),
(by (try dsimp only at *); omega)⟩,
(by (try dsimp only at *); omega),
fun g9 => have h9 := of_decide_eq_false g9; ⟨⟨(by (try dsimp only at *); omega),
(by (try dsimp only at *); omega)⟩,
(by (try dsimp only at *); omega),
fun g10 => have h10 := of_decide_eq_true g10; ⟨(by (try dsimp only at *); ((try simp only [Nat.zero_add, Int.toNat_natCast] at *); exact few_bad ‹_› (by omega))),trivial⟩,
fun g11 => have h11 := of_decide_eq_false g11; ⟨⟨(by (try dsimp only at *); omega),
(by (try dsimp only at *); omega)⟩,
(x6 + (1 : Nat)),
(by (try dsimp only at *); omega),
⟨(by (try dsimp only at *); omega),
(by (try dsimp only at *); ((try simp only [Nat.zero_add, Int.toNat_natCast] at *); exact few_step ‹_› ⟨by omega, by omega⟩ ‹_›))⟩,
⟨(by (try dsimp only at *); omega),rfl,rfl,
⟨rfl,rfl⟩,
⟨rfl,rfl⟩,trivial⟩,
⟨⟨Nat.le_refl _⟩,RowsEq.rfl'⟩,trivial⟩⟩,
fun g13 => have h13 := of_decide_eq_true g13; ⟨(by (try dsimp only at *); ((try simp only [Nat.zero_add, Int.toNat_natCast] at *); exact few_bad ‹_› (by omega))),trivial⟩⟩,
fun g14 => have h14 := of_decide_eq_false g14; ⟨(by (try dsimp only at *); exact few_end ‹_› (by omega) ‹_›),trivial⟩⟩⟩⟩)
theorem few_good : Good Try.prog 17 fewC /\ FnOk Try.prog 17 := good_of tok conN0 (fn := Try.f17) rfl (by decide +kernel) (fun _ => rfl) few_keeps
structure LSx where
 g : Gr
 ts : List Int
 l : List Inc
 t : Cal
 near : Int
 win : Int
structure LSok (x : LSx) : Prop where
 g : GOk x.g
 n : x.g.n <= 12
 len : x.l.length <= 1048576
 xs : ∀ y ∈ x.l, y.nodes.length <= 1048576 /\ y.code.size <= 1073741824
 tn : x.t.nodes.length <= 1048576
 tc : x.t.code.size <= 1073741824
theorem LSok.at {x : LSx} (h : LSok x) {k : Nat} (hk : (k : Int) < x.l.length) : SIok ⟨x.g, x.ts, x.l.getD k default, x.t, x.near, x.win⟩ := by
 have := h.xs _ (getD_mem (l := x.l) (k := k) (by omega))
 exact ⟨h.g, h.n, this.1, h.tn, this.2, h.tc⟩
theorem LSok.ga {x : LSx} (h : LSok x) {k : Nat} (hk : (k : Int) < x.l.length) : GAok ⟨x.g, x.ts, (x.l.getD k default).nodes, x.t.nodes⟩ := ⟨h.g, h.n, (h.at hk).xn, h.tn⟩
def clStep (g : Gr) (ts : List Int) (t : Cal) (near win : Int) (s : Int × Int) (x : Inc) : Int × Int :=
 if simB g ts x (ofT t) near win = true /\ gapP g ts x.nodes t.nodes < s.1 then (gapP g ts x.nodes t.nodes, x.id) else s
def clAt (x : LSx) (k : Nat) : Int × Int := (x.l.take k).foldl (clStep x.g x.ts x.t x.near x.win) (4611686018427387904, 0)
def clL (x : LSx) : Int × Int := x.l.foldl (clStep x.g x.ts x.t x.near x.win) (4611686018427387904, 0)
theorem clAt_succ {x : LSx} {k : Nat} (hk : (k : Int) < x.l.length) : clAt x (k + 1) = clStep x.g x.ts x.t x.near x.win (clAt x k) (x.l.getD k default) := by
 unfold clAt; rw [take_succ_getD (d := default) (by omega), List.foldl_append]; rfl
theorem clAt_full {x : LSx} {k : Nat} (h1 : k <= x.l.length) (h2 : ¬ (k : Int) < x.l.length) : clAt x k = clL x := by
 unfold clAt clL; rw [List.take_of_length_le (by omega)]
theorem clAt_yes {x : LSx} {k : Nat} (hk : (k : Int) < x.l.length) (h1 : simB x.g x.ts (x.l.getD k default) (ofT x.t) x.near x.win = true) (h2 : gapP x.g x.ts (x.l.getD k default).nodes x.t.nodes < (clAt x k).1) :
  clAt x (k + 1) = (gapP x.g x.ts (x.l.getD k default).nodes x.t.nodes, (x.l.getD k default).id) := by rw [clAt_succ hk]; exact if_pos ⟨h1, h2⟩
theorem clAt_no {x : LSx} {k : Nat} (hk : (k : Int) < x.l.length) (h : ¬ (simB x.g x.ts (x.l.getD k default) (ofT x.t) x.near x.win = true /\ gapP x.g x.ts (x.l.getD k default).nodes x.t.nodes < (clAt x k).1)) : clAt x (k + 1) = clAt x k := by rw [clAt_succ hk]; exact if_neg h
def closC : CT where
 X := LSx
 pre := LSok
 args := fun x => [.p 100000 0 0, .sl 100001 0 x.ts.length, .sl 100002 0 x.l.length, calA x.t 100003, .i .i64 x.near, .i .i64 x.win]
 g0 := fun x => graphH x.g 100000 ++ [(100001, .rows .bor k1 x.ts.length (encL encI x.ts))] ++ incsH x.l 100002 ++ calH x.t 100003
 res := fun x => .i .i64 (clL x).2
 g1 := fun _ => []
def closI (x : LSx) (id : Nat) : Option Inv := match id with
 | 0 => some { X := Nat, ok := fun k => k <= x.l.length, fr := fun k => [(26, .i .i64 k), (15, .i .i64 (clAt x k).2), (14, .i .i64 (clAt x k).1)], hp := fun _ => [], me := fun k => x.l.length - k }
 | _ => none
def cfgUg : Cfg := ⟨T, [], [(26, .one newFC), (30, .one openC), (25, .one kinC), (31, .one stimeC), (27, .one fdC), (32, .one withinC)], noInv, 40, {}⟩
theorem conUg : ConOk Try.prog cfgUg := ConL.ok (.cons (ConL.one newF_good) (.cons (ConL.one open_good) (.cons (ConL.one zsame_good) (.cons (ConL.one stime_good) (.cons (ConL.one fd_good) (.cons (ConL.one zwithin_good) .nil))))))
theorem gap_at {x : LSx} (h : LSok x) (k : Nat) : gapL (fdOf x.g x.ts x.t.nodes (x.l.getD k default).nodes) = gapP x.g x.ts (x.l.getD k default).nodes x.t.nodes := by rw [gap_fd h.g, gap_sym h.g]
theorem sim_iff {x : LSx} {k : Nat} (h : LSok x) : simB x.g x.ts (x.l.getD k default) (ofT x.t) x.near x.win = true ↔ opn (x.l.getD k default) = true /\ kin (x.l.getD k default).code x.t.code = true /\ apart (x.l.getD k default).since x.t.since <= x.win /\
  wthin (gapL (fdOf x.g x.ts x.t.nodes (x.l.getD k default).nodes)) x.near = true := by
 rw [gap_at h]; unfold simB nearB ofT; simp [and_assoc]
theorem cl_y {x : LSx} {k : Nat} (h : LSok x) (hk : (k : Int) < x.l.length) (h9 : (!opn (x.l.getD k default)) = false) (h11 : (!kin (x.l.getD k default).code x.t.code) = false) (h15 : apart (x.l.getD k default).since x.t.since <= x.win)
  (h18 : wthin (gapL (fdOf x.g x.ts x.t.nodes (x.l.getD k default).nodes)) x.near = true) (h19 : gapL (fdOf x.g x.ts x.t.nodes (x.l.getD k default).nodes) < (clAt x k).1) :
  clAt x (k + 1) = (gapL (fdOf x.g x.ts x.t.nodes (x.l.getD k default).nodes), (x.l.getD k default).id) := by
 have e := clAt_yes hk ((sim_iff h).2 ⟨by simpa using h9, by simpa using h11, h15, h18⟩) (by rw [<- gap_at h]; exact h19)
 rw [e, gap_at h]
theorem cl_n1 {x : LSx} {k : Nat} (h : LSok x) (hk : (k : Int) < x.l.length) (h19 : ¬ gapL (fdOf x.g x.ts x.t.nodes (x.l.getD k default).nodes) < (clAt x k).1) : clAt x (k + 1) = clAt x k := clAt_no hk fun q => h19 (by rw [gap_at h]; exact q.2)
theorem cl_n2 {x : LSx} {k : Nat} (h : LSok x) (hk : (k : Int) < x.l.length) (h18 : wthin (gapL (fdOf x.g x.ts x.t.nodes (x.l.getD k default).nodes)) x.near = false) : clAt x (k + 1) = clAt x k := clAt_no hk fun q => by have := ((sim_iff h).1 q.1).2.2.2; rw [h18] at this; cases this
theorem cl_n3 {x : LSx} {k : Nat} (h : LSok x) (hk : (k : Int) < x.l.length) (h15 : ¬ apart (x.l.getD k default).since x.t.since <= x.win) : clAt x (k + 1) = clAt x k := clAt_no hk fun q => h15 ((sim_iff h).1 q.1).2.2.1
theorem cl_n4 {x : LSx} {k : Nat} (h : LSok x) (hk : (k : Int) < x.l.length) (h11 : (!kin (x.l.getD k default).code x.t.code) = true) : clAt x (k + 1) = clAt x k := clAt_no hk fun q => by have := ((sim_iff h).1 q.1).2.1; rw [this] at h11; cases h11
theorem cl_n5 {x : LSx} {k : Nat} (h : LSok x) (hk : (k : Int) < x.l.length) (h9 : (!opn (x.l.getD k default)) = true) : clAt x (k + 1) = clAt x k := clAt_no hk fun q => by have := ((sim_iff h).1 q.1).1; rw [this] at h9; cases h9
set_option maxRecDepth 100000 in
theorem clos_keeps : Keeps cfgUg Try.f19 closC closI := Eq.mp (show ((∀ x1 : LSx, ((LSok x1)-> (∃ x3 : FX, ((FXok x3)/\(((0=0 /\ 0=0)/\((0=0 /\ x1.ts.length = x3.ts.length)/\((0=0 /\ x1.t.nodes.length = x3.src.length)/\True)))/\(((RLe 1 1/\(RowsEq [.sl [.int .i64, .int .i64, .int .i64], .sl [.sl [.int .i64]], .sl [.sl [.int .i64]]] 1 (encG x1.g) (encG x3.g)))/\(((RLe x3.ts.length x1.ts.length)/\(RowsEq [.int .i64] x3.ts.length (encL encI x1.ts) (encL encI x3.ts)))/\(((RLe x3.src.length x1.t.nodes.length)/\(RowsEq [.int .i64] x3.src.length (encL encI x1.t.nodes) (encL encI x3.src)))/\True)))/\(∃ x4 : Nat, (((x4 <= x1.l.length)/\(((0 = (x4 : Int))/\(((0 : Int) = Prod.snd (clAt x1 x4))/\(((4611686018427387904 : Int) = Prod.fst (clAt x1 x4))/\(((x1.l.length : Int) = (x1.l.length : Int))/\((0=0 /\ x1.l.length = x1.l.length)/\((0=0 /\ 0=0)/\(((0=0 /\ x3.g.n = x3.g.n)/\((0=0 /\ x3.g.n = x3.g.n)/\True))/\((0=0 /\ x1.t.nodes.length = x1.t.nodes.length)/\((0=0/\((4 : Nat) = (4 : Nat)))/\((0=0 /\ x1.ts.length = x1.ts.length)/\((0=0 /\ 0=0)/\(((0 : Int) = 0)/\((0=0 /\ 0=0)/\((0=0 /\ 0=0)/\((0=0 /\ x1.ts.length = x1.ts.length)/\((0=0 /\ x1.l.length = x1.l.length)/\((x1.t.call = x1.t.call/\(x1.t.inc = x1.t.inc/\(x1.t.urg = x1.t.urg/\(x1.t.code = x1.t.code/\((0=0 /\ x1.t.nodes.length = x1.t.nodes.length)/\(x1.t.dis = x1.t.dis/\(x1.t.since = x1.t.since/\(x1.t.closed = x1.t.closed/\True))))))))/\(x1.near = x1.near/\(x1.win = x1.win/\True)))))))))))))))))))/\(((0=0 /\ x3.g.n = x3.g.n)/\((0=0 /\ x3.g.n = x3.g.n)/\True))/\(((RLe x3.g.n x3.g.n)/\(RowsEq [.int .i64] x3.g.n (encL encI (distG x3.g x3.ts x3.src true)) (encL encI (distG x3.g x3.ts x3.src true))))/\(((RLe x3.g.n x3.g.n)/\(RowsEq [.int .i64] x3.g.n (encL encI (distG x3.g x3.ts x3.src false)) (encL encI (distG x3.g x3.ts x3.src false))))/\((x1.t.call = x1.t.call/\(x1.t.inc = x1.t.inc/\(x1.t.urg = x1.t.urg/\(x1.t.code = x1.t.code/\((0=0 /\ x1.t.nodes.length = x1.t.nodes.length)/\(x1.t.dis = x1.t.dis/\(x1.t.since = x1.t.since/\(x1.t.closed = x1.t.closed/\True))))))))/\((RLe 1 1/\(RowsEq [.sl [.int .i64, .int .i64, .int .i64], .sl [.sl [.int .i64]], .sl [.sl [.int .i64]]] 1 (encG x1.g) (encG x1.g)))/\(((RLe x1.ts.length x1.ts.length)/\(RowsEq [.int .i64] x1.ts.length (encL encI x1.ts) (encL encI x1.ts)))/\(((RLe x1.l.length x1.l.length)/\(RowsEq (.int .i64 :: .int .i64 :: Kd.str :: .sl [.int .i64] :: .int .i64 :: .int .i64 :: .sl [.int .i64] :: .sl [.int .i64] :: .int .i64 :: Kd.bool :: []) x1.l.length (encL encInc x1.l) (encL encInc x1.l)))/\(((RLe x1.t.nodes.length x1.t.nodes.length)/\(RowsEq [.int .i64] x1.t.nodes.length (encL encI x1.t.nodes) (encL encI x1.t.nodes)))/\True))))))))))/\(∀ x5 : Nat, ((x5 <= x1.l.length)-> (((decide ((x5 : Int) < (x1.l.length : Int)) = true)-> ((((0 : Int) <= (x5 : Int))/\((x5 : Int) < (x1.l.length : Int)))/\((0 + Int.toNat (x5 : Int) < x1.l.length)/\(∃ x8 : Inc, (True/\(((((x1.l.getD (0 + Int.toNat (x5 : Int)) default).id = x8.id)/\(((x1.l.getD (0 + Int.toNat (x5 : Int)) default).urg = x8.urg)/\(((x1.l.getD (0 + Int.toNat (x5 : Int)) default).code = x8.code)/\((0=0/\((x1.l.getD (0 + Int.toNat (x5 : Int)) default).nodes.length = x8.nodes.length))/\(((x1.l.getD (0 + Int.toNat (x5 : Int)) default).dis = x8.dis)/\(((x1.l.getD (0 + Int.toNat (x5 : Int)) default).since = x8.since)/\((0=0/\((x1.l.getD (0 + Int.toNat (x5 : Int)) default).calls.length = x8.calls.length))/\((0=0/\((x1.l.getD (0 + Int.toNat (x5 : Int)) default).units.length = x8.units.length))/\(((x1.l.getD (0 + Int.toNat (x5 : Int)) default).merged = x8.merged)/\(((x1.l.getD (0 + Int.toNat (x5 : Int)) default).closed = x8.closed)/\True))))))))))/\True)/\((((RLe x8.nodes.length (x1.l.getD (0 + Int.toNat (x5 : Int)) default).nodes.length)/\(RowsEq [.int .i64] x8.nodes.length (D.toF (D.l (x1.l.getD (0 + Int.toNat (x5 : Int)) default).nodes.length (encL encI (x1.l.getD (0 + Int.toNat (x5 : Int)) default).nodes))) (encL encI x8.nodes)))/\(((RLe x8.calls.length (x1.l.getD (0 + Int.toNat (x5 : Int)) default).calls.length)/\(RowsEq [.int .i64] x8.calls.length (D.toF (D.l (x1.l.getD (0 + Int.toNat (x5 : Int)) default).calls.length (encL encI (x1.l.getD (0 + Int.toNat (x5 : Int)) default).calls))) (encL encI x8.calls)))/\(((RLe x8.units.length (x1.l.getD (0 + Int.toNat (x5 : Int)) default).units.length)/\(RowsEq [.int .i64] x8.units.length (D.toF (D.l (x1.l.getD (0 + Int.toNat (x5 : Int)) default).units.length (encL encI (x1.l.getD (0 + Int.toNat (x5 : Int)) default).units))) (encL encI x8.units)))/\True)))/\((((!opn x8) = false)-> (∃ x10 : SSx, (((ByteArray.size x10.a <= (1073741824 : Nat))/\(ByteArray.size x10.b <= (1073741824 : Nat)))/\((((x1.l.getD (0 + Int.toNat (x5 : Int)) default).code = x10.a)/\(x1.t.code = x10.b/\True))/\(True/\((((!kin x10.a x10.b) = false)-> (∃ x12 : TWx, (True/\((((x1.l.getD (0 + Int.toNat (x5 : Int)) default).since = x12.a)/\(x1.t.since = x12.b/\(x1.win = x12.w/\True)))/\(True/\((((!decide (apart x12.a x12.b <= x12.w)) = true)-> ((((-9223372036854775808 : Int) <= (x5 : Int) + 1)/\((x5 : Int) + 1 <= (9223372036854775807 : Int)))/\(∃ x14 : Nat, ((x1.l.length - x14 < x1.l.length - x5)/\((x14 <= x1.l.length)/\((((x5 : Int) + 1 = (x14 : Int))/\((Prod.snd (clAt x1 x5) = Prod.snd (clAt x1 x14))/\((Prod.fst (clAt x1 x5) = Prod.fst (clAt x1 x14))/\(((x1.l.length : Int) = (x1.l.length : Int))/\((0=0 /\ x1.l.length = x1.l.length)/\((0=0 /\ 0=0)/\(((0=0 /\ x3.g.n = x3.g.n)/\((0=0 /\ x3.g.n = x3.g.n)/\True))/\((0=0 /\ x1.t.nodes.length = x1.t.nodes.length)/\((0=0/\((4 : Nat) = (4 : Nat)))/\((0=0 /\ x1.ts.length = x1.ts.length)/\((0=0 /\ 0=0)/\(((0 : Int) = 0)/\((0=0 /\ 0=0)/\((0=0 /\ 0=0)/\((0=0 /\ x1.ts.length = x1.ts.length)/\((0=0 /\ x1.l.length = x1.l.length)/\((x1.t.call = x1.t.call/\(x1.t.inc = x1.t.inc/\(x1.t.urg = x1.t.urg/\(x1.t.code = x1.t.code/\((0=0 /\ x1.t.nodes.length = x1.t.nodes.length)/\(x1.t.dis = x1.t.dis/\(x1.t.since = x1.t.since/\(x1.t.closed = x1.t.closed/\True))))))))/\(x1.near = x1.near/\(x1.win = x1.win/\True)))))))))))))))))))/\(((0=0 /\ x3.g.n = x3.g.n)/\((0=0 /\ x3.g.n = x3.g.n)/\True))/\(((RLe x3.g.n x3.g.n)/\(RowsEq [.int .i64] x3.g.n (encL encI (distG x3.g x3.ts x3.src true)) (encL encI (distG x3.g x3.ts x3.src true))))/\(((RLe x3.g.n x3.g.n)/\(RowsEq [.int .i64] x3.g.n (encL encI (distG x3.g x3.ts x3.src false)) (encL encI (distG x3.g x3.ts x3.src false))))/\((x1.t.call = x1.t.call/\(x1.t.inc = x1.t.inc/\(x1.t.urg = x1.t.urg/\(x1.t.code = x1.t.code/\((0=0 /\ x1.t.nodes.length = x1.t.nodes.length)/\(x1.t.dis = x1.t.dis/\(x1.t.since = x1.t.since/\(x1.t.closed = x1.t.closed/\True))))))))/\((RLe 1 1/\(RowsEq [.sl [.int .i64, .int .i64, .int .i64], .sl [.sl [.int .i64]], .sl [.sl [.int .i64]]] 1 (encG x1.g) (encG x1.g)))/\(((RLe x1.ts.length x1.ts.length)/\(RowsEq [.int .i64] x1.ts.length (encL encI x1.ts) (encL encI x1.ts)))/\(((RLe x1.l.length x1.l.length)/\(RowsEq (.int .i64 :: .int .i64 :: Kd.str :: .sl [.int .i64] :: .int .i64 :: .int .i64 :: .sl [.int .i64] :: .sl [.int .i64] :: .int .i64 :: Kd.bool :: []) x1.l.length (encL encInc x1.l) (encL encInc x1.l)))/\(((RLe x1.t.nodes.length x1.t.nodes.length)/\(RowsEq [.int .i64] x1.t.nodes.length (encL encI x1.t.nodes) (encL encI x1.t.nodes)))/\True))))))))))))))/\(((!decide (apart x12.a x12.b <= x12.w)) = false)-> (∃ x16 : FDx, (((x16.l.length <= (1073741824 : Nat))/\((x16.fr.length <= (1073741824 : Nat))/\(x16.tw.length <= (1073741824 : Nat))))/\((((0=0 /\ x3.g.n = x16.fr.length)/\((0=0 /\ x3.g.n = x16.tw.length)/\True))/\((0=0/\((x1.l.getD (0 + Int.toNat (x5 : Int)) default).nodes.length = x16.l.length))/\True))/\((((RLe x16.fr.length x3.g.n)/\(RowsEq [.int .i64] x16.fr.length (encL encI (distG x3.g x3.ts x3.src true)) (encL encI x16.fr)))/\(((RLe x16.tw.length x3.g.n)/\(RowsEq [.int .i64] x16.tw.length (encL encI (distG x3.g x3.ts x3.src false)) (encL encI x16.tw)))/\(((RLe x16.l.length (x1.l.getD (0 + Int.toNat (x5 : Int)) default).nodes.length)/\(RowsEq [.int .i64] x16.l.length (D.toF (D.l (x1.l.getD (0 + Int.toNat (x5 : Int)) default).nodes.length (encL encI (x1.l.getD (0 + Int.toNat (x5 : Int)) default).nodes))) (encL encI x16.l)))/\True)))/\(∃ x17 : IIx, (True/\(((gapL x16 = x17.a)/\(x1.near = x17.b/\True))/\(True/\(((wthin x17.a x17.b = true)-> (((decide (gapL x16 < Prod.fst (clAt x1 x5)) = true)-> ((((-9223372036854775808 : Int) <= (x5 : Int) + 1)/\((x5 : Int) + 1 <= (9223372036854775807 : Int)))/\(∃ x20 : Nat, ((x1.l.length - x20 < x1.l.length - x5)/\((x20 <= x1.l.length)/\((((x5 : Int) + 1 = (x20 : Int))/\(((x1.l.getD (0 + Int.toNat (x5 : Int)) default).id = Prod.snd (clAt x1 x20))/\((gapL x16 = Prod.fst (clAt x1 x20))/\(((x1.l.length : Int) = (x1.l.length : Int))/\((0=0 /\ x1.l.length = x1.l.length)/\((0=0 /\ 0=0)/\(((0=0 /\ x3.g.n = x3.g.n)/\((0=0 /\ x3.g.n = x3.g.n)/\True))/\((0=0 /\ x1.t.nodes.length = x1.t.nodes.length)/\((0=0/\((4 : Nat) = (4 : Nat)))/\((0=0 /\ x1.ts.length = x1.ts.length)/\((0=0 /\ 0=0)/\(((0 : Int) = 0)/\((0=0 /\ 0=0)/\((0=0 /\ 0=0)/\((0=0 /\ x1.ts.length = x1.ts.length)/\((0=0 /\ x1.l.length = x1.l.length)/\((x1.t.call = x1.t.call/\(x1.t.inc = x1.t.inc/\(x1.t.urg = x1.t.urg/\(x1.t.code = x1.t.code/\((0=0 /\ x1.t.nodes.length = x1.t.nodes.length)/\(x1.t.dis = x1.t.dis/\(x1.t.since = x1.t.since/\(x1.t.closed = x1.t.closed/\True))))))))/\(x1.near = x1.near/\(x1.win = x1.win/\True)))))))))))))))))))/\(((0=0 /\ x3.g.n = x3.g.n)/\((0=0 /\ x3.g.n = x3.g.n)/\True))/\(((RLe x3.g.n x3.g.n)/\(RowsEq [.int .i64] x3.g.n (encL encI (distG x3.g x3.ts x3.src true)) (encL encI (distG x3.g x3.ts x3.src true))))/\(((RLe x3.g.n x3.g.n)/\(RowsEq [.int .i64] x3.g.n (encL encI (distG x3.g x3.ts x3.src false)) (encL encI (distG x3.g x3.ts x3.src false))))/\((x1.t.call = x1.t.call/\(x1.t.inc = x1.t.inc/\(x1.t.urg = x1.t.urg/\(x1.t.code = x1.t.code/\((0=0 /\ x1.t.nodes.length = x1.t.nodes.length)/\(x1.t.dis = x1.t.dis/\(x1.t.since = x1.t.since/\(x1.t.closed = x1.t.closed/\True))))))))/\((RLe 1 1/\(RowsEq [.sl [.int .i64, .int .i64, .int .i64], .sl [.sl [.int .i64]], .sl [.sl [.int .i64]]] 1 (encG x1.g) (encG x1.g)))/\(((RLe x1.ts.length x1.ts.length)/\(RowsEq [.int .i64] x1.ts.length (encL encI x1.ts) (encL encI x1.ts)))/\(((RLe x1.l.length x1.l.length)/\(RowsEq (.int .i64 :: .int .i64 :: Kd.str :: .sl [.int .i64] :: .int .i64 :: .int .i64 :: .sl [.int .i64] :: .sl [.int .i64] :: .int .i64 :: Kd.bool :: []) x1.l.length (encL encInc x1.l) (encL encInc x1.l)))/\(((RLe x1.t.nodes.length x1.t.nodes.length)/\(RowsEq [.int .i64] x1.t.nodes.length (encL encI x1.t.nodes) (encL encI x1.t.nodes)))/\True))))))))))))))/\((decide (gapL x16 < Prod.fst (clAt x1 x5)) = false)-> ((((-9223372036854775808 : Int) <= (x5 : Int) + 1)/\((x5 : Int) + 1 <= (9223372036854775807 : Int)))/\(∃ x22 : Nat, ((x1.l.length - x22 < x1.l.length - x5)/\((x22 <= x1.l.length)/\((((x5 : Int) + 1 = (x22 : Int))/\((Prod.snd (clAt x1 x5) = Prod.snd (clAt x1 x22))/\((Prod.fst (clAt x1 x5) = Prod.fst (clAt x1 x22))/\(((x1.l.length : Int) = (x1.l.length : Int))/\((0=0 /\ x1.l.length = x1.l.length)/\((0=0 /\ 0=0)/\(((0=0 /\ x3.g.n = x3.g.n)/\((0=0 /\ x3.g.n = x3.g.n)/\True))/\((0=0 /\ x1.t.nodes.length = x1.t.nodes.length)/\((0=0/\((4 : Nat) = (4 : Nat)))/\((0=0 /\ x1.ts.length = x1.ts.length)/\((0=0 /\ 0=0)/\(((0 : Int) = 0)/\((0=0 /\ 0=0)/\((0=0 /\ 0=0)/\((0=0 /\ x1.ts.length = x1.ts.length)/\((0=0 /\ x1.l.length = x1.l.length)/\((x1.t.call = x1.t.call/\(x1.t.inc = x1.t.inc/\(x1.t.urg = x1.t.urg/\(x1.t.code = x1.t.code/\((0=0 /\ x1.t.nodes.length = x1.t.nodes.length)/\(x1.t.dis = x1.t.dis/\(x1.t.since = x1.t.since/\(x1.t.closed = x1.t.closed/\True))))))))/\(x1.near = x1.near/\(x1.win = x1.win/\True)))))))))))))))))))/\(((0=0 /\ x3.g.n = x3.g.n)/\((0=0 /\ x3.g.n = x3.g.n)/\True))/\(((RLe x3.g.n x3.g.n)/\(RowsEq [.int .i64] x3.g.n (encL encI (distG x3.g x3.ts x3.src true)) (encL encI (distG x3.g x3.ts x3.src true))))/\(((RLe x3.g.n x3.g.n)/\(RowsEq [.int .i64] x3.g.n (encL encI (distG x3.g x3.ts x3.src false)) (encL encI (distG x3.g x3.ts x3.src false))))/\((x1.t.call = x1.t.call/\(x1.t.inc = x1.t.inc/\(x1.t.urg = x1.t.urg/\(x1.t.code = x1.t.code/\((0=0 /\ x1.t.nodes.length = x1.t.nodes.length)/\(x1.t.dis = x1.t.dis/\(x1.t.since = x1.t.since/\(x1.t.closed = x1.t.closed/\True))))))))/\((RLe 1 1/\(RowsEq [.sl [.int .i64, .int .i64, .int .i64], .sl [.sl [.int .i64]], .sl [.sl [.int .i64]]] 1 (encG x1.g) (encG x1.g)))/\(((RLe x1.ts.length x1.ts.length)/\(RowsEq [.int .i64] x1.ts.length (encL encI x1.ts) (encL encI x1.ts)))/\(((RLe x1.l.length x1.l.length)/\(RowsEq (.int .i64 :: .int .i64 :: Kd.str :: .sl [.int .i64] :: .int .i64 :: .int .i64 :: .sl [.int .i64] :: .sl [.int .i64] :: .int .i64 :: Kd.bool :: []) x1.l.length (encL encInc x1.l) (encL encInc x1.l)))/\(((RLe x1.t.nodes.length x1.t.nodes.length)/\(RowsEq [.int .i64] x1.t.nodes.length (encL encI x1.t.nodes) (encL encI x1.t.nodes)))/\True))))))))))))))))/\((wthin x17.a x17.b = false)-> ((((-9223372036854775808 : Int) <= (x5 : Int) + 1)/\((x5 : Int) + 1 <= (9223372036854775807 : Int)))/\(∃ x24 : Nat, ((x1.l.length - x24 < x1.l.length - x5)/\((x24 <= x1.l.length)/\((((x5 : Int) + 1 = (x24 : Int))/\((Prod.snd (clAt x1 x5) = Prod.snd (clAt x1 x24))/\((Prod.fst (clAt x1 x5) = Prod.fst (clAt x1 x24))/\(((x1.l.length : Int) = (x1.l.length : Int))/\((0=0 /\ x1.l.length = x1.l.length)/\((0=0 /\ 0=0)/\(((0=0 /\ x3.g.n = x3.g.n)/\((0=0 /\ x3.g.n = x3.g.n)/\True))/\((0=0 /\ x1.t.nodes.length = x1.t.nodes.length)/\((0=0/\((4 : Nat) = (4 : Nat)))/\((0=0 /\ x1.ts.length = x1.ts.length)/\((0=0 /\ 0=0)/\(((0 : Int) = 0)/\((0=0 /\ 0=0)/\((0=0 /\ 0=0)/\((0=0 /\ x1.ts.length = x1.ts.length)/\((0=0 /\ x1.l.length = x1.l.length)/\((x1.t.call = x1.t.call/\(x1.t.inc = x1.t.inc/\(x1.t.urg = x1.t.urg/\(x1.t.code = x1.t.code/\((0=0 /\ x1.t.nodes.length = x1.t.nodes.length)/\(x1.t.dis = x1.t.dis/\(x1.t.since = x1.t.since/\(x1.t.closed = x1.t.closed/\True))))))))/\(x1.near = x1.near/\(x1.win = x1.win/\True)))))))))))))))))))/\(((0=0 /\ x3.g.n = x3.g.n)/\((0=0 /\ x3.g.n = x3.g.n)/\True))/\(((RLe x3.g.n x3.g.n)/\(RowsEq [.int .i64] x3.g.n (encL encI (distG x3.g x3.ts x3.src true)) (encL encI (distG x3.g x3.ts x3.src true))))/\(((RLe x3.g.n x3.g.n)/\(RowsEq [.int .i64] x3.g.n (encL encI (distG x3.g x3.ts x3.src false)) (encL encI (distG x3.g x3.ts x3.src false))))/\((x1.t.call = x1.t.call/\(x1.t.inc = x1.t.inc/\(x1.t.urg = x1.t.urg/\(x1.t.code = x1.t.code/\((0=0 /\ x1.t.nodes.length = x1.t.nodes.length)/\(x1.t.dis = x1.t.dis/\(x1.t.since = x1.t.since/\(x1.t.closed = x1.t.closed/\True))))))))/\((RLe 1 1/\(RowsEq [.sl [.int .i64, .int .i64, .int .i64], .sl [.sl [.int .i64]], .sl [.sl [.int .i64]]] 1 (encG x1.g) (encG x1.g)))/\(((RLe x1.ts.length x1.ts.length)/\(RowsEq [.int .i64] x1.ts.length (encL encI x1.ts) (encL encI x1.ts)))/\(((RLe x1.l.length x1.l.length)/\(RowsEq (.int .i64 :: .int .i64 :: Kd.str :: .sl [.int .i64] :: .int .i64 :: .int .i64 :: .sl [.int .i64] :: .sl [.int .i64] :: .int .i64 :: Kd.bool :: []) x1.l.length (encL encInc x1.l) (encL encInc x1.l)))/\(((RLe x1.t.nodes.length x1.t.nodes.length)/\(RowsEq [.int .i64] x1.t.nodes.length (encL encI x1.t.nodes) (encL encI x1.t.nodes)))/\True))))))))))))))))))))))))))))))/\(((!kin x10.a x10.b) = true)-> ((((-9223372036854775808 : Int) <= (x5 : Int) + 1)/\((x5 : Int) + 1 <= (9223372036854775807 : Int)))/\(∃ x26 : Nat, ((x1.l.length - x26 < x1.l.length - x5)/\((x26 <= x1.l.length)/\((((x5 : Int) + 1 = (x26 : Int))/\((Prod.snd (clAt x1 x5) = Prod.snd (clAt x1 x26))/\((Prod.fst (clAt x1 x5) = Prod.fst (clAt x1 x26))/\(((x1.l.length : Int) = (x1.l.length : Int))/\((0=0 /\ x1.l.length = x1.l.length)/\((0=0 /\ 0=0)/\(((0=0 /\ x3.g.n = x3.g.n)/\((0=0 /\ x3.g.n = x3.g.n)/\True))/\((0=0 /\ x1.t.nodes.length = x1.t.nodes.length)/\((0=0/\((4 : Nat) = (4 : Nat)))/\((0=0 /\ x1.ts.length = x1.ts.length)/\((0=0 /\ 0=0)/\(((0 : Int) = 0)/\((0=0 /\ 0=0)/\((0=0 /\ 0=0)/\((0=0 /\ x1.ts.length = x1.ts.length)/\((0=0 /\ x1.l.length = x1.l.length)/\((x1.t.call = x1.t.call/\(x1.t.inc = x1.t.inc/\(x1.t.urg = x1.t.urg/\(x1.t.code = x1.t.code/\((0=0 /\ x1.t.nodes.length = x1.t.nodes.length)/\(x1.t.dis = x1.t.dis/\(x1.t.since = x1.t.since/\(x1.t.closed = x1.t.closed/\True))))))))/\(x1.near = x1.near/\(x1.win = x1.win/\True)))))))))))))))))))/\(((0=0 /\ x3.g.n = x3.g.n)/\((0=0 /\ x3.g.n = x3.g.n)/\True))/\(((RLe x3.g.n x3.g.n)/\(RowsEq [.int .i64] x3.g.n (encL encI (distG x3.g x3.ts x3.src true)) (encL encI (distG x3.g x3.ts x3.src true))))/\(((RLe x3.g.n x3.g.n)/\(RowsEq [.int .i64] x3.g.n (encL encI (distG x3.g x3.ts x3.src false)) (encL encI (distG x3.g x3.ts x3.src false))))/\((x1.t.call = x1.t.call/\(x1.t.inc = x1.t.inc/\(x1.t.urg = x1.t.urg/\(x1.t.code = x1.t.code/\((0=0 /\ x1.t.nodes.length = x1.t.nodes.length)/\(x1.t.dis = x1.t.dis/\(x1.t.since = x1.t.since/\(x1.t.closed = x1.t.closed/\True))))))))/\((RLe 1 1/\(RowsEq [.sl [.int .i64, .int .i64, .int .i64], .sl [.sl [.int .i64]], .sl [.sl [.int .i64]]] 1 (encG x1.g) (encG x1.g)))/\(((RLe x1.ts.length x1.ts.length)/\(RowsEq [.int .i64] x1.ts.length (encL encI x1.ts) (encL encI x1.ts)))/\(((RLe x1.l.length x1.l.length)/\(RowsEq (.int .i64 :: .int .i64 :: Kd.str :: .sl [.int .i64] :: .int .i64 :: .int .i64 :: .sl [.int .i64] :: .sl [.int .i64] :: .int .i64 :: Kd.bool :: []) x1.l.length (encL encInc x1.l) (encL encInc x1.l)))/\(((RLe x1.t.nodes.length x1.t.nodes.length)/\(RowsEq [.int .i64] x1.t.nodes.length (encL encI x1.t.nodes) (encL encI x1.t.nodes)))/\True))))))))))))))))))))/\(((!opn x8) = true)-> ((((-9223372036854775808 : Int) <= (x5 : Int) + 1)/\((x5 : Int) + 1 <= (9223372036854775807 : Int)))/\(∃ x28 : Nat, ((x1.l.length - x28 < x1.l.length - x5)/\((x28 <= x1.l.length)/\((((x5 : Int) + 1 = (x28 : Int))/\((Prod.snd (clAt x1 x5) = Prod.snd (clAt x1 x28))/\((Prod.fst (clAt x1 x5) = Prod.fst (clAt x1 x28))/\(((x1.l.length : Int) = (x1.l.length : Int))/\((0=0 /\ x1.l.length = x1.l.length)/\((0=0 /\ 0=0)/\(((0=0 /\ x3.g.n = x3.g.n)/\((0=0 /\ x3.g.n = x3.g.n)/\True))/\((0=0 /\ x1.t.nodes.length = x1.t.nodes.length)/\((0=0/\((4 : Nat) = (4 : Nat)))/\((0=0 /\ x1.ts.length = x1.ts.length)/\((0=0 /\ 0=0)/\(((0 : Int) = 0)/\((0=0 /\ 0=0)/\((0=0 /\ 0=0)/\((0=0 /\ x1.ts.length = x1.ts.length)/\((0=0 /\ x1.l.length = x1.l.length)/\((x1.t.call = x1.t.call/\(x1.t.inc = x1.t.inc/\(x1.t.urg = x1.t.urg/\(x1.t.code = x1.t.code/\((0=0 /\ x1.t.nodes.length = x1.t.nodes.length)/\(x1.t.dis = x1.t.dis/\(x1.t.since = x1.t.since/\(x1.t.closed = x1.t.closed/\True))))))))/\(x1.near = x1.near/\(x1.win = x1.win/\True)))))))))))))))))))/\(((0=0 /\ x3.g.n = x3.g.n)/\((0=0 /\ x3.g.n = x3.g.n)/\True))/\(((RLe x3.g.n x3.g.n)/\(RowsEq [.int .i64] x3.g.n (encL encI (distG x3.g x3.ts x3.src true)) (encL encI (distG x3.g x3.ts x3.src true))))/\(((RLe x3.g.n x3.g.n)/\(RowsEq [.int .i64] x3.g.n (encL encI (distG x3.g x3.ts x3.src false)) (encL encI (distG x3.g x3.ts x3.src false))))/\((x1.t.call = x1.t.call/\(x1.t.inc = x1.t.inc/\(x1.t.urg = x1.t.urg/\(x1.t.code = x1.t.code/\((0=0 /\ x1.t.nodes.length = x1.t.nodes.length)/\(x1.t.dis = x1.t.dis/\(x1.t.since = x1.t.since/\(x1.t.closed = x1.t.closed/\True))))))))/\((RLe 1 1/\(RowsEq [.sl [.int .i64, .int .i64, .int .i64], .sl [.sl [.int .i64]], .sl [.sl [.int .i64]]] 1 (encG x1.g) (encG x1.g)))/\(((RLe x1.ts.length x1.ts.length)/\(RowsEq [.int .i64] x1.ts.length (encL encI x1.ts) (encL encI x1.ts)))/\(((RLe x1.l.length x1.l.length)/\(RowsEq (.int .i64 :: .int .i64 :: Kd.str :: .sl [.int .i64] :: .int .i64 :: .int .i64 :: .sl [.int .i64] :: .sl [.int .i64] :: .int .i64 :: Kd.bool :: []) x1.l.length (encL encInc x1.l) (encL encInc x1.l)))/\(((RLe x1.t.nodes.length x1.t.nodes.length)/\(RowsEq [.int .i64] x1.t.nodes.length (encL encI x1.t.nodes) (encL encI x1.t.nodes)))/\True))))))))))))))))))))))/\((decide ((x5 : Int) < (x1.l.length : Int)) = false)-> ((Prod.snd (clAt x1 x5) = Prod.snd (clL x1))/\True)))))))))))))) = (Keeps cfgUg Try.f19 closC closI) by kernel_rfl) (fun x1 => fun h2 => ⟨({ g := LSx.g x1, ts := LSx.ts x1, src := Cal.nodes (LSx.t x1) : FX }),
(by (try dsimp only at *); exact ⟨h2.g, h2.n, h2.tn⟩),
⟨⟨rfl,rfl⟩,
⟨rfl,rfl⟩,
⟨rfl,rfl⟩,trivial⟩,
⟨⟨⟨Nat.le_refl _⟩,RowsEq.rfl'⟩,
⟨⟨Nat.le_refl _⟩,RowsEq.rfl'⟩,
⟨⟨Nat.le_refl _⟩,RowsEq.rfl'⟩,trivial⟩,
((0 : Nat)),
⟨(by (try dsimp only at *); omega),
⟨(by (try dsimp only at *); omega),
(by (try dsimp only at *); rfl),
(by (try dsimp only at *); rfl),rfl,
⟨rfl,rfl⟩,
⟨rfl,rfl⟩,
⟨⟨rfl,rfl⟩,
⟨rfl,rfl⟩,trivial⟩,
⟨rfl,rfl⟩,
⟨rfl,rfl⟩,
⟨rfl,rfl⟩,
⟨rfl,rfl⟩,rfl,
⟨rfl,rfl⟩,
⟨rfl,rfl⟩,
⟨rfl,rfl⟩,
⟨rfl,rfl⟩,
⟨rfl,rfl,rfl,rfl,
⟨rfl,rfl⟩,rfl,rfl,rfl,trivial⟩,rfl,rfl,trivial⟩,
⟨⟨rfl,rfl⟩,
⟨rfl,rfl⟩,trivial⟩,
⟨⟨Nat.le_refl _⟩,RowsEq.rfl'⟩,
⟨⟨Nat.le_refl _⟩,RowsEq.rfl'⟩,
⟨rfl,rfl,rfl,rfl,
⟨rfl,rfl⟩,rfl,rfl,rfl,trivial⟩,
⟨⟨Nat.le_refl _⟩,RowsEq.rfl'⟩,
⟨⟨Nat.le_refl _⟩,RowsEq.rfl'⟩,
⟨⟨Nat.le_refl _⟩,RowsEq.rfl'⟩,
⟨⟨Nat.le_refl _⟩,RowsEq.rfl'⟩,trivial⟩,
fun x5 => fun h6 => ⟨fun g7 => have h7 := of_decide_eq_true g7; ⟨⟨(by (try dsimp only at *); omega),
(by (try dsimp only at *); omega)⟩,
(by (try dsimp only at *); omega),
(List.getD (LSx.l x1) ((0 : Nat) + Int.toNat (↑x5 : Int)) default),trivial,
⟨⟨rfl,rfl,rfl,
⟨rfl,rfl⟩,rfl,rfl,
⟨rfl,rfl⟩,
⟨rfl,rfl⟩,rfl,rfl,trivial⟩,trivial⟩,
⟨⟨⟨Nat.le_refl _⟩,
(by (try dsimp only at *); exact RowsEq.rfl')⟩,
⟨⟨Nat.le_refl _⟩,
(by (try dsimp only at *); exact RowsEq.rfl')⟩,
⟨⟨Nat.le_refl _⟩,
(by (try dsimp only at *); exact RowsEq.rfl')⟩,trivial⟩,
fun h9 => ⟨({ a := Inc.code (List.getD (LSx.l x1) ((0 : Nat) + Int.toNat (↑x5 : Int)) default), b := Cal.code (LSx.t x1) : SSx }),
⟨(by (try dsimp only at *); ((try simp only [Nat.zero_add, Int.toNat_natCast] at *); exact (h2.at ‹_›).xc)),
(by (try dsimp only at *); exact h2.tc)⟩,
⟨rfl,rfl,trivial⟩,trivial,
fun h11 => ⟨({ a := Inc.since (List.getD (LSx.l x1) ((0 : Nat) + Int.toNat (↑x5 : Int)) default), b := Cal.since (LSx.t x1), w := LSx.win x1 : TWx }),trivial,
⟨rfl,rfl,rfl,trivial⟩,trivial,
fun g13 => have h13 := of_not_decide_true g13; ⟨⟨(by (try dsimp only at *); omega),
(by (try dsimp only at *); (have := h2.len; omega))⟩,
(x5 + (1 : Nat)),
(by (try dsimp only at *); omega),
(by (try dsimp only at *); omega),
⟨(by (try dsimp only at *); omega),
(by (try dsimp only at *); (((try simp only [Nat.zero_add, Int.toNat_natCast] at *); have e := (cl_n3 (x := x1) h2 ‹_› ‹_›); first | exact (congrArg Prod.fst e).symm | exact (congrArg Prod.snd e).symm | exact congrArg Prod.fst e | exact congrArg Prod.snd e))),
(by (try dsimp only at *); (((try simp only [Nat.zero_add, Int.toNat_natCast] at *); have e := (cl_n3 (x := x1) h2 ‹_› ‹_›); first | exact (congrArg Prod.fst e).symm | exact (congrArg Prod.snd e).symm | exact congrArg Prod.fst e | exact congrArg Prod.snd e))),rfl,
⟨rfl,rfl⟩,
⟨rfl,rfl⟩,
⟨⟨rfl,rfl⟩,
⟨rfl,rfl⟩,trivial⟩,
⟨rfl,rfl⟩,
⟨rfl,rfl⟩,
⟨rfl,rfl⟩,
⟨rfl,rfl⟩,rfl,
⟨rfl,rfl⟩,
⟨rfl,rfl⟩,
⟨rfl,rfl⟩,
⟨rfl,rfl⟩,
⟨rfl,rfl,rfl,rfl,
⟨rfl,rfl⟩,rfl,rfl,rfl,trivial⟩,rfl,rfl,trivial⟩,
⟨⟨rfl,rfl⟩,
⟨rfl,rfl⟩,trivial⟩,
⟨⟨Nat.le_refl _⟩,RowsEq.rfl'⟩,
⟨⟨Nat.le_refl _⟩,RowsEq.rfl'⟩,
⟨rfl,rfl,rfl,rfl,
⟨rfl,rfl⟩,rfl,rfl,rfl,trivial⟩,
⟨⟨Nat.le_refl _⟩,RowsEq.rfl'⟩,
⟨⟨Nat.le_refl _⟩,RowsEq.rfl'⟩,
⟨⟨Nat.le_refl _⟩,RowsEq.rfl'⟩,
⟨⟨Nat.le_refl _⟩,RowsEq.rfl'⟩,trivial⟩,
fun g15 => have h15 := of_not_decide_false g15; ⟨({ fr := distG (LSx.g x1) (LSx.ts x1) (Cal.nodes (LSx.t x1)) true, tw := distG (LSx.g x1) (LSx.ts x1) (Cal.nodes (LSx.t x1)) false, l := Inc.nodes (List.getD (LSx.l x1) ((0 : Nat) + Int.toNat (↑x5 : Int)) default) : FDx }),
⟨(by (try dsimp only at *); ((try simp only [Nat.zero_add, Int.toNat_natCast] at *); have := (h2.at (k := x5) ‹_›).xn; simp only at this; omega)),
(by (try dsimp only at *); (show (distG x1.g x1.ts x1.t.nodes _).length <= _; rw [distG_len h2.g]; (first | exact Nat.le_refl _ | (have := h2.n; omega)))),
(by (try dsimp only at *); (show (distG x1.g x1.ts x1.t.nodes _).length <= _; rw [distG_len h2.g]; (first | exact Nat.le_refl _ | (have := h2.n; omega))))⟩,
⟨⟨⟨rfl,
(by (try dsimp only at *); (show _ = (distG x1.g x1.ts x1.t.nodes _).length; rw [distG_len h2.g]))⟩,
⟨rfl,
(by (try dsimp only at *); (show _ = (distG x1.g x1.ts x1.t.nodes _).length; rw [distG_len h2.g]))⟩,trivial⟩,
⟨rfl,rfl⟩,trivial⟩,
⟨⟨⟨(by (try dsimp only at *); (show (distG x1.g x1.ts x1.t.nodes _).length <= _; rw [distG_len h2.g]; (first | exact Nat.le_refl _ | (have := h2.n; omega))))⟩,RowsEq.rfl'⟩,
⟨⟨(by (try dsimp only at *); (show (distG x1.g x1.ts x1.t.nodes _).length <= _; rw [distG_len h2.g]; (first | exact Nat.le_refl _ | (have := h2.n; omega))))⟩,RowsEq.rfl'⟩,
⟨⟨Nat.le_refl _⟩,
(by (try dsimp only at *); exact RowsEq.rfl')⟩,trivial⟩,
({ a := gapL { fr := distG (LSx.g x1) (LSx.ts x1) (Cal.nodes (LSx.t x1)) true, tw := distG (LSx.g x1) (LSx.ts x1) (Cal.nodes (LSx.t x1)) false, l := Inc.nodes (List.getD (LSx.l x1) ((0 : Nat) + Int.toNat (↑x5 : Int)) default) : FDx }, b := LSx.near x1 : IIx }),trivial,
⟨rfl,rfl,trivial⟩,trivial,
fun h18 => ⟨fun g19 => have h19 := of_decide_eq_true g19; ⟨⟨(by (try dsimp only at *); omega),
(by (try dsimp only at *); (have := h2.len; omega))⟩,
(x5 + (1 : Nat)),
(by (try dsimp only at *); omega),
(by (try dsimp only at *); omega),
⟨(by (try dsimp only at *); omega),
(by (try dsimp only at *); (((try simp only [Nat.zero_add, Int.toNat_natCast] at *); have e := (cl_y (x := x1) h2 ‹_› ‹_› ‹_› ‹_› ‹_› ‹_›); first | exact (congrArg Prod.fst e).symm | exact (congrArg Prod.snd e).symm | exact congrArg Prod.fst e | exact congrArg Prod.snd e))),
(by (try dsimp only at *); (((try simp only [Nat.zero_add, Int.toNat_natCast] at *); have e := (cl_y (x := x1) h2 ‹_› ‹_› ‹_› ‹_› ‹_› ‹_›); first | exact (congrArg Prod.fst e).symm | exact (congrArg Prod.snd e).symm | exact congrArg Prod.fst e | exact congrArg Prod.snd e))),rfl,
⟨rfl,rfl⟩,
⟨rfl,rfl⟩,
⟨⟨rfl,rfl⟩,
⟨rfl,rfl⟩,trivial⟩,
⟨rfl,rfl⟩,
⟨rfl,rfl⟩,
⟨rfl,rfl⟩,
⟨rfl,rfl⟩,rfl,
⟨rfl,rfl⟩,
⟨rfl,rfl⟩,
⟨rfl,rfl⟩,
⟨rfl,rfl⟩,
⟨rfl,rfl,rfl,rfl,
⟨rfl,rfl⟩,rfl,rfl,rfl,trivial⟩,rfl,rfl,trivial⟩,
⟨⟨rfl,rfl⟩,
⟨rfl,rfl⟩,trivial⟩,
⟨⟨Nat.le_refl _⟩,RowsEq.rfl'⟩,
⟨⟨Nat.le_refl _⟩,RowsEq.rfl'⟩,
⟨rfl,rfl,rfl,rfl,
⟨rfl,rfl⟩,rfl,rfl,rfl,trivial⟩,
⟨⟨Nat.le_refl _⟩,RowsEq.rfl'⟩,
⟨⟨Nat.le_refl _⟩,RowsEq.rfl'⟩,
⟨⟨Nat.le_refl _⟩,RowsEq.rfl'⟩,
⟨⟨Nat.le_refl _⟩,RowsEq.rfl'⟩,trivial⟩,
fun g21 => have h21 := of_decide_eq_false g21; ⟨⟨(by (try dsimp only at *); omega),
(by (try dsimp only at *); (have := h2.len; omega))⟩,
(x5 + (1 : Nat)),
(by (try dsimp only at *); omega),
(by (try dsimp only at *); omega),
⟨(by (try dsimp only at *); omega),
(by (try dsimp only at *); (((try simp only [Nat.zero_add, Int.toNat_natCast] at *); have e := (cl_n1 (x := x1) h2 ‹_› ‹_›); first | exact (congrArg Prod.fst e).symm | exact (congrArg Prod.snd e).symm | exact congrArg Prod.fst e | exact congrArg Prod.snd e))),
(by (try dsimp only at *); (((try simp only [Nat.zero_add, Int.toNat_natCast] at *); have e := (cl_n1 (x := x1) h2 ‹_› ‹_›); first | exact (congrArg Prod.fst e).symm | exact (congrArg Prod.snd e).symm | exact congrArg Prod.fst e | exact congrArg Prod.snd e))),rfl,
⟨rfl,rfl⟩,
⟨rfl,rfl⟩,
⟨⟨rfl,rfl⟩,
⟨rfl,rfl⟩,trivial⟩,
⟨rfl,rfl⟩,
⟨rfl,rfl⟩,
⟨rfl,rfl⟩,
⟨rfl,rfl⟩,rfl,
⟨rfl,rfl⟩,
⟨rfl,rfl⟩,
⟨rfl,rfl⟩,
⟨rfl,rfl⟩,
⟨rfl,rfl,rfl,rfl,
⟨rfl,rfl⟩,rfl,rfl,rfl,trivial⟩,rfl,rfl,trivial⟩,
⟨⟨rfl,rfl⟩,
⟨rfl,rfl⟩,trivial⟩,
⟨⟨Nat.le_refl _⟩,RowsEq.rfl'⟩,
⟨⟨Nat.le_refl _⟩,RowsEq.rfl'⟩,
⟨rfl,rfl,rfl,rfl,
⟨rfl,rfl⟩,rfl,rfl,rfl,trivial⟩,
⟨⟨Nat.le_refl _⟩,RowsEq.rfl'⟩,
⟨⟨Nat.le_refl _⟩,RowsEq.rfl'⟩,
⟨⟨Nat.le_refl _⟩,RowsEq.rfl'⟩,
⟨⟨Nat.le_refl _⟩,RowsEq.rfl'⟩,trivial⟩⟩,
fun h23 => ⟨⟨(by (try dsimp only at *); omega),
(by (try dsimp only at *); (have := h2.len; omega))⟩,
(x5 + (1 : Nat)),
(by (try dsimp only at *); omega),
(by (try dsimp only at *); omega),
⟨(by (try dsimp only at *); omega),
(by (try dsimp only at *); (((try simp only [Nat.zero_add, Int.toNat_natCast] at *); have e := (cl_n2 (x := x1) h2 ‹_› ‹_›); first | exact (congrArg Prod.fst e).symm | exact (congrArg Prod.snd e).symm | exact congrArg Prod.fst e | exact congrArg Prod.snd e))),
(by (try dsimp only at *); (((try simp only [Nat.zero_add, Int.toNat_natCast] at *); have e := (cl_n2 (x := x1) h2 ‹_› ‹_›); first | exact (congrArg Prod.fst e).symm | exact (congrArg Prod.snd e).symm | exact congrArg Prod.fst e | exact congrArg Prod.snd e))),rfl,
⟨rfl,rfl⟩,
⟨rfl,rfl⟩,
⟨⟨rfl,rfl⟩,
⟨rfl,rfl⟩,trivial⟩,
⟨rfl,rfl⟩,
⟨rfl,rfl⟩,
⟨rfl,rfl⟩,
⟨rfl,rfl⟩,rfl,
⟨rfl,rfl⟩,
⟨rfl,rfl⟩,
⟨rfl,rfl⟩,
⟨rfl,rfl⟩,
⟨rfl,rfl,rfl,rfl,
⟨rfl,rfl⟩,rfl,rfl,rfl,trivial⟩,rfl,rfl,trivial⟩,
⟨⟨rfl,rfl⟩,
⟨rfl,rfl⟩,trivial⟩,
⟨⟨Nat.le_refl _⟩,RowsEq.rfl'⟩,
⟨⟨Nat.le_refl _⟩,RowsEq.rfl'⟩,
⟨rfl,rfl,rfl,rfl,
⟨rfl,rfl⟩,rfl,rfl,rfl,trivial⟩,
⟨⟨Nat.le_refl _⟩,RowsEq.rfl'⟩,
⟨⟨Nat.le_refl _⟩,RowsEq.rfl'⟩,
⟨⟨Nat.le_refl _⟩,RowsEq.rfl'⟩,
⟨⟨Nat.le_refl _⟩,RowsEq.rfl'⟩,trivial⟩⟩⟩,
fun h25 => ⟨⟨(by (try dsimp only at *); omega),
(by (try dsimp only at *); (have := h2.len; omega))⟩,
(x5 + (1 : Nat)),
(by (try dsimp only at *); omega),
(by (try dsimp only at *); omega),
⟨(by (try dsimp only at *); omega),
(by (try dsimp only at *); (((try simp only [Nat.zero_add, Int.toNat_natCast] at *); have e := (cl_n4 (x := x1) h2 ‹_› ‹_›); first | exact (congrArg Prod.fst e).symm | exact (congrArg Prod.snd e).symm | exact congrArg Prod.fst e | exact congrArg Prod.snd e))),
(by (try dsimp only at *); (((try simp only [Nat.zero_add, Int.toNat_natCast] at *); have e := (cl_n4 (x := x1) h2 ‹_› ‹_›); first | exact (congrArg Prod.fst e).symm | exact (congrArg Prod.snd e).symm | exact congrArg Prod.fst e | exact congrArg Prod.snd e))),rfl,
⟨rfl,rfl⟩,
⟨rfl,rfl⟩,
⟨⟨rfl,rfl⟩,
⟨rfl,rfl⟩,trivial⟩,
⟨rfl,rfl⟩,
⟨rfl,rfl⟩,
⟨rfl,rfl⟩,
⟨rfl,rfl⟩,rfl,
⟨rfl,rfl⟩,
⟨rfl,rfl⟩,
⟨rfl,rfl⟩,
⟨rfl,rfl⟩,
⟨rfl,rfl,rfl,rfl,
⟨rfl,rfl⟩,rfl,rfl,rfl,trivial⟩,rfl,rfl,trivial⟩,
⟨⟨rfl,rfl⟩,
⟨rfl,rfl⟩,trivial⟩,
⟨⟨Nat.le_refl _⟩,RowsEq.rfl'⟩,
⟨⟨Nat.le_refl _⟩,RowsEq.rfl'⟩,
⟨rfl,rfl,rfl,rfl,
⟨rfl,rfl⟩,rfl,rfl,rfl,trivial⟩,
⟨⟨Nat.le_refl _⟩,RowsEq.rfl'⟩,
⟨⟨Nat.le_refl _⟩,RowsEq.rfl'⟩,
⟨⟨Nat.le_refl _⟩,RowsEq.rfl'⟩,
⟨⟨Nat.le_refl _⟩,RowsEq.rfl'⟩,trivial⟩⟩,
fun h27 => ⟨⟨(by (try dsimp only at *); omega),
(by (try dsimp only at *); (have := h2.len; omega))⟩,
(x5 + (1 : Nat)),
(by (try dsimp only at *); omega),
(by (try dsimp only at *); omega),
⟨(by (try dsimp only at *); omega),
(by (try dsimp only at *); (((try simp only [Nat.zero_add, Int.toNat_natCast] at *); have e := (cl_n5 (x := x1) h2 ‹_› ‹_›); first | exact (congrArg Prod.fst e).symm | exact (congrArg Prod.snd e).symm | exact congrArg Prod.fst e | exact congrArg Prod.snd e))),
(by (try dsimp only at *); (((try simp only [Nat.zero_add, Int.toNat_natCast] at *); have e := (cl_n5 (x := x1) h2 ‹_› ‹_›); first | exact (congrArg Prod.fst e).symm | exact (congrArg Prod.snd e).symm | exact congrArg Prod.fst e | exact congrArg Prod.snd e))),rfl,
⟨rfl,rfl⟩,
⟨rfl,rfl⟩,
⟨⟨rfl,rfl⟩,
⟨rfl,rfl⟩,trivial⟩,
⟨rfl,rfl⟩,
⟨rfl,rfl⟩,
⟨rfl,rfl⟩,
⟨rfl,rfl⟩,rfl,
⟨rfl,rfl⟩,
⟨rfl,rfl⟩,
⟨rfl,rfl⟩,
⟨rfl,rfl⟩,
⟨rfl,rfl,rfl,rfl,
⟨rfl,rfl⟩,rfl,rfl,rfl,trivial⟩,rfl,rfl,trivial⟩,
⟨⟨rfl,rfl⟩,
⟨rfl,rfl⟩,trivial⟩,
⟨⟨Nat.le_refl _⟩,RowsEq.rfl'⟩,
⟨⟨Nat.le_refl _⟩,RowsEq.rfl'⟩,
⟨rfl,rfl,rfl,rfl,
⟨rfl,rfl⟩,rfl,rfl,rfl,trivial⟩,
⟨⟨Nat.le_refl _⟩,RowsEq.rfl'⟩,
⟨⟨Nat.le_refl _⟩,RowsEq.rfl'⟩,
⟨⟨Nat.le_refl _⟩,RowsEq.rfl'⟩,
⟨⟨Nat.le_refl _⟩,RowsEq.rfl'⟩,trivial⟩⟩,
fun g29 => have h29 := of_decide_eq_false g29; ⟨(by (try dsimp only at *); (((try simp only [Nat.zero_add, Int.toNat_natCast] at *); have e := (clAt_full (x := x1) ‹_› ‹_›); first | exact (congrArg Prod.fst e).symm | exact (congrArg Prod.snd e).symm | exact congrArg Prod.fst e | exact congrArg Prod.snd e))),trivial⟩⟩⟩)
theorem clos_good : Good Try.prog 19 closC /\ FnOk Try.prog 19 := good_of tok conUg (fn := Try.f19) rfl (by decide +kernel) (fun _ => rfl) clos_keeps
end Go.Sym