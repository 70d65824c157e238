import Derived.Test.YtplpefihhhcbbaaDoorQ10
import Derived.Test.YtplpefihhhcbbaaDoorQ9
import Derived.Test.YtplpefihhhcbbaaDoorXD
namespace Go.Sym
set_option linter.unusedVariables false
set_option linter.unusedSimpArgs false
open Go.Proofs
set_option maxHeartbeats 4000000
def atU (p : Int) : Un := { (default : Un) with st := 1, nd := p }
theorem free_at (l : List Int) : freeL (l.map atU) = l := by
 unfold freeL
 induction l with
 | nil => rfl
 | cons a l ih => rw [List.map_cons, List.filter_cons, if_pos (by rfl), List.map_cons, ih]; rfl
def thereAt (l : List Int) (k : Nat) : List Un := (l.take k).map atU
theorem there_succ {l : List Int} {k : Nat} (h : (k : Int) < l.length) : thereAt l (k + 1) = thereAt l k ++ [atU (l.getD k default)] := by
 unfold thereAt; rw [take_succ_getD (d := default) (by omega), List.map_append]; rfl
theorem there_end {l : List Int} {k : Nat} (hle : k <= l.length) (h : ¬ (k : Int) < l.length) : thereAt l k = l.map atU := by unfold thereAt; rw [List.take_of_length_le (by omega)]
theorem there_len {l : List Int} {k c : Nat} (h : l.length <= c) : (thereAt l k).length <= c := by unfold thereAt; rw [List.length_map, List.length_take]; omega
def nFree (x : LaX) : Int := ((freeL x.us).length : Nat)
def bX (x : LaX) : BWX := ⟨x.g, x.ts, ofW x.of x.of.length, nFree x⟩
theorem lb_len {x : LaX} (h : LaOk x) (h3 : ¬ 3 < nFree x) : ((boundW (bX x)).2.length : Int) = nFree x := by
 unfold bX
 rw [bound_same h.g h.n]
 unfold boundR
 rw [if_neg (by show ¬ (nFree x < 0 ∨ 4 < nFree x); unfold nFree at *; omega)]
 by_cases h0 : nFree x = 0
 ·rw [if_pos (show BX.u ⟨x.g, x.ts, x.of, nFree x⟩ = 0 from h0), h0]; rfl
 ·rw [if_neg (show ¬ BX.u ⟨x.g, x.ts, x.of, nFree x⟩ = 0 from h0)]
  have := (put_att h.g x.ts x.of (nFree x).toNat [] 0 h.g.n1).2
  show (((putR x.g x.ts x.of (nFree x).toNat [] 0).2.length : Nat) : Int) = nFree x
  rw [this]; unfold nFree; simp
theorem lb_att {x : LaX} (h : LaOk x) (h3 : ¬ 3 < nFree x) : (worstW x.g x.ts ((boundW (bX x)).2.map atU) (ofW x.of x.of.length)).1 = (boundW (bX x)).1 := by
 show (worstR x.g x.ts (freeL ((boundW (bX x)).2.map atU)) x.of).1 = _
 rw [free_at]
 unfold bX
 rw [bound_same h.g h.n]
 unfold boundR
 rw [if_neg (by show ¬ (nFree x < 0 ∨ 4 < nFree x); unfold nFree at *; omega)]
 by_cases h0 : nFree x = 0
 ·rw [if_pos (show BX.u ⟨x.g, x.ts, x.of, nFree x⟩ = 0 from h0)]
 ·rw [if_neg (show ¬ BX.u ⟨x.g, x.ts, x.of, nFree x⟩ = 0 from h0)]
  exact (put_att h.g x.ts x.of (nFree x).toNat [] 0 h.g.n1).1.symm
theorem lb_min {x : LaX} (h : LaOk x) (h3 : ¬ 3 < nFree x) : (boundW (bX x)).1 <= (worstW x.g x.ts x.us (ofW x.of x.of.length)).1 := by
 show _ <= (worstR x.g x.ts (freeL x.us) x.of).1
 unfold bX
 rw [bound_same h.g h.n]
 unfold boundR
 rw [if_neg (by show ¬ (nFree x < 0 ∨ 4 < nFree x); unfold nFree at *; omega)]
 by_cases h0 : nFree x = 0
 ·rw [if_pos (show BX.u ⟨x.g, x.ts, x.of, nFree x⟩ = 0 from h0)]
  have : freeL x.us = [] := List.length_eq_zero_iff.1 (by unfold nFree at h0; omega)
  rw [this]; exact Int.le_refl _
 ·rw [if_neg (show ¬ BX.u ⟨x.g, x.ts, x.of, nFree x⟩ = 0 from h0)]
  exact bound_min h.g x.ts x.of (freeL x.us)
theorem bX_eq {x : LaX} {k : Nat} (hk : k <= x.us.length) (h : ¬ (k : Int) < (x.c.us.length : Nat)) : boundW ⟨⟨x.c.n.toNat, x.c.es⟩, x.ts, ofW x.of x.of.length, ((freeAt x.us k).length : Nat)⟩ = boundW (bX x) := by
 rw [free_end (us := x.us) hk h]; rfl
theorem nF_le {x : LaX} {k : Nat} (hk : k <= x.us.length) (h : ¬ (k : Int) < (x.c.us.length : Nat)) (h3 : ¬ 3 < (((freeAt x.us k).length : Nat) : Int)) : ¬ 3 < nFree x := by
 rw [free_end (us := x.us) hk h] at h3; exact h3
def lawLb (b : Bool) : CT := ⟨LaX, fun x => True /\ netOk x.c = b, laA, laH, fun _ => .b true, fun _ => []⟩
def CLb (b : CT) : List (Nat × Con) := [(10, .one wakesC), (11, .one b), (12, .one greatC), (14, .one ofC), (16, .one cboundC), (13, .one wwaitC)]
def cfgLby : Cfg := ⟨T, [], CLb netYesC, noInv, 120, {}⟩
def cfgLbn : Cfg := ⟨T, [], CLb netNoC, noInv, 120, {}⟩
theorem conLb {b : CT} (h : Good Tryd.prog 11 b /\ FnOk Tryd.prog 11) : ConL Tryd.prog (CLb b) := .cons (ConL.one wakes_good) (.cons (ConL.one h) (.cons (ConL.one great_good) (.cons (ConL.one of_good) (.cons (ConL.one cbound_good) (.cons (ConL.one wwait_good) .nil)))))
theorem conLby : ConOk Tryd.prog cfgLby := ConL.ok (conLb netYes_good)
theorem conLbn : ConOk Tryd.prog cfgLbn := ConL.ok (conLb netNo_good)
def lbI (x : LaX) (id : Nat) : Option Inv := match id with
 | 0 => some { X := Nat, ok := fun k => k <= x.us.length, fr := fun k => [(42, .i .i64 k), (7, .i .i64 ((freeAt x.us k).length : Nat))], hp := fun _ => [], me := fun k => x.us.length - k }
 | 2 => some { X := Nat, ok := fun k => k <= (boundW (bX x)).2.length, fr := fun k => [(77, .i .i64 k), (15, .sl 61 0 (thereAt (boundW (bX x)).2 k).length)],
               hp := fun k => [(61, .rows .own kU (thereAt (boundW (bX x)).2 k).length (encL encU (thereAt (boundW (bX x)).2 k)))], me := fun k => (boundW (bX x)).2.length - k }
 | _ => none
set_option maxRecDepth 100000 in
theorem lb_no : Keeps cfgLbn Tryd.f5 (lawLb false) noIv := Eq.mp (show ((∀ x1 : LaX, ((True /\ netOk (LaX.c x1) = false)-> (∃ x3 : Unit, (True/\(True/\(True/\((false = true -> (false = true/\True))/\(false = false -> (∃ x6 : CaX, ((netOk x6 = false)/\(((((LaX.c x1).n = x6.n)/\((0=0/\((LaX.c x1).es.length = x6.es.length))/\((0=0/\((LaX.c x1).ts.length = x6.ts.length))/\((0=0/\((LaX.c x1).us.length = x6.us.length))/\True))))/\True)/\((((RLe x6.es.length x1.es.length)/\(RowsEq [.int .i64, .int .i64, .int .i64] x6.es.length (encL encE x1.es) (encL encE x6.es)))/\(((RLe x6.ts.length x1.ts.length)/\(RowsEq [.int .i64] x6.ts.length (encL encI x1.ts) (encL encI x6.ts)))/\(((RLe x6.us.length x1.us.length)/\(RowsEq [.int .i64, .int .i64, .int .i64, .int .i64, .int .i64, .int .i64, .int .i64, .int .i64, .int .i64, .int .i64] x6.us.length (encL encU x1.us) (encL encU x6.us)))/\True)))/\(true = true/\True)))))))))))))) = (Keeps cfgLbn Tryd.f5 (lawLb false) noIv) by kernel_rfl) (fun x1 => fun h2 => ⟨(()),trivial,trivial,trivial,
fun h4 => ⟨(by (try dsimp only at *); omega),trivial⟩,
fun h5 => ⟨(LaX.c x1),
(by (try dsimp only at *); grind),
⟨⟨rfl,
⟨rfl,rfl⟩,
⟨rfl,rfl⟩,
⟨rfl,rfl⟩,trivial⟩,trivial⟩,
⟨⟨⟨(by (try dsimp only at *); exact Nat.le_refl _)⟩,
(by (try dsimp only at *); exact RowsEq.rfl')⟩,
⟨⟨(by (try dsimp only at *); exact Nat.le_refl _)⟩,
(by (try dsimp only at *); exact RowsEq.rfl')⟩,
⟨⟨(by (try dsimp only at *); exact Nat.le_refl _)⟩,
(by (try dsimp only at *); exact RowsEq.rfl')⟩,trivial⟩,rfl,trivial⟩⟩)
set_option maxRecDepth 100000 in
theorem lb_yes : Keeps cfgLby Tryd.f5 (lawLb true) lbI := Eq.mp (show ((∀ x1 : LaX, ((True /\ netOk (LaX.c x1) = true)-> (∃ x3 : Unit, (True/\(True/\(True/\((false = true -> (false = true/\True))/\(false = false -> (∃ x6 : CaX, ((netOk x6 = true)/\(((((LaX.c x1).n = x6.n)/\((0=0/\((LaX.c x1).es.length = x6.es.length))/\((0=0/\((LaX.c x1).ts.length = x6.ts.length))/\((0=0/\((LaX.c x1).us.length = x6.us.length))/\True))))/\True)/\((((RLe x6.es.length x1.es.length)/\(RowsEq [.int .i64, .int .i64, .int .i64] x6.es.length (encL encE x1.es) (encL encE x6.es)))/\(((RLe x6.ts.length x1.ts.length)/\(RowsEq [.int .i64] x6.ts.length (encL encI x1.ts) (encL encI x6.ts)))/\(((RLe x6.us.length x1.us.length)/\(RowsEq [.int .i64, .int .i64, .int .i64, .int .i64, .int .i64, .int .i64, .int .i64, .int .i64, .int .i64, .int .i64] x6.us.length (encL encU x1.us) (encL encU x6.us)))/\True)))/\(∃ x7 : List Int, (True/\(((0=0 /\ x1.of.length = x7.length)/\True)/\((((RLe x7.length x1.of.length)/\(RowsEq [.int .i64] x7.length (encL encI x1.of) (encL encI x7)))/\True)/\(((decide (60 < x7.length) = false)-> (((decide (7 < (LaX.c x1).n) = true)-> (true = true/\True))/\((decide (7 < (LaX.c x1).n) = false)-> (∃ x11 : Nat, (((x11 <= x1.us.length)/\(((0 = (x11 : Int))/\((0 = (↑(freeAt x1.us x11).length : Int))/\(((↑(LaX.c x1).us.length : Int) = (↑(LaX.c x1).us.length : Int))/\((0=0/\((LaX.c x1).us.length = (LaX.c x1).us.length))/\((0=0/\((3 : Nat) = (3 : Nat)))/\((decide (7 < (LaX.c x1).n) = decide (7 < (LaX.c x1).n))/\((decide (7 < (LaX.c x1).n) = decide (7 < (LaX.c x1).n))/\(((LaX.c x1).n = (LaX.c x1).n)/\((0=0 /\ 0=0)/\((0=0 /\ 0=0)/\((decide (60 < x7.length) = decide (60 < x7.length))/\((decide (60 < x7.length) = decide (60 < x7.length))/\((decide (60 < x7.length) = decide (60 < x7.length))/\((0=0 /\ x1.of.length = x1.of.length)/\(false = false/\(false = false/\(true = true/\(true = true/\((0=0 /\ 0=0)/\(true = true/\((0=0 /\ 0=0)/\(((0=0 /\ 0=0)/\(true = true/\True))/\(((0=0 /\ 0=0)/\(true = true/\True))/\((((LaX.c x1).n = (LaX.c x1).n)/\((0=0/\((LaX.c x1).es.length = (LaX.c x1).es.length))/\((0=0/\((LaX.c x1).ts.length = (LaX.c x1).ts.length))/\((0=0/\((LaX.c x1).us.length = (LaX.c x1).us.length))/\True))))/\(false = false/\(true = true/\(false = false/\((0=0 /\ 0=0)/\((((LaX.c x1).n = (LaX.c x1).n)/\((0=0/\((LaX.c x1).es.length = (LaX.c x1).es.length))/\((0=0/\((LaX.c x1).ts.length = (LaX.c x1).ts.length))/\((0=0/\((LaX.c x1).us.length = (LaX.c x1).us.length))/\True))))/\((0=0 /\ x1.of.length = x1.of.length)/\True))))))))))))))))))))))))))))))/\((RLe 1 1/\(RowsEq [.sl [.int .i64, .int .i64, .int .i64], .sl [.sl [.int .i64]], .sl [.sl [.int .i64]]] 1 (encG (Gr.mk (Int.toNat x6.n) x6.es)) (encG (Gr.mk (Int.toNat x6.n) x6.es))))/\((((LaX.c x1).n = (LaX.c x1).n)/\((0=0/\((LaX.c x1).es.length = (LaX.c x1).es.length))/\((0=0/\((LaX.c x1).ts.length = (LaX.c x1).ts.length))/\((0=0/\((LaX.c x1).us.length = (LaX.c x1).us.length))/\True))))/\(((RLe x1.es.length x1.es.length)/\(RowsEq [.int .i64, .int .i64, .int .i64] x1.es.length (encL encE x1.es) (encL encE x1.es)))/\(((RLe x1.ts.length x1.ts.length)/\(RowsEq [.int .i64] x1.ts.length (encL encI x1.ts) (encL encI x1.ts)))/\(((RLe x1.us.length x1.us.length)/\(RowsEq [.int .i64, .int .i64, .int .i64, .int .i64, .int .i64, .int .i64, .int .i64, .int .i64, .int .i64, .int .i64] x1.us.length (encL encU x1.us) (encL encU x1.us)))/\(((RLe x1.of.length x1.of.length)/\(RowsEq [.int .i64] x1.of.length (encL encI x1.of) (encL encI x1.of)))/\True))))))))/\(∀ x12 : Nat, ((x12 <= x1.us.length)-> (((decide ((x12 : Int) < (↑(LaX.c x1).us.length : Int)) = true)-> ((((0 : Int) <= (x12 : Int))/\((x12 : Int) < (↑(LaX.c x1).us.length : Int)))/\((0 + Int.toNat (x12 : Int) < x1.us.length)/\(((decide ((x1.us.getD (0 + Int.toNat (x12 : Int)) default).st = (1 : Int)) = true)-> ((((-9223372036854775808 : Int) <= (↑(freeAt x1.us x12).length : Int) + 1)/\((↑(freeAt x1.us x12).length : Int) + 1 <= (9223372036854775807 : Int)))/\((((-9223372036854775808 : Int) <= (x12 : Int) + 1)/\((x12 : Int) + 1 <= (9223372036854775807 : Int)))/\(∃ x16 : Nat, ((x1.us.length - x16 < x1.us.length - x12)/\((x16 <= x1.us.length)/\((((x12 : Int) + 1 = (x16 : Int))/\(((↑(freeAt x1.us x12).length : Int) + 1 = (↑(freeAt x1.us x16).length : Int))/\(((↑(LaX.c x1).us.length : Int) = (↑(LaX.c x1).us.length : Int))/\((0=0/\((LaX.c x1).us.length = (LaX.c x1).us.length))/\((0=0/\((3 : Nat) = (3 : Nat)))/\((decide (7 < (LaX.c x1).n) = decide (7 < (LaX.c x1).n))/\((decide (7 < (LaX.c x1).n) = decide (7 < (LaX.c x1).n))/\(((LaX.c x1).n = (LaX.c x1).n)/\((0=0 /\ 0=0)/\((0=0 /\ 0=0)/\((decide (60 < x7.length) = decide (60 < x7.length))/\((decide (60 < x7.length) = decide (60 < x7.length))/\((decide (60 < x7.length) = decide (60 < x7.length))/\((0=0 /\ x1.of.length = x1.of.length)/\(false = false/\(false = false/\(true = true/\(true = true/\((0=0 /\ 0=0)/\(true = true/\((0=0 /\ 0=0)/\(((0=0 /\ 0=0)/\(true = true/\True))/\(((0=0 /\ 0=0)/\(true = true/\True))/\((((LaX.c x1).n = (LaX.c x1).n)/\((0=0/\((LaX.c x1).es.length = (LaX.c x1).es.length))/\((0=0/\((LaX.c x1).ts.length = (LaX.c x1).ts.length))/\((0=0/\((LaX.c x1).us.length = (LaX.c x1).us.length))/\True))))/\(false = false/\(true = true/\(false = false/\((0=0 /\ 0=0)/\((((LaX.c x1).n = (LaX.c x1).n)/\((0=0/\((LaX.c x1).es.length = (LaX.c x1).es.length))/\((0=0/\((LaX.c x1).ts.length = (LaX.c x1).ts.length))/\((0=0/\((LaX.c x1).us.length = (LaX.c x1).us.length))/\True))))/\((0=0 /\ x1.of.length = x1.of.length)/\True))))))))))))))))))))))))))))))/\((RLe 1 1/\(RowsEq [.sl [.int .i64, .int .i64, .int .i64], .sl [.sl [.int .i64]], .sl [.sl [.int .i64]]] 1 (encG (Gr.mk (Int.toNat x6.n) x6.es)) (encG (Gr.mk (Int.toNat x6.n) x6.es))))/\((((LaX.c x1).n = (LaX.c x1).n)/\((0=0/\((LaX.c x1).es.length = (LaX.c x1).es.length))/\((0=0/\((LaX.c x1).ts.length = (LaX.c x1).ts.length))/\((0=0/\((LaX.c x1).us.length = (LaX.c x1).us.length))/\True))))/\(((RLe x1.es.length x1.es.length)/\(RowsEq [.int .i64, .int .i64, .int .i64] x1.es.length (encL encE x1.es) (encL encE x1.es)))/\(((RLe x1.ts.length x1.ts.length)/\(RowsEq [.int .i64] x1.ts.length (encL encI x1.ts) (encL encI x1.ts)))/\(((RLe x1.us.length x1.us.length)/\(RowsEq [.int .i64, .int .i64, .int .i64, .int .i64, .int .i64, .int .i64, .int .i64, .int .i64, .int .i64, .int .i64] x1.us.length (encL encU x1.us) (encL encU x1.us)))/\(((RLe x1.of.length x1.of.length)/\(RowsEq [.int .i64] x1.of.length (encL encI x1.of) (encL encI x1.of)))/\True)))))))))))))/\((decide ((x1.us.getD (0 + Int.toNat (x12 : Int)) default).st = (1 : Int)) = false)-> ((((-9223372036854775808 : Int) <= (x12 : Int) + 1)/\((x12 : Int) + 1 <= (9223372036854775807 : Int)))/\(∃ x18 : Nat, ((x1.us.length - x18 < x1.us.length - x12)/\((x18 <= x1.us.length)/\((((x12 : Int) + 1 = (x18 : Int))/\(((↑(freeAt x1.us x12).length : Int) = (↑(freeAt x1.us x18).length : Int))/\(((↑(LaX.c x1).us.length : Int) = (↑(LaX.c x1).us.length : Int))/\((0=0/\((LaX.c x1).us.length = (LaX.c x1).us.length))/\((0=0/\((3 : Nat) = (3 : Nat)))/\((decide (7 < (LaX.c x1).n) = decide (7 < (LaX.c x1).n))/\((decide (7 < (LaX.c x1).n) = decide (7 < (LaX.c x1).n))/\(((LaX.c x1).n = (LaX.c x1).n)/\((0=0 /\ 0=0)/\((0=0 /\ 0=0)/\((decide (60 < x7.length) = decide (60 < x7.length))/\((decide (60 < x7.length) = decide (60 < x7.length))/\((decide (60 < x7.length) = decide (60 < x7.length))/\((0=0 /\ x1.of.length = x1.of.length)/\(false = false/\(false = false/\(true = true/\(true = true/\((0=0 /\ 0=0)/\(true = true/\((0=0 /\ 0=0)/\(((0=0 /\ 0=0)/\(true = true/\True))/\(((0=0 /\ 0=0)/\(true = true/\True))/\((((LaX.c x1).n = (LaX.c x1).n)/\((0=0/\((LaX.c x1).es.length = (LaX.c x1).es.length))/\((0=0/\((LaX.c x1).ts.length = (LaX.c x1).ts.length))/\((0=0/\((LaX.c x1).us.length = (LaX.c x1).us.length))/\True))))/\(false = false/\(true = true/\(false = false/\((0=0 /\ 0=0)/\((((LaX.c x1).n = (LaX.c x1).n)/\((0=0/\((LaX.c x1).es.length = (LaX.c x1).es.length))/\((0=0/\((LaX.c x1).ts.length = (LaX.c x1).ts.length))/\((0=0/\((LaX.c x1).us.length = (LaX.c x1).us.length))/\True))))/\((0=0 /\ x1.of.length = x1.of.length)/\True))))))))))))))))))))))))))))))/\((RLe 1 1/\(RowsEq [.sl [.int .i64, .int .i64, .int .i64], .sl [.sl [.int .i64]], .sl [.sl [.int .i64]]] 1 (encG (Gr.mk (Int.toNat x6.n) x6.es)) (encG (Gr.mk (Int.toNat x6.n) x6.es))))/\((((LaX.c x1).n = (LaX.c x1).n)/\((0=0/\((LaX.c x1).es.length = (LaX.c x1).es.length))/\((0=0/\((LaX.c x1).ts.length = (LaX.c x1).ts.length))/\((0=0/\((LaX.c x1).us.length = (LaX.c x1).us.length))/\True))))/\(((RLe x1.es.length x1.es.length)/\(RowsEq [.int .i64, .int .i64, .int .i64] x1.es.length (encL encE x1.es) (encL encE x1.es)))/\(((RLe x1.ts.length x1.ts.length)/\(RowsEq [.int .i64] x1.ts.length (encL encI x1.ts) (encL encI x1.ts)))/\(((RLe x1.us.length x1.us.length)/\(RowsEq [.int .i64, .int .i64, .int .i64, .int .i64, .int .i64, .int .i64, .int .i64, .int .i64, .int .i64, .int .i64] x1.us.length (encL encU x1.us) (encL encU x1.us)))/\(((RLe x1.of.length x1.of.length)/\(RowsEq [.int .i64] x1.of.length (encL encI x1.of) (encL encI x1.of)))/\True))))))))))))))))/\((decide ((x12 : Int) < (↑(LaX.c x1).us.length : Int)) = false)-> (((decide (3 < (↑(freeAt x1.us x12).length : Int)) = true)-> (true = true/\True))/\((decide (3 < (↑(freeAt x1.us x12).length : Int)) = false)-> (∃ x22 : List Int, ((x22.length <= (1048576 : Nat))/\(((0=0 /\ x1.of.length = x22.length)/\True)/\((((RLe x22.length x1.of.length)/\(RowsEq [.int .i64] x22.length (encL encI x1.of) (encL encI x22)))/\True)/\(∃ x23 : BWX, ((BWok x23)/\(((0=0 /\ 0=0)/\((0=0/\((LaX.c x1).ts.length = x23.ts.length))/\(((szW (ofW x22 x22.length) = szW x23.ws)/\True)/\(((↑(freeAt x1.us x12).length : Int) = x23.u)/\True))))/\(((RLe 1 1/\(RowsEq [.sl [.int .i64, .int .i64, .int .i64], .sl [.sl [.int .i64]], .sl [.sl [.int .i64]]] 1 (encG (Gr.mk (Int.toNat x6.n) x6.es)) (encG x23.g)))/\(((RLe x23.ts.length x1.ts.length)/\(RowsEq [.int .i64] x23.ts.length (encL encI x1.ts) (encL encI x23.ts)))/\(((RLe (szW x23.ws) (szW (ofW x22 x22.length)))/\(RowsEq [.int .u64] (szW x23.ws) (encL encW (ofW x22 x22.length)) (encL encW x23.ws)))/\True)))/\(∃ x24 : YX, ((YXok x24)/\(((0=0 /\ 0=0)/\((0=0/\((LaX.c x1).ts.length = x24.ts.length))/\((0=0/\((LaX.c x1).us.length = x24.us.length))/\(((szW (ofW x22 x22.length) = szW x24.ws)/\True)/\True))))/\(((RLe 1 1/\(RowsEq [.sl [.int .i64, .int .i64, .int .i64], .sl [.sl [.int .i64]], .sl [.sl [.int .i64]]] 1 (encG (Gr.mk (Int.toNat x6.n) x6.es)) (encG x24.g)))/\(((RLe x24.ts.length x1.ts.length)/\(RowsEq [.int .i64] x24.ts.length (encL encI x1.ts) (encL encI x24.ts)))/\(((RLe x24.us.length x1.us.length)/\(RowsEq [.int .i64, .int .i64, .int .i64, .int .i64, .int .i64, .int .i64, .int .i64, .int .i64, .int .i64, .int .i64] x24.us.length (encL encU x1.us) (encL encU x24.us)))/\(((RLe (szW x24.ws) (szW (ofW x22 x22.length)))/\(RowsEq [.int .u64] (szW x24.ws) (encL encW (ofW x22 x22.length)) (encL encW x24.ws)))/\True))))/\(∃ x25 : Nat, (((x25 <= (Prod.snd (boundW (bX x1))).length)/\(((0 = (x25 : Int))/\((True/\(0=0/\((thereAt (Prod.snd (boundW (bX x1))) x25).length = (0 : Nat))))/\(((↑(Prod.snd (boundW x23)).length : Int) = (↑(Prod.snd (boundW x23)).length : Int))/\((0=0/\((Prod.snd (boundW x23)).length = (Prod.snd (boundW x23)).length))/\((Prod.snd (worstW x24.g x24.ts x24.us x24.ws) = Prod.snd (worstW x24.g x24.ts x24.us x24.ws))/\((Prod.fst (worstW x24.g x24.ts x24.us x24.ws) = Prod.fst (worstW x24.g x24.ts x24.us x24.ws))/\((Prod.snd (worstW x24.g x24.ts x24.us x24.ws) = Prod.snd (worstW x24.g x24.ts x24.us x24.ws))/\((Prod.fst (worstW x24.g x24.ts x24.us x24.ws) = Prod.fst (worstW x24.g x24.ts x24.us x24.ws))/\(((Prod.fst (worstW x24.g x24.ts x24.us x24.ws) = Prod.fst (worstW x24.g x24.ts x24.us x24.ws))/\((Prod.snd (worstW x24.g x24.ts x24.us x24.ws) = Prod.snd (worstW x24.g x24.ts x24.us x24.ws))/\True))/\(((Prod.fst (worstW x24.g x24.ts x24.us x24.ws) = Prod.fst (worstW x24.g x24.ts x24.us x24.ws))/\((Prod.snd (worstW x24.g x24.ts x24.us x24.ws) = Prod.snd (worstW x24.g x24.ts x24.us x24.ws))/\True))/\(((szW (ofW x22 x22.length) = szW (ofW x22 x22.length))/\True)/\((0=0/\((LaX.c x1).us.length = (LaX.c x1).us.length))/\((0=0/\((3 : Nat) = (3 : Nat)))/\((0=0/\((LaX.c x1).ts.length = (LaX.c x1).ts.length))/\((0=0/\((2 : Nat) = (2 : Nat)))/\((0=0 /\ 0=0)/\((0=0/\((Prod.snd (boundW x23)).length = (Prod.snd (boundW x23)).length))/\((Prod.fst (boundW x23) = Prod.fst (boundW x23))/\((0=0/\((Prod.snd (boundW x23)).length = (Prod.snd (boundW x23)).length))/\((Prod.fst (boundW x23) = Prod.fst (boundW x23))/\(((Prod.fst (boundW x23) = Prod.fst (boundW x23))/\((0=0/\((Prod.snd (boundW x23)).length = (Prod.snd (boundW x23)).length))/\True))/\(((Prod.fst (boundW x23) = Prod.fst (boundW x23))/\((0=0/\((Prod.snd (boundW x23)).length = (Prod.snd (boundW x23)).length))/\True))/\(((↑(freeAt x1.us x12).length : Int) = (↑(freeAt x1.us x12).length : Int))/\(((szW (ofW x22 x22.length) = szW (ofW x22 x22.length))/\True)/\((0=0/\((LaX.c x1).ts.length = (LaX.c x1).ts.length))/\((0=0/\((2 : Nat) = (2 : Nat)))/\((0=0 /\ 0=0)/\((0=0 /\ 0=0)/\(((szW (ofW x22 x22.length) = szW (ofW x22 x22.length))/\True)/\((0=0 /\ x1.of.length = x1.of.length)/\((decide (3 < (↑(freeAt x1.us x12).length : Int)) = decide (3 < (↑(freeAt x1.us x12).length : Int)))/\(((↑(freeAt x1.us x12).length : Int) = (↑(freeAt x1.us x12).length : Int))/\((decide ((x12 : Int) < (↑(LaX.c x1).us.length : Int)) = decide ((x12 : Int) < (↑(LaX.c x1).us.length : Int)))/\(((x12 : Int) = (x12 : Int))/\(((↑(freeAt x1.us x12).length : Int) = (↑(freeAt x1.us x12).length : Int))/\(((↑(LaX.c x1).us.length : Int) = (↑(LaX.c x1).us.length : Int))/\((0=0/\((LaX.c x1).us.length = (LaX.c x1).us.length))/\((0=0/\((3 : Nat) = (3 : Nat)))/\((decide (7 < (LaX.c x1).n) = decide (7 < (LaX.c x1).n))/\((decide (7 < (LaX.c x1).n) = decide (7 < (LaX.c x1).n))/\(((LaX.c x1).n = (LaX.c x1).n)/\((0=0 /\ 0=0)/\((0=0 /\ 0=0)/\((decide (60 < x7.length) = decide (60 < x7.length))/\((decide (60 < x7.length) = decide (60 < x7.length))/\((decide (60 < x7.length) = decide (60 < x7.length))/\((0=0 /\ x1.of.length = x1.of.length)/\(false = false/\(false = false/\(true = true/\(true = true/\((0=0 /\ 0=0)/\(true = true/\((0=0 /\ 0=0)/\(((0=0 /\ 0=0)/\(true = true/\True))/\(((0=0 /\ 0=0)/\(true = true/\True))/\((((LaX.c x1).n = (LaX.c x1).n)/\((0=0/\((LaX.c x1).es.length = (LaX.c x1).es.length))/\((0=0/\((LaX.c x1).ts.length = (LaX.c x1).ts.length))/\((0=0/\((LaX.c x1).us.length = (LaX.c x1).us.length))/\True))))/\(false = false/\(true = true/\(false = false/\((0=0 /\ 0=0)/\((((LaX.c x1).n = (LaX.c x1).n)/\((0=0/\((LaX.c x1).es.length = (LaX.c x1).es.length))/\((0=0/\((LaX.c x1).ts.length = (LaX.c x1).ts.length))/\((0=0/\((LaX.c x1).us.length = (LaX.c x1).us.length))/\True))))/\((0=0 /\ x1.of.length = x1.of.length)/\True)))))))))))))))))))))))))))))))))))))))))))))))))))))))))))))))/\(((thereAt (Prod.snd (boundW (bX x1))) x25).length = (0 : Nat))/\(((RLe (Prod.snd (boundW x23)).length (Prod.snd (boundW x23)).length)/\(RowsEq [.int .i64] (Prod.snd (boundW x23)).length (encL encI (Prod.snd (boundW x23))) (encL encI (Prod.snd (boundW x23)))))/\(((szW (ofW x22 x22.length) = szW (ofW x22 x22.length))/\True)/\(((RLe (szW (ofW x22 x22.length)) (szW (ofW x22 x22.length)))/\(RowsEq [.int .u64] (szW (ofW x22 x22.length)) (encL encW (ofW x22 x22.length)) (encL encW (ofW x22 x22.length))))/\((RLe 1 1/\(RowsEq [.sl [.int .i64, .int .i64, .int .i64], .sl [.sl [.int .i64]], .sl [.sl [.int .i64]]] 1 (encG (Gr.mk (Int.toNat x6.n) x6.es)) (encG (Gr.mk (Int.toNat x6.n) x6.es))))/\((((LaX.c x1).n = (LaX.c x1).n)/\((0=0/\((LaX.c x1).es.length = (LaX.c x1).es.length))/\((0=0/\((LaX.c x1).ts.length = (LaX.c x1).ts.length))/\((0=0/\((LaX.c x1).us.length = (LaX.c x1).us.length))/\True))))/\(((RLe x1.es.length x1.es.length)/\(RowsEq [.int .i64, .int .i64, .int .i64] x1.es.length (encL encE x1.es) (encL encE x1.es)))/\(((RLe x1.ts.length x1.ts.length)/\(RowsEq [.int .i64] x1.ts.length (encL encI x1.ts) (encL encI x1.ts)))/\(((RLe x1.us.length x1.us.length)/\(RowsEq [.int .i64, .int .i64, .int .i64, .int .i64, .int .i64, .int .i64, .int .i64, .int .i64, .int .i64, .int .i64] x1.us.length (encL encU x1.us) (encL encU x1.us)))/\(((RLe x1.of.length x1.of.length)/\(RowsEq [.int .i64] x1.of.length (encL encI x1.of) (encL encI x1.of)))/\True))))))))))))/\(∀ x26 : Nat, ((x26 <= (Prod.snd (boundW (bX x1))).length)-> (((decide ((x26 : Int) < (↑(Prod.snd (boundW x23)).length : Int)) = true)-> ((((0 : Int) <= (x26 : Int))/\((x26 : Int) < (↑(Prod.snd (boundW x23)).length : Int)))/\((0 + Int.toNat (x26 : Int) < (Prod.snd (boundW x23)).length)/\(((True/\(True/\(True/\(True/\(True/\(True/\(True/\(True/\(True/\(True/\True))))))))))/\True)/\((0=0/\(((thereAt (Prod.snd (boundW (bX x1))) x26).length <= (thereAt (Prod.snd (boundW (bX x1))) x26).length)/\(((1 : Nat) <= (1 : Nat))/\((thereAt (Prod.snd (boundW (bX x1))) x26).length + (1 : Nat) <= (1073741824 : Nat)))))/\((((-9223372036854775808 : Int) <= (x26 : Int) + 1)/\((x26 : Int) + 1 <= (9223372036854775807 : Int)))/\(∃ x29 : Nat, (((Prod.snd (boundW (bX x1))).length - x29 < (Prod.snd (boundW (bX x1))).length - x26)/\((x29 <= (Prod.snd (boundW (bX x1))).length)/\((((x26 : Int) + 1 = (x29 : Int))/\((0=0/\((thereAt (Prod.snd (boundW (bX x1))) x26).length + (1 : Nat) = (thereAt (Prod.snd (boundW (bX x1))) x29).length))/\(((↑(Prod.snd (boundW x23)).length : Int) = (↑(Prod.snd (boundW x23)).length : Int))/\((0=0/\((Prod.snd (boundW x23)).length = (Prod.snd (boundW x23)).length))/\((Prod.snd (worstW x24.g x24.ts x24.us x24.ws) = Prod.snd (worstW x24.g x24.ts x24.us x24.ws))/\((Prod.fst (worstW x24.g x24.ts x24.us x24.ws) = Prod.fst (worstW x24.g x24.ts x24.us x24.ws))/\((Prod.snd (worstW x24.g x24.ts x24.us x24.ws) = Prod.snd (worstW x24.g x24.ts x24.us x24.ws))/\((Prod.fst (worstW x24.g x24.ts x24.us x24.ws) = Prod.fst (worstW x24.g x24.ts x24.us x24.ws))/\(((Prod.fst (worstW x24.g x24.ts x24.us x24.ws) = Prod.fst (worstW x24.g x24.ts x24.us x24.ws))/\((Prod.snd (worstW x24.g x24.ts x24.us x24.ws) = Prod.snd (worstW x24.g x24.ts x24.us x24.ws))/\True))/\(((Prod.fst (worstW x24.g x24.ts x24.us x24.ws) = Prod.fst (worstW x24.g x24.ts x24.us x24.ws))/\((Prod.snd (worstW x24.g x24.ts x24.us x24.ws) = Prod.snd (worstW x24.g x24.ts x24.us x24.ws))/\True))/\(((szW (ofW x22 x22.length) = szW (ofW x22 x22.length))/\True)/\((0=0/\((LaX.c x1).us.length = (LaX.c x1).us.length))/\((0=0/\((3 : Nat) = (3 : Nat)))/\((0=0/\((LaX.c x1).ts.length = (LaX.c x1).ts.length))/\((0=0/\((2 : Nat) = (2 : Nat)))/\((0=0 /\ 0=0)/\((0=0/\((Prod.snd (boundW x23)).length = (Prod.snd (boundW x23)).length))/\((Prod.fst (boundW x23) = Prod.fst (boundW x23))/\((0=0/\((Prod.snd (boundW x23)).length = (Prod.snd (boundW x23)).length))/\((Prod.fst (boundW x23) = Prod.fst (boundW x23))/\(((Prod.fst (boundW x23) = Prod.fst (boundW x23))/\((0=0/\((Prod.snd (boundW x23)).length = (Prod.snd (boundW x23)).length))/\True))/\(((Prod.fst (boundW x23) = Prod.fst (boundW x23))/\((0=0/\((Prod.snd (boundW x23)).length = (Prod.snd (boundW x23)).length))/\True))/\(((↑(freeAt x1.us x12).length : Int) = (↑(freeAt x1.us x12).length : Int))/\(((szW (ofW x22 x22.length) = szW (ofW x22 x22.length))/\True)/\((0=0/\((LaX.c x1).ts.length = (LaX.c x1).ts.length))/\((0=0/\((2 : Nat) = (2 : Nat)))/\((0=0 /\ 0=0)/\((0=0 /\ 0=0)/\(((szW (ofW x22 x22.length) = szW (ofW x22 x22.length))/\True)/\((0=0 /\ x1.of.length = x1.of.length)/\((decide (3 < (↑(freeAt x1.us x12).length : Int)) = decide (3 < (↑(freeAt x1.us x12).length : Int)))/\(((↑(freeAt x1.us x12).length : Int) = (↑(freeAt x1.us x12).length : Int))/\((decide ((x12 : Int) < (↑(LaX.c x1).us.length : Int)) = decide ((x12 : Int) < (↑(LaX.c x1).us.length : Int)))/\(((x12 : Int) = (x12 : Int))/\(((↑(freeAt x1.us x12).length : Int) = (↑(freeAt x1.us x12).length : Int))/\(((↑(LaX.c x1).us.length : Int) = (↑(LaX.c x1).us.length : Int))/\((0=0/\((LaX.c x1).us.length = (LaX.c x1).us.length))/\((0=0/\((3 : Nat) = (3 : Nat)))/\((decide (7 < (LaX.c x1).n) = decide (7 < (LaX.c x1).n))/\((decide (7 < (LaX.c x1).n) = decide (7 < (LaX.c x1).n))/\(((LaX.c x1).n = (LaX.c x1).n)/\((0=0 /\ 0=0)/\((0=0 /\ 0=0)/\((decide (60 < x7.length) = decide (60 < x7.length))/\((decide (60 < x7.length) = decide (60 < x7.length))/\((decide (60 < x7.length) = decide (60 < x7.length))/\((0=0 /\ x1.of.length = x1.of.length)/\(false = false/\(false = false/\(true = true/\(true = true/\((0=0 /\ 0=0)/\(true = true/\((0=0 /\ 0=0)/\(((0=0 /\ 0=0)/\(true = true/\True))/\(((0=0 /\ 0=0)/\(true = true/\True))/\((((LaX.c x1).n = (LaX.c x1).n)/\((0=0/\((LaX.c x1).es.length = (LaX.c x1).es.length))/\((0=0/\((LaX.c x1).ts.length = (LaX.c x1).ts.length))/\((0=0/\((LaX.c x1).us.length = (LaX.c x1).us.length))/\True))))/\(false = false/\(true = true/\(false = false/\((0=0 /\ 0=0)/\((((LaX.c x1).n = (LaX.c x1).n)/\((0=0/\((LaX.c x1).es.length = (LaX.c x1).es.length))/\((0=0/\((LaX.c x1).ts.length = (LaX.c x1).ts.length))/\((0=0/\((LaX.c x1).us.length = (LaX.c x1).us.length))/\True))))/\((0=0 /\ x1.of.length = x1.of.length)/\True)))))))))))))))))))))))))))))))))))))))))))))))))))))))))))))))/\(((RLe (thereAt (Prod.snd (boundW (bX x1))) x29).length ((thereAt (Prod.snd (boundW (bX x1))) x26).length + (1 : Nat)))/\(RowsEq [.int .i64, .int .i64, .int .i64, .int .i64, .int .i64, .int .i64, .int .i64, .int .i64, .int .i64, .int .i64] (thereAt (Prod.snd (boundW (bX x1))) x29).length (appRows (thereAt (Prod.snd (boundW (bX x1))) x26).length (encL encU (thereAt (Prod.snd (boundW (bX x1))) x26)) 0 (litRows ((D.i 0 :: D.i 0 :: D.i 0 :: D.i 1 :: D.i ((Prod.snd (boundW x23)).getD (0 + Int.toNat (x26 : Int)) default) :: D.i 0 :: D.i 0 :: D.i 0 :: D.i 0 :: D.i 0 :: @List.nil D) :: @List.nil (List D)))) (encL encU (thereAt (Prod.snd (boundW (bX x1))) x29))))/\(((RLe (Prod.snd (boundW x23)).length (Prod.snd (boundW x23)).length)/\(RowsEq [.int .i64] (Prod.snd (boundW x23)).length (encL encI (Prod.snd (boundW x23))) (encL encI (Prod.snd (boundW x23)))))/\(((szW (ofW x22 x22.length) = szW (ofW x22 x22.length))/\True)/\(((RLe (szW (ofW x22 x22.length)) (szW (ofW x22 x22.length)))/\(RowsEq [.int .u64] (szW (ofW x22 x22.length)) (encL encW (ofW x22 x22.length)) (encL encW (ofW x22 x22.length))))/\((RLe 1 1/\(RowsEq [.sl [.int .i64, .int .i64, .int .i64], .sl [.sl [.int .i64]], .sl [.sl [.int .i64]]] 1 (encG (Gr.mk (Int.toNat x6.n) x6.es)) (encG (Gr.mk (Int.toNat x6.n) x6.es))))/\((((LaX.c x1).n = (LaX.c x1).n)/\((0=0/\((LaX.c x1).es.length = (LaX.c x1).es.length))/\((0=0/\((LaX.c x1).ts.length = (LaX.c x1).ts.length))/\((0=0/\((LaX.c x1).us.length = (LaX.c x1).us.length))/\True))))/\(((RLe x1.es.length x1.es.length)/\(RowsEq [.int .i64, .int .i64, .int .i64] x1.es.length (encL encE x1.es) (encL encE x1.es)))/\(((RLe x1.ts.length x1.ts.length)/\(RowsEq [.int .i64] x1.ts.length (encL encI x1.ts) (encL encI x1.ts)))/\(((RLe x1.us.length x1.us.length)/\(RowsEq [.int .i64, .int .i64, .int .i64, .int .i64, .int .i64, .int .i64, .int .i64, .int .i64, .int .i64, .int .i64] x1.us.length (encL encU x1.us) (encL encU x1.us)))/\(((RLe x1.of.length x1.of.length)/\(RowsEq [.int .i64] x1.of.length (encL encI x1.of) (encL encI x1.of)))/\True))))))))))))))))))))/\((decide ((x26 : Int) < (↑(Prod.snd (boundW x23)).length : Int)) = false)-> (∃ x31 : YX, ((YXok x31)/\(((0=0 /\ 0=0)/\((0=0/\((LaX.c x1).ts.length = x31.ts.length))/\((0=0/\((thereAt (Prod.snd (boundW (bX x1))) x26).length = x31.us.length))/\(((szW (ofW x22 x22.length) = szW x31.ws)/\True)/\True))))/\(((RLe 1 1/\(RowsEq [.sl [.int .i64, .int .i64, .int .i64], .sl [.sl [.int .i64]], .sl [.sl [.int .i64]]] 1 (encG (Gr.mk (Int.toNat x6.n) x6.es)) (encG x31.g)))/\(((RLe x31.ts.length x1.ts.length)/\(RowsEq [.int .i64] x31.ts.length (encL encI x1.ts) (encL encI x31.ts)))/\(((RLe x31.us.length (thereAt (Prod.snd (boundW (bX x1))) x26).length)/\(RowsEq [.int .i64, .int .i64, .int .i64, .int .i64, .int .i64, .int .i64, .int .i64, .int .i64, .int .i64, .int .i64] x31.us.length (encL encU (thereAt (Prod.snd (boundW (bX x1))) x26)) (encL encU x31.us)))/\(((RLe (szW x31.ws) (szW (ofW x22 x22.length)))/\(RowsEq [.int .u64] (szW x31.ws) (encL encW (ofW x22 x22.length)) (encL encW x31.ws)))/\True))))/\(((decide (Prod.fst (boundW x23) <= Prod.fst (worstW x24.g x24.ts x24.us x24.ws)) = true)-> (((decide (Prod.fst (worstW x31.g x31.ts x31.us x31.ws) = Prod.fst (boundW x23)) = true)-> ((decide ((↑(Prod.snd (boundW x23)).length : Int) = (↑(freeAt x1.us x12).length : Int)) = true)/\True))/\((decide (Prod.fst (worstW x31.g x31.ts x31.us x31.ws) = Prod.fst (boundW x23)) = false)-> (false = true/\True))))/\((decide (Prod.fst (boundW x23) <= Prod.fst (worstW x24.g x24.ts x24.us x24.ws)) = false)-> (false = true/\True))))))))))))))))))))))))))))))))))))/\((decide (60 < x7.length) = true)-> (true = true/\True)))))))))))))))))))) = (Keeps cfgLby Tryd.f5 (lawLb true) lbI) by kernel_rfl) (fun x1 => fun h2 => ⟨(()),
 trivial,trivial,trivial,
fun h4 => ⟨(by (try dsimp only at *); omega),trivial⟩,
fun h5 => ⟨(LaX.c x1),
(by (try dsimp only at *); grind),
⟨⟨rfl,
⟨rfl,rfl⟩,
⟨rfl,rfl⟩,
⟨rfl,rfl⟩,trivial⟩,trivial⟩,
⟨⟨⟨(by (try dsimp only at *); exact Nat.le_refl _)⟩,
(by (try dsimp only at *); exact RowsEq.rfl')⟩,
⟨⟨(by (try dsimp only at *); exact Nat.le_refl _)⟩,
(by (try dsimp only at *); exact RowsEq.rfl')⟩,
⟨⟨(by (try dsimp only at *); exact Nat.le_refl _)⟩,
(by (try dsimp only at *); exact RowsEq.rfl')⟩,trivial⟩,
(LaX.of x1),trivial,
⟨⟨rfl,rfl⟩,trivial⟩,
⟨⟨⟨Nat.le_refl _⟩,RowsEq.rfl'⟩,trivial⟩,
fun g8 => have h8 := of_decide_eq_false g8; ⟨fun g9 => have h9 := of_decide_eq_true g9; ⟨rfl,trivial⟩,
fun g10 => have h10 := of_decide_eq_false g10; ⟨((0 : Nat)),
⟨(by (try dsimp only at *); omega),
⟨(by (try dsimp only at *); omega),
(by (try dsimp only at *); rfl),rfl,
⟨rfl,rfl⟩,
⟨rfl,rfl⟩,rfl,rfl,rfl,
⟨rfl,rfl⟩,
⟨rfl,rfl⟩,rfl,rfl,rfl,
⟨rfl,rfl⟩,rfl,rfl,rfl,rfl,
⟨rfl,rfl⟩,rfl,
⟨rfl,rfl⟩,
⟨⟨rfl,rfl⟩,rfl,trivial⟩,
⟨⟨rfl,rfl⟩,rfl,trivial⟩,
⟨rfl,
⟨rfl,rfl⟩,
⟨rfl,rfl⟩,
⟨rfl,rfl⟩,trivial⟩,rfl,rfl,rfl,
⟨rfl,rfl⟩,
⟨rfl,
⟨rfl,rfl⟩,
⟨rfl,rfl⟩,
⟨rfl,rfl⟩,trivial⟩,
⟨rfl,rfl⟩,trivial⟩,
⟨⟨Nat.le_refl _⟩,RowsEq.rfl'⟩,
⟨rfl,
⟨rfl,rfl⟩,
⟨rfl,rfl⟩,
⟨rfl,rfl⟩,trivial⟩,
⟨⟨Nat.le_refl _⟩,RowsEq.rfl'⟩,
⟨⟨Nat.le_refl _⟩,RowsEq.rfl'⟩,
⟨⟨Nat.le_refl _⟩,RowsEq.rfl'⟩,
⟨⟨Nat.le_refl _⟩,RowsEq.rfl'⟩,trivial⟩,
fun x12 => fun h13 => ⟨fun g14 => have h14 := of_decide_eq_true g14; ⟨⟨(by (try dsimp only at *); omega),
(by (try dsimp only at *); omega)⟩,
(by (try dsimp only at *); (have q : (x12 : Int) < (x1.us.length : Nat) := h14; simp only [nat0]; omega)),
fun g15 => have h15 := of_decide_eq_true g15; ⟨⟨(by (try dsimp only at *); omega),
(by (try dsimp only at *); (have := freeAt_len (us := x1.us) (k := x12) (c := 12) (la_ok h2.2).us; omega))⟩,
⟨(by (try dsimp only at *); omega),
(by (try dsimp only at *); (have := (la_ok h2.2).us; omega))⟩,
(x12 + (1 : Nat)),
(by (try dsimp only at *); (have q : (x12 : Int) < (x1.us.length : Nat) := h14; omega)),
(by (try dsimp only at *); (have q : (x12 : Int) < (x1.us.length : Nat) := h14; omega)),
⟨(by (try dsimp only at *); omega),
(by (try dsimp only at *); (simp only [nat0] at h15; rw [free_yes (us := x1.us) h14 h15, List.length_append]; simp; done)),rfl,
⟨rfl,rfl⟩,
⟨rfl,rfl⟩,rfl,rfl,rfl,
⟨rfl,rfl⟩,
⟨rfl,rfl⟩,rfl,rfl,rfl,
⟨rfl,rfl⟩,rfl,rfl,rfl,rfl,
⟨rfl,rfl⟩,rfl,
⟨rfl,rfl⟩,
⟨⟨rfl,rfl⟩,rfl,trivial⟩,
⟨⟨rfl,rfl⟩,rfl,trivial⟩,
⟨rfl,
⟨rfl,rfl⟩,
⟨rfl,rfl⟩,
⟨rfl,rfl⟩,trivial⟩,rfl,rfl,rfl,
⟨rfl,rfl⟩,
⟨rfl,
⟨rfl,rfl⟩,
⟨rfl,rfl⟩,
⟨rfl,rfl⟩,trivial⟩,
⟨rfl,rfl⟩,trivial⟩,
⟨⟨Nat.le_refl _⟩,RowsEq.rfl'⟩,
⟨rfl,
⟨rfl,rfl⟩,
⟨rfl,rfl⟩,
⟨rfl,rfl⟩,trivial⟩,
⟨⟨Nat.le_refl _⟩,RowsEq.rfl'⟩,
⟨⟨Nat.le_refl _⟩,RowsEq.rfl'⟩,
⟨⟨Nat.le_refl _⟩,RowsEq.rfl'⟩,
⟨⟨Nat.le_refl _⟩,RowsEq.rfl'⟩,trivial⟩,
fun g17 => have h17 := of_decide_eq_false g17; ⟨⟨(by (try dsimp only at *); omega),
(by (try dsimp only at *); (have := (la_ok h2.2).us; omega))⟩,
(x12 + (1 : Nat)),
(by (try dsimp only at *); (have q : (x12 : Int) < (x1.us.length : Nat) := h14; omega)),
(by (try dsimp only at *); (have q : (x12 : Int) < (x1.us.length : Nat) := h14; omega)),
⟨(by (try dsimp only at *); omega),
(by (try dsimp only at *); (simp only [nat0] at h17; rw [free_no (us := x1.us) h14 h17])),rfl,
⟨rfl,rfl⟩,
⟨rfl,rfl⟩,rfl,rfl,rfl,
⟨rfl,rfl⟩,
⟨rfl,rfl⟩,rfl,rfl,rfl,
⟨rfl,rfl⟩,rfl,rfl,rfl,rfl,
⟨rfl,rfl⟩,rfl,
⟨rfl,rfl⟩,
⟨⟨rfl,rfl⟩,rfl,trivial⟩,
⟨⟨rfl,rfl⟩,rfl,trivial⟩,
⟨rfl,
⟨rfl,rfl⟩,
⟨rfl,rfl⟩,
⟨rfl,rfl⟩,trivial⟩,rfl,rfl,rfl,
⟨rfl,rfl⟩,
⟨rfl,
⟨rfl,rfl⟩,
⟨rfl,rfl⟩,
⟨rfl,rfl⟩,trivial⟩,
⟨rfl,rfl⟩,trivial⟩,
⟨⟨Nat.le_refl _⟩,RowsEq.rfl'⟩,
⟨rfl,
⟨rfl,rfl⟩,
⟨rfl,rfl⟩,
⟨rfl,rfl⟩,trivial⟩,
⟨⟨Nat.le_refl _⟩,RowsEq.rfl'⟩,
⟨⟨Nat.le_refl _⟩,RowsEq.rfl'⟩,
⟨⟨Nat.le_refl _⟩,RowsEq.rfl'⟩,
⟨⟨Nat.le_refl _⟩,RowsEq.rfl'⟩,trivial⟩⟩,
fun g19 => have h19 := of_decide_eq_false g19; ⟨fun g20 => have h20 := of_decide_eq_true g20; ⟨rfl,trivial⟩,
fun g21 => have h21 := of_decide_eq_false g21; ⟨(LaX.of x1),
(by (try dsimp only at *); omega),
⟨⟨rfl,rfl⟩,trivial⟩,
⟨⟨⟨Nat.le_refl _⟩,RowsEq.rfl'⟩,trivial⟩,
({ g := { n := Int.toNat (CaX.n (LaX.c x1)), es := CaX.es (LaX.c x1) : Gr }, ts := LaX.ts x1, ws := ofW (LaX.of x1) (List.length (LaX.of x1)), u := (↑(List.length (freeAt (LaX.us x1) x12)) : Int) : BWX }),
(by (try dsimp only at *); exact (la_ok h2.2).bw (ofW_ok _ _) _),
⟨⟨rfl,rfl⟩,
⟨rfl,
(by (try dsimp only at *); rfl)⟩,
⟨rfl,trivial⟩,rfl,trivial⟩,
⟨⟨⟨Nat.le_refl _⟩,RowsEq.rfl'⟩,
⟨⟨Nat.le_refl _⟩,RowsEq.rfl'⟩,
⟨⟨Nat.le_refl _⟩,RowsEq.rfl'⟩,trivial⟩,
({ g := { n := Int.toNat (CaX.n (LaX.c x1)), es := CaX.es (LaX.c x1) : Gr }, ts := LaX.ts x1, us := LaX.us x1, ws := ofW (LaX.of x1) (List.length (LaX.of x1)), t := default : YX }),
(by (try dsimp only at *); exact (la_ok h2.2).y (ofW_ok _ _) _),
⟨⟨rfl,rfl⟩,
⟨rfl,
(by (try dsimp only at *); rfl)⟩,
⟨rfl,
(by (try dsimp only at *); rfl)⟩,
⟨rfl,trivial⟩,trivial⟩,
⟨⟨⟨Nat.le_refl _⟩,RowsEq.rfl'⟩,
⟨⟨Nat.le_refl _⟩,RowsEq.rfl'⟩,
⟨⟨Nat.le_refl _⟩,RowsEq.rfl'⟩,
⟨⟨Nat.le_refl _⟩,RowsEq.rfl'⟩,trivial⟩,
((0 : Nat)),
⟨(by (try dsimp only at *); omega),
⟨(by (try dsimp only at *); omega),
⟨trivial,rfl,
(by (try dsimp only at *); rfl)⟩,rfl,
⟨rfl,rfl⟩,rfl,rfl,rfl,rfl,
⟨rfl,rfl,trivial⟩,
⟨rfl,rfl,trivial⟩,
⟨rfl,trivial⟩,
⟨rfl,rfl⟩,
⟨rfl,rfl⟩,
⟨rfl,rfl⟩,
⟨rfl,rfl⟩,
⟨rfl,rfl⟩,
⟨rfl,rfl⟩,rfl,
⟨rfl,rfl⟩,rfl,
⟨rfl,
⟨rfl,rfl⟩,trivial⟩,
⟨rfl,
⟨rfl,rfl⟩,trivial⟩,rfl,
⟨rfl,trivial⟩,
⟨rfl,rfl⟩,
⟨rfl,rfl⟩,
⟨rfl,rfl⟩,
⟨rfl,rfl⟩,
⟨rfl,trivial⟩,
⟨rfl,rfl⟩,rfl,rfl,rfl,rfl,rfl,rfl,
⟨rfl,rfl⟩,
⟨rfl,rfl⟩,rfl,rfl,rfl,
⟨rfl,rfl⟩,
⟨rfl,rfl⟩,rfl,rfl,rfl,
⟨rfl,rfl⟩,rfl,rfl,rfl,rfl,
⟨rfl,rfl⟩,rfl,
⟨rfl,rfl⟩,
⟨⟨rfl,rfl⟩,rfl,trivial⟩,
⟨⟨rfl,rfl⟩,rfl,trivial⟩,
⟨rfl,
⟨rfl,rfl⟩,
⟨rfl,rfl⟩,
⟨rfl,rfl⟩,trivial⟩,rfl,rfl,rfl,
⟨rfl,rfl⟩,
⟨rfl,
⟨rfl,rfl⟩,
⟨rfl,rfl⟩,
⟨rfl,rfl⟩,trivial⟩,
⟨rfl,rfl⟩,trivial⟩,
(by (try dsimp only at *); rfl),
⟨⟨Nat.le_refl _⟩,RowsEq.rfl'⟩,
⟨rfl,trivial⟩,
⟨⟨Nat.le_refl _⟩,RowsEq.rfl'⟩,
⟨⟨Nat.le_refl _⟩,RowsEq.rfl'⟩,
⟨rfl,
⟨rfl,rfl⟩,
⟨rfl,rfl⟩,
⟨rfl,rfl⟩,trivial⟩,
⟨⟨Nat.le_refl _⟩,RowsEq.rfl'⟩,
⟨⟨Nat.le_refl _⟩,RowsEq.rfl'⟩,
⟨⟨Nat.le_refl _⟩,RowsEq.rfl'⟩,
⟨⟨Nat.le_refl _⟩,RowsEq.rfl'⟩,trivial⟩,
fun x26 => fun h27 => ⟨fun g28 => have h28 := of_decide_eq_true g28; ⟨⟨(by (try dsimp only at *); omega),
(by (try dsimp only at *); omega)⟩,
(by (try dsimp only at *); omega),
⟨⟨trivial,trivial,trivial,trivial,trivial,trivial,trivial,trivial,trivial,trivial,trivial⟩,trivial⟩,
⟨rfl,
(by (try dsimp only at *); omega),
(by (try dsimp only at *); omega),
(by (try dsimp only at *); (have := there_len (k := x26) (l := (boundW (bX x1)).2) (c := 4) (boundW_len (bX x1)); omega))⟩,
⟨(by (try dsimp only at *); omega),
(by (try dsimp only at *); (have := boundW_len (bX x1); omega))⟩,
(x26 + (1 : Nat)),
(by (try dsimp only at *); (rw [bX_eq h13 h19] at h28; omega)),
(by (try dsimp only at *); (rw [bX_eq h13 h19] at h28; omega)),
⟨(by (try dsimp only at *); omega),
⟨rfl,
(by (try dsimp only at *); (rw [bX_eq h13 h19] at h28; rw [there_succ h28]; simp; done))⟩,rfl,
⟨rfl,rfl⟩,rfl,rfl,rfl,rfl,
⟨rfl,rfl,trivial⟩,
⟨rfl,rfl,trivial⟩,
⟨rfl,trivial⟩,
⟨rfl,rfl⟩,
⟨rfl,rfl⟩,
⟨rfl,rfl⟩,
⟨rfl,rfl⟩,
⟨rfl,rfl⟩,
⟨rfl,rfl⟩,rfl,
⟨rfl,rfl⟩,rfl,
⟨rfl,
⟨rfl,rfl⟩,trivial⟩,
⟨rfl,
⟨rfl,rfl⟩,trivial⟩,rfl,
⟨rfl,trivial⟩,
⟨rfl,rfl⟩,
⟨rfl,rfl⟩,
⟨rfl,rfl⟩,
⟨rfl,rfl⟩,
⟨rfl,trivial⟩,
⟨rfl,rfl⟩,rfl,rfl,rfl,rfl,rfl,rfl,
⟨rfl,rfl⟩,
⟨rfl,rfl⟩,rfl,rfl,rfl,
⟨rfl,rfl⟩,
⟨rfl,rfl⟩,rfl,rfl,rfl,
⟨rfl,rfl⟩,rfl,rfl,rfl,rfl,
⟨rfl,rfl⟩,rfl,
⟨rfl,rfl⟩,
⟨⟨rfl,rfl⟩,rfl,trivial⟩,
⟨⟨rfl,rfl⟩,rfl,trivial⟩,
⟨rfl,
⟨rfl,rfl⟩,
⟨rfl,rfl⟩,
⟨rfl,rfl⟩,trivial⟩,rfl,rfl,rfl,
⟨rfl,rfl⟩,
⟨rfl,
⟨rfl,rfl⟩,
⟨rfl,rfl⟩,
⟨rfl,rfl⟩,trivial⟩,
⟨rfl,rfl⟩,trivial⟩,
⟨⟨(by (try dsimp only at *); (rw [bX_eq h13 h19] at h28; rw [there_succ h28]; simp; done))⟩,
(by (try dsimp only at *); (rw [bX_eq h13 h19] at h28 ⊢; rw [there_succ h28]; simp only [nat0]; exact rowsEq_push rfl (by simp) ⟨rfl, rfl, rfl, rfl, rfl, rfl, rfl, rfl, rfl, rfl, trivial⟩))⟩,
⟨⟨Nat.le_refl _⟩,RowsEq.rfl'⟩,
⟨rfl,trivial⟩,
⟨⟨Nat.le_refl _⟩,RowsEq.rfl'⟩,
⟨⟨Nat.le_refl _⟩,RowsEq.rfl'⟩,
⟨rfl,
⟨rfl,rfl⟩,
⟨rfl,rfl⟩,
⟨rfl,rfl⟩,trivial⟩,
⟨⟨Nat.le_refl _⟩,RowsEq.rfl'⟩,
⟨⟨Nat.le_refl _⟩,RowsEq.rfl'⟩,
⟨⟨Nat.le_refl _⟩,RowsEq.rfl'⟩,
⟨⟨Nat.le_refl _⟩,RowsEq.rfl'⟩,trivial⟩,
fun g30 => have h30 := of_decide_eq_false g30; ⟨({ g := { n := Int.toNat (CaX.n (LaX.c x1)), es := CaX.es (LaX.c x1) : Gr }, ts := LaX.ts x1, us := thereAt (Prod.snd (boundW (bX x1))) x26, ws := ofW (LaX.of x1) (List.length (LaX.of x1)), t := default : YX }),
(by (try dsimp only at *); exact ⟨⟨(la_ok h2.2).g, (la_ok h2.2).n, Nat.le_trans (there_len (boundW_len _)) (by decide), Nat.zero_le _⟩, ofW_ok _ _⟩),
⟨⟨rfl,rfl⟩,
⟨rfl,
(by (try dsimp only at *); rfl)⟩,
⟨rfl,rfl⟩,
⟨rfl,trivial⟩,trivial⟩,
⟨⟨⟨Nat.le_refl _⟩,RowsEq.rfl'⟩,
⟨⟨Nat.le_refl _⟩,RowsEq.rfl'⟩,
⟨⟨Nat.le_refl _⟩,RowsEq.rfl'⟩,
⟨⟨Nat.le_refl _⟩,RowsEq.rfl'⟩,trivial⟩,
fun g32 => have h32 := of_decide_eq_true g32; ⟨fun g33 => have h33 := of_decide_eq_true g33; ⟨(by (try dsimp only at *); (rw [bX_eq h13 h19]; have e := free_end (us := x1.us) h13 h19; rw [e] at h21 ⊢; exact decide_eq_true (lb_len (la_ok h2.2) h21))),trivial⟩,
fun g34 => have h34 := of_decide_eq_false g34; ⟨(by (try dsimp only at *); (rw [bX_eq h13 h19] at h30 h34; rw [there_end h27 h30] at h34; exact absurd (lb_att (la_ok h2.2) (nF_le h13 h19 h21)) h34)),trivial⟩⟩,
fun g35 => have h35 := of_decide_eq_false g35; ⟨(by (try dsimp only at *); (rw [bX_eq h13 h19] at h35; exact absurd (lb_min (la_ok h2.2) (nF_le h13 h19 h21)) h35)),trivial⟩⟩⟩⟩⟩⟩⟩⟩,
fun g36 => have h36 := of_decide_eq_true g36; ⟨rfl,trivial⟩⟩⟩)
theorem lb_good : Good Tryd.prog 5 ⟨LaX, fun _ => True, laA, laH, fun _ => .b true, fun _ => []⟩ := both_b (t := fun x => netOk x.c)
 (good_of tok conLby (fn := Tryd.f5) rfl (by decide +kernel) (fun _ => rfl) lb_yes).1 (good_of tok conLbn (fn := Tryd.f5) rfl (by decide +kernel) (fun _ => rfl) lb_no).1
end Go.Sym