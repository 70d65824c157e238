import Derived.Test.YtplpefihhhcbbaaDoorL1
import Derived.Test.YtplpefihhhcbbaaDoorK3
import Derived.Test.YtplpefihhhcbbaaDoorQ6
import Derived.Test.YtplpefihhhcbbaaDoorQ1
import Derived.Test.YtplpefihhhcbbaaDoorQ2
import Derived.Test.YtplpefihhhcbbaaDoorXD
namespace Go.Sym
set_option linter.unusedVariables false
set_option linter.unusedSimpArgs false
open Go.Proofs
set_option maxHeartbeats 4000000
theorem within_list (g : Gr) (ts : List Int) (us : List Un) (of : List Int) (t : Int) : elemsZ (ofW (withinW g ts us (ofW of of.length) t) (withinW g ts us (ofW of of.length) t).length) = withinL g ts us of t := by
 refine (ofW_sorted ((nodesW_sorted _ _).filter _) fun x hx => ?_).trans rfl
 have := nodesW_mem' (List.mem_filter.1 hx).1
 exact ⟨this.1, this.2.2⟩
theorem within_all {g : Gr} (hg : GOk g) (hn : g.n <= 4096) (ts : List Int) (us : List Un) {ws : List Nat} (hw : WOk ws) (h : (worstW g ts us ws).1 ≠ 4611686018427387904) :
  ofW (withinW g ts us ws (worstW g ts us ws).1) (withinW g ts us ws (worstW g ts us ws).1).length = bothW ws (allW (min (g.n : Int) 4096).toNat) := by
 refine elems_inj (ofW_ok _ _) (bothW_ok hw (allW_ok _)) ?_
 rw [elems_min hw hn]
 have e : withinW g ts us ws (worstW g ts us ws).1 = nodesW g.n ws := by
  unfold withinW
  rw [List.filter_eq_self]
  intro v hv
  have hr := nodesW_mem' hv
  unfold inB
  rcases worst_spec (D := distG g ts (freeL us) true) (l := nodesW g.n ws) (fun v hv => (nodesW_mem' hv).1) with ⟨q, _⟩ | ⟨_, _, q, v0, hv0, q0⟩
  ·rw [q] at hv; cases hv
  ·have h1 := q v hv
   have hr0 := nodesW_mem' hv0
   have h2 := dist_rng hg ts (freeL us) true (v := v0.toNat) (by omega)
   have h3 : (worstW g ts us ws).1 = (distG g ts (freeL us) true).getD v0.toNat default := q0
   have h1 : (distG g ts (freeL us) true).getD v.toNat default <= (worstW g ts us ws).1 := h1
   exact decide_eq_true (by omega)
 rw [e]
 exact ofW_sorted (nodesW_sorted _ _) fun x hx => ⟨(nodesW_mem' hx).1, (nodesW_mem' hx).2.2⟩
theorem within_allL {x : LaX} (h : LaOk x) (hne : ¬ (worstW x.g x.ts x.us (ofW x.of x.of.length)).1 = 4611686018427387904) :
  ofW (withinW x.g x.ts x.us (ofW x.of x.of.length) (worstW x.g x.ts x.us (ofW x.of x.of.length)).1) (withinW x.g x.ts x.us (ofW x.of x.of.length) (worstW x.g x.ts x.us (ofW x.of x.of.length)).1).length = bothW (ofW x.of x.of.length) (allW (min x.c.n 4096).toNat) := by
 show _ = bothW _ (allW (min x.n 4096).toNat)
 rw [<- h.e]
 exact within_all h.g (by have := h.n; omega) x.ts x.us (ofW_ok _ _) hne
def laT (x : LaX) : List SV := laA x ++ [.i .i64 x.u]
def lawNW (b : Bool) : CT := ⟨LaX, fun x => True /\ netOk x.c = b, laT, laH, fun _ => .b true, fun _ => []⟩
def CNw (b : CT) : List (Nat × Con) := [(10, .one wakesC), (11, .one b), (12, .one greatC), (14, .one ofC), (24, .one cwithinC), (21, .one listC), (25, .one vWithinC), (18, .one sameC), (13, .one wwaitC), (19, .one allNC), (27, .one bothC), (26, .one equalC)]
def cfgNWy : Cfg := ⟨T, [], CNw netYesC, noInv, 60, {}⟩
def cfgNWn : Cfg := ⟨T, [], CNw netNoC, noInv, 60, {}⟩
theorem conNw {b : CT} (h : Good Tryd.prog 11 b /\ FnOk Tryd.prog 11) : ConL Tryd.prog (CNw b) := .cons (ConL.one wakes_good) (.cons (ConL.one h) (.cons (ConL.one great_good) (.cons (ConL.one of_good) (.cons (ConL.one cwithin_good) (.cons (ConL.one list_good)
 (.cons (ConL.one vWithin_good) (.cons (ConL.one same_good) (.cons (ConL.one wwait_good) (.cons (ConL.one all_good) (.cons (ConL.one both_good) (.cons (ConL.one equal_good) .nil)))))))))))
theorem conNWy : ConOk Tryd.prog cfgNWy := ConL.ok (conNw netYes_good)
theorem conNWn : ConOk Tryd.prog cfgNWn := ConL.ok (conNw netNo_good)
set_option maxRecDepth 100000 in
theorem nw_no : Keeps cfgNWn Tryd.f8 (lawNW false) noIv := Eq.mp (show ((∀ x1 : LaX, ((True /\ netOk (LaX.c x1) = false)-> (∃ x3 : Unit, (True/\(True/\(True/\((false = true -> (false = true/\True))/\(false = false -> (∃ x6 : CaX, ((netOk x6 = false)/\(((((LaX.c x1).n = x6.n)/\((0=0/\((LaX.c x1).es.length = x6.es.length))/\((0=0/\((LaX.c x1).ts.length = x6.ts.length))/\((0=0/\((LaX.c x1).us.length = x6.us.length))/\True))))/\True)/\((((RLe x6.es.length x1.es.length)/\(RowsEq [.int .i64, .int .i64, .int .i64] x6.es.length (encL encE x1.es) (encL encE x6.es)))/\(((RLe x6.ts.length x1.ts.length)/\(RowsEq [.int .i64] x6.ts.length (encL encI x1.ts) (encL encI x6.ts)))/\(((RLe x6.us.length x1.us.length)/\(RowsEq [.int .i64, .int .i64, .int .i64, .int .i64, .int .i64, .int .i64, .int .i64, .int .i64, .int .i64, .int .i64] x6.us.length (encL encU x1.us) (encL encU x6.us)))/\True)))/\(true = true/\True)))))))))))))) = (Keeps cfgNWn Tryd.f8 (lawNW false) noIv) by kernel_rfl) (fun x1 => fun h2 => ⟨(()),trivial,trivial,trivial,
fun h4 => ⟨(by (try dsimp only at *); omega),trivial⟩,
fun h5 => ⟨(LaX.c x1),
(by (try dsimp only at *); grind),
⟨⟨rfl,
⟨rfl,rfl⟩,
⟨rfl,rfl⟩,
⟨rfl,rfl⟩,trivial⟩,trivial⟩,
⟨⟨⟨(by (try dsimp only at *); exact Nat.le_refl _)⟩,
(by (try dsimp only at *); exact RowsEq.rfl')⟩,
⟨⟨(by (try dsimp only at *); exact Nat.le_refl _)⟩,
(by (try dsimp only at *); exact RowsEq.rfl')⟩,
⟨⟨(by (try dsimp only at *); exact Nat.le_refl _)⟩,
(by (try dsimp only at *); exact RowsEq.rfl')⟩,trivial⟩,rfl,trivial⟩⟩)
set_option maxRecDepth 100000 in
theorem nw_yes : Keeps cfgNWy Tryd.f8 (lawNW true) noIv := Eq.mp (show ((∀ x1 : LaX, ((True /\ netOk (LaX.c x1) = true)-> (∃ x3 : Unit, (True/\(True/\(True/\((false = true -> (false = true/\True))/\(false = false -> (∃ x6 : CaX, ((netOk x6 = true)/\(((((LaX.c x1).n = x6.n)/\((0=0/\((LaX.c x1).es.length = x6.es.length))/\((0=0/\((LaX.c x1).ts.length = x6.ts.length))/\((0=0/\((LaX.c x1).us.length = x6.us.length))/\True))))/\True)/\((((RLe x6.es.length x1.es.length)/\(RowsEq [.int .i64, .int .i64, .int .i64] x6.es.length (encL encE x1.es) (encL encE x6.es)))/\(((RLe x6.ts.length x1.ts.length)/\(RowsEq [.int .i64] x6.ts.length (encL encI x1.ts) (encL encI x6.ts)))/\(((RLe x6.us.length x1.us.length)/\(RowsEq [.int .i64, .int .i64, .int .i64, .int .i64, .int .i64, .int .i64, .int .i64, .int .i64, .int .i64, .int .i64] x6.us.length (encL encU x1.us) (encL encU x6.us)))/\True)))/\(∃ x7 : List Int, (True/\(((0=0 /\ x1.of.length = x7.length)/\True)/\((((RLe x7.length x1.of.length)/\(RowsEq [.int .i64] x7.length (encL encI x1.of) (encL encI x7)))/\True)/\(((decide (60 < x7.length) = true)-> (true = true/\True))/\((decide (60 < x7.length) = false)-> (∃ x10 : List Int, ((x10.length <= (1048576 : Nat))/\(((0=0 /\ x1.of.length = x10.length)/\True)/\((((RLe x10.length x1.of.length)/\(RowsEq [.int .i64] x10.length (encL encI x1.of) (encL encI x10)))/\True)/\(∃ x11 : YX, ((YXok x11)/\(((0=0 /\ 0=0)/\((0=0/\((LaX.c x1).ts.length = x11.ts.length))/\((0=0/\((LaX.c x1).us.length = x11.us.length))/\(((szW (ofW x10 x10.length) = szW x11.ws)/\True)/\(x1.u = x11.t/\True)))))/\(((RLe 1 1/\(RowsEq [.sl [.int .i64, .int .i64, .int .i64], .sl [.sl [.int .i64]], .sl [.sl [.int .i64]]] 1 (encG (Gr.mk (Int.toNat x6.n) x6.es)) (encG x11.g)))/\(((RLe x11.ts.length x1.ts.length)/\(RowsEq [.int .i64] x11.ts.length (encL encI x1.ts) (encL encI x11.ts)))/\(((RLe x11.us.length x1.us.length)/\(RowsEq [.int .i64, .int .i64, .int .i64, .int .i64, .int .i64, .int .i64, .int .i64, .int .i64, .int .i64, .int .i64] x11.us.length (encL encU x1.us) (encL encU x11.us)))/\(((RLe (szW x11.ws) (szW (ofW x10 x10.length)))/\(RowsEq [.int .u64] (szW x11.ws) (encL encW (ofW x10 x10.length)) (encL encW x11.ws)))/\True))))/\(∃ x12 : List Nat, ((WOk x12)/\((((szW (ofW (withinW x11.g x11.ts x11.us x11.ws x11.t) (withinW x11.g x11.ts x11.us x11.ws x11.t).length) = szW x12)/\True)/\True)/\((((RLe (szW x12) (szW (ofW (withinW x11.g x11.ts x11.us x11.ws x11.t) (withinW x11.g x11.ts x11.us x11.ws x11.t).length)))/\(RowsEq [.int .u64] (szW x12) (encL encW (ofW (withinW x11.g x11.ts x11.us x11.ws x11.t) (withinW x11.g x11.ts x11.us x11.ws x11.t).length)) (encL encW x12)))/\True)/\(∃ x13 : VX, ((UXok (VX.u x13))/\(((((LaX.c x1).n = (x13.g.n : Int))/\((0=0/\((LaX.c x1).es.length = x13.g.es.length))/\True))/\((0=0/\((LaX.c x1).ts.length = x13.ts.length))/\((0=0/\((LaX.c x1).us.length = x13.us.length))/\((0=0 /\ x1.of.length = x13.of.length)/\(x1.u = x13.t/\True)))))/\((((RLe x13.g.es.length x1.es.length)/\(RowsEq [.int .i64, .int .i64, .int .i64] x13.g.es.length (encL encE x1.es) (encL encE x13.g.es)))/\(((RLe x13.ts.length x1.ts.length)/\(RowsEq [.int .i64] x13.ts.length (encL encI x1.ts) (encL encI x13.ts)))/\(((RLe x13.us.length x1.us.length)/\(RowsEq [.int .i64, .int .i64, .int .i64, .int .i64, .int .i64, .int .i64, .int .i64, .int .i64, .int .i64, .int .i64] x13.us.length (encL encU x1.us) (encL encU x13.us)))/\(((RLe x13.of.length x1.of.length)/\(RowsEq [.int .i64] x13.of.length (encL encI x1.of) (encL encI x13.of)))/\True))))/\(∃ x14 : LLX, ((x14.a.length <= (1073741824 : Nat))/\(((0=0/\((elemsW x12).length = x14.a.length))/\((0=0/\((withinL x13.g x13.ts x13.us x13.of x13.t).length = x14.b.length))/\True))/\((((RLe x14.a.length (elemsW x12).length)/\(RowsEq [.int .i64] x14.a.length (encL encI (elemsZ x12)) (encL encI x14.a)))/\(((RLe x14.b.length (withinL x13.g x13.ts x13.us x13.of x13.t).length)/\(RowsEq [.int .i64] x14.b.length (encL encI (withinL x13.g x13.ts x13.us x13.of x13.t)) (encL encI x14.b)))/\True))/\((((!decide (x14.a = x14.b)) = true)-> (false = true/\True))/\(((!decide (x14.a = x14.b)) = false)-> (∃ x17 : YX, ((YXok x17)/\(((0=0 /\ 0=0)/\((0=0/\((LaX.c x1).ts.length = x17.ts.length))/\((0=0/\((LaX.c x1).us.length = x17.us.length))/\(((szW (ofW x10 x10.length) = szW x17.ws)/\True)/\True))))/\(((RLe 1 1/\(RowsEq [.sl [.int .i64, .int .i64, .int .i64], .sl [.sl [.int .i64]], .sl [.sl [.int .i64]]] 1 (encG (Gr.mk (Int.toNat x6.n) x6.es)) (encG x17.g)))/\(((RLe x17.ts.length x1.ts.length)/\(RowsEq [.int .i64] x17.ts.length (encL encI x1.ts) (encL encI x17.ts)))/\(((RLe x17.us.length x1.us.length)/\(RowsEq [.int .i64, .int .i64, .int .i64, .int .i64, .int .i64, .int .i64, .int .i64, .int .i64, .int .i64, .int .i64] x17.us.length (encL encU x1.us) (encL encU x17.us)))/\(((RLe (szW x17.ws) (szW (ofW x10 x10.length)))/\(RowsEq [.int .u64] (szW x17.ws) (encL encW (ofW x10 x10.length)) (encL encW x17.ws)))/\True))))/\(∃ x18 : YX, ((YXok x18)/\(((0=0 /\ 0=0)/\((0=0/\((LaX.c x1).ts.length = x18.ts.length))/\((0=0/\((LaX.c x1).us.length = x18.us.length))/\(((szW (ofW x10 x10.length) = szW x18.ws)/\True)/\((Prod.fst (worstW x17.g x17.ts x17.us x17.ws) = x18.t)/\True)))))/\(((RLe 1 1/\(RowsEq [.sl [.int .i64, .int .i64, .int .i64], .sl [.sl [.int .i64]], .sl [.sl [.int .i64]]] 1 (encG (Gr.mk (Int.toNat x6.n) x6.es)) (encG x18.g)))/\(((RLe x18.ts.length x1.ts.length)/\(RowsEq [.int .i64] x18.ts.length (encL encI x1.ts) (encL encI x18.ts)))/\(((RLe x18.us.length x1.us.length)/\(RowsEq [.int .i64, .int .i64, .int .i64, .int .i64, .int .i64, .int .i64, .int .i64, .int .i64, .int .i64, .int .i64] x18.us.length (encL encU x1.us) (encL encU x18.us)))/\(((RLe (szW x18.ws) (szW (ofW x10 x10.length)))/\(RowsEq [.int .u64] (szW x18.ws) (encL encW (ofW x10 x10.length)) (encL encW x18.ws)))/\True))))/\(((decide (Prod.snd (worstW x17.g x17.ts x17.us x17.ws) < (0 : Int)) = false)-> (((decide (Prod.fst (worstW x17.g x17.ts x17.us x17.ws) = (4611686018427387904 : Int)) = false)-> (∃ x21 : Int, (((0 : Int) <= x21)/\((((LaX.c x1).n = x21)/\True)/\(True/\(∃ x22 : TwoX, (((WOk x22.a)/\(WOk x22.b))/\((((szW (ofW x10 x10.length) = szW x22.a)/\True)/\(((szW (allW (Int.toNat (min x21 (4096 : Int)))) = szW x22.b)/\True)/\True))/\((((RLe (szW x22.a) (szW (ofW x10 x10.length)))/\(RowsEq [.int .u64] (szW x22.a) (encL encW (ofW x10 x10.length)) (encL encW x22.a)))/\(((RLe (szW x22.b) (szW (allW (Int.toNat (min x21 (4096 : Int))))))/\(RowsEq [.int .u64] (szW x22.b) (encL encW (allW (Int.toNat (min x21 (4096 : Int))))) (encL encW x22.b)))/\True))/\(∃ x23 : TwoX, (((WOk x23.a)/\(WOk x23.b))/\((((szW (ofW (withinW x18.g x18.ts x18.us x18.ws x18.t) (withinW x18.g x18.ts x18.us x18.ws x18.t).length) = szW x23.a)/\True)/\(((szW (bothW x22.a x22.b) = szW x23.b)/\True)/\True))/\((((RLe (szW x23.a) (szW (ofW (withinW x18.g x18.ts x18.us x18.ws x18.t) (withinW x18.g x18.ts x18.us x18.ws x18.t).length)))/\(RowsEq [.int .u64] (szW x23.a) (encL encW (ofW (withinW x18.g x18.ts x18.us x18.ws x18.t) (withinW x18.g x18.ts x18.us x18.ws x18.t).length)) (encL encW x23.a)))/\(((RLe (szW x23.b) (szW (bothW x22.a x22.b)))/\(RowsEq [.int .u64] (szW x23.b) (encL encW (bothW x22.a x22.b)) (encL encW x23.b)))/\True))/\((decide (x23.a = x23.b) = true)/\True))))))))))))))/\((decide (Prod.fst (worstW x17.g x17.ts x17.us x17.ws) = (4611686018427387904 : Int)) = true)-> (true = true/\True))))/\((decide (Prod.snd (worstW x17.g x17.ts x17.us x17.ws) < (0 : Int)) = true)-> (true = true/\True)))))))))))))))))))))))))))))))))))))))))))))))))))) = (Keeps cfgNWy Tryd.f8 (lawNW true) noIv) by kernel_rfl) (fun x1 => fun h2 => ⟨(()),
 trivial,trivial,trivial,
fun h4 => ⟨(by (try dsimp only at *); omega),trivial⟩,
fun h5 => ⟨(LaX.c x1),
(by (try dsimp only at *); grind),
⟨⟨rfl,
⟨rfl,rfl⟩,
⟨rfl,rfl⟩,
⟨rfl,rfl⟩,trivial⟩,trivial⟩,
⟨⟨⟨(by (try dsimp only at *); exact Nat.le_refl _)⟩,
(by (try dsimp only at *); exact RowsEq.rfl')⟩,
⟨⟨(by (try dsimp only at *); exact Nat.le_refl _)⟩,
(by (try dsimp only at *); exact RowsEq.rfl')⟩,
⟨⟨(by (try dsimp only at *); exact Nat.le_refl _)⟩,
(by (try dsimp only at *); exact RowsEq.rfl')⟩,trivial⟩,
(LaX.of x1),trivial,
⟨⟨rfl,rfl⟩,trivial⟩,
⟨⟨⟨Nat.le_refl _⟩,RowsEq.rfl'⟩,trivial⟩,
fun g8 => have h8 := of_decide_eq_true g8; ⟨rfl,trivial⟩,
fun g9 => have h9 := of_decide_eq_false g9; ⟨(LaX.of x1),
(by (try dsimp only at *); omega),
⟨⟨rfl,rfl⟩,trivial⟩,
⟨⟨⟨Nat.le_refl _⟩,RowsEq.rfl'⟩,trivial⟩,
({ g := LaX.g x1, ts := LaX.ts x1, us := LaX.us x1, ws := ofW (LaX.of x1) (List.length (LaX.of x1)), t := LaX.u x1 : YX }),
(by (try dsimp only at *); exact (la_ok h2.2).y (ofW_ok _ _) _),
⟨⟨rfl,rfl⟩,
⟨rfl,
(by (try dsimp only at *); rfl)⟩,
⟨rfl,
(by (try dsimp only at *); rfl)⟩,
⟨rfl,trivial⟩,rfl,trivial⟩,
⟨⟨⟨Nat.le_refl _⟩,
(by (try dsimp only at *); exact RowsEq.rfl')⟩,
⟨⟨Nat.le_refl _⟩,RowsEq.rfl'⟩,
⟨⟨Nat.le_refl _⟩,RowsEq.rfl'⟩,
⟨⟨Nat.le_refl _⟩,RowsEq.rfl'⟩,trivial⟩,
(ofW (withinW (LaX.g x1) (LaX.ts x1) (LaX.us x1) (ofW (LaX.of x1) (List.length (LaX.of x1))) (LaX.u x1)) (List.length (withinW (LaX.g x1) (LaX.ts x1) (LaX.us x1) (ofW (LaX.of x1) (List.length (LaX.of x1))) (LaX.u x1)))),
(by (try dsimp only at *); exact ofW_ok _ _),
⟨⟨rfl,trivial⟩,trivial⟩,
⟨⟨⟨Nat.le_refl _⟩,RowsEq.rfl'⟩,trivial⟩,
({ g := LaX.g x1, ts := LaX.ts x1, us := LaX.us x1, of := LaX.of x1, t := LaX.u x1 : VX }),
(by (try dsimp only at *); exact (la_ok h2.2).u (of := x1.of) (by omega)),
⟨⟨(by (try dsimp only at *); exact (la_ok h2.2).e.symm),
⟨rfl,
(by (try dsimp only at *); rfl)⟩,trivial⟩,
⟨rfl,
(by (try dsimp only at *); rfl)⟩,
⟨rfl,
(by (try dsimp only at *); rfl)⟩,
⟨rfl,rfl⟩,rfl,trivial⟩,
⟨⟨⟨(by (try dsimp only at *); exact Nat.le_refl _)⟩,
(by (try dsimp only at *); exact RowsEq.rfl')⟩,
⟨⟨Nat.le_refl _⟩,RowsEq.rfl'⟩,
⟨⟨Nat.le_refl _⟩,RowsEq.rfl'⟩,
⟨⟨Nat.le_refl _⟩,RowsEq.rfl'⟩,trivial⟩,
({ a := elemsZ (ofW (withinW (LaX.g x1) (LaX.ts x1) (LaX.us x1) (ofW (LaX.of x1) (List.length (LaX.of x1))) (LaX.u x1)) (List.length (withinW (LaX.g x1) (LaX.ts x1) (LaX.us x1) (ofW (LaX.of x1) (List.length (LaX.of x1))) (LaX.u x1)))), b := withinL (LaX.g x1) (LaX.ts x1) (LaX.us x1) (LaX.of x1) (LaX.u x1) : LLX }),
(by (try dsimp only at *); (show (elemsZ _).length <= 1073741824; rw [elemsZ_len]; have := elemsW_len (ofW (withinW x1.g x1.ts x1.us (ofW x1.of x1.of.length) x1.u) (withinW x1.g x1.ts x1.us (ofW x1.of x1.of.length) x1.u).length); omega)),
⟨⟨rfl,
(by (try dsimp only at *); exact (elemsZ_len _).symm)⟩,
⟨rfl,rfl⟩,trivial⟩,
⟨⟨⟨(by (try dsimp only at *); exact Nat.le_of_eq (elemsZ_len _))⟩,RowsEq.rfl'⟩,
⟨⟨Nat.le_refl _⟩,RowsEq.rfl'⟩,trivial⟩,
fun g15 => have h15 := of_not_decide_true g15; ⟨(by (try dsimp only at *); exact absurd (within_list x1.g x1.ts x1.us x1.of x1.u) h15),trivial⟩,
fun g16 => have h16 := of_not_decide_false g16; ⟨({ g := { n := Int.toNat (CaX.n (LaX.c x1)), es := CaX.es (LaX.c x1) : Gr }, ts := LaX.ts x1, us := LaX.us x1, ws := ofW (LaX.of x1) (List.length (LaX.of x1)), t := default : YX }),
(by (try dsimp only at *); exact (la_ok h2.2).y (ofW_ok _ _) _),
⟨⟨rfl,rfl⟩,
⟨rfl,
(by (try dsimp only at *); rfl)⟩,
⟨rfl,
(by (try dsimp only at *); rfl)⟩,
⟨rfl,trivial⟩,trivial⟩,
⟨⟨⟨Nat.le_refl _⟩,RowsEq.rfl'⟩,
⟨⟨Nat.le_refl _⟩,RowsEq.rfl'⟩,
⟨⟨Nat.le_refl _⟩,RowsEq.rfl'⟩,
⟨⟨Nat.le_refl _⟩,RowsEq.rfl'⟩,trivial⟩,
({ g := { n := Int.toNat (CaX.n (LaX.c x1)), es := CaX.es (LaX.c x1) : Gr }, ts := LaX.ts x1, us := LaX.us x1, ws := ofW (LaX.of x1) (List.length (LaX.of x1)), t := Prod.fst (worstW { n := Int.toNat (CaX.n (LaX.c x1)), es := CaX.es (LaX.c x1) : Gr } (LaX.ts x1) (LaX.us x1) (ofW (LaX.of x1) (List.length (LaX.of x1)))) : YX }),
(by (try dsimp only at *); exact (la_ok h2.2).y (ofW_ok _ _) _),
⟨⟨rfl,rfl⟩,
⟨rfl,
(by (try dsimp only at *); rfl)⟩,
⟨rfl,
(by (try dsimp only at *); rfl)⟩,
⟨rfl,trivial⟩,rfl,trivial⟩,
⟨⟨⟨Nat.le_refl _⟩,RowsEq.rfl'⟩,
⟨⟨Nat.le_refl _⟩,RowsEq.rfl'⟩,
⟨⟨Nat.le_refl _⟩,RowsEq.rfl'⟩,
⟨⟨Nat.le_refl _⟩,RowsEq.rfl'⟩,trivial⟩,
fun g19 => have h19 := of_decide_eq_false g19; ⟨fun g20 => have h20 := of_decide_eq_false g20; ⟨(CaX.n (LaX.c x1)),
(by (try dsimp only at *); (show 0 <= x1.n; have := (la_ok h2.2).e; omega)),
⟨rfl,trivial⟩,trivial,
({ a := ofW (LaX.of x1) (List.length (LaX.of x1)), b := allW (Int.toNat (min (CaX.n (LaX.c x1)) (4096 : Int))) : TwoX }),
⟨(by (try dsimp only at *); exact ofW_ok _ _),
(by (try dsimp only at *); exact allW_ok _)⟩,
⟨⟨rfl,trivial⟩,
⟨rfl,trivial⟩,trivial⟩,
⟨⟨⟨Nat.le_refl _⟩,RowsEq.rfl'⟩,
⟨⟨Nat.le_refl _⟩,RowsEq.rfl'⟩,trivial⟩,
({ a := ofW (withinW { n := Int.toNat (CaX.n (LaX.c x1)), es := CaX.es (LaX.c x1) : Gr } (LaX.ts x1) (LaX.us x1) (ofW (LaX.of x1) (List.length (LaX.of x1))) (Prod.fst (worstW { n := Int.toNat (CaX.n (LaX.c x1)), es := CaX.es (LaX.c x1) : Gr } (LaX.ts x1) (LaX.us x1) (ofW (LaX.of x1) (List.length (LaX.of x1)))))) (List.length (withinW { n := Int.toNat (CaX.n (LaX.c x1)), es := CaX.es (LaX.c x1) : Gr } (LaX.ts x1) (LaX.us x1) (ofW (LaX.of x1) (List.length (LaX.of x1))) (Prod.fst (worstW { n := Int.toNat (CaX.n (LaX.c x1)), es := CaX.es (LaX.c x1) : Gr } (LaX.ts x1) (LaX.us x1) (ofW (LaX.of x1) (List.length (LaX.of x1))))))), b := bothW (ofW (LaX.of x1) (List.length (LaX.of x1))) (allW (Int.toNat (min (CaX.n (LaX.c x1)) (4096 : Int)))) : TwoX }),
⟨(by (try dsimp only at *); exact ofW_ok _ _),
(by (try dsimp only at *); exact bothW_ok (ofW_ok _ _) (allW_ok _))⟩,
⟨⟨rfl,trivial⟩,
⟨rfl,trivial⟩,trivial⟩,
⟨⟨⟨Nat.le_refl _⟩,RowsEq.rfl'⟩,
⟨⟨Nat.le_refl _⟩,RowsEq.rfl'⟩,trivial⟩,
(by (try dsimp only at *); exact decide_eq_true (within_allL (la_ok h2.2) h20)),trivial⟩,
fun g24 => have h24 := of_decide_eq_true g24; ⟨rfl,trivial⟩⟩,
fun g25 => have h25 := of_decide_eq_true g25; ⟨rfl,trivial⟩⟩⟩⟩⟩)
theorem nw_good : Good Tryd.prog 8 ⟨LaX, fun _ => True, laT, laH, fun _ => .b true, fun _ => []⟩ := both_b (t := fun x => netOk x.c)
 (good_of tok conNWy (fn := Tryd.f8) rfl (by decide +kernel) (fun _ => rfl) nw_yes).1 (good_of tok conNWn (fn := Tryd.f8) rfl (by decide +kernel) (fun _ => rfl) nw_no).1
end Go.Sym