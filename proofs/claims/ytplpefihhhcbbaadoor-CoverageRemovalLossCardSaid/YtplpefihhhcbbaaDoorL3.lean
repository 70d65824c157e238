import Derived.Test.YtplpefihhhcbbaaDoorL0
import Derived.Test.YtplpefihhhcbbaaDoorQ4
import Derived.Test.YtplpefihhhcbbaaDoorQ7
import Derived.Test.YtplpefihhhcbbaaDoorXD
namespace Go.Sym
set_option linter.unusedVariables false
set_option linter.unusedSimpArgs false
open Go.Proofs
set_option maxHeartbeats 4000000
theorem free_rest {us : List Un} {id x : Int} (h : x ∈ freeL (restL us id)) : x ∈ freeL us := by
  unfold freeL restL at *
  rw [List.mem_map] at *
  obtain ⟨u, hu, e⟩ := h
  rw [List.mem_filter, List.mem_filter] at hu
  exact ⟨u, List.mem_filter.2 ⟨hu.1.1, hu.2⟩, e⟩
theorem loss_same (g : Gr) (ts : List Int) (us : List Un) (of : List Int) (id : Int) : lossW g ts us (ofW of of.length) id = lossF g ts us of id := rfl
theorem loss_nn {g : Gr} (hg : GOk g) (ts : List Int) (us : List Un) (of : List Int) (id : Int) : 0 <= lossF g ts us of id := by
  unfold lossF
  split
  · exact Int.le_refl _
  · split
    · decide
    · have : (worstU g ts us of).1 <= (worstU g ts (restL us id) of).1 :=
        worst_mono (fun v hv => (nodesL_mem hv).1) (fun v hv => dist_mono hg ts true (fun v _ h => isSrc_iff.2 (free_rest (isSrc_iff.1 h))) (by have := nodesL_mem hv; omega))
      omega
def laU (x : LaX) : List SV := laA x ++ [.i .i64 x.u]
def lawRL (b : Bool) : CT := ⟨LaX, fun x => True /\ netOk x.c = b, laU, laH, fun _ => .b true, fun _ => []⟩
def CRl (b : CT) : List (Nat × Con) := [(10, .one wakesC), (11, .one b), (12, .one greatC), (14, .one ofC), (28, .one clossC), (29, .one vLossC)]
def cfgRy : Cfg := ⟨T, [], CRl netYesC, noInv, 60, {}⟩
def cfgRn : Cfg := ⟨T, [], CRl netNoC, noInv, 60, {}⟩
theorem conRl {b : CT} (h : Good Tryd.prog 11 b /\ FnOk Tryd.prog 11) : ConL Tryd.prog (CRl b) := .cons (ConL.one wakes_good) (.cons (ConL.one h) (.cons (ConL.one great_good) (.cons (ConL.one of_good) (.cons (ConL.one closs_good) (.cons (ConL.one vLoss_good) .nil)))))
theorem conRy : ConOk Tryd.prog cfgRy := ConL.ok (conRl netYes_good)
theorem conRn : ConOk Tryd.prog cfgRn := ConL.ok (conRl netNo_good)
set_option maxRecDepth 100000 in
theorem rl_no : Keeps cfgRn Tryd.f9 (lawRL false) noIv := Eq.mp (show ((∀ x1 : LaX, ((True /\ netOk (LaX.c x1) = false)-> (∃ x3 : Unit, (True/\(True/\(True/\(((false = true)-> ((false = true)/\True))/\((false = false)-> (∃ x6 : CaX, ((netOk x6 = false)/\(((((LaX.c x1).n = x6.n)/\(((0=0)/\((LaX.c x1).es.length = x6.es.length))/\(((0=0)/\((LaX.c x1).ts.length = x6.ts.length))/\(((0=0)/\((LaX.c x1).us.length = x6.us.length))/\True))))/\True)/\((((RLe x6.es.length x1.es.length)/\(RowsEq [.int .i64, .int .i64, .int .i64] x6.es.length (encL encE x1.es) (encL encE x6.es)))/\(((RLe x6.ts.length x1.ts.length)/\(RowsEq [.int .i64] x6.ts.length (encL encI x1.ts) (encL encI x6.ts)))/\(((RLe x6.us.length x1.us.length)/\(RowsEq [.int .i64, .int .i64, .int .i64, .int .i64, .int .i64, .int .i64, .int .i64, .int .i64, .int .i64, .int .i64] x6.us.length (encL encU x1.us) (encL encU x6.us)))/\True)))/\((true = true)/\True)))))))))))))) = (Keeps cfgRn Tryd.f9 (lawRL false) noIv) by kernel_rfl) (fun x1 => fun h2 => ⟨(()),
 trivial,
 trivial,
 trivial,
 fun h4 => ⟨(by (try dsimp only at *); omega),
 trivial⟩,
 fun h5 => ⟨(LaX.c x1),
 (by (try dsimp only at *); grind),
 ⟨⟨rfl,
 ⟨rfl,
 rfl⟩,
 ⟨rfl,
 rfl⟩,
 ⟨rfl,
 rfl⟩,
 trivial⟩,
 trivial⟩,
 ⟨⟨⟨(by (try dsimp only at *); exact Nat.le_refl _)⟩,
 (by (try dsimp only at *); exact RowsEq.rfl')⟩,
 ⟨⟨(by (try dsimp only at *); exact Nat.le_refl _)⟩,
 (by (try dsimp only at *); exact RowsEq.rfl')⟩,
 ⟨⟨(by (try dsimp only at *); exact Nat.le_refl _)⟩,
 (by (try dsimp only at *); exact RowsEq.rfl')⟩,
 trivial⟩,
 rfl,
 trivial⟩⟩)
set_option maxRecDepth 100000 in
theorem rl_yes : Keeps cfgRy Tryd.f9 (lawRL true) noIv := Eq.mp (show ((∀ x1 : LaX, ((True /\ netOk (LaX.c x1) = true)-> (∃ x3 : Unit, (True/\(True/\(True/\(((false = true)-> ((false = true)/\True))/\((false = false)-> (∃ x6 : CaX, ((netOk x6 = true)/\(((((LaX.c x1).n = x6.n)/\(((0=0)/\((LaX.c x1).es.length = x6.es.length))/\(((0=0)/\((LaX.c x1).ts.length = x6.ts.length))/\(((0=0)/\((LaX.c x1).us.length = x6.us.length))/\True))))/\True)/\((((RLe x6.es.length x1.es.length)/\(RowsEq [.int .i64, .int .i64, .int .i64] x6.es.length (encL encE x1.es) (encL encE x6.es)))/\(((RLe x6.ts.length x1.ts.length)/\(RowsEq [.int .i64] x6.ts.length (encL encI x1.ts) (encL encI x6.ts)))/\(((RLe x6.us.length x1.us.length)/\(RowsEq [.int .i64, .int .i64, .int .i64, .int .i64, .int .i64, .int .i64, .int .i64, .int .i64, .int .i64, .int .i64] x6.us.length (encL encU x1.us) (encL encU x6.us)))/\True)))/\(∃ x7 : List Int, (True/\((((0=0)/\(x1.of.length = x7.length))/\True)/\((((RLe x7.length x1.of.length)/\(RowsEq [.int .i64] x7.length (encL encI x1.of) (encL encI x7)))/\True)/\(((decide (60 < x7.length) = true)-> ((true = true)/\True))/\((decide (60 < x7.length) = false)-> (∃ x10 : List Int, ((x10.length <= (1048576 : Nat))/\((((0=0)/\(x1.of.length = x10.length))/\True)/\((((RLe x10.length x1.of.length)/\(RowsEq [.int .i64] x10.length (encL encI x1.of) (encL encI x10)))/\True)/\(∃ x11 : YX, ((YXok x11)/\((((0=0)/\(0=0))/\(((0=0)/\((LaX.c x1).ts.length = x11.ts.length))/\(((0=0)/\((LaX.c x1).us.length = x11.us.length))/\(((szW (ofW x10 x10.length) = szW x11.ws)/\True)/\((x1.u = x11.t)/\True)))))/\(((RLe 1 1/\(RowsEq [.sl [.int .i64, .int .i64, .int .i64], .sl [.sl [.int .i64]], .sl [.sl [.int .i64]]] 1 (encG (Gr.mk (Int.toNat x6.n) x6.es)) (encG x11.g)))/\(((RLe x11.ts.length x1.ts.length)/\(RowsEq [.int .i64] x11.ts.length (encL encI x1.ts) (encL encI x11.ts)))/\(((RLe x11.us.length x1.us.length)/\(RowsEq [.int .i64, .int .i64, .int .i64, .int .i64, .int .i64, .int .i64, .int .i64, .int .i64, .int .i64, .int .i64] x11.us.length (encL encU x1.us) (encL encU x11.us)))/\(((RLe (szW x11.ws) (szW (ofW x10 x10.length)))/\(RowsEq [.int .u64] (szW x11.ws) (encL encW (ofW x10 x10.length)) (encL encW x11.ws)))/\True))))/\(∃ x12 : VX, ((UXok (VX.u x12))/\(((((LaX.c x1).n = (x12.g.n : Int))/\(((0=0)/\((LaX.c x1).es.length = x12.g.es.length))/\True))/\(((0=0)/\((LaX.c x1).ts.length = x12.ts.length))/\(((0=0)/\((LaX.c x1).us.length = x12.us.length))/\(((0=0)/\(x1.of.length = x12.of.length))/\((x1.u = x12.t)/\True)))))/\((((RLe x12.g.es.length x1.es.length)/\(RowsEq [.int .i64, .int .i64, .int .i64] x12.g.es.length (encL encE x1.es) (encL encE x12.g.es)))/\(((RLe x12.ts.length x1.ts.length)/\(RowsEq [.int .i64] x12.ts.length (encL encI x1.ts) (encL encI x12.ts)))/\(((RLe x12.us.length x1.us.length)/\(RowsEq [.int .i64, .int .i64, .int .i64, .int .i64, .int .i64, .int .i64, .int .i64, .int .i64, .int .i64, .int .i64] x12.us.length (encL encU x1.us) (encL encU x12.us)))/\(((RLe x12.of.length x1.of.length)/\(RowsEq [.int .i64] x12.of.length (encL encI x1.of) (encL encI x12.of)))/\True))))/\(((decide (lossW x11.g x11.ts x11.us x11.ws x11.t = lossF x12.g x12.ts x12.us x12.of x12.t) = true)-> ((decide ((0 : Int) <= lossW x11.g x11.ts x11.us x11.ws x11.t) = true)/\True))/\((decide (lossW x11.g x11.ts x11.us x11.ws x11.t = lossF x12.g x12.ts x12.us x12.of x12.t) = false)-> ((false = true)/\True)))))))))))))))))))))))))))))))))) = (Keeps cfgRy Tryd.f9 (lawRL true) noIv) by kernel_rfl) (fun x1 => fun h2 => ⟨(()),
 trivial,
 trivial,
 trivial,
 fun h4 => ⟨(by (try dsimp only at *); omega),
 trivial⟩,
 fun h5 => ⟨(LaX.c x1),
 (by (try dsimp only at *); grind),
 ⟨⟨rfl,
 ⟨rfl,
 rfl⟩,
 ⟨rfl,
 rfl⟩,
 ⟨rfl,
 rfl⟩,
 trivial⟩,
 trivial⟩,
 ⟨⟨⟨(by (try dsimp only at *); exact Nat.le_refl _)⟩,
 (by (try dsimp only at *); exact RowsEq.rfl')⟩,
 ⟨⟨(by (try dsimp only at *); exact Nat.le_refl _)⟩,
 (by (try dsimp only at *); exact RowsEq.rfl')⟩,
 ⟨⟨(by (try dsimp only at *); exact Nat.le_refl _)⟩,
 (by (try dsimp only at *); exact RowsEq.rfl')⟩,
 trivial⟩,
 (LaX.of x1),
 trivial,
 ⟨⟨rfl,
 rfl⟩,
 trivial⟩,
 ⟨⟨⟨Nat.le_refl _⟩,
 RowsEq.rfl'⟩,
 trivial⟩,
 fun g8 => have h8 := of_decide_eq_true g8; ⟨rfl,
 trivial⟩,
 fun g9 => have h9 := of_decide_eq_false g9; ⟨(LaX.of x1),
 (by (try dsimp only at *); omega),
 ⟨⟨rfl,
 rfl⟩,
 trivial⟩,
 ⟨⟨⟨Nat.le_refl _⟩,
 RowsEq.rfl'⟩,
 trivial⟩,
 ({ g := LaX.g x1, ts := LaX.ts x1, us := LaX.us x1, ws := ofW (LaX.of x1) (List.length (LaX.of x1)), t := LaX.u x1 : YX }),
 (by (try dsimp only at *); exact (la_ok h2.2).y (ofW_ok _ _) _),
 ⟨⟨rfl,
 rfl⟩,
 ⟨rfl,
 (by (try dsimp only at *); rfl)⟩,
 ⟨rfl,
 (by (try dsimp only at *); rfl)⟩,
 ⟨rfl,
 trivial⟩,
 rfl,
 trivial⟩,
 ⟨⟨⟨Nat.le_refl _⟩,
 (by (try dsimp only at *); exact RowsEq.rfl')⟩,
 ⟨⟨Nat.le_refl _⟩,
 RowsEq.rfl'⟩,
 ⟨⟨Nat.le_refl _⟩,
 RowsEq.rfl'⟩,
 ⟨⟨Nat.le_refl _⟩,
 RowsEq.rfl'⟩,
 trivial⟩,
 ({ g := LaX.g x1, ts := LaX.ts x1, us := LaX.us x1, of := LaX.of x1, t := LaX.u x1 : VX }),
 (by (try dsimp only at *); exact (la_ok h2.2).u (of := x1.of) (by omega)),
 ⟨⟨(by (try dsimp only at *); exact (la_ok h2.2).e.symm),
 ⟨rfl,
 (by (try dsimp only at *); rfl)⟩,
 trivial⟩,
 ⟨rfl,
 (by (try dsimp only at *); rfl)⟩,
 ⟨rfl,
 (by (try dsimp only at *); rfl)⟩,
 ⟨rfl,
 rfl⟩,
 rfl,
 trivial⟩,
 ⟨⟨⟨(by (try dsimp only at *); exact Nat.le_refl _)⟩,
 (by (try dsimp only at *); exact RowsEq.rfl')⟩,
 ⟨⟨Nat.le_refl _⟩,
 RowsEq.rfl'⟩,
 ⟨⟨Nat.le_refl _⟩,
 RowsEq.rfl'⟩,
 ⟨⟨Nat.le_refl _⟩,
 RowsEq.rfl'⟩,
 trivial⟩,
 fun g13 => have h13 := of_decide_eq_true g13; ⟨(by (try dsimp only at *); exact decide_eq_true (loss_nn (la_ok h2.2).g x1.ts x1.us x1.of x1.u)),
 trivial⟩,
 fun g14 => have h14 := of_decide_eq_false g14; ⟨(by (try dsimp only at *); exact absurd (loss_same x1.g x1.ts x1.us x1.of x1.u) (by assumption)),
 trivial⟩⟩⟩⟩)
theorem rl_good : Good Tryd.prog 9 ⟨LaX, fun _ => True, laU, laH, fun _ => .b true, fun _ => []⟩ := both_b (t := fun x => netOk x.c)
  (good_of tok conRy (fn := Tryd.f9) rfl (by decide +kernel) (fun _ => rfl) rl_yes).1 (good_of tok conRn (fn := Tryd.f9) rfl (by decide +kernel) (fun _ => rfl) rl_no).1
end Go.Sym