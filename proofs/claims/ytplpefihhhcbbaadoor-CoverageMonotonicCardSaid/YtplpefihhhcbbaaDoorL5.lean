import Derived.Test.YtplpefihhhcbbaaDoorL0
import Derived.Test.YtplpefihhhcbbaaDoorQ7
import Derived.Test.YtplpefihhhcbbaaDoorXD
namespace Go.Sym
set_option linter.unusedVariables false
set_option linter.unusedSimpArgs false
open Go.Proofs
set_option maxHeartbeats 4000000
theorem worst_sub {D l l' : List Int} (hl : ∀ v ∈ l, 0 <= v) (hl' : ∀ v ∈ l', 0 <= v) (hD : ∀ v ∈ l', 0 <= D.getD v.toNat default) (h : ∀ v ∈ l, v ∈ l') : (worstF D l).1 <= (worstF D l').1 := by
  rcases worst_spec (D := D) hl with ⟨e, q⟩ | ⟨ne, _, _, v, hv, q⟩
  · subst e
    show (0 : Int) <= _
    rcases worst_spec (D := D) hl' with ⟨e, q⟩ | ⟨_, _, _, v, hv, q⟩
    · subst e; exact Int.le_refl _
    · rw [q]; exact hD v hv
  · rcases worst_spec (D := D) hl' with ⟨e, _⟩ | ⟨_, _, q2, _⟩
    · have := h v hv; rw [e] at this; cases this
    · rw [q]; exact q2 v (h v hv)
theorem free_push {us : List Un} {u : Un} {x : Int} (h : x ∈ freeL us) : x ∈ freeL (us ++ [u]) := by
  unfold freeL at *
  rw [List.filter_append, List.map_append]
  exact List.mem_append_left _ h
theorem more_le {g : Gr} (hg : GOk g) (ts : List Int) (us : List Un) (u : Un) (ws : List Nat) : (worstW g ts (us ++ [u]) ws).1 <= (worstW g ts us ws).1 := by
  unfold worstW
  exact worst_mono (fun v hv => (nodesW_mem hv).1) fun v hv => dist_mono hg ts true (fun v _ h => isSrc_iff.2 (free_push (isSrc_iff.1 h))) (by have := nodesW_mem hv; omega)
theorem all_ge {g : Gr} (hg : GOk g) (hn : g.n <= 4096) (ts : List Int) (us : List Un) (ws : List Nat) : (worstW g ts us ws).1 <= (worstW g ts us (allW (min (g.n : Int) 4096).toNat)).1 := by
  unfold worstW
  refine worst_sub (fun v hv => (nodesW_mem hv).1) (fun v hv => (nodesW_mem hv).1) (fun v hv => (dist_rng hg ts (freeL us) true (by have := nodesW_mem hv; omega)).1) fun v hv => ?_
  have h := nodesW_mem hv
  unfold nodesW
  rw [List.mem_filter, elemsZ_mem, minN hn, hasW_all _ hn]
  exact ⟨⟨h.1, by omega, decide_eq_true (by omega)⟩, decide_eq_true h.2⟩
theorem all_geL {x : LaX} (h : LaOk x) (ws : List Nat) : (worstW x.g x.ts x.us ws).1 <= (worstW x.g x.ts x.us (allW (min x.c.n 4096).toNat)).1 := by
  show _ <= (worstW x.g x.ts x.us (allW (min x.n 4096).toNat)).1
  rw [<- h.e]
  exact all_ge h.g (by have := h.n; omega) x.ts x.us ws
theorem LaOk.y1 {x : LaX} (h : LaOk x) (u : Un) {ws : List Nat} (hw : WOk ws) (t : Int) : YXok ⟨x.g, x.ts, x.us ++ [u], ws, t⟩ := ⟨⟨h.g, h.n, by have := h.us; show (x.us ++ [u]).length <= _; rw [List.length_append]; show _ + 1 <= _; omega, Nat.zero_le _⟩, hw⟩
def unA (u : Un) : SV := .agg [.i .i64 u.id, .i .i64 u.b, .i .i64 u.c, .i .i64 u.st, .i .i64 u.nd, .i .i64 u.f, .i .i64 u.g, .i .i64 u.h, .i .i64 u.i, .i .i64 u.j]
def laM (x : LaX) : List SV := laA x ++ [unA x.v]
def lawMo (b : Bool) : CT := ⟨LaX, fun x => True /\ netOk x.c = b, laM, laH, fun _ => .b true, fun _ => []⟩
def CMo (b : CT) : List (Nat × Con) := [(10, .one wakesC), (11, .one b), (12, .one greatC), (14, .one ofC), (13, .one wwaitC), (19, .one allNC)]
def cfgMoy : Cfg := ⟨T, [], CMo netYesC, noInv, 60, {}⟩
def cfgMon : Cfg := ⟨T, [], CMo netNoC, noInv, 60, {}⟩
theorem conMo {b : CT} (h : Good Tryd.prog 11 b /\ FnOk Tryd.prog 11) : ConL Tryd.prog (CMo b) := .cons (ConL.one wakes_good) (.cons (ConL.one h) (.cons (ConL.one great_good) (.cons (ConL.one of_good) (.cons (ConL.one wwait_good) (.cons (ConL.one all_good) .nil)))))
theorem conMoy : ConOk Tryd.prog cfgMoy := ConL.ok (conMo netYes_good)
theorem conMon : ConOk Tryd.prog cfgMon := ConL.ok (conMo netNo_good)
theorem push0U_rows {l : List Un} {u : Un} {ds : List D} (h : rowEq kU (fun j => ds.getD j (.i 0)) (encU u) 0) : RowsEq kU (l ++ [u]).length (appRows (0 + l.length) (appRows 0 (litRows []) 0 (encL encU l)) 0 (litRows [ds])) (encL encU (l ++ [u])) :=
  rowsEq_pushOf (rowsEq_nil (ys := l) (by omega) (fun i _ => by rw [Nat.zero_add]; exact rowEq_rfl _ _ _)) (by simp) (by simp) h
set_option maxRecDepth 100000 in
theorem mo_no : Keeps cfgMon Tryd.f6 (lawMo false) noIv := Eq.mp (show ((∀ x1 : LaX, ((True /\ netOk (LaX.c x1) = false)-> (∃ x3 : Unit, (True/\(True/\(True/\(((false = true)-> ((false = true)/\True))/\((false = false)-> (∃ x6 : CaX, ((netOk x6 = false)/\(((((LaX.c x1).n = x6.n)/\(((0=0)/\((LaX.c x1).es.length = x6.es.length))/\(((0=0)/\((LaX.c x1).ts.length = x6.ts.length))/\(((0=0)/\((LaX.c x1).us.length = x6.us.length))/\True))))/\True)/\((((RLe x6.es.length x1.es.length)/\(RowsEq [.int .i64, .int .i64, .int .i64] x6.es.length (encL encE x1.es) (encL encE x6.es)))/\(((RLe x6.ts.length x1.ts.length)/\(RowsEq [.int .i64] x6.ts.length (encL encI x1.ts) (encL encI x6.ts)))/\(((RLe x6.us.length x1.us.length)/\(RowsEq [.int .i64, .int .i64, .int .i64, .int .i64, .int .i64, .int .i64, .int .i64, .int .i64, .int .i64, .int .i64] x6.us.length (encL encU x1.us) (encL encU x6.us)))/\True)))/\((true = true)/\True)))))))))))))) = (Keeps cfgMon Tryd.f6 (lawMo false) noIv) by kernel_rfl) (fun x1 => fun h2 => ⟨(()),
 trivial,
 trivial,
 trivial,
 fun h4 => ⟨(by (try dsimp only at *); omega),
 trivial⟩,
 fun h5 => ⟨(LaX.c x1),
 (by (try dsimp only at *); grind),
 ⟨⟨rfl,
 ⟨rfl,
 rfl⟩,
 ⟨rfl,
 rfl⟩,
 ⟨rfl,
 rfl⟩,
 trivial⟩,
 trivial⟩,
 ⟨⟨⟨(by (try dsimp only at *); exact Nat.le_refl _)⟩,
 (by (try dsimp only at *); exact RowsEq.rfl')⟩,
 ⟨⟨(by (try dsimp only at *); exact Nat.le_refl _)⟩,
 (by (try dsimp only at *); exact RowsEq.rfl')⟩,
 ⟨⟨(by (try dsimp only at *); exact Nat.le_refl _)⟩,
 (by (try dsimp only at *); exact RowsEq.rfl')⟩,
 trivial⟩,
 rfl,
 trivial⟩⟩)
set_option maxRecDepth 100000 in
theorem mo_yes : Keeps cfgMoy Tryd.f6 (lawMo true) noIv := Eq.mp (show ((∀ x1 : LaX, ((True /\ netOk (LaX.c x1) = true)-> (∃ x3 : Unit, (True/\(True/\(True/\(((false = true)-> ((false = true)/\True))/\((false = false)-> (∃ x6 : CaX, ((netOk x6 = true)/\(((((LaX.c x1).n = x6.n)/\(((0=0)/\((LaX.c x1).es.length = x6.es.length))/\(((0=0)/\((LaX.c x1).ts.length = x6.ts.length))/\(((0=0)/\((LaX.c x1).us.length = x6.us.length))/\True))))/\True)/\((((RLe x6.es.length x1.es.length)/\(RowsEq [.int .i64, .int .i64, .int .i64] x6.es.length (encL encE x1.es) (encL encE x6.es)))/\(((RLe x6.ts.length x1.ts.length)/\(RowsEq [.int .i64] x6.ts.length (encL encI x1.ts) (encL encI x6.ts)))/\(((RLe x6.us.length x1.us.length)/\(RowsEq [.int .i64, .int .i64, .int .i64, .int .i64, .int .i64, .int .i64, .int .i64, .int .i64, .int .i64, .int .i64] x6.us.length (encL encU x1.us) (encL encU x6.us)))/\True)))/\(∃ x7 : List Int, (True/\((((0=0)/\(x1.of.length = x7.length))/\True)/\((((RLe x7.length x1.of.length)/\(RowsEq [.int .i64] x7.length (encL encI x1.of) (encL encI x7)))/\True)/\(((decide (60 < x7.length) = true)-> ((true = true)/\True))/\((decide (60 < x7.length) = false)-> (∃ x10 : List Int, ((x10.length <= (1048576 : Nat))/\((((0=0)/\(x1.of.length = x10.length))/\True)/\((((RLe x10.length x1.of.length)/\(RowsEq [.int .i64] x10.length (encL encI x1.of) (encL encI x10)))/\True)/\(∃ x11 : YX, ((YXok x11)/\((((0=0)/\(0=0))/\(((0=0)/\((LaX.c x1).ts.length = x11.ts.length))/\(((0=0)/\((LaX.c x1).us.length = x11.us.length))/\(((szW (ofW x10 x10.length) = szW x11.ws)/\True)/\True))))/\(((RLe 1 1/\(RowsEq [.sl [.int .i64, .int .i64, .int .i64], .sl [.sl [.int .i64]], .sl [.sl [.int .i64]]] 1 (encG (Gr.mk (Int.toNat x6.n) x6.es)) (encG x11.g)))/\(((RLe x11.ts.length x1.ts.length)/\(RowsEq [.int .i64] x11.ts.length (encL encI x1.ts) (encL encI x11.ts)))/\(((RLe x11.us.length x1.us.length)/\(RowsEq [.int .i64, .int .i64, .int .i64, .int .i64, .int .i64, .int .i64, .int .i64, .int .i64, .int .i64, .int .i64] x11.us.length (encL encU x1.us) (encL encU x11.us)))/\(((RLe (szW x11.ws) (szW (ofW x10 x10.length)))/\(RowsEq [.int .u64] (szW x11.ws) (encL encW (ofW x10 x10.length)) (encL encW x11.ws)))/\True))))/\(True/\(((0=0)/\(((0 : Nat) <= (0 : Nat))/\(((0 : Nat) + (LaX.c x1).us.length <= x1.us.length)/\((0 : Nat) + (LaX.c x1).us.length <= (1073741824 : Nat)))))/\(((True/\(True/\(True/\(True/\(True/\(True/\(True/\(True/\(True/\(True/\True))))))))))/\True)/\(((0=0)/\(((0 : Nat) + (LaX.c x1).us.length <= (0 : Nat) + (LaX.c x1).us.length)/\(((1 : Nat) <= (1 : Nat))/\((0 : Nat) + (LaX.c x1).us.length + (1 : Nat) <= (1073741824 : Nat)))))/\(∃ x12 : YX, ((YXok x12)/\((((0=0)/\(0=0))/\(((0=0)/\((LaX.c x1).ts.length = x12.ts.length))/\(((0=0)/\((0 : Nat) + (LaX.c x1).us.length + (1 : Nat) = x12.us.length))/\(((szW (ofW x10 x10.length) = szW x12.ws)/\True)/\True))))/\(((RLe 1 1/\(RowsEq [.sl [.int .i64, .int .i64, .int .i64], .sl [.sl [.int .i64]], .sl [.sl [.int .i64]]] 1 (encG (Gr.mk (Int.toNat x6.n) x6.es)) (encG x12.g)))/\(((RLe x12.ts.length x1.ts.length)/\(RowsEq [.int .i64] x12.ts.length (encL encI x1.ts) (encL encI x12.ts)))/\(((RLe x12.us.length ((0 : Nat) + (LaX.c x1).us.length + (1 : Nat)))/\(RowsEq [.int .i64, .int .i64, .int .i64, .int .i64, .int .i64, .int .i64, .int .i64, .int .i64, .int .i64, .int .i64] x12.us.length (appRows ((0 : Nat) + (LaX.c x1).us.length) (appRows 0 (litRows (@List.nil (List D))) 0 (encL encU x1.us)) 0 (litRows ((D.i x1.v.id :: D.i x1.v.b :: D.i x1.v.c :: D.i x1.v.st :: D.i x1.v.nd :: D.i x1.v.f :: D.i x1.v.g :: D.i x1.v.h :: D.i x1.v.i :: D.i x1.v.j :: @List.nil D) :: @List.nil (List D)))) (encL encU x12.us)))/\(((RLe (szW x12.ws) (szW (ofW x10 x10.length)))/\(RowsEq [.int .u64] (szW x12.ws) (encL encW (ofW x10 x10.length)) (encL encW x12.ws)))/\True))))/\(∃ x13 : Int, (((0 : Int) <= x13)/\((((LaX.c x1).n = x13)/\True)/\(True/\(∃ x14 : YX, ((YXok x14)/\((((0=0)/\(0=0))/\(((0=0)/\((LaX.c x1).ts.length = x14.ts.length))/\(((0=0)/\((LaX.c x1).us.length = x14.us.length))/\(((szW (allW (Int.toNat (min x13 (4096 : Int)))) = szW x14.ws)/\True)/\True))))/\(((RLe 1 1/\(RowsEq [.sl [.int .i64, .int .i64, .int .i64], .sl [.sl [.int .i64]], .sl [.sl [.int .i64]]] 1 (encG (Gr.mk (Int.toNat x6.n) x6.es)) (encG x14.g)))/\(((RLe x14.ts.length x1.ts.length)/\(RowsEq [.int .i64] x14.ts.length (encL encI x1.ts) (encL encI x14.ts)))/\(((RLe x14.us.length x1.us.length)/\(RowsEq [.int .i64, .int .i64, .int .i64, .int .i64, .int .i64, .int .i64, .int .i64, .int .i64, .int .i64, .int .i64] x14.us.length (encL encU x1.us) (encL encU x14.us)))/\(((RLe (szW x14.ws) (szW (allW (Int.toNat (min x13 (4096 : Int))))))/\(RowsEq [.int .u64] (szW x14.ws) (encL encW (allW (Int.toNat (min x13 (4096 : Int))))) (encL encW x14.ws)))/\True))))/\(((decide (Prod.fst (worstW x12.g x12.ts x12.us x12.ws) <= Prod.fst (worstW x11.g x11.ts x11.us x11.ws)) = true)-> ((decide (Prod.fst (worstW x11.g x11.ts x11.us x11.ws) <= Prod.fst (worstW x14.g x14.ts x14.us x14.ws)) = true)/\True))/\((decide (Prod.fst (worstW x12.g x12.ts x12.us x12.ws) <= Prod.fst (worstW x11.g x11.ts x11.us x11.ws)) = false)-> ((false = true)/\True)))))))))))))))))))))))))))))))))))))))))))))) = (Keeps cfgMoy Tryd.f6 (lawMo true) noIv) by kernel_rfl) (fun x1 => fun h2 => ⟨(()),
 trivial,
 trivial,
 trivial,
 fun h4 => ⟨(by (try dsimp only at *); omega),
 trivial⟩,
 fun h5 => ⟨(LaX.c x1),
 (by (try dsimp only at *); grind),
 ⟨⟨rfl,
 ⟨rfl,
 rfl⟩,
 ⟨rfl,
 rfl⟩,
 ⟨rfl,
 rfl⟩,
 trivial⟩,
 trivial⟩,
 ⟨⟨⟨(by (try dsimp only at *); exact Nat.le_refl _)⟩,
 (by (try dsimp only at *); exact RowsEq.rfl')⟩,
 ⟨⟨(by (try dsimp only at *); exact Nat.le_refl _)⟩,
 (by (try dsimp only at *); exact RowsEq.rfl')⟩,
 ⟨⟨(by (try dsimp only at *); exact Nat.le_refl _)⟩,
 (by (try dsimp only at *); exact RowsEq.rfl')⟩,
 trivial⟩,
 (LaX.of x1),
 trivial,
 ⟨⟨rfl,
 rfl⟩,
 trivial⟩,
 ⟨⟨⟨Nat.le_refl _⟩,
 RowsEq.rfl'⟩,
 trivial⟩,
 fun g8 => have h8 := of_decide_eq_true g8; ⟨rfl,
 trivial⟩,
 fun g9 => have h9 := of_decide_eq_false g9; ⟨(LaX.of x1),
 (by (try dsimp only at *); omega),
 ⟨⟨rfl,
 rfl⟩,
 trivial⟩,
 ⟨⟨⟨Nat.le_refl _⟩,
 RowsEq.rfl'⟩,
 trivial⟩,
 ({ g := LaX.g x1, ts := LaX.ts x1, us := LaX.us x1, ws := ofW (LaX.of x1) (List.length (LaX.of x1)), t := (0 : Int) : YX }),
 (by (try dsimp only at *); exact (la_ok h2.2).y (ofW_ok _ _) _),
 ⟨⟨rfl,
 rfl⟩,
 ⟨rfl,
 (by (try dsimp only at *); rfl)⟩,
 ⟨rfl,
 (by (try dsimp only at *); rfl)⟩,
 ⟨rfl,
 trivial⟩,
 trivial⟩,
 ⟨⟨⟨Nat.le_refl _⟩,
 (by (try dsimp only at *); exact RowsEq.rfl')⟩,
 ⟨⟨Nat.le_refl _⟩,
 RowsEq.rfl'⟩,
 ⟨⟨Nat.le_refl _⟩,
 RowsEq.rfl'⟩,
 ⟨⟨Nat.le_refl _⟩,
 RowsEq.rfl'⟩,
 trivial⟩,
 trivial,
 ⟨rfl,
 (by (try dsimp only at *); omega),
 (by (try dsimp only at *); (show 0 + x1.us.length <= _; omega)),
 (by (try dsimp only at *); (show 0 + x1.us.length <= _; have := (la_ok h2.2).us; omega))⟩,
 ⟨⟨trivial,
 trivial,
 trivial,
 trivial,
 trivial,
 trivial,
 trivial,
 trivial,
 trivial,
 trivial,
 trivial⟩,
 trivial⟩,
 ⟨rfl,
 (by (try dsimp only at *); omega),
 (by (try dsimp only at *); omega),
 (by (try dsimp only at *); (show 0 + x1.us.length + 1 <= _; have := (la_ok h2.2).us; omega))⟩,
 ({ g := LaX.g x1, ts := LaX.ts x1, us := LaX.us x1 ++ LaX.v x1 :: @List.nil Un, ws := ofW (LaX.of x1) (List.length (LaX.of x1)), t := (0 : Int) : YX }),
 (by (try dsimp only at *); exact (la_ok h2.2).y1 _ (ofW_ok _ _) _),
 ⟨⟨rfl,
 rfl⟩,
 ⟨rfl,
 (by (try dsimp only at *); rfl)⟩,
 ⟨rfl,
 (by (try dsimp only at *); (show 0 + x1.us.length + 1 = (x1.us ++ [x1.v]).length; simp; done))⟩,
 ⟨rfl,
 trivial⟩,
 trivial⟩,
 ⟨⟨⟨Nat.le_refl _⟩,
 (by (try dsimp only at *); exact RowsEq.rfl')⟩,
 ⟨⟨Nat.le_refl _⟩,
 RowsEq.rfl'⟩,
 ⟨⟨(by (try dsimp only at *); (show (x1.us ++ [x1.v]).length <= 0 + x1.us.length + 1; simp; done))⟩,
 (by (try dsimp only at *); exact push0U_rows ⟨rfl, rfl, rfl, rfl, rfl, rfl, rfl, rfl, rfl, rfl, trivial⟩)⟩,
 ⟨⟨Nat.le_refl _⟩,
 RowsEq.rfl'⟩,
 trivial⟩,
 (CaX.n (LaX.c x1)),
 (by (try dsimp only at *); (show 0 <= x1.n; have := (la_ok h2.2).e; omega)),
 ⟨rfl,
 trivial⟩,
 trivial,
 ({ g := { n := Int.toNat (CaX.n (LaX.c x1)), es := CaX.es (LaX.c x1) : Gr }, ts := LaX.ts x1, us := LaX.us x1, ws := allW (Int.toNat (min (CaX.n (LaX.c x1)) (4096 : Int))), t := default : YX }),
 (by (try dsimp only at *); exact (la_ok h2.2).y (allW_ok _) _),
 ⟨⟨rfl,
 rfl⟩,
 ⟨rfl,
 (by (try dsimp only at *); rfl)⟩,
 ⟨rfl,
 (by (try dsimp only at *); rfl)⟩,
 ⟨rfl,
 trivial⟩,
 trivial⟩,
 ⟨⟨⟨Nat.le_refl _⟩,
 RowsEq.rfl'⟩,
 ⟨⟨Nat.le_refl _⟩,
 RowsEq.rfl'⟩,
 ⟨⟨Nat.le_refl _⟩,
 RowsEq.rfl'⟩,
 ⟨⟨Nat.le_refl _⟩,
 RowsEq.rfl'⟩,
 trivial⟩,
 fun g15 => have h15 := of_decide_eq_true g15; ⟨(by (try dsimp only at *); exact decide_eq_true (all_geL (la_ok h2.2) (ofW x1.of x1.of.length))),
 trivial⟩,
 fun g16 => have h16 := of_decide_eq_false g16; ⟨(by (try dsimp only at *); exact absurd (more_le (la_ok h2.2).g x1.ts x1.us x1.v (ofW x1.of x1.of.length)) (by assumption)),
 trivial⟩⟩⟩⟩)
theorem mo_good : Good Tryd.prog 6 ⟨LaX, fun _ => True, laM, laH, fun _ => .b true, fun _ => []⟩ := both_b (t := fun x => netOk x.c)
  (good_of tok conMoy (fn := Tryd.f6) rfl (by decide +kernel) (fun _ => rfl) mo_yes).1 (good_of tok conMon (fn := Tryd.f6) rfl (by decide +kernel) (fun _ => rfl) mo_no).1
end Go.Sym