import Derived.Test.YtplpefihhhcbbaaDoorQ10
import Derived.Test.YtplpefihhhcbbaaDoorQ1
import Derived.Test.YtplpefihhhcbbaaDoorXD
namespace Go.Sym
set_option linter.unusedVariables false
set_option linter.unusedSimpArgs false
open Go.Proofs
set_option maxHeartbeats 4000000
def laV (x : LaX) : List SV := laA x ++ [.i .i64 x.u]
def lawBv (b : Bool) : CT := ⟨LaX, fun x => True /\ netOk x.c = b, laV, laH, fun _ => .b true, fun _ => []⟩
def CBv (b : CT) : List (Nat × Con) := [(10, .one wakesC), (11, .one b), (12, .one greatC), (14, .one ofC), (16, .one cboundC), (17, .one vboundC), (18, .one sameC)]
def cfgBvy : Cfg := ⟨T, [], CBv netYesC, noInv, 60, {}⟩
def cfgBvn : Cfg := ⟨T, [], CBv netNoC, noInv, 60, {}⟩
theorem conBv {b : CT} (h : Good Tryd.prog 11 b /\ FnOk Tryd.prog 11) : ConL Tryd.prog (CBv b) := .cons (ConL.one wakes_good) (.cons (ConL.one h) (.cons (ConL.one great_good) (.cons (ConL.one of_good) (.cons (ConL.one cbound_good) (.cons (ConL.one vbound_good) (.cons (ConL.one same_good) .nil))))))
theorem conBvy : ConOk Tryd.prog cfgBvy := ConL.ok (conBv netYes_good)
theorem conBvn : ConOk Tryd.prog cfgBvn := ConL.ok (conBv netNo_good)
set_option maxRecDepth 100000 in
theorem bv_no : Keeps cfgBvn Tryd.f4 (lawBv false) noIv := Eq.mp (show ((∀ x1 : LaX, ((True /\ netOk (LaX.c x1) = false)-> (∃ x3 : Unit, (True/\(True/\(True/\((false = true -> (false = true/\True))/\(false = false -> (∃ x6 : CaX, ((netOk x6 = false)/\(((((LaX.c x1).n = x6.n)/\((0=0/\((LaX.c x1).es.length = x6.es.length))/\((0=0/\((LaX.c x1).ts.length = x6.ts.length))/\((0=0/\((LaX.c x1).us.length = x6.us.length))/\True))))/\True)/\((((RLe x6.es.length x1.es.length)/\(RowsEq [.int .i64, .int .i64, .int .i64] x6.es.length (encL encE x1.es) (encL encE x6.es)))/\(((RLe x6.ts.length x1.ts.length)/\(RowsEq [.int .i64] x6.ts.length (encL encI x1.ts) (encL encI x6.ts)))/\(((RLe x6.us.length x1.us.length)/\(RowsEq [.int .i64, .int .i64, .int .i64, .int .i64, .int .i64, .int .i64, .int .i64, .int .i64, .int .i64, .int .i64] x6.us.length (encL encU x1.us) (encL encU x6.us)))/\True)))/\(true = true/\True)))))))))))))) = (Keeps cfgBvn Tryd.f4 (lawBv false) noIv) by kernel_rfl) (fun x1 => fun h2 => ⟨(()),trivial,trivial,trivial,
fun h4 => ⟨(by (try dsimp only at *); omega),trivial⟩,
fun h5 => ⟨(LaX.c x1),
(by (try dsimp only at *); grind),
⟨⟨rfl,
⟨rfl,rfl⟩,
⟨rfl,rfl⟩,
⟨rfl,rfl⟩,trivial⟩,trivial⟩,
⟨⟨⟨(by (try dsimp only at *); exact Nat.le_refl _)⟩,
(by (try dsimp only at *); exact RowsEq.rfl')⟩,
⟨⟨(by (try dsimp only at *); exact Nat.le_refl _)⟩,
(by (try dsimp only at *); exact RowsEq.rfl')⟩,
⟨⟨(by (try dsimp only at *); exact Nat.le_refl _)⟩,
(by (try dsimp only at *); exact RowsEq.rfl')⟩,trivial⟩,rfl,trivial⟩⟩)
set_option maxRecDepth 100000 in
theorem bv_yes : Keeps cfgBvy Tryd.f4 (lawBv true) noIv := Eq.mp (show ((∀ x1 : LaX, ((True /\ netOk (LaX.c x1) = true)-> (∃ x3 : Unit, (True/\(True/\(True/\((false = true -> (false = true/\True))/\(false = false -> (∃ x6 : CaX, ((netOk x6 = true)/\(((((LaX.c x1).n = x6.n)/\((0=0/\((LaX.c x1).es.length = x6.es.length))/\((0=0/\((LaX.c x1).ts.length = x6.ts.length))/\((0=0/\((LaX.c x1).us.length = x6.us.length))/\True))))/\True)/\((((RLe x6.es.length x1.es.length)/\(RowsEq [.int .i64, .int .i64, .int .i64] x6.es.length (encL encE x1.es) (encL encE x6.es)))/\(((RLe x6.ts.length x1.ts.length)/\(RowsEq [.int .i64] x6.ts.length (encL encI x1.ts) (encL encI x6.ts)))/\(((RLe x6.us.length x1.us.length)/\(RowsEq [.int .i64, .int .i64, .int .i64, .int .i64, .int .i64, .int .i64, .int .i64, .int .i64, .int .i64, .int .i64] x6.us.length (encL encU x1.us) (encL encU x6.us)))/\True)))/\(∃ x7 : List Int, (True/\(((0=0 /\ x1.of.length = x7.length)/\True)/\((((RLe x7.length x1.of.length)/\(RowsEq [.int .i64] x7.length (encL encI x1.of) (encL encI x7)))/\True)/\(((decide (60 < x7.length) = false)-> (((decide (7 < (LaX.c x1).n) = false)-> (((decide (x1.u = (4 : Int)) = true)-> (true = true/\True))/\((decide (x1.u = (4 : Int)) = false)-> (∃ x12 : List Int, ((x12.length <= (1048576 : Nat))/\(((0=0 /\ x1.of.length = x12.length)/\True)/\((((RLe x12.length x1.of.length)/\(RowsEq [.int .i64] x12.length (encL encI x1.of) (encL encI x12)))/\True)/\(∃ x13 : BWX, ((BWok x13)/\(((0=0 /\ 0=0)/\((0=0/\((LaX.c x1).ts.length = x13.ts.length))/\(((szW (ofW x12 x12.length) = szW x13.ws)/\True)/\(x1.u = x13.u/\True))))/\(((RLe 1 1/\(RowsEq [.sl [.int .i64, .int .i64, .int .i64], .sl [.sl [.int .i64]], .sl [.sl [.int .i64]]] 1 (encG (Gr.mk (Int.toNat x6.n) x6.es)) (encG x13.g)))/\(((RLe x13.ts.length x1.ts.length)/\(RowsEq [.int .i64] x13.ts.length (encL encI x1.ts) (encL encI x13.ts)))/\(((RLe (szW x13.ws) (szW (ofW x12 x12.length)))/\(RowsEq [.int .u64] (szW x13.ws) (encL encW (ofW x12 x12.length)) (encL encW x13.ws)))/\True)))/\(∃ x14 : BX, ((BXok x14)/\(((((LaX.c x1).n = (x14.g.n : Int))/\((0=0/\((LaX.c x1).es.length = x14.g.es.length))/\True))/\((0=0/\((LaX.c x1).ts.length = x14.ts.length))/\((0=0 /\ x1.of.length = x14.of.length)/\(x1.u = x14.u/\True))))/\((((RLe x14.g.es.length x1.es.length)/\(RowsEq [.int .i64, .int .i64, .int .i64] x14.g.es.length (encL encE x1.es) (encL encE x14.g.es)))/\(((RLe x14.ts.length x1.ts.length)/\(RowsEq [.int .i64] x14.ts.length (encL encI x1.ts) (encL encI x14.ts)))/\(((RLe x14.of.length x1.of.length)/\(RowsEq [.int .i64] x14.of.length (encL encI x1.of) (encL encI x14.of)))/\True)))/\(((decide (Prod.fst (boundW x13) = Prod.fst (boundR x14)) = true)-> (∃ x16 : LLX, ((x16.a.length <= (1073741824 : Nat))/\(((0=0/\((Prod.snd (boundW x13)).length = x16.a.length))/\((0=0/\((Prod.snd (boundR x14)).length = x16.b.length))/\True))/\((((RLe x16.a.length (Prod.snd (boundW x13)).length)/\(RowsEq [.int .i64] x16.a.length (encL encI (Prod.snd (boundW x13))) (encL encI x16.a)))/\(((RLe x16.b.length (Prod.snd (boundR x14)).length)/\(RowsEq [.int .i64] x16.b.length (encL encI (Prod.snd (boundR x14))) (encL encI x16.b)))/\True))/\((decide (x16.a = x16.b) = true)/\True))))))/\((decide (Prod.fst (boundW x13) = Prod.fst (boundR x14)) = false)-> (false = true/\True))))))))))))))))))/\((decide (7 < (LaX.c x1).n) = true)-> (true = true/\True))))/\((decide (60 < x7.length) = true)-> (true = true/\True)))))))))))))))))))) = (Keeps cfgBvy Tryd.f4 (lawBv true) noIv) by kernel_rfl) (fun x1 => fun h2 => ⟨(()),trivial,trivial,trivial,
fun h4 => ⟨(by (try dsimp only at *); omega),trivial⟩,
fun h5 => ⟨(LaX.c x1),
(by (try dsimp only at *); grind),
⟨⟨rfl,
⟨rfl,rfl⟩,
⟨rfl,rfl⟩,
⟨rfl,rfl⟩,trivial⟩,trivial⟩,
⟨⟨⟨(by (try dsimp only at *); exact Nat.le_refl _)⟩,
(by (try dsimp only at *); exact RowsEq.rfl')⟩,
⟨⟨(by (try dsimp only at *); exact Nat.le_refl _)⟩,
(by (try dsimp only at *); exact RowsEq.rfl')⟩,
⟨⟨(by (try dsimp only at *); exact Nat.le_refl _)⟩,
(by (try dsimp only at *); exact RowsEq.rfl')⟩,trivial⟩,
(LaX.of x1),trivial,
⟨⟨rfl,rfl⟩,trivial⟩,
⟨⟨⟨Nat.le_refl _⟩,RowsEq.rfl'⟩,trivial⟩,
fun g8 => have h8 := of_decide_eq_false g8; ⟨fun g9 => have h9 := of_decide_eq_false g9; ⟨fun g10 => have h10 := of_decide_eq_true g10; ⟨rfl,trivial⟩,
fun g11 => have h11 := of_decide_eq_false g11; ⟨(LaX.of x1),
(by (try dsimp only at *); omega),
⟨⟨rfl,rfl⟩,trivial⟩,
⟨⟨⟨Nat.le_refl _⟩,RowsEq.rfl'⟩,trivial⟩,
({ g := LaX.g x1, ts := LaX.ts x1, ws := ofW (LaX.of x1) (List.length (LaX.of x1)), u := LaX.u x1 : BWX }),
(by (try dsimp only at *); exact (la_ok h2.2).bw (ofW_ok _ _) _),
⟨⟨rfl,rfl⟩,
⟨rfl,
(by (try dsimp only at *); rfl)⟩,
⟨rfl,trivial⟩,rfl,trivial⟩,
⟨⟨⟨Nat.le_refl _⟩,
(by (try dsimp only at *); exact RowsEq.rfl')⟩,
⟨⟨Nat.le_refl _⟩,RowsEq.rfl'⟩,
⟨⟨Nat.le_refl _⟩,RowsEq.rfl'⟩,trivial⟩,
({ g := LaX.g x1, ts := LaX.ts x1, of := LaX.of x1, u := LaX.u x1 : BX }),
(by (try dsimp only at *); exact (la_ok h2.2).bx (by omega) _),
⟨⟨(by (try dsimp only at *); exact (la_ok h2.2).e.symm),
⟨rfl,
(by (try dsimp only at *); rfl)⟩,trivial⟩,
⟨rfl,
(by (try dsimp only at *); rfl)⟩,
⟨rfl,rfl⟩,rfl,trivial⟩,
⟨⟨⟨(by (try dsimp only at *); exact Nat.le_refl _)⟩,
(by (try dsimp only at *); exact RowsEq.rfl')⟩,
⟨⟨Nat.le_refl _⟩,RowsEq.rfl'⟩,
⟨⟨Nat.le_refl _⟩,RowsEq.rfl'⟩,trivial⟩,
fun g15 => have h15 := of_decide_eq_true g15; ⟨({ a := Prod.snd (boundW { g := LaX.g x1, ts := LaX.ts x1, ws := ofW (LaX.of x1) (List.length (LaX.of x1)), u := LaX.u x1 : BWX }), b := Prod.snd (boundR { g := LaX.g x1, ts := LaX.ts x1, of := LaX.of x1, u := LaX.u x1 : BX }) : LLX }),
(by (try dsimp only at *); exact Nat.le_trans (boundW_len _) (by decide)),
⟨⟨rfl,rfl⟩,
⟨rfl,rfl⟩,trivial⟩,
⟨⟨⟨Nat.le_refl _⟩,RowsEq.rfl'⟩,
⟨⟨Nat.le_refl _⟩,RowsEq.rfl'⟩,trivial⟩,
(by (try dsimp only at *); exact decide_eq_true (congrArg Prod.snd (bound_sameL (la_ok h2.2)))),trivial⟩,
fun g17 => have h17 := of_decide_eq_false g17; ⟨(by (try dsimp only at *); exact absurd (congrArg Prod.fst (bound_sameL (la_ok h2.2))) (by assumption)),trivial⟩⟩⟩,
fun g18 => have h18 := of_decide_eq_true g18; ⟨rfl,trivial⟩⟩,
fun g19 => have h19 := of_decide_eq_true g19; ⟨rfl,trivial⟩⟩⟩)
theorem bv_good : Good Tryd.prog 4 ⟨LaX, fun _ => True, laV, laH, fun _ => .b true, fun _ => []⟩ := both_b (t := fun x => netOk x.c)
 (good_of tok conBvy (fn := Tryd.f4) rfl (by decide +kernel) (fun _ => rfl) bv_yes).1 (good_of tok conBvn (fn := Tryd.f4) rfl (by decide +kernel) (fun _ => rfl) bv_no).1
end Go.Sym