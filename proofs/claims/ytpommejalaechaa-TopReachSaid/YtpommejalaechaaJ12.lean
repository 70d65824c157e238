import Derived.Test.YtpommejalaechaaJ11
import Derived.Test.YtpommejalaechaaXD
namespace Go.Sym
set_option linter.unusedVariables false
set_option linter.unusedSimpArgs false
open Go.Proofs
set_option maxHeartbeats 4000000
structure Mv where
 k : Int
 a : Int
 t : Int
instance : Inhabited Mv := ⟨⟨0, 0, 0⟩⟩
def kM : List Kd := [.int .u8, .int .u8, .int .u8]
def encM (m : Mv) : Nat -> D := encN [.i m.k, .i m.a, .i m.t]
structure TRx where
 es : List Ed
 mv : List Mv
 w : Int
def trA (x : TRx) : List SV := [.sl 100000 0 x.es.length, .sl 100001 0 x.mv.length, .i .u8 x.w]
def trH (x : TRx) : List (Nat × Blk) := [(100000, .rows .bor kE x.es.length (encL encE x.es)), (100001, .rows .bor kM x.mv.length (encL encM x.mv))]
structure TRok (x : TRx) : Prop where
 w : 0 <= x.w /\ x.w <= 255
 mv : ∀ m ∈ x.mv, (0 <= m.k /\ m.k <= 255) /\ (0 <= m.a /\ m.a <= 255) /\ (0 <= m.t /\ m.t <= 255)
theorem TRok.at {x : TRx} (h : TRok x) {k : Nat} (hk : (k : Int) < x.mv.length) : (0 <= (x.mv.getD k default).k /\ (x.mv.getD k default).k <= 255) /\ (0 <= (x.mv.getD k default).a /\ (x.mv.getD k default).a <= 255) /\ (0 <= (x.mv.getD k default).t /\ (x.mv.getD k default).t <= 255) :=
 h.mv _ (by rw [List.getD_eq_getElem?_getD, List.getElem?_eq_getElem (by omega)]; exact List.getElem_mem _)
def lawT (b : Bool) : CT := ⟨TRx, fun x => TRok x /\ decide (errN ⟨7, x.es⟩ = 0) = b, trA, trH, fun _ => .b true, fun _ => []⟩
structure TSt where
 k : Nat
 ts : List Int
 src : List Bool
 dist : List Int
 so : List Int
 od : Bool
def trM (x : TRx) (s : TSt) : MS := ⟨⟨7, x.es⟩, s.ts, s.src, s.dist, s.so, s.od⟩
def mvT (t : Int) : Int := if t = 0 then 4611686018427387904 else t
def mvAt (x : TRx) (s : TSt) : Mv := x.mv.getD (0 + ((s.k : Nat) : Int).toNat) default
def mvM (x : TRx) (s : TSt) : MS :=
 if (mvAt x s).k % 3 = 0 then addM (trM x s) ((mvAt x s).a % 7)
 else if (mvAt x s).k % 3 = 1 then remM (trM x s) ((mvAt x s).a % 7)
 else setM (trM x s) ((mvAt x s).a % x.es.length) (mvT (mvAt x s).t)
def actM (x : TRx) (s : TSt) : MS := ⟨⟨7, x.es⟩, (mvM x s).ts, (mvM x s).src, (mvM x s).dist, (mvM x s).so, (mvM x s).od⟩
def trI (x : TRx) (id : Nat) : Option Inv := match id with
 | 0 => some { X := TSt, ok := fun s => s.k <= x.mv.length /\ MSok (trM x s), fr := fun s => [(72, .i .i64 s.k)],
               hp := fun s => [(54, .one .own [.p 37 0 0, .sl 2054 0 x.es.length, .sl 4054 0 7, .sl 195 0 s.dist.length, .sl 196 0 s.so.length, .b s.od]), (2054, .rows .own k1 x.es.length (encL encI s.ts)), (4054, .rows .own kB 7 (encL encBo s.src)),
                (195, .rows .own k1 s.dist.length (encL encI s.dist)), (196, .rows .own k1 s.so.length (encL encI s.so)), (50, .rows .own k1 x.es.length (encL encI s.ts))], me := fun s => x.mv.length - s.k,
               inn := fun s id => match id with
                | 3 => some { X := Nat, ok := fun j => j <= 7, fr := fun j => [(131, .i .i64 j), (18, .i .i64 (woAt (actM x s).dI j)), (70, .sl 100001 0 x.mv.length), (71, .i .i64 x.mv.length), (72, .i .i64 s.k)],
                              hp := fun j => [(54, .one .own [.p 37 0 0, .sl 2054 0 x.es.length, .sl 4054 0 7, .sl 197 0 7, .sl 198 0 7, .b false]), (197, .rows .own k1 7 (encL encI (actM x s).dI)), (198, .rows .own k1 7 (encL encI (soF (actM x s) (actM x s).dI)))], me := fun j => 7 - j }
                | _ => none }
 | _ => none
def CT10 (b : CT) : List (Nat × Con) := [(4, .one tawC), (5, .one tfewC), (6, .one b), (7, .one rtC), (8, .one newIC), (9, .one addSC), (10, .one remSC), (11, .one setTC), (13, .one srcsC), (12, .one (fromC true)), (14, .one wiC), (15, .one timC), (16, .one hasC), (17, .one farC)]
def cfgTy : Cfg := ⟨T, [], CT10 newOkC, noInv, 25, {}⟩
def cfgTn : Cfg := ⟨T, [], CT10 newBadC, noInv, 25, {}⟩
theorem conT {b : CT} (h : Good Try.prog 6 b /\ FnOk Try.prog 6) : ConL Try.prog (CT10 b) := .cons (ConL.one taw_good) (.cons (ConL.one tfew_good) (.cons (ConL.one h) (.cons (ConL.one rt_good) (.cons (ConL.one newI_good) (.cons (ConL.one addS_good) (.cons (ConL.one remS_good) (.cons (ConL.one setT_good) (.cons (ConL.one srcs_good) (.cons (ConL.one from_good) (.cons (ConL.one wi_good) (.cons (ConL.one tim_good) (.cons (ConL.one has_good) (.cons (ConL.one far_good) .nil)))))))))))))
theorem conTy : ConOk Try.prog cfgTy := ConL.ok (conT newOk_good)
theorem conTn : ConOk Try.prog cfgTn := ConL.ok (conT newBad_good)
theorem bad_len {es : List Ed} (h : decide (errN ⟨7, es⟩ = 0) = false) : 0 < es.length := by
 cases es with
 | nil => exact absurd h (by decide)
 | cons a l => simp
set_option maxRecDepth 100000 in
theorem t_no : Keeps cfgTn Try.f3 (lawT false) trI := Eq.mp (show ((∀ x1 : TRx, ((TRok x1 /\ decide (errN (NewX.mk (7 : Int) x1.es) = (0 : Int)) = false)-> (∃ x3 : Unit, (True/\(True/\(True/\((false = true -> (false = true/\True))/\(false = false -> (∃ x6 : List Ed, (True/\(((0=0 /\ x1.es.length = x6.length)/\True)/\((((RLe x6.length x1.es.length)/\(RowsEq [.int .i64, .int .i64, .int .i64] x6.length (encL encE x1.es) (encL encE x6)))/\True)/\((((!decide (x6.length <= (24 : Nat))) = false)-> (((decide (20 < (x1.mv.length : Int)) = true)-> (true = true/\True))/\((decide (20 < (x1.mv.length : Int)) = false)-> (∃ x10 : NewX, (((x10.es.length <= (1073741824 : Nat))/\(errN x10 ≠ (0 : Int)))/\((7 = x10.n/\((0=0 /\ x1.es.length = x10.es.length)/\True))/\((((RLe x10.es.length x1.es.length)/\(RowsEq [.int .i64, .int .i64, .int .i64] x10.es.length (encL encE x1.es) (encL encE x10.es)))/\True)/\(((decide (errN x10 ≠ (0 : Int)) = false)-> ((decide (0 < (x1.es.length : Int)) = true)/\True))/\((decide (errN x10 ≠ (0 : Int)) = true)-> ((decide (0 < (x1.es.length : Int)) = true)/\True))))))))))/\(((!decide (x6.length <= (24 : Nat))) = true)-> (true = true/\True)))))))))))))))) = (Keeps cfgTn Try.f3 (lawT false) trI) by kernel_rfl) (fun x1 => fun h2 => ⟨(()),trivial,trivial,trivial,
fun h4 => ⟨(by omega),trivial⟩,
fun h5 => ⟨(TRx.es x1),trivial,
⟨⟨rfl,rfl⟩,trivial⟩,
⟨⟨⟨Nat.le_refl _⟩,RowsEq.rfl'⟩,trivial⟩,
fun g7 => have h7 := of_not_decide_false g7; ⟨fun g8 => have h8 := of_decide_eq_true g8; ⟨rfl,trivial⟩,
fun g9 => have h9 := of_decide_eq_false g9; ⟨({ n := (7 : Int), es := TRx.es x1 : NewX }),
⟨(by (try dsimp only at *); omega),
(by grind)⟩,
⟨rfl,
⟨rfl,rfl⟩,trivial⟩,
⟨⟨⟨Nat.le_refl _⟩,RowsEq.rfl'⟩,trivial⟩,
fun g11 => have h11 := of_decide_eq_false g11; ⟨(by grind),trivial⟩,
fun g12 => have h12 := of_decide_eq_true g12; ⟨(by exact decide_eq_true (by have := bad_len h2.2; omega)),trivial⟩⟩⟩,
fun g13 => have h13 := of_not_decide_true g13; ⟨rfl,trivial⟩⟩⟩)
end Go.Sym