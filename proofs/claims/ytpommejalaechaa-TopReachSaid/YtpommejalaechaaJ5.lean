import Derived.Test.YtpommejalaechaaJ4
import Derived.Test.YtpommejalaechaaI2
import Derived.Test.YtpommejalaechaaXD
namespace Go.Sym
set_option linter.unusedVariables false
set_option linter.unusedSimpArgs false
open Go.Proofs
set_option maxHeartbeats 4000000
structure FSx where
 m : MS
 v : Nat
structure FSok (x : FSx) : Prop where
 g : GOk x.m.g
 v : x.v < x.m.g.n
 ts : x.m.ts.length = x.m.g.es.length
 tv : ∀ i, i < x.m.ts.length -> x.m.ts.getD i default = 4611686018427387904 ∨ (1 <= x.m.ts.getD i default /\ x.m.ts.getD i default <= 1048576)
 src : x.m.src.length = x.m.g.n
 dl : x.m.dist.length = x.m.g.n
 sl : x.m.so.length = x.m.g.n
 dr : ∀ u, u < x.m.g.n -> 0 <= x.m.dist.getD u default /\ x.m.dist.getD u default <= 4611686018427387904
def fsAt (x : FSx) (k : Nat) : Int := findAt x.m x.m.dist x.m.so x.v k
def fsM (x : FSx) : Nat := (inN x.m.g x.v).length
def findS : LS where
 it := enumIt
 g := 58
 X := FSx
 pre := FSok
 slots := [2, 3, 5]
 vals := fun _ => [.p 100000 0 0, .p 100001 0 0, .p 100002 0 0]
 caps := fun _ => [.p 100006 0 0, .p 100007 0 0]
 g0 := fun x => [(100000, .one .bor [.p 100010 0 0]), (100001, .one .bor [.i .i64 (x.v : Nat)]), (100002, .one .own [.i .i64 (-1)]), (100006, .one .bor [.i .i64 (x.v : Nat)]), (100007, .one .bor [.sl 100017 0 x.m.g.n]), (100017, .rows .bor kLL x.m.g.n (encLL (adjG x.m.g false)))] ++ msH x.m 100010 .bor
 g1 := fun x => [(100002, .one .own [.i .i64 (fsAt x (fsM x))])]
 hp := fun x k => [(100000, .one .bor [.p 100010 0 0]), (100001, .one .bor [.i .i64 (x.v : Nat)]), (100002, .one .own [.i .i64 (fsAt x k)]), (100006, .one .bor [.i .i64 (x.v : Nat)]), (100007, .one .bor [.sl 100017 0 x.m.g.n]), (100017, .rows .bor kLL x.m.g.n (encLL (adjG x.m.g false)))] ++ msH x.m 100010 .bor
 y := fun x => ⟨x.m.g.n, adjG x.m.g false, (x.v : Nat)⟩
 m := fsM
def cfgJ5 : Cfg := ⟨T, [], [(39, .one edgeC)], noInv, 20, { scp := false }⟩
structure FSf (x : FSx) (k i : Nat) : Prop where
 e : (enumL ⟨x.m.g.n, adjG x.m.g false, (x.v : Nat)⟩).getD k default = (i : Int)
 lt : i < x.m.g.es.length
 ed : edAt ⟨x.m.g, (i : Int)⟩ = x.m.g.es.getD i default
 ok : edOk x.m.g.n (x.m.g.es.getD i default)
 st : fsAt x (k + 1) = stepSo x.m x.m.dist x.m.so x.v (fsAt x k) i
 df : 0 <= x.m.dist.getD (x.m.g.es.getD i default).f.toNat default /\ x.m.dist.getD (x.m.g.es.getD i default).f.toNat default <= 4611686018427387904
 wr : x.m.ts.getD i default = 4611686018427387904 ∨ (1 <= x.m.ts.getD i default /\ x.m.ts.getD i default <= 1048576)
theorem fs_enum {x : FSx} (h : FSok x) : enumL ⟨x.m.g.n, adjG x.m.g false, (x.v : Nat)⟩ = adjG x.m.g false x.v := by
 unfold enumL
 have := h.v
 rw [if_pos (by dsimp only; omega)]
 rfl
theorem fs_f {x : FSx} (h : FSok x) {k : Nat} (hk : k < fsM x) : ∃ i, FSf x k i := by
 have hk' : k < (adjN x.m.g false x.v).length := hk
 have hi := adjN_mem.1 (List.getElem_mem hk')
 have hok := h.g.e _ hi.1
 have hok2 := hok
 unfold edOk at hok2
 refine ⟨(adjN x.m.g false x.v)[k], ?_, hi.1, ?_, hok, ?_, h.dr _ (by omega), h.tv _ (by rw [h.ts]; exact hi.1)⟩
 ·rw [fs_enum h, adjG_eq]
  simp [List.getD_eq_getElem?_getD, hk']
 ·rw [edAt_yes (by dsimp only; omega)]
  rfl
 ·unfold fsAt findAt inN
  rw [List.take_succ_eq_append_getElem hk', List.foldl_append]
  rfl
theorem fs_skip {x : FSx} {k i : Nat} (F : FSf x k i) (h : x.m.ts.getD i default = 4611686018427387904 ∨ x.m.dist.getD (x.m.g.es.getD i default).f.toNat default = 4611686018427387904) : fsAt x (k + 1) = fsAt x k := by
 rw [F.st]; unfold stepSo; exact if_pos h
theorem fs_off {x : FSx} {k i : Nat} (F : FSf x k i) (h : ¬ (x.m.ts.getD i default = 4611686018427387904 ∨ x.m.dist.getD (x.m.g.es.getD i default).f.toNat default = 4611686018427387904)) (h2 : x.m.dist.getD (x.m.g.es.getD i default).f.toNat default + x.m.ts.getD i default ≠ x.m.dist.getD x.v default) : fsAt x (k + 1) = fsAt x k := by
 rw [F.st]; unfold stepSo; rw [if_neg h, if_pos h2]
theorem fs_on {x : FSx} {k i : Nat} (F : FSf x k i) (h : ¬ (x.m.ts.getD i default = 4611686018427387904 ∨ x.m.dist.getD (x.m.g.es.getD i default).f.toNat default = 4611686018427387904)) (h2 : ¬ x.m.dist.getD (x.m.g.es.getD i default).f.toNat default + x.m.ts.getD i default ≠ x.m.dist.getD x.v default) :
  fsAt x (k + 1) = if fsAt x k < 0 ∨ x.m.so.getD (x.m.g.es.getD i default).f.toNat default < fsAt x k then x.m.so.getD (x.m.g.es.getD i default).f.toNat default else fsAt x k := by
 rw [F.st]; unfold stepSo; rw [if_neg h, if_neg h2]
theorem adj_small2 {g : Gr} (h : GOk g) (s : Bool) (j : Nat) : (adjG g s j).length <= 1073741824 := by
 have := adj_len g.es g.es.length s j
 have := h.m
 show (adj g.es g.es.length s j).length <= _
 omega
set_option maxRecDepth 100000 in
theorem find_loop : KeepsLoop cfgJ5 (rf0 Try.f33 0).2.1.toList (rf0 Try.f33 0).2.2.1 (rf0 Try.f33 0).2.2.2 findS := Eq.mp (show ((∀ x1 : FSx, ((FSok x1)-> ((((LLx.mk x1.m.g.n (adjG x1.m.g false) (x1.v : Int)).n <= (1073741824 : Nat))/\(∀ j3 : Nat, ((j3 < (LLx.mk x1.m.g.n (adjG x1.m.g false) (x1.v : Int)).n)-> (((LLx.mk x1.m.g.n (adjG x1.m.g false) (x1.v : Int)).f j3).length <= (1073741824 : Nat)))))/\((fsM x1 <= (enumL (LLx.mk x1.m.g.n (adjG x1.m.g false) (x1.v : Int))).length)/\((True/\(((0=0 /\ 0=0)/\((0=0 /\ 0=0)/\((0=0 /\ 0=0)/\True)))/\(((0=0 /\ 0=0)/\True)/\((((x1.v : Int) = (x1.v : Int))/\True)/\((((-1 : Int) = fsAt x1 0)/\True)/\((((x1.v : Int) = (x1.v : Int))/\True)/\(((0=0 /\ x1.m.g.n = x1.m.g.n)/\True)/\(((RLe x1.m.g.n x1.m.g.n)/\(RowsEq [.sl [.int .i64]] x1.m.g.n (encLL (adjG x1.m.g false)) (encLL (adjG x1.m.g false))))/\(((0=0 /\ 0=0)/\((0=0 /\ x1.m.g.es.length = x1.m.g.es.length)/\((0=0 /\ x1.m.g.n = x1.m.g.n)/\((0=0 /\ x1.m.dist.length = x1.m.dist.length)/\((0=0 /\ x1.m.so.length = x1.m.so.length)/\(x1.m.od = x1.m.od/\True))))))/\((RLe 1 1/\(RowsEq [.sl [.int .i64, .int .i64, .int .i64], .sl [.sl [.int .i64]], .sl [.sl [.int .i64]]] 1 (encG x1.m.g) (encG x1.m.g)))/\(((RLe x1.m.g.es.length x1.m.g.es.length)/\(RowsEq [.int .i64] x1.m.g.es.length (encL encI x1.m.ts) (encL encI x1.m.ts)))/\(((RLe x1.m.g.n x1.m.g.n)/\(RowsEq (Kd.bool :: []) x1.m.g.n (encL encBo x1.m.src) (encL encBo x1.m.src)))/\(((RLe x1.m.dist.length x1.m.dist.length)/\(RowsEq [.int .i64] x1.m.dist.length (encL encI x1.m.dist) (encL encI x1.m.dist)))/\(((RLe x1.m.so.length x1.m.so.length)/\(RowsEq [.int .i64] x1.m.so.length (encL encI x1.m.so) (encL encI x1.m.so)))/\True))))))))))))))/\((∀ k5 : Nat, ((k5 <= fsM x1)-> ((((LLx.mk x1.m.g.n (adjG x1.m.g false) (x1.v : Int)).n <= (1073741824 : Nat))/\(∀ j7 : Nat, ((j7 < (LLx.mk x1.m.g.n (adjG x1.m.g false) (x1.v : Int)).n)-> (((LLx.mk x1.m.g.n (adjG x1.m.g false) (x1.v : Int)).f j7).length <= (1073741824 : Nat)))))/\(((0=0 /\ 0=0)/\((0=0 /\ 0=0)/\True))/\(((((x1.v : Int) = (LLx.mk x1.m.g.n (adjG x1.m.g false) (x1.v : Int)).i)/\True)/\(((0=0/\(x1.m.g.n = (LLx.mk x1.m.g.n (adjG x1.m.g false) (x1.v : Int)).n))/\True)/\(((RLe (LLx.mk x1.m.g.n (adjG x1.m.g false) (x1.v : Int)).n x1.m.g.n)/\(RowsEq [.sl [.int .i64]] (LLx.mk x1.m.g.n (adjG x1.m.g false) (x1.v : Int)).n (encLL (adjG x1.m.g false)) (encLL (LLx.mk x1.m.g.n (adjG x1.m.g false) (x1.v : Int)).f)))/\True)))/\True)))))/\((∀ k9 : Nat, ((k9 < fsM x1)-> ((Nat.beq (lenV (Value.int .i64 ((enumL (LLx.mk x1.m.g.n (adjG x1.m.g false) (x1.v : Int))).getD k9 default) :: @List.nil Value)) (lenN (Array.toList (Prod.fst (Prod.snd (rf0 Try.f33 0))))) = true)/\(∃ x11 : GIx, (True/\(((0=0 /\ 0=0)/\(((enumL (LLx.mk x1.m.g.n (adjG x1.m.g false) (x1.v : Int))).getD k9 default = x11.i)/\True))/\(((RLe 1 1/\(RowsEq [.sl [.int .i64, .int .i64, .int .i64], .sl [.sl [.int .i64]], .sl [.sl [.int .i64]]] 1 (encG x1.m.g) (encG x11.g)))/\True)/\((((0 : Int) <= (enumL (LLx.mk x1.m.g.n (adjG x1.m.g false) (x1.v : Int))).getD k9 default)/\((enumL (LLx.mk x1.m.g.n (adjG x1.m.g false) (x1.v : Int))).getD k9 default < (x1.m.g.es.length : Int)))/\((0 + Int.toNat ((enumL (LLx.mk x1.m.g.n (adjG x1.m.g false) (x1.v : Int))).getD k9 default) < x1.m.g.es.length)/\(((decide (x1.m.ts.getD (0 + Int.toNat ((enumL (LLx.mk x1.m.g.n (adjG x1.m.g false) (x1.v : Int))).getD k9 default)) default = 4611686018427387904) = false)-> ((((0 : Int) <= (edAt x11).f)/\((edAt x11).f < (x1.m.dist.length : Int)))/\((0 + Int.toNat (edAt x11).f < x1.m.dist.length)/\(((decide (x1.m.dist.getD (0 + Int.toNat (edAt x11).f) default = 4611686018427387904) = true)-> (True/\(((0=0 /\ 0=0)/\((0=0 /\ 0=0)/\((0=0 /\ 0=0)/\True)))/\(((0=0 /\ 0=0)/\True)/\((((x1.v : Int) = (x1.v : Int))/\True)/\(((fsAt x1 k9 = fsAt x1 (k9 + (1 : Nat)))/\True)/\((((x1.v : Int) = (x1.v : Int))/\True)/\(((0=0 /\ x1.m.g.n = x1.m.g.n)/\True)/\(((RLe x1.m.g.n x1.m.g.n)/\(RowsEq [.sl [.int .i64]] x1.m.g.n (encLL (adjG x1.m.g false)) (encLL (adjG x1.m.g false))))/\(((0=0 /\ 0=0)/\((0=0 /\ x1.m.g.es.length = x1.m.g.es.length)/\((0=0 /\ x1.m.g.n = x1.m.g.n)/\((0=0 /\ x1.m.dist.length = x1.m.dist.length)/\((0=0 /\ x1.m.so.length = x1.m.so.length)/\(x1.m.od = x1.m.od/\True))))))/\((RLe 1 1/\(RowsEq [.sl [.int .i64, .int .i64, .int .i64], .sl [.sl [.int .i64]], .sl [.sl [.int .i64]]] 1 (encG x1.m.g) (encG x1.m.g)))/\(((RLe x1.m.g.es.length x1.m.g.es.length)/\(RowsEq [.int .i64] x1.m.g.es.length (encL encI x1.m.ts) (encL encI x1.m.ts)))/\(((RLe x1.m.g.n x1.m.g.n)/\(RowsEq (Kd.bool :: []) x1.m.g.n (encL encBo x1.m.src) (encL encBo x1.m.src)))/\(((RLe x1.m.dist.length x1.m.dist.length)/\(RowsEq [.int .i64] x1.m.dist.length (encL encI x1.m.dist) (encL encI x1.m.dist)))/\(((RLe x1.m.so.length x1.m.so.length)/\(RowsEq [.int .i64] x1.m.so.length (encL encI x1.m.so) (encL encI x1.m.so)))/\True)))))))))))))))/\((decide (x1.m.dist.getD (0 + Int.toNat (edAt x11).f) default = 4611686018427387904) = false)-> ((((0 : Int) <= (edAt x11).f)/\((edAt x11).f < (x1.m.dist.length : Int)))/\((0 + Int.toNat (edAt x11).f < x1.m.dist.length)/\((((0 : Int) <= (enumL (LLx.mk x1.m.g.n (adjG x1.m.g false) (x1.v : Int))).getD k9 default)/\((enumL (LLx.mk x1.m.g.n (adjG x1.m.g false) (x1.v : Int))).getD k9 default < (x1.m.g.es.length : Int)))/\((0 + Int.toNat ((enumL (LLx.mk x1.m.g.n (adjG x1.m.g false) (x1.v : Int))).getD k9 default) < x1.m.g.es.length)/\((((-9223372036854775808 : Int) <= x1.m.dist.getD (0 + Int.toNat (edAt x11).f) default + x1.m.ts.getD (0 + Int.toNat ((enumL (LLx.mk x1.m.g.n (adjG x1.m.g false) (x1.v : Int))).getD k9 default)) default)/\(x1.m.dist.getD (0 + Int.toNat (edAt x11).f) default + x1.m.ts.getD (0 + Int.toNat ((enumL (LLx.mk x1.m.g.n (adjG x1.m.g false) (x1.v : Int))).getD k9 default)) default <= (9223372036854775807 : Int)))/\((((0 : Int) <= (x1.v : Int))/\((x1.v : Int) < (x1.m.dist.length : Int)))/\((0 + Int.toNat (x1.v : Int) < x1.m.dist.length)/\(((decide (x1.m.dist.getD (0 + Int.toNat (edAt x11).f) default + x1.m.ts.getD (0 + Int.toNat ((enumL (LLx.mk x1.m.g.n (adjG x1.m.g false) (x1.v : Int))).getD k9 default)) default ≠ x1.m.dist.getD (0 + Int.toNat (x1.v : Int)) default) = true)-> (True/\(((0=0 /\ 0=0)/\((0=0 /\ 0=0)/\((0=0 /\ 0=0)/\True)))/\(((0=0 /\ 0=0)/\True)/\((((x1.v : Int) = (x1.v : Int))/\True)/\(((fsAt x1 k9 = fsAt x1 (k9 + (1 : Nat)))/\True)/\((((x1.v : Int) = (x1.v : Int))/\True)/\(((0=0 /\ x1.m.g.n = x1.m.g.n)/\True)/\(((RLe x1.m.g.n x1.m.g.n)/\(RowsEq [.sl [.int .i64]] x1.m.g.n (encLL (adjG x1.m.g false)) (encLL (adjG x1.m.g false))))/\(((0=0 /\ 0=0)/\((0=0 /\ x1.m.g.es.length = x1.m.g.es.length)/\((0=0 /\ x1.m.g.n = x1.m.g.n)/\((0=0 /\ x1.m.dist.length = x1.m.dist.length)/\((0=0 /\ x1.m.so.length = x1.m.so.length)/\(x1.m.od = x1.m.od/\True))))))/\((RLe 1 1/\(RowsEq [.sl [.int .i64, .int .i64, .int .i64], .sl [.sl [.int .i64]], .sl [.sl [.int .i64]]] 1 (encG x1.m.g) (encG x1.m.g)))/\(((RLe x1.m.g.es.length x1.m.g.es.length)/\(RowsEq [.int .i64] x1.m.g.es.length (encL encI x1.m.ts) (encL encI x1.m.ts)))/\(((RLe x1.m.g.n x1.m.g.n)/\(RowsEq (Kd.bool :: []) x1.m.g.n (encL encBo x1.m.src) (encL encBo x1.m.src)))/\(((RLe x1.m.dist.length x1.m.dist.length)/\(RowsEq [.int .i64] x1.m.dist.length (encL encI x1.m.dist) (encL encI x1.m.dist)))/\(((RLe x1.m.so.length x1.m.so.length)/\(RowsEq [.int .i64] x1.m.so.length (encL encI x1.m.so) (encL encI x1.m.so)))/\True)))))))))))))))/\((decide (x1.m.dist.getD (0 + Int.toNat (edAt x11).f) default + x1.m.ts.getD (0 + Int.toNat ((enumL (LLx.mk x1.m.g.n (adjG x1.m.g false) (x1.v : Int))).getD k9 default)) default ≠ x1.m.dist.getD (0 + Int.toNat (x1.v : Int)) default) = false)-> ((((0 : Int) <= (edAt x11).f)/\((edAt x11).f < (x1.m.so.length : Int)))/\((0 + Int.toNat (edAt x11).f < x1.m.so.length)/\(((decide (fsAt x1 k9 < 0) = false)-> (((decide (x1.m.so.getD (0 + Int.toNat (edAt x11).f) default < fsAt x1 k9) = true)-> (True/\(((0=0 /\ 0=0)/\((0=0 /\ 0=0)/\((0=0 /\ 0=0)/\True)))/\(((0=0 /\ 0=0)/\True)/\((((x1.v : Int) = (x1.v : Int))/\True)/\(((x1.m.so.getD (0 + Int.toNat (edAt x11).f) default = fsAt x1 (k9 + (1 : Nat)))/\True)/\((((x1.v : Int) = (x1.v : Int))/\True)/\(((0=0 /\ x1.m.g.n = x1.m.g.n)/\True)/\(((RLe x1.m.g.n x1.m.g.n)/\(RowsEq [.sl [.int .i64]] x1.m.g.n (encLL (adjG x1.m.g false)) (encLL (adjG x1.m.g false))))/\(((0=0 /\ 0=0)/\((0=0 /\ x1.m.g.es.length = x1.m.g.es.length)/\((0=0 /\ x1.m.g.n = x1.m.g.n)/\((0=0 /\ x1.m.dist.length = x1.m.dist.length)/\((0=0 /\ x1.m.so.length = x1.m.so.length)/\(x1.m.od = x1.m.od/\True))))))/\((RLe 1 1/\(RowsEq [.sl [.int .i64, .int .i64, .int .i64], .sl [.sl [.int .i64]], .sl [.sl [.int .i64]]] 1 (encG x1.m.g) (encG x1.m.g)))/\(((RLe x1.m.g.es.length x1.m.g.es.length)/\(RowsEq [.int .i64] x1.m.g.es.length (encL encI x1.m.ts) (encL encI x1.m.ts)))/\(((RLe x1.m.g.n x1.m.g.n)/\(RowsEq (Kd.bool :: []) x1.m.g.n (encL encBo x1.m.src) (encL encBo x1.m.src)))/\(((RLe x1.m.dist.length x1.m.dist.length)/\(RowsEq [.int .i64] x1.m.dist.length (encL encI x1.m.dist) (encL encI x1.m.dist)))/\(((RLe x1.m.so.length x1.m.so.length)/\(RowsEq [.int .i64] x1.m.so.length (encL encI x1.m.so) (encL encI x1.m.so)))/\True)))))))))))))))/\((decide (x1.m.so.getD (0 + Int.toNat (edAt x11).f) default < fsAt x1 k9) = false)-> (True/\(((0=0 /\ 0=0)/\((0=0 /\ 0=0)/\((0=0 /\ 0=0)/\True)))/\(((0=0 /\ 0=0)/\True)/\((((x1.v : Int) = (x1.v : Int))/\True)/\(((fsAt x1 k9 = fsAt x1 (k9 + (1 : Nat)))/\True)/\((((x1.v : Int) = (x1.v : Int))/\True)/\(((0=0 /\ x1.m.g.n = x1.m.g.n)/\True)/\(((RLe x1.m.g.n x1.m.g.n)/\(RowsEq [.sl [.int .i64]] x1.m.g.n (encLL (adjG x1.m.g false)) (encLL (adjG x1.m.g false))))/\(((0=0 /\ 0=0)/\((0=0 /\ x1.m.g.es.length = x1.m.g.es.length)/\((0=0 /\ x1.m.g.n = x1.m.g.n)/\((0=0 /\ x1.m.dist.length = x1.m.dist.length)/\((0=0 /\ x1.m.so.length = x1.m.so.length)/\(x1.m.od = x1.m.od/\True))))))/\((RLe 1 1/\(RowsEq [.sl [.int .i64, .int .i64, .int .i64], .sl [.sl [.int .i64]], .sl [.sl [.int .i64]]] 1 (encG x1.m.g) (encG x1.m.g)))/\(((RLe x1.m.g.es.length x1.m.g.es.length)/\(RowsEq [.int .i64] x1.m.g.es.length (encL encI x1.m.ts) (encL encI x1.m.ts)))/\(((RLe x1.m.g.n x1.m.g.n)/\(RowsEq (Kd.bool :: []) x1.m.g.n (encL encBo x1.m.src) (encL encBo x1.m.src)))/\(((RLe x1.m.dist.length x1.m.dist.length)/\(RowsEq [.int .i64] x1.m.dist.length (encL encI x1.m.dist) (encL encI x1.m.dist)))/\(((RLe x1.m.so.length x1.m.so.length)/\(RowsEq [.int .i64] x1.m.so.length (encL encI x1.m.so) (encL encI x1.m.so)))/\True)))))))))))))))))/\((decide (fsAt x1 k9 < 0) = true)-> (True/\(((0=0 /\ 0=0)/\((0=0 /\ 0=0)/\((0=0 /\ 0=0)/\True)))/\(((0=0 /\ 0=0)/\True)/\((((x1.v : Int) = (x1.v : Int))/\True)/\(((x1.m.so.getD (0 + Int.toNat (edAt x11).f) default = fsAt x1 (k9 + (1 : Nat)))/\True)/\((((x1.v : Int) = (x1.v : Int))/\True)/\(((0=0 /\ x1.m.g.n = x1.m.g.n)/\True)/\(((RLe x1.m.g.n x1.m.g.n)/\(RowsEq [.sl [.int .i64]] x1.m.g.n (encLL (adjG x1.m.g false)) (encLL (adjG x1.m.g false))))/\(((0=0 /\ 0=0)/\((0=0 /\ x1.m.g.es.length = x1.m.g.es.length)/\((0=0 /\ x1.m.g.n = x1.m.g.n)/\((0=0 /\ x1.m.dist.length = x1.m.dist.length)/\((0=0 /\ x1.m.so.length = x1.m.so.length)/\(x1.m.od = x1.m.od/\True))))))/\((RLe 1 1/\(RowsEq [.sl [.int .i64, .int .i64, .int .i64], .sl [.sl [.int .i64]], .sl [.sl [.int .i64]]] 1 (encG x1.m.g) (encG x1.m.g)))/\(((RLe x1.m.g.es.length x1.m.g.es.length)/\(RowsEq [.int .i64] x1.m.g.es.length (encL encI x1.m.ts) (encL encI x1.m.ts)))/\(((RLe x1.m.g.n x1.m.g.n)/\(RowsEq (Kd.bool :: []) x1.m.g.n (encL encBo x1.m.src) (encL encBo x1.m.src)))/\(((RLe x1.m.dist.length x1.m.dist.length)/\(RowsEq [.int .i64] x1.m.dist.length (encL encI x1.m.dist) (encL encI x1.m.dist)))/\(((RLe x1.m.so.length x1.m.so.length)/\(RowsEq [.int .i64] x1.m.so.length (encL encI x1.m.so) (encL encI x1.m.so)))/\True))))))))))))))))))))))))))))))))/\((decide (x1.m.ts.getD (0 + Int.toNat ((enumL (LLx.mk x1.m.g.n (adjG x1.m.g false) (x1.v : Int))).getD k9 default)) default = 4611686018427387904) = true)-> (True/\(((0=0 /\ 0=0)/\((0=0 /\ 0=0)/\((0=0 /\ 0=0)/\True)))/\(((0=0 /\ 0=0)/\True)/\((((x1.v : Int) = (x1.v : Int))/\True)/\(((fsAt x1 k9 = fsAt x1 (k9 + (1 : Nat)))/\True)/\((((x1.v : Int) = (x1.v : Int))/\True)/\(((0=0 /\ x1.m.g.n = x1.m.g.n)/\True)/\(((RLe x1.m.g.n x1.m.g.n)/\(RowsEq [.sl [.int .i64]] x1.m.g.n (encLL (adjG x1.m.g false)) (encLL (adjG x1.m.g false))))/\(((0=0 /\ 0=0)/\((0=0 /\ x1.m.g.es.length = x1.m.g.es.length)/\((0=0 /\ x1.m.g.n = x1.m.g.n)/\((0=0 /\ x1.m.dist.length = x1.m.dist.length)/\((0=0 /\ x1.m.so.length = x1.m.so.length)/\(x1.m.od = x1.m.od/\True))))))/\((RLe 1 1/\(RowsEq [.sl [.int .i64, .int .i64, .int .i64], .sl [.sl [.int .i64]], .sl [.sl [.int .i64]]] 1 (encG x1.m.g) (encG x1.m.g)))/\(((RLe x1.m.g.es.length x1.m.g.es.length)/\(RowsEq [.int .i64] x1.m.g.es.length (encL encI x1.m.ts) (encL encI x1.m.ts)))/\(((RLe x1.m.g.n x1.m.g.n)/\(RowsEq (Kd.bool :: []) x1.m.g.n (encL encBo x1.m.src) (encL encBo x1.m.src)))/\(((RLe x1.m.dist.length x1.m.dist.length)/\(RowsEq [.int .i64] x1.m.dist.length (encL encI x1.m.dist) (encL encI x1.m.dist)))/\(((RLe x1.m.so.length x1.m.so.length)/\(RowsEq [.int .i64] x1.m.so.length (encL encI x1.m.so) (encL encI x1.m.so)))/\True)))))))))))))))))))))))))/\((fsM x1 = (enumL (LLx.mk x1.m.g.n (adjG x1.m.g false) (x1.v : Int))).length)/\(True/\(((fsAt x1 (fsM x1) = fsAt x1 (fsM x1))/\True)/\True))))))))))) = (KeepsLoop cfgJ5 (rf0 Try.f33 0).2.1.toList (rf0 Try.f33 0).2.2.1 (rf0 Try.f33 0).2.2.2 findS) by kernel_rfl) (fun x1 => fun h2 => ⟨⟨(by have q := h2.g.n; dsimp only; omega),
fun j3 => fun h4 => (adj_small2 h2.g _ _)⟩,
(by rw [fs_enum h2, adjG_eq, List.length_map]; first | exact Nat.le_refl _ | rfl),
⟨trivial,
⟨⟨rfl,rfl⟩,
⟨rfl,rfl⟩,
⟨rfl,rfl⟩,trivial⟩,
⟨⟨rfl,rfl⟩,trivial⟩,
⟨rfl,trivial⟩,
⟨rfl,trivial⟩,
⟨rfl,trivial⟩,
⟨⟨rfl,rfl⟩,trivial⟩,
⟨⟨Nat.le_refl _⟩,RowsEq.rfl'⟩,
⟨⟨rfl,rfl⟩,
⟨rfl,rfl⟩,
⟨rfl,rfl⟩,
⟨rfl,rfl⟩,
⟨rfl,rfl⟩,rfl,trivial⟩,
⟨⟨Nat.le_refl _⟩,RowsEq.rfl'⟩,
⟨⟨Nat.le_refl _⟩,RowsEq.rfl'⟩,
⟨⟨Nat.le_refl _⟩,RowsEq.rfl'⟩,
⟨⟨Nat.le_refl _⟩,RowsEq.rfl'⟩,
⟨⟨Nat.le_refl _⟩,RowsEq.rfl'⟩,trivial⟩,
fun k5 => fun h6 => ⟨⟨(by have q := h2.g.n; dsimp only; omega),
fun j7 => fun h8 => (adj_small2 h2.g _ _)⟩,
⟨⟨rfl,rfl⟩,
⟨rfl,rfl⟩,trivial⟩,
⟨⟨rfl,trivial⟩,
⟨⟨rfl,rfl⟩,trivial⟩,
⟨⟨Nat.le_refl _⟩,RowsEq.rfl'⟩,trivial⟩,trivial⟩,
fun k9 => fun h10 => ⟨rfl,
({ g := MS.g (FSx.m x1), i := List.getD (enumL { n := Gr.n (MS.g (FSx.m x1)), f := adjG (MS.g (FSx.m x1)) false, i := (↑(FSx.v x1) : Int) : LLx }) k9 default : GIx }),trivial,
⟨⟨rfl,rfl⟩,rfl,trivial⟩,
⟨⟨⟨Nat.le_refl _⟩,RowsEq.rfl'⟩,trivial⟩,
⟨(by obtain ⟨i, F⟩ := fs_f h2 h10; have q1 := F.lt; have q2 := F.ok; have q3 := F.df; have q4 := F.wr; have q5 := h2.ts; have q6 := h2.dl; have q7 := h2.sl; have q8 := h2.v; unfold edOk at q2; simp only [F.e, F.ed, Nat.zero_add, Int.toNat_natCast] at *; omega),
(by obtain ⟨i, F⟩ := fs_f h2 h10; have q1 := F.lt; have q2 := F.ok; have q3 := F.df; have q4 := F.wr; have q5 := h2.ts; have q6 := h2.dl; have q7 := h2.sl; have q8 := h2.v; unfold edOk at q2; simp only [F.e, F.ed, Nat.zero_add, Int.toNat_natCast] at *; omega)⟩,
(by obtain ⟨i, F⟩ := fs_f h2 h10; have q1 := F.lt; have q2 := F.ok; have q3 := F.df; have q4 := F.wr; have q5 := h2.ts; have q6 := h2.dl; have q7 := h2.sl; have q8 := h2.v; unfold edOk at q2; simp only [F.e, F.ed, Nat.zero_add, Int.toNat_natCast] at *; omega),
fun g12 => have h12 := of_decide_eq_false g12; ⟨⟨(by obtain ⟨i, F⟩ := fs_f h2 h10; have q1 := F.lt; have q2 := F.ok; have q3 := F.df; have q4 := F.wr; have q5 := h2.ts; have q6 := h2.dl; have q7 := h2.sl; have q8 := h2.v; unfold edOk at q2; simp only [F.e, F.ed, Nat.zero_add, Int.toNat_natCast] at *; omega),
(by obtain ⟨i, F⟩ := fs_f h2 h10; have q1 := F.lt; have q2 := F.ok; have q3 := F.df; have q4 := F.wr; have q5 := h2.ts; have q6 := h2.dl; have q7 := h2.sl; have q8 := h2.v; unfold edOk at q2; simp only [F.e, F.ed, Nat.zero_add, Int.toNat_natCast] at *; omega)⟩,
(by obtain ⟨i, F⟩ := fs_f h2 h10; have q1 := F.lt; have q2 := F.ok; have q3 := F.df; have q4 := F.wr; have q5 := h2.ts; have q6 := h2.dl; have q7 := h2.sl; have q8 := h2.v; unfold edOk at q2; simp only [F.e, F.ed, Nat.zero_add, Int.toNat_natCast] at *; omega),
fun g13 => have h13 := of_decide_eq_true g13; ⟨trivial,
⟨⟨rfl,rfl⟩,
⟨rfl,rfl⟩,
⟨rfl,rfl⟩,trivial⟩,
⟨⟨rfl,rfl⟩,trivial⟩,
⟨rfl,trivial⟩,
⟨(by obtain ⟨i, F⟩ := fs_f h2 h10; simp only [F.e, F.ed, Nat.zero_add, Int.toNat_natCast] at *; first | exact (fs_skip F (.inr (by assumption))).symm | exact (fs_skip F (.inl (by assumption))).symm | exact (fs_off F (fun q => q.elim h12 h14) (by assumption)).symm),trivial⟩,
⟨rfl,trivial⟩,
⟨⟨rfl,rfl⟩,trivial⟩,
⟨⟨Nat.le_refl _⟩,RowsEq.rfl'⟩,
⟨⟨rfl,rfl⟩,
⟨rfl,rfl⟩,
⟨rfl,rfl⟩,
⟨rfl,rfl⟩,
⟨rfl,rfl⟩,rfl,trivial⟩,
⟨⟨Nat.le_refl _⟩,RowsEq.rfl'⟩,
⟨⟨Nat.le_refl _⟩,RowsEq.rfl'⟩,
⟨⟨Nat.le_refl _⟩,RowsEq.rfl'⟩,
⟨⟨Nat.le_refl _⟩,RowsEq.rfl'⟩,
⟨⟨Nat.le_refl _⟩,RowsEq.rfl'⟩,trivial⟩,
fun g14 => have h14 := of_decide_eq_false g14; ⟨⟨(by obtain ⟨i, F⟩ := fs_f h2 h10; have q1 := F.lt; have q2 := F.ok; have q3 := F.df; have q4 := F.wr; have q5 := h2.ts; have q6 := h2.dl; have q7 := h2.sl; have q8 := h2.v; unfold edOk at q2; simp only [F.e, F.ed, Nat.zero_add, Int.toNat_natCast] at *; omega),
(by obtain ⟨i, F⟩ := fs_f h2 h10; have q1 := F.lt; have q2 := F.ok; have q3 := F.df; have q4 := F.wr; have q5 := h2.ts; have q6 := h2.dl; have q7 := h2.sl; have q8 := h2.v; unfold edOk at q2; simp only [F.e, F.ed, Nat.zero_add, Int.toNat_natCast] at *; omega)⟩,
(by obtain ⟨i, F⟩ := fs_f h2 h10; have q1 := F.lt; have q2 := F.ok; have q3 := F.df; have q4 := F.wr; have q5 := h2.ts; have q6 := h2.dl; have q7 := h2.sl; have q8 := h2.v; unfold edOk at q2; simp only [F.e, F.ed, Nat.zero_add, Int.toNat_natCast] at *; omega),
⟨(by obtain ⟨i, F⟩ := fs_f h2 h10; have q1 := F.lt; have q2 := F.ok; have q3 := F.df; have q4 := F.wr; have q5 := h2.ts; have q6 := h2.dl; have q7 := h2.sl; have q8 := h2.v; unfold edOk at q2; simp only [F.e, F.ed, Nat.zero_add, Int.toNat_natCast] at *; omega),
(by obtain ⟨i, F⟩ := fs_f h2 h10; have q1 := F.lt; have q2 := F.ok; have q3 := F.df; have q4 := F.wr; have q5 := h2.ts; have q6 := h2.dl; have q7 := h2.sl; have q8 := h2.v; unfold edOk at q2; simp only [F.e, F.ed, Nat.zero_add, Int.toNat_natCast] at *; omega)⟩,
(by obtain ⟨i, F⟩ := fs_f h2 h10; have q1 := F.lt; have q2 := F.ok; have q3 := F.df; have q4 := F.wr; have q5 := h2.ts; have q6 := h2.dl; have q7 := h2.sl; have q8 := h2.v; unfold edOk at q2; simp only [F.e, F.ed, Nat.zero_add, Int.toNat_natCast] at *; omega),
⟨(by obtain ⟨i, F⟩ := fs_f h2 h10; have q1 := F.lt; have q2 := F.ok; have q3 := F.df; have q4 := F.wr; have q5 := h2.ts; have q6 := h2.dl; have q7 := h2.sl; have q8 := h2.v; unfold edOk at q2; simp only [F.e, F.ed, Nat.zero_add, Int.toNat_natCast] at *; omega),
(by obtain ⟨i, F⟩ := fs_f h2 h10; have q1 := F.lt; have q2 := F.ok; have q3 := F.df; have q4 := F.wr; have q5 := h2.ts; have q6 := h2.dl; have q7 := h2.sl; have q8 := h2.v; unfold edOk at q2; simp only [F.e, F.ed, Nat.zero_add, Int.toNat_natCast] at *; omega)⟩,
⟨(by omega),
(by obtain ⟨i, F⟩ := fs_f h2 h10; have q1 := F.lt; have q2 := F.ok; have q3 := F.df; have q4 := F.wr; have q5 := h2.ts; have q6 := h2.dl; have q7 := h2.sl; have q8 := h2.v; unfold edOk at q2; simp only [F.e, F.ed, Nat.zero_add, Int.toNat_natCast] at *; omega)⟩,
(by obtain ⟨i, F⟩ := fs_f h2 h10; have q1 := F.lt; have q2 := F.ok; have q3 := F.df; have q4 := F.wr; have q5 := h2.ts; have q6 := h2.dl; have q7 := h2.sl; have q8 := h2.v; unfold edOk at q2; simp only [F.e, F.ed, Nat.zero_add, Int.toNat_natCast] at *; omega),
fun g15 => have h15 := of_decide_eq_true g15; ⟨trivial,
⟨⟨rfl,rfl⟩,
⟨rfl,rfl⟩,
⟨rfl,rfl⟩,trivial⟩,
⟨⟨rfl,rfl⟩,trivial⟩,
⟨rfl,trivial⟩,
⟨(by obtain ⟨i, F⟩ := fs_f h2 h10; simp only [F.e, F.ed, Nat.zero_add, Int.toNat_natCast] at *; first | exact (fs_skip F (.inr (by assumption))).symm | exact (fs_skip F (.inl (by assumption))).symm | exact (fs_off F (fun q => q.elim h12 h14) (by assumption)).symm),trivial⟩,
⟨rfl,trivial⟩,
⟨⟨rfl,rfl⟩,trivial⟩,
⟨⟨Nat.le_refl _⟩,RowsEq.rfl'⟩,
⟨⟨rfl,rfl⟩,
⟨rfl,rfl⟩,
⟨rfl,rfl⟩,
⟨rfl,rfl⟩,
⟨rfl,rfl⟩,rfl,trivial⟩,
⟨⟨Nat.le_refl _⟩,RowsEq.rfl'⟩,
⟨⟨Nat.le_refl _⟩,RowsEq.rfl'⟩,
⟨⟨Nat.le_refl _⟩,RowsEq.rfl'⟩,
⟨⟨Nat.le_refl _⟩,RowsEq.rfl'⟩,
⟨⟨Nat.le_refl _⟩,RowsEq.rfl'⟩,trivial⟩,
fun g16 => have h16 := of_decide_eq_false g16; ⟨⟨(by obtain ⟨i, F⟩ := fs_f h2 h10; have q1 := F.lt; have q2 := F.ok; have q3 := F.df; have q4 := F.wr; have q5 := h2.ts; have q6 := h2.dl; have q7 := h2.sl; have q8 := h2.v; unfold edOk at q2; simp only [F.e, F.ed, Nat.zero_add, Int.toNat_natCast] at *; omega),
(by obtain ⟨i, F⟩ := fs_f h2 h10; have q1 := F.lt; have q2 := F.ok; have q3 := F.df; have q4 := F.wr; have q5 := h2.ts; have q6 := h2.dl; have q7 := h2.sl; have q8 := h2.v; unfold edOk at q2; simp only [F.e, F.ed, Nat.zero_add, Int.toNat_natCast] at *; omega)⟩,
(by obtain ⟨i, F⟩ := fs_f h2 h10; have q1 := F.lt; have q2 := F.ok; have q3 := F.df; have q4 := F.wr; have q5 := h2.ts; have q6 := h2.dl; have q7 := h2.sl; have q8 := h2.v; unfold edOk at q2; simp only [F.e, F.ed, Nat.zero_add, Int.toNat_natCast] at *; omega),
fun g17 => have h17 := of_decide_eq_false g17; ⟨fun g18 => have h18 := of_decide_eq_true g18; ⟨trivial,
⟨⟨rfl,rfl⟩,
⟨rfl,rfl⟩,
⟨rfl,rfl⟩,trivial⟩,
⟨⟨rfl,rfl⟩,trivial⟩,
⟨rfl,trivial⟩,
⟨(by obtain ⟨i, F⟩ := fs_f h2 h10; simp only [F.e, F.ed, Nat.zero_add, Int.toNat_natCast] at *; rw [fs_on F (fun q => q.elim h12 h14) h16]; first | rw [if_pos (.inl (by assumption))] | rw [if_pos (.inr (by assumption))] | rw [if_neg (fun q => q.elim (by assumption) (by assumption))]),trivial⟩,
⟨rfl,trivial⟩,
⟨⟨rfl,rfl⟩,trivial⟩,
⟨⟨Nat.le_refl _⟩,RowsEq.rfl'⟩,
⟨⟨rfl,rfl⟩,
⟨rfl,rfl⟩,
⟨rfl,rfl⟩,
⟨rfl,rfl⟩,
⟨rfl,rfl⟩,rfl,trivial⟩,
⟨⟨Nat.le_refl _⟩,RowsEq.rfl'⟩,
⟨⟨Nat.le_refl _⟩,RowsEq.rfl'⟩,
⟨⟨Nat.le_refl _⟩,RowsEq.rfl'⟩,
⟨⟨Nat.le_refl _⟩,RowsEq.rfl'⟩,
⟨⟨Nat.le_refl _⟩,RowsEq.rfl'⟩,trivial⟩,
fun g19 => have h19 := of_decide_eq_false g19; ⟨trivial,
⟨⟨rfl,rfl⟩,
⟨rfl,rfl⟩,
⟨rfl,rfl⟩,trivial⟩,
⟨⟨rfl,rfl⟩,trivial⟩,
⟨rfl,trivial⟩,
⟨(by obtain ⟨i, F⟩ := fs_f h2 h10; simp only [F.e, F.ed, Nat.zero_add, Int.toNat_natCast] at *; rw [fs_on F (fun q => q.elim h12 h14) h16]; first | rw [if_pos (.inl (by assumption))] | rw [if_pos (.inr (by assumption))] | rw [if_neg (fun q => q.elim (by assumption) (by assumption))]),trivial⟩,
⟨rfl,trivial⟩,
⟨⟨rfl,rfl⟩,trivial⟩,
⟨⟨Nat.le_refl _⟩,RowsEq.rfl'⟩,
⟨⟨rfl,rfl⟩,
⟨rfl,rfl⟩,
⟨rfl,rfl⟩,
⟨rfl,rfl⟩,
⟨rfl,rfl⟩,rfl,trivial⟩,
⟨⟨Nat.le_refl _⟩,RowsEq.rfl'⟩,
⟨⟨Nat.le_refl _⟩,RowsEq.rfl'⟩,
⟨⟨Nat.le_refl _⟩,RowsEq.rfl'⟩,
⟨⟨Nat.le_refl _⟩,RowsEq.rfl'⟩,
⟨⟨Nat.le_refl _⟩,RowsEq.rfl'⟩,trivial⟩⟩,
fun g20 => have h20 := of_decide_eq_true g20; ⟨trivial,
⟨⟨rfl,rfl⟩,
⟨rfl,rfl⟩,
⟨rfl,rfl⟩,trivial⟩,
⟨⟨rfl,rfl⟩,trivial⟩,
⟨rfl,trivial⟩,
⟨(by obtain ⟨i, F⟩ := fs_f h2 h10; simp only [F.e, F.ed, Nat.zero_add, Int.toNat_natCast] at *; rw [fs_on F (fun q => q.elim h12 h14) h16]; first | rw [if_pos (.inl (by assumption))] | rw [if_pos (.inr (by assumption))] | rw [if_neg (fun q => q.elim (by assumption) (by assumption))]),trivial⟩,
⟨rfl,trivial⟩,
⟨⟨rfl,rfl⟩,trivial⟩,
⟨⟨Nat.le_refl _⟩,RowsEq.rfl'⟩,
⟨⟨rfl,rfl⟩,
⟨rfl,rfl⟩,
⟨rfl,rfl⟩,
⟨rfl,rfl⟩,
⟨rfl,rfl⟩,rfl,trivial⟩,
⟨⟨Nat.le_refl _⟩,RowsEq.rfl'⟩,
⟨⟨Nat.le_refl _⟩,RowsEq.rfl'⟩,
⟨⟨Nat.le_refl _⟩,RowsEq.rfl'⟩,
⟨⟨Nat.le_refl _⟩,RowsEq.rfl'⟩,
⟨⟨Nat.le_refl _⟩,RowsEq.rfl'⟩,trivial⟩⟩⟩⟩,
fun g21 => have h21 := of_decide_eq_true g21; ⟨trivial,
⟨⟨rfl,rfl⟩,
⟨rfl,rfl⟩,
⟨rfl,rfl⟩,trivial⟩,
⟨⟨rfl,rfl⟩,trivial⟩,
⟨rfl,trivial⟩,
⟨(by obtain ⟨i, F⟩ := fs_f h2 h10; simp only [F.e, F.ed, Nat.zero_add, Int.toNat_natCast] at *; first | exact (fs_skip F (.inr (by assumption))).symm | exact (fs_skip F (.inl (by assumption))).symm | exact (fs_off F (fun q => q.elim h12 h14) (by assumption)).symm),trivial⟩,
⟨rfl,trivial⟩,
⟨⟨rfl,rfl⟩,trivial⟩,
⟨⟨Nat.le_refl _⟩,RowsEq.rfl'⟩,
⟨⟨rfl,rfl⟩,
⟨rfl,rfl⟩,
⟨rfl,rfl⟩,
⟨rfl,rfl⟩,
⟨rfl,rfl⟩,rfl,trivial⟩,
⟨⟨Nat.le_refl _⟩,RowsEq.rfl'⟩,
⟨⟨Nat.le_refl _⟩,RowsEq.rfl'⟩,
⟨⟨Nat.le_refl _⟩,RowsEq.rfl'⟩,
⟨⟨Nat.le_refl _⟩,RowsEq.rfl'⟩,
⟨⟨Nat.le_refl _⟩,RowsEq.rfl'⟩,trivial⟩⟩,
(by rw [fs_enum h2, adjG_eq, List.length_map]; first | exact Nat.le_refl _ | rfl),trivial,
⟨rfl,trivial⟩,trivial⟩)
theorem conJ5 : ConOk Try.prog cfgJ5 := ConL.ok (.cons (ConL.one edge_good) .nil)
theorem findLoop_good : LoopGood Try.prog Try.f33.ntmps (rf0 Try.f33 0) findS.lc := loop_good tok conJ5 ⟨rfl, rfl, rfl⟩ enumIt_good (by decide +kernel) find_loop
def findC : CT where
 X := FSx
 pre := FSok
 args := fun x => [.p 100000 0 0, .i .i64 (x.v : Nat)]
 g0 := fun x => msH x.m 100000 .bor
 res := fun x => .i .i64 (findF x.m x.m.dist x.m.so x.v)
 g1 := fun _ => []
def cfgJ6 : Cfg := ⟨T, [], [(36, .one (outC false))], noInv, 21, { lps := [(24, findS.lc)] }⟩
theorem conJ6 : ConOk Try.prog cfgJ6 := ConL.ok (.cons (ConL.one in_good) .nil)
theorem find_yes {x : FSx} (h : x.m.src.getD x.v default = true) : findF x.m x.m.dist x.m.so x.v = x.v := if_pos h
theorem find_no {x : FSx} (h : x.m.src.getD x.v default = false) : findF x.m x.m.dist x.m.so x.v = fsAt x (fsM x) := by
 unfold findF fsAt findAt fsM; rw [if_neg (by rw [h]; decide), List.take_length]
set_option maxRecDepth 100000 in
theorem find_keeps : Keeps cfgJ6 Try.f33 findC noIv := Eq.mp (show ((∀ x1 : FSx, ((FSok x1)-> ((((0 : Int) <= (x1.v : Int))/\((x1.v : Int) < (x1.m.g.n : Int)))/\((0 + Int.toNat (x1.v : Int) < x1.m.g.n)/\(((x1.m.src.getD (0 + Int.toNat (x1.v : Int)) default = true)-> (((x1.v : Int) = findF x1.m x1.m.dist x1.m.so x1.v)/\True))/\((x1.m.src.getD (0 + Int.toNat (x1.v : Int)) default = false)-> (∃ x5 : GIx, (True/\(((0=0 /\ 0=0)/\(((x1.v : Int) = x5.i)/\True))/\(((RLe 1 1/\(RowsEq [.sl [.int .i64, .int .i64, .int .i64], .sl [.sl [.int .i64]], .sl [.sl [.int .i64]]] 1 (encG x1.m.g) (encG x5.g)))/\True)/\(∃ x6 : LS.X findS, ((FSok x6)/\(((0=0 /\ 0=0)/\((0=0 /\ 0=0)/\((0=0 /\ 0=0)/\(((0=0 /\ 0=0)/\((0=0 /\ 0=0)/\True))/\True))))/\((((0=0 /\ 0=0)/\True)/\((((x1.v : Int) = (↑(FSx.v x6) : Int))/\True)/\((((-1 : Int) = -1)/\True)/\(((x5.i = (↑(FSx.v x6) : Int))/\True)/\(((0=0/\(x5.g.n = (FSx.m x6).g.n))/\True)/\(((RLe (FSx.m x6).g.n x5.g.n)/\(RowsEq [.sl [.int .i64]] (FSx.m x6).g.n (encLL (adjG x5.g false)) (encLL (adjG (FSx.m x6).g false))))/\(((0=0 /\ 0=0)/\((0=0/\(x1.m.g.es.length = (FSx.m x6).g.es.length))/\((0=0/\(x1.m.g.n = (FSx.m x6).g.n))/\((0=0/\(x1.m.dist.length = (FSx.m x6).dist.length))/\((0=0/\(x1.m.so.length = (FSx.m x6).so.length))/\((x1.m.od = (FSx.m x6).od)/\True))))))/\((RLe 1 1/\(RowsEq [.sl [.int .i64, .int .i64, .int .i64], .sl [.sl [.int .i64]], .sl [.sl [.int .i64]]] 1 (encG x1.m.g) (encG (FSx.m x6).g)))/\(((RLe (FSx.m x6).g.es.length x1.m.g.es.length)/\(RowsEq [.int .i64] (FSx.m x6).g.es.length (encL encI x1.m.ts) (encL encI (FSx.m x6).ts)))/\(((RLe (FSx.m x6).g.n x1.m.g.n)/\(RowsEq (Kd.bool :: []) (FSx.m x6).g.n (encL encBo x1.m.src) (encL encBo (FSx.m x6).src)))/\(((RLe (FSx.m x6).dist.length x1.m.dist.length)/\(RowsEq [.int .i64] (FSx.m x6).dist.length (encL encI x1.m.dist) (encL encI (FSx.m x6).dist)))/\(((RLe (FSx.m x6).so.length x1.m.so.length)/\(RowsEq [.int .i64] (FSx.m x6).so.length (encL encI x1.m.so) (encL encI (FSx.m x6).so)))/\True))))))))))))/\((fsAt x6 (fsM x6) = findF x1.m x1.m.dist x1.m.so x1.v)/\True)))))))))))))))) = (Keeps cfgJ6 Try.f33 findC noIv) by kernel_rfl) (fun x1 => fun h2 => ⟨⟨(by omega),
(by have := h2.v; omega)⟩,
(by have := h2.v; omega),
fun h3 => ⟨(by simp only [Nat.zero_add, Int.toNat_natCast] at *; exact (find_yes (x := x1) ‹_›).symm),trivial⟩,
fun h4 => ⟨({ g := MS.g (FSx.m x1), i := (↑(FSx.v x1) : Int) : GIx }),trivial,
⟨⟨rfl,rfl⟩,rfl,trivial⟩,
⟨⟨⟨Nat.le_refl _⟩,RowsEq.rfl'⟩,trivial⟩,
(x1),
(by omega),
⟨⟨rfl,rfl⟩,
⟨rfl,rfl⟩,
⟨rfl,rfl⟩,
⟨⟨rfl,rfl⟩,
⟨rfl,rfl⟩,trivial⟩,trivial⟩,
⟨⟨⟨rfl,rfl⟩,trivial⟩,
⟨rfl,trivial⟩,
⟨rfl,trivial⟩,
⟨rfl,trivial⟩,
⟨⟨rfl,rfl⟩,trivial⟩,
⟨⟨Nat.le_refl _⟩,RowsEq.rfl'⟩,
⟨⟨rfl,rfl⟩,
⟨rfl,rfl⟩,
⟨rfl,rfl⟩,
⟨rfl,rfl⟩,
⟨rfl,rfl⟩,rfl,trivial⟩,
⟨⟨Nat.le_refl _⟩,RowsEq.rfl'⟩,
⟨⟨Nat.le_refl _⟩,RowsEq.rfl'⟩,
⟨⟨Nat.le_refl _⟩,RowsEq.rfl'⟩,
⟨⟨Nat.le_refl _⟩,RowsEq.rfl'⟩,
⟨⟨Nat.le_refl _⟩,RowsEq.rfl'⟩,trivial⟩,
(by simp only [Nat.zero_add, Int.toNat_natCast] at *; exact (find_no (x := x1) ‹_›).symm),trivial⟩⟩)
theorem find_good : Good Try.prog 33 findC /\ FnOk Try.prog 33 :=
 good_ofX tok conJ6 (fn := Try.f33) rfl (by decide +kernel) (fun _ => rfl) find_keeps (fun g hg => by cases hg) (one_loop rfl findLoop_good)
end Go.Sym