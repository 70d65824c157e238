import Derived.Test.YtmomlgnnbpkgcaaP4
import Derived.Test.YtmomlgnnbpkgcaaXD
namespace Go.Sym
set_option linter.unusedVariables false
set_option linter.unusedSimpArgs false
open Go.Proofs
def adjN (g : Gr) (s : Bool) (x : Nat) : List Nat := (List.range g.es.length).filter fun i => cond s (g.es.getD i default).f (g.es.getD i default).t == (x : Int)
theorem adjG_eq (g : Gr) (s : Bool) (x : Nat) : adjG g s x = (adjN g s x).map fun (i : Nat) => (i : Int) := rfl
theorem adjN_mem {g : Gr} {s : Bool} {x i : Nat} : i ∈ adjN g s x ↔ i < g.es.length /\ cond s (g.es.getD i default).f (g.es.getD i default).t = (x : Int) := by
 unfold adjN; rw [List.mem_filter, List.mem_range]; simp
theorem adjN_len (g : Gr) (s : Bool) (x : Nat) : (adjN g s x).length <= g.es.length := by
 unfold adjN; have := List.length_filter_le (fun i => cond s (g.es.getD i default).f (g.es.getD i default).t == (x : Int)) (List.range g.es.length); simpa using this
structure SLx where
 g : Gr
 ws : List Int
 fwd : Bool
 d : List Int
 q : List Int
 dist : Int
 node : Nat
def SLx.N (x : SLx) : WNet := netG x.g x.ws x.fwd
def dqAt (x : SLx) (k : Nat) : List Int × List Int := ((adjN x.g x.fwd x.node).take k).foldl (stepE x.N x.dist) (x.d, x.q)
def SLx.m (x : SLx) : Nat := (adjN x.g x.fwd x.node).length
structure SLok (x : SLx) : Prop where
 g : GOk x.g
 w : WsOk x.g x.ws
 d : x.d.length = x.g.n
 q : x.q.length <= 1000000000
 dist : 0 <= x.dist /\ x.dist <= 1099511627776
 node : x.node < x.g.n
def srchS : LS where
 it := enumIt
 g := 68
 X := SLx
 pre := SLok
 slots := [4, 5, 7, 9, 11, 15]
 vals := fun _ => [.p 100000 0 0, .p 100001 0 0, .p 100002 0 0, .p 100003 0 0, .p 100004 0 0, .p 100005 0 0]
 caps := fun _ => [.p 100006 0 0, .p 100007 0 0]
 g0 := fun x => [(100000, .one .bor [.p 100010 0 0]), (100010, .rows .bor kG 1 (encG x.g)), (100001, .one .bor [.sl 100011 0 x.g.es.length]), (100011, .rows .bor k1 x.g.es.length (encL encI x.ws)),
  (100002, .one .bor [.b x.fwd]), (100003, .one .bor [.sl 100013 0 x.g.n]), (100013, .rows .own k1 x.g.n (encL encI x.d)), (100004, .one .own [.sl 100014 0 x.q.length]), (100014, .rows .own k1 x.q.length (encL encI x.q)),
  (100005, .one .bor [.i .i64 x.dist]), (100006, .one .bor [.i .i64 (x.node : Nat)]), (100007, .one .bor [.sl 100017 0 x.g.n]), (100017, .rows .bor kLL x.g.n (encLL (adjG x.g x.fwd)))]
 g1 := fun x => [(100013, .rows .own k1 x.g.n (encL encI (dqAt x x.m).1)), (100004, .one .own [.sl 1 0 (dqAt x x.m).2.length]), (100014, .dead), (1, .rows .own k1 (dqAt x x.m).2.length (encL encI (dqAt x x.m).2))]
 hp := fun x k => [(100000, .one .bor [.p 100010 0 0]), (100010, .rows .bor kG 1 (encG x.g)), (100001, .one .bor [.sl 100011 0 x.g.es.length]), (100011, .rows .bor k1 x.g.es.length (encL encI x.ws)),
  (100002, .one .bor [.b x.fwd]), (100003, .one .bor [.sl 100013 0 x.g.n]), (100013, .rows .own k1 x.g.n (encL encI (dqAt x k).1)), (100004, .one .own [.sl 8 0 (dqAt x k).2.length]), (8, .rows .own k1 (dqAt x k).2.length (encL encI (dqAt x k).2)), (100014, .dead),
  (100005, .one .bor [.i .i64 x.dist]), (100006, .one .bor [.i .i64 (x.node : Nat)]), (100007, .one .bor [.sl 100017 0 x.g.n]), (100017, .rows .bor kLL x.g.n (encLL (adjG x.g x.fwd)))]
 y := fun x => ⟨x.g.n, adjG x.g x.fwd, (x.node : Nat)⟩
 m := fun x => x.m
def cfgSL : Cfg := ⟨T, [], [(58, .one edgeC), (54, .one pushC)], noInv, 20, { scp := false }⟩
structure SLf (x : SLx) (k i : Nat) : Prop where
 e : (enumL ⟨x.g.n, adjG x.g x.fwd, (x.node : Nat)⟩).getD k default = (i : Int)
 lt : i < x.g.es.length
 ed : edAt ⟨x.g, (i : Int)⟩ = x.g.es.getD i default
 ok : edOk x.g.n (x.g.es.getD i default)
 st : dqAt x (k + 1) = stepE x.N x.dist (dqAt x k) i
 ln : (dqAt x k).1.length = x.g.n
 qn : (dqAt x k).2.length <= 1000000000 + 16384
 wr : x.ws.getD i default = INF ∨ (1 <= x.ws.getD i default /\ x.ws.getD i default <= 1048576)
theorem stepE_len (N : WNet) (dist : Int) (s : List Int × List Int) (i : Nat) : (stepE N dist s i).1.length = s.1.length /\ (stepE N dist s i).2.length <= s.2.length + 1 := by
 unfold stepE; split
 ·exact ⟨List.length_set, by rw [pushF_len]; exact Nat.le_refl _⟩
 ·exact ⟨rfl, Nat.le_succ _⟩
theorem dqAt_len (x : SLx) : ∀ k, (dqAt x k).1.length = x.d.length /\ (dqAt x k).2.length <= x.q.length + k := by
 intro k
 unfold dqAt
 have key : ∀ (l : List Nat) (s : List Int × List Int), (l.foldl (stepE x.N x.dist) s).1.length = s.1.length /\ (l.foldl (stepE x.N x.dist) s).2.length <= s.2.length + l.length := by
  intro l
  induction l with
  | nil => intro s; exact ⟨rfl, Nat.le_refl _⟩
  | cons a l ih =>
   intro s
   have h1 := stepE_len x.N x.dist s a
   have h2 := ih (stepE x.N x.dist s a)
   rw [List.foldl_cons]
   exact ⟨h2.1.trans h1.1, by rw [List.length_cons]; omega⟩
 have h := key ((adjN x.g x.fwd x.node).take k) (x.d, x.q)
 have := List.length_take_le k (adjN x.g x.fwd x.node)
 exact ⟨h.1, by have h2 : _ <= x.q.length + ((adjN x.g x.fwd x.node).take k).length := h.2; omega⟩
theorem sl_enum {x : SLx} (h : SLok x) : enumL ⟨x.g.n, adjG x.g x.fwd, (x.node : Nat)⟩ = adjG x.g x.fwd x.node := by
 unfold enumL
 have := h.node
 rw [if_pos (by dsimp only; omega)]
 rfl
theorem sl_f {x : SLx} (h : SLok x) {k : Nat} (hk : k < x.m) : ∃ i, SLf x k i := by
 have hk' : k < (adjN x.g x.fwd x.node).length := hk
 have hm := List.getElem_mem hk'
 have hi := adjN_mem.1 hm
 have hl := dqAt_len x k
 have hq := h.q
 have hmn := adjN_len x.g x.fwd x.node
 have hme := h.g.m
 refine ⟨(adjN x.g x.fwd x.node)[k], ?_, hi.1, ?_, h.g.e _ hi.1, ?_, hl.1.trans h.d, ?_, h.w.ok _ hi.1⟩
 ·rw [sl_enum h, adjG_eq]
  simp [List.getD_eq_getElem?_getD, hk']
 ·rw [edAt_yes (by dsimp only; omega)]
  rfl
 ·unfold dqAt
  rw [List.take_succ_eq_append_getElem hk', List.foldl_append]
  rfl
 ·have := hl.2; omega
theorem st_no {x : SLx} {k i : Nat} (F : SLf x k i) (h1 : ¬ (x.ws.getD i default ≠ 4611686018427387904)) : dqAt x (k + 1) = dqAt x k := by
 rw [F.st]; unfold stepE; rw [if_neg (fun q => h1 q.1)]
theorem st_no1 {x : SLx} {k i : Nat} (F : SLf x k i) (hf : x.fwd = true) (h2 : ¬ x.dist + x.ws.getD i default < (dqAt x k).1.getD (0 + (x.g.es.getD i default).t.toNat) default) : dqAt x (k + 1) = dqAt x k := by
 rw [F.st]; unfold stepE; rw [if_neg]
 rintro ⟨_, q⟩
 have e : x.N.t i = (x.g.es.getD i default).t.toNat := by simp only [SLx.N, netG, hf, cond]
 rw [e] at q
 rw [Nat.zero_add] at h2
 exact h2 q
theorem st_no2 {x : SLx} {k i : Nat} (F : SLf x k i) (hf : x.fwd = false) (h2 : ¬ x.dist + x.ws.getD i default < (dqAt x k).1.getD (0 + (x.g.es.getD i default).f.toNat) default) : dqAt x (k + 1) = dqAt x k := by
 rw [F.st]; unfold stepE; rw [if_neg]
 rintro ⟨_, q⟩
 have e : x.N.t i = (x.g.es.getD i default).f.toNat := by simp only [SLx.N, netG, hf, cond]
 rw [e] at q
 rw [Nat.zero_add] at h2
 exact h2 q
theorem st_yes1 {x : SLx} {k i : Nat} (F : SLf x k i) (hf : x.fwd = true) (h1 : x.ws.getD i default ≠ 4611686018427387904) (h2 : x.dist + x.ws.getD i default < (dqAt x k).1.getD (0 + (x.g.es.getD i default).t.toNat) default) :
  dqAt x (k + 1) = ((dqAt x k).1.set (0 + (x.g.es.getD i default).t.toNat) (x.dist + x.ws.getD i default), pushF (dqAt x k).2 ((x.dist + x.ws.getD i default) * 4096 + (x.g.es.getD i default).t)) := by
 have e : x.N.t i = (x.g.es.getD i default).t.toNat := by simp only [SLx.N, netG, hf, cond]
 have hok := F.ok
 unfold edOk at hok
 have e2 : (((x.g.es.getD i default).t.toNat : Nat) : Int) = (x.g.es.getD i default).t := by omega
 rw [Nat.zero_add] at h2 ⊢
 rw [F.st]; unfold stepE; rw [e, e2]
 exact if_pos ⟨h1, h2⟩
theorem st_yes2 {x : SLx} {k i : Nat} (F : SLf x k i) (hf : x.fwd = false) (h1 : x.ws.getD i default ≠ 4611686018427387904) (h2 : x.dist + x.ws.getD i default < (dqAt x k).1.getD (0 + (x.g.es.getD i default).f.toNat) default) :
  dqAt x (k + 1) = ((dqAt x k).1.set (0 + (x.g.es.getD i default).f.toNat) (x.dist + x.ws.getD i default), pushF (dqAt x k).2 ((x.dist + x.ws.getD i default) * 4096 + (x.g.es.getD i default).f)) := by
 have e : x.N.t i = (x.g.es.getD i default).f.toNat := by simp only [SLx.N, netG, hf, cond]
 have hok := F.ok
 unfold edOk at hok
 have e2 : (((x.g.es.getD i default).f.toNat : Nat) : Int) = (x.g.es.getD i default).f := by omega
 rw [Nat.zero_add] at h2 ⊢
 rw [F.st]; unfold stepE; rw [e, e2]
 exact if_pos ⟨h1, h2⟩
theorem adj_small {x : SLx} (h : SLok x) (s : Bool) (j : Nat) : (adjG x.g s j).length <= 1073741824 := by
 have := adj_len x.g.es x.g.es.length s j
 have := h.g.m
 show (adj x.g.es x.g.es.length s j).length <= _
 omega
set_option maxRecDepth 100000 in
theorem srch_loop : KeepsLoop cfgSL (rf0 Try.f46 0).2.1.toList (rf0 Try.f46 0).2.2.1 (rf0 Try.f46 0).2.2.2 srchS := Eq.mp (show ((∀ x1 : SLx, ((SLok x1)-> ((((LLx.mk x1.g.n (adjG x1.g x1.fwd) (x1.node : Int)).n <= (1073741824 : Nat))/\(∀ j3 : Nat, ((j3 < (LLx.mk x1.g.n (adjG x1.g x1.fwd) (x1.node : Int)).n)-> (((LLx.mk x1.g.n (adjG x1.g x1.fwd) (x1.node : Int)).f j3).length <= (1073741824 : Nat)))))/\((SLx.m x1 <= (enumL (LLx.mk x1.g.n (adjG x1.g x1.fwd) (x1.node : Int))).length)/\((True/\(((0=0 /\ 0=0)/\((0=0 /\ 0=0)/\((0=0 /\ 0=0)/\((0=0 /\ 0=0)/\((0=0 /\ 0=0)/\((0=0 /\ 0=0)/\True))))))/\(((0=0 /\ 0=0)/\True)/\((RLe 1 1/\(RowsEq [.sl [.int .i64, .int .i64, .int .i64], .sl [.sl [.int .i64]], .sl [.sl [.int .i64]]] 1 (encG x1.g) (encG x1.g)))/\(((0=0 /\ x1.g.es.length = x1.g.es.length)/\True)/\(((RLe x1.g.es.length x1.g.es.length)/\(RowsEq [.int .i64] x1.g.es.length (encL encI x1.ws) (encL encI x1.ws)))/\((x1.fwd = x1.fwd/\True)/\(((0=0 /\ x1.g.n = x1.g.n)/\True)/\(((RLe x1.g.n x1.g.n)/\(RowsEq [.int .i64] x1.g.n (encL encI x1.d) (encL encI (Prod.fst (dqAt x1 0)))))/\(((0=0/\(x1.q.length = (Prod.snd (dqAt x1 0)).length))/\True)/\(((RLe (Prod.snd (dqAt x1 0)).length x1.q.length)/\(RowsEq [.int .i64] (Prod.snd (dqAt x1 0)).length (encL encI x1.q) (encL encI (Prod.snd (dqAt x1 0)))))/\(True/\((x1.dist = x1.dist/\True)/\((((x1.node : Int) = (x1.node : Int))/\True)/\(((0=0 /\ x1.g.n = x1.g.n)/\True)/\(((RLe x1.g.n x1.g.n)/\(RowsEq [.sl [.int .i64]] x1.g.n (encLL (adjG x1.g x1.fwd)) (encLL (adjG x1.g x1.fwd))))/\True))))))))))))))))/\((∀ k5 : Nat, ((k5 <= SLx.m x1)-> ((((LLx.mk x1.g.n (adjG x1.g x1.fwd) (x1.node : Int)).n <= (1073741824 : Nat))/\(∀ j7 : Nat, ((j7 < (LLx.mk x1.g.n (adjG x1.g x1.fwd) (x1.node : Int)).n)-> (((LLx.mk x1.g.n (adjG x1.g x1.fwd) (x1.node : Int)).f j7).length <= (1073741824 : Nat)))))/\(((0=0 /\ 0=0)/\((0=0 /\ 0=0)/\True))/\(((((x1.node : Int) = (LLx.mk x1.g.n (adjG x1.g x1.fwd) (x1.node : Int)).i)/\True)/\(((0=0/\(x1.g.n = (LLx.mk x1.g.n (adjG x1.g x1.fwd) (x1.node : Int)).n))/\True)/\(((RLe (LLx.mk x1.g.n (adjG x1.g x1.fwd) (x1.node : Int)).n x1.g.n)/\(RowsEq [.sl [.int .i64]] (LLx.mk x1.g.n (adjG x1.g x1.fwd) (x1.node : Int)).n (encLL (adjG x1.g x1.fwd)) (encLL (LLx.mk x1.g.n (adjG x1.g x1.fwd) (x1.node : Int)).f)))/\True)))/\True)))))/\((∀ k9 : Nat, ((k9 < SLx.m x1)-> ((Nat.beq (lenV (Value.int .i64 ((enumL (LLx.mk x1.g.n (adjG x1.g x1.fwd) (x1.node : Int))).getD k9 default) :: @List.nil Value)) (lenN (Array.toList (Prod.fst (Prod.snd (rf0 Try.f46 0))))) = true)/\(∃ x11 : GIx, (True/\(((0=0 /\ 0=0)/\(((enumL (LLx.mk x1.g.n (adjG x1.g x1.fwd) (x1.node : Int))).getD k9 default = x11.i)/\True))/\(((RLe 1 1/\(RowsEq [.sl [.int .i64, .int .i64, .int .i64], .sl [.sl [.int .i64]], .sl [.sl [.int .i64]]] 1 (encG x1.g) (encG x11.g)))/\True)/\((x1.fwd = true -> ((((0 : Int) <= (enumL (LLx.mk x1.g.n (adjG x1.g x1.fwd) (x1.node : Int))).getD k9 default)/\((enumL (LLx.mk x1.g.n (adjG x1.g x1.fwd) (x1.node : Int))).getD k9 default < (x1.g.es.length : Int)))/\((0 + Int.toNat ((enumL (LLx.mk x1.g.n (adjG x1.g x1.fwd) (x1.node : Int))).getD k9 default) < x1.g.es.length)/\(((decide (x1.ws.getD (0 + Int.toNat ((enumL (LLx.mk x1.g.n (adjG x1.g x1.fwd) (x1.node : Int))).getD k9 default)) default ≠ (4611686018427387904 : Int)) = true)-> ((((0 : Int) <= (enumL (LLx.mk x1.g.n (adjG x1.g x1.fwd) (x1.node : Int))).getD k9 default)/\((enumL (LLx.mk x1.g.n (adjG x1.g x1.fwd) (x1.node : Int))).getD k9 default < (x1.g.es.length : Int)))/\((0 + Int.toNat ((enumL (LLx.mk x1.g.n (adjG x1.g x1.fwd) (x1.node : Int))).getD k9 default) < x1.g.es.length)/\((((-9223372036854775808 : Int) <= x1.dist + x1.ws.getD (0 + Int.toNat ((enumL (LLx.mk x1.g.n (adjG x1.g x1.fwd) (x1.node : Int))).getD k9 default)) default)/\(x1.dist + x1.ws.getD (0 + Int.toNat ((enumL (LLx.mk x1.g.n (adjG x1.g x1.fwd) (x1.node : Int))).getD k9 default)) default <= (9223372036854775807 : Int)))/\((((0 : Int) <= (edAt x11).t)/\((edAt x11).t < (x1.g.n : Int)))/\((0 + Int.toNat (edAt x11).t < x1.g.n)/\(((decide (x1.dist + x1.ws.getD (0 + Int.toNat ((enumL (LLx.mk x1.g.n (adjG x1.g x1.fwd) (x1.node : Int))).getD k9 default)) default < (Prod.fst (dqAt x1 k9)).getD (0 + Int.toNat (edAt x11).t) default) = true)-> ((((0 : Int) <= (enumL (LLx.mk x1.g.n (adjG x1.g x1.fwd) (x1.node : Int))).getD k9 default)/\((enumL (LLx.mk x1.g.n (adjG x1.g x1.fwd) (x1.node : Int))).getD k9 default < (x1.g.es.length : Int)))/\((0 + Int.toNat ((enumL (LLx.mk x1.g.n (adjG x1.g x1.fwd) (x1.node : Int))).getD k9 default) < x1.g.es.length)/\((((-9223372036854775808 : Int) <= x1.dist + x1.ws.getD (0 + Int.toNat ((enumL (LLx.mk x1.g.n (adjG x1.g x1.fwd) (x1.node : Int))).getD k9 default)) default)/\(x1.dist + x1.ws.getD (0 + Int.toNat ((enumL (LLx.mk x1.g.n (adjG x1.g x1.fwd) (x1.node : Int))).getD k9 default)) default <= (9223372036854775807 : Int)))/\((((0 : Int) <= (edAt x11).t)/\((edAt x11).t < (x1.g.n : Int)))/\(((0 + Int.toNat (edAt x11).t < x1.g.n)/\(True/\True))/\((((0 : Int) <= (edAt x11).t)/\((edAt x11).t < (x1.g.n : Int)))/\((0 + Int.toNat (edAt x11).t < x1.g.n)/\(∃ x15 : QX, (((x15.q.length < (1073741824 : Nat))/\(((0 : Int) <= x15.d)/\((x15.d <= (1125899906842624 : Int))/\(((0 : Int) <= x15.v)/\(x15.v < (4096 : Int))))))/\(((0=0 /\ 0=0)/\((D.toI (if 0 + Int.toNat (edAt x11).t = 0 + Int.toNat (edAt x11).t then D.i (x1.dist + x1.ws.getD (0 + Int.toNat ((enumL (LLx.mk x1.g.n (adjG x1.g x1.fwd) (x1.node : Int))).getD k9 default)) default) else D.i ((Prod.fst (dqAt x1 k9)).getD (0 + Int.toNat (edAt x11).t) default)) = x15.d)/\(((edAt x11).t = x15.v)/\True)))/\((((0=0/\((Prod.snd (dqAt x1 k9)).length = x15.q.length))/\True)/\(((RLe x15.q.length (Prod.snd (dqAt x1 k9)).length)/\(RowsEq [.int .i64] x15.q.length (encL encI (Prod.snd (dqAt x1 k9))) (encL encI x15.q)))/\True))/\(True/\(((0=0 /\ 0=0)/\((0=0 /\ 0=0)/\((0=0 /\ 0=0)/\((0=0 /\ 0=0)/\((0=0 /\ 0=0)/\((0=0 /\ 0=0)/\True))))))/\(((0=0 /\ 0=0)/\True)/\((RLe 1 1/\(RowsEq [.sl [.int .i64, .int .i64, .int .i64], .sl [.sl [.int .i64]], .sl [.sl [.int .i64]]] 1 (encG x1.g) (encG x1.g)))/\(((0=0 /\ x1.g.es.length = x1.g.es.length)/\True)/\(((RLe x1.g.es.length x1.g.es.length)/\(RowsEq [.int .i64] x1.g.es.length (encL encI x1.ws) (encL encI x1.ws)))/\((x1.fwd = x1.fwd/\True)/\(((0=0 /\ x1.g.n = x1.g.n)/\True)/\(((RLe x1.g.n x1.g.n)/\(RowsEq [.int .i64] x1.g.n (setRow (encL encI (Prod.fst (dqAt x1 k9))) (0 + Int.toNat (edAt x11).t) 0 (D.i (x1.dist + x1.ws.getD (0 + Int.toNat ((enumL (LLx.mk x1.g.n (adjG x1.g x1.fwd) (x1.node : Int))).getD k9 default)) default) :: @List.nil D)) (encL encI (Prod.fst (dqAt x1 (k9 + (1 : Nat)))))))/\(((0=0/\(x15.q.length + (1 : Nat) = (Prod.snd (dqAt x1 (k9 + (1 : Nat)))).length))/\True)/\(((RLe (Prod.snd (dqAt x1 (k9 + (1 : Nat)))).length (x15.q.length + (1 : Nat)))/\(RowsEq [.int .i64] (Prod.snd (dqAt x1 (k9 + (1 : Nat)))).length (encL encI (pushF x15.q (x15.d * 4096 + x15.v))) (encL encI (Prod.snd (dqAt x1 (k9 + (1 : Nat)))))))/\(True/\((x1.dist = x1.dist/\True)/\((((x1.node : Int) = (x1.node : Int))/\True)/\(((0=0 /\ x1.g.n = x1.g.n)/\True)/\(((RLe x1.g.n x1.g.n)/\(RowsEq [.sl [.int .i64]] x1.g.n (encLL (adjG x1.g x1.fwd)) (encLL (adjG x1.g x1.fwd))))/\True))))))))))))))))))))))))))))/\((decide (x1.dist + x1.ws.getD (0 + Int.toNat ((enumL (LLx.mk x1.g.n (adjG x1.g x1.fwd) (x1.node : Int))).getD k9 default)) default < (Prod.fst (dqAt x1 k9)).getD (0 + Int.toNat (edAt x11).t) default) = false)-> (True/\(((0=0 /\ 0=0)/\((0=0 /\ 0=0)/\((0=0 /\ 0=0)/\((0=0 /\ 0=0)/\((0=0 /\ 0=0)/\((0=0 /\ 0=0)/\True))))))/\(((0=0 /\ 0=0)/\True)/\((RLe 1 1/\(RowsEq [.sl [.int .i64, .int .i64, .int .i64], .sl [.sl [.int .i64]], .sl [.sl [.int .i64]]] 1 (encG x1.g) (encG x1.g)))/\(((0=0 /\ x1.g.es.length = x1.g.es.length)/\True)/\(((RLe x1.g.es.length x1.g.es.length)/\(RowsEq [.int .i64] x1.g.es.length (encL encI x1.ws) (encL encI x1.ws)))/\((x1.fwd = x1.fwd/\True)/\(((0=0 /\ x1.g.n = x1.g.n)/\True)/\(((RLe x1.g.n x1.g.n)/\(RowsEq [.int .i64] x1.g.n (encL encI (Prod.fst (dqAt x1 k9))) (encL encI (Prod.fst (dqAt x1 (k9 + (1 : Nat)))))))/\(((0=0/\((Prod.snd (dqAt x1 k9)).length = (Prod.snd (dqAt x1 (k9 + (1 : Nat)))).length))/\True)/\(((RLe (Prod.snd (dqAt x1 (k9 + (1 : Nat)))).length (Prod.snd (dqAt x1 k9)).length)/\(RowsEq [.int .i64] (Prod.snd (dqAt x1 (k9 + (1 : Nat)))).length (encL encI (Prod.snd (dqAt x1 k9))) (encL encI (Prod.snd (dqAt x1 (k9 + (1 : Nat)))))))/\(True/\((x1.dist = x1.dist/\True)/\((((x1.node : Int) = (x1.node : Int))/\True)/\(((0=0 /\ x1.g.n = x1.g.n)/\True)/\(((RLe x1.g.n x1.g.n)/\(RowsEq [.sl [.int .i64]] x1.g.n (encLL (adjG x1.g x1.fwd)) (encLL (adjG x1.g x1.fwd))))/\True))))))))))))))))))))))))/\((decide (x1.ws.getD (0 + Int.toNat ((enumL (LLx.mk x1.g.n (adjG x1.g x1.fwd) (x1.node : Int))).getD k9 default)) default ≠ (4611686018427387904 : Int)) = false)-> (True/\(((0=0 /\ 0=0)/\((0=0 /\ 0=0)/\((0=0 /\ 0=0)/\((0=0 /\ 0=0)/\((0=0 /\ 0=0)/\((0=0 /\ 0=0)/\True))))))/\(((0=0 /\ 0=0)/\True)/\((RLe 1 1/\(RowsEq [.sl [.int .i64, .int .i64, .int .i64], .sl [.sl [.int .i64]], .sl [.sl [.int .i64]]] 1 (encG x1.g) (encG x1.g)))/\(((0=0 /\ x1.g.es.length = x1.g.es.length)/\True)/\(((RLe x1.g.es.length x1.g.es.length)/\(RowsEq [.int .i64] x1.g.es.length (encL encI x1.ws) (encL encI x1.ws)))/\((x1.fwd = x1.fwd/\True)/\(((0=0 /\ x1.g.n = x1.g.n)/\True)/\(((RLe x1.g.n x1.g.n)/\(RowsEq [.int .i64] x1.g.n (encL encI (Prod.fst (dqAt x1 k9))) (encL encI (Prod.fst (dqAt x1 (k9 + (1 : Nat)))))))/\(((0=0/\((Prod.snd (dqAt x1 k9)).length = (Prod.snd (dqAt x1 (k9 + (1 : Nat)))).length))/\True)/\(((RLe (Prod.snd (dqAt x1 (k9 + (1 : Nat)))).length (Prod.snd (dqAt x1 k9)).length)/\(RowsEq [.int .i64] (Prod.snd (dqAt x1 (k9 + (1 : Nat)))).length (encL encI (Prod.snd (dqAt x1 k9))) (encL encI (Prod.snd (dqAt x1 (k9 + (1 : Nat)))))))/\(True/\((x1.dist = x1.dist/\True)/\((((x1.node : Int) = (x1.node : Int))/\True)/\(((0=0 /\ x1.g.n = x1.g.n)/\True)/\(((RLe x1.g.n x1.g.n)/\(RowsEq [.sl [.int .i64]] x1.g.n (encLL (adjG x1.g x1.fwd)) (encLL (adjG x1.g x1.fwd))))/\True)))))))))))))))))))))/\(x1.fwd = false -> ((((0 : Int) <= (enumL (LLx.mk x1.g.n (adjG x1.g x1.fwd) (x1.node : Int))).getD k9 default)/\((enumL (LLx.mk x1.g.n (adjG x1.g x1.fwd) (x1.node : Int))).getD k9 default < (x1.g.es.length : Int)))/\((0 + Int.toNat ((enumL (LLx.mk x1.g.n (adjG x1.g x1.fwd) (x1.node : Int))).getD k9 default) < x1.g.es.length)/\(((decide (x1.ws.getD (0 + Int.toNat ((enumL (LLx.mk x1.g.n (adjG x1.g x1.fwd) (x1.node : Int))).getD k9 default)) default ≠ (4611686018427387904 : Int)) = true)-> ((((0 : Int) <= (enumL (LLx.mk x1.g.n (adjG x1.g x1.fwd) (x1.node : Int))).getD k9 default)/\((enumL (LLx.mk x1.g.n (adjG x1.g x1.fwd) (x1.node : Int))).getD k9 default < (x1.g.es.length : Int)))/\((0 + Int.toNat ((enumL (LLx.mk x1.g.n (adjG x1.g x1.fwd) (x1.node : Int))).getD k9 default) < x1.g.es.length)/\((((-9223372036854775808 : Int) <= x1.dist + x1.ws.getD (0 + Int.toNat ((enumL (LLx.mk x1.g.n (adjG x1.g x1.fwd) (x1.node : Int))).getD k9 default)) default)/\(x1.dist + x1.ws.getD (0 + Int.toNat ((enumL (LLx.mk x1.g.n (adjG x1.g x1.fwd) (x1.node : Int))).getD k9 default)) default <= (9223372036854775807 : Int)))/\((((0 : Int) <= (edAt x11).f)/\((edAt x11).f < (x1.g.n : Int)))/\((0 + Int.toNat (edAt x11).f < x1.g.n)/\(((decide (x1.dist + x1.ws.getD (0 + Int.toNat ((enumL (LLx.mk x1.g.n (adjG x1.g x1.fwd) (x1.node : Int))).getD k9 default)) default < (Prod.fst (dqAt x1 k9)).getD (0 + Int.toNat (edAt x11).f) default) = true)-> ((((0 : Int) <= (enumL (LLx.mk x1.g.n (adjG x1.g x1.fwd) (x1.node : Int))).getD k9 default)/\((enumL (LLx.mk x1.g.n (adjG x1.g x1.fwd) (x1.node : Int))).getD k9 default < (x1.g.es.length : Int)))/\((0 + Int.toNat ((enumL (LLx.mk x1.g.n (adjG x1.g x1.fwd) (x1.node : Int))).getD k9 default) < x1.g.es.length)/\((((-9223372036854775808 : Int) <= x1.dist + x1.ws.getD (0 + Int.toNat ((enumL (LLx.mk x1.g.n (adjG x1.g x1.fwd) (x1.node : Int))).getD k9 default)) default)/\(x1.dist + x1.ws.getD (0 + Int.toNat ((enumL (LLx.mk x1.g.n (adjG x1.g x1.fwd) (x1.node : Int))).getD k9 default)) default <= (9223372036854775807 : Int)))/\((((0 : Int) <= (edAt x11).f)/\((edAt x11).f < (x1.g.n : Int)))/\(((0 + Int.toNat (edAt x11).f < x1.g.n)/\(True/\True))/\((((0 : Int) <= (edAt x11).f)/\((edAt x11).f < (x1.g.n : Int)))/\((0 + Int.toNat (edAt x11).f < x1.g.n)/\(∃ x21 : QX, (((x21.q.length < (1073741824 : Nat))/\(((0 : Int) <= x21.d)/\((x21.d <= (1125899906842624 : Int))/\(((0 : Int) <= x21.v)/\(x21.v < (4096 : Int))))))/\(((0=0 /\ 0=0)/\((D.toI (if 0 + Int.toNat (edAt x11).f = 0 + Int.toNat (edAt x11).f then D.i (x1.dist + x1.ws.getD (0 + Int.toNat ((enumL (LLx.mk x1.g.n (adjG x1.g x1.fwd) (x1.node : Int))).getD k9 default)) default) else D.i ((Prod.fst (dqAt x1 k9)).getD (0 + Int.toNat (edAt x11).f) default)) = x21.d)/\(((edAt x11).f = x21.v)/\True)))/\((((0=0/\((Prod.snd (dqAt x1 k9)).length = x21.q.length))/\True)/\(((RLe x21.q.length (Prod.snd (dqAt x1 k9)).length)/\(RowsEq [.int .i64] x21.q.length (encL encI (Prod.snd (dqAt x1 k9))) (encL encI x21.q)))/\True))/\(True/\(((0=0 /\ 0=0)/\((0=0 /\ 0=0)/\((0=0 /\ 0=0)/\((0=0 /\ 0=0)/\((0=0 /\ 0=0)/\((0=0 /\ 0=0)/\True))))))/\(((0=0 /\ 0=0)/\True)/\((RLe 1 1/\(RowsEq [.sl [.int .i64, .int .i64, .int .i64], .sl [.sl [.int .i64]], .sl [.sl [.int .i64]]] 1 (encG x1.g) (encG x1.g)))/\(((0=0 /\ x1.g.es.length = x1.g.es.length)/\True)/\(((RLe x1.g.es.length x1.g.es.length)/\(RowsEq [.int .i64] x1.g.es.length (encL encI x1.ws) (encL encI x1.ws)))/\((x1.fwd = x1.fwd/\True)/\(((0=0 /\ x1.g.n = x1.g.n)/\True)/\(((RLe x1.g.n x1.g.n)/\(RowsEq [.int .i64] x1.g.n (setRow (encL encI (Prod.fst (dqAt x1 k9))) (0 + Int.toNat (edAt x11).f) 0 (D.i (x1.dist + x1.ws.getD (0 + Int.toNat ((enumL (LLx.mk x1.g.n (adjG x1.g x1.fwd) (x1.node : Int))).getD k9 default)) default) :: @List.nil D)) (encL encI (Prod.fst (dqAt x1 (k9 + (1 : Nat)))))))/\(((0=0/\(x21.q.length + (1 : Nat) = (Prod.snd (dqAt x1 (k9 + (1 : Nat)))).length))/\True)/\(((RLe (Prod.snd (dqAt x1 (k9 + (1 : Nat)))).length (x21.q.length + (1 : Nat)))/\(RowsEq [.int .i64] (Prod.snd (dqAt x1 (k9 + (1 : Nat)))).length (encL encI (pushF x21.q (x21.d * 4096 + x21.v))) (encL encI (Prod.snd (dqAt x1 (k9 + (1 : Nat)))))))/\(True/\((x1.dist = x1.dist/\True)/\((((x1.node : Int) = (x1.node : Int))/\True)/\(((0=0 /\ x1.g.n = x1.g.n)/\True)/\(((RLe x1.g.n x1.g.n)/\(RowsEq [.sl [.int .i64]] x1.g.n (encLL (adjG x1.g x1.fwd)) (encLL (adjG x1.g x1.fwd))))/\True))))))))))))))))))))))))))))/\((decide (x1.dist + x1.ws.getD (0 + Int.toNat ((enumL (LLx.mk x1.g.n (adjG x1.g x1.fwd) (x1.node : Int))).getD k9 default)) default < (Prod.fst (dqAt x1 k9)).getD (0 + Int.toNat (edAt x11).f) default) = false)-> (True/\(((0=0 /\ 0=0)/\((0=0 /\ 0=0)/\((0=0 /\ 0=0)/\((0=0 /\ 0=0)/\((0=0 /\ 0=0)/\((0=0 /\ 0=0)/\True))))))/\(((0=0 /\ 0=0)/\True)/\((RLe 1 1/\(RowsEq [.sl [.int .i64, .int .i64, .int .i64], .sl [.sl [.int .i64]], .sl [.sl [.int .i64]]] 1 (encG x1.g) (encG x1.g)))/\(((0=0 /\ x1.g.es.length = x1.g.es.length)/\True)/\(((RLe x1.g.es.length x1.g.es.length)/\(RowsEq [.int .i64] x1.g.es.length (encL encI x1.ws) (encL encI x1.ws)))/\((x1.fwd = x1.fwd/\True)/\(((0=0 /\ x1.g.n = x1.g.n)/\True)/\(((RLe x1.g.n x1.g.n)/\(RowsEq [.int .i64] x1.g.n (encL encI (Prod.fst (dqAt x1 k9))) (encL encI (Prod.fst (dqAt x1 (k9 + (1 : Nat)))))))/\(((0=0/\((Prod.snd (dqAt x1 k9)).length = (Prod.snd (dqAt x1 (k9 + (1 : Nat)))).length))/\True)/\(((RLe (Prod.snd (dqAt x1 (k9 + (1 : Nat)))).length (Prod.snd (dqAt x1 k9)).length)/\(RowsEq [.int .i64] (Prod.snd (dqAt x1 (k9 + (1 : Nat)))).length (encL encI (Prod.snd (dqAt x1 k9))) (encL encI (Prod.snd (dqAt x1 (k9 + (1 : Nat)))))))/\(True/\((x1.dist = x1.dist/\True)/\((((x1.node : Int) = (x1.node : Int))/\True)/\(((0=0 /\ x1.g.n = x1.g.n)/\True)/\(((RLe x1.g.n x1.g.n)/\(RowsEq [.sl [.int .i64]] x1.g.n (encLL (adjG x1.g x1.fwd)) (encLL (adjG x1.g x1.fwd))))/\True))))))))))))))))))))))))/\((decide (x1.ws.getD (0 + Int.toNat ((enumL (LLx.mk x1.g.n (adjG x1.g x1.fwd) (x1.node : Int))).getD k9 default)) default ≠ (4611686018427387904 : Int)) = false)-> (True/\(((0=0 /\ 0=0)/\((0=0 /\ 0=0)/\((0=0 /\ 0=0)/\((0=0 /\ 0=0)/\((0=0 /\ 0=0)/\((0=0 /\ 0=0)/\True))))))/\(((0=0 /\ 0=0)/\True)/\((RLe 1 1/\(RowsEq [.sl [.int .i64, .int .i64, .int .i64], .sl [.sl [.int .i64]], .sl [.sl [.int .i64]]] 1 (encG x1.g) (encG x1.g)))/\(((0=0 /\ x1.g.es.length = x1.g.es.length)/\True)/\(((RLe x1.g.es.length x1.g.es.length)/\(RowsEq [.int .i64] x1.g.es.length (encL encI x1.ws) (encL encI x1.ws)))/\((x1.fwd = x1.fwd/\True)/\(((0=0 /\ x1.g.n = x1.g.n)/\True)/\(((RLe x1.g.n x1.g.n)/\(RowsEq [.int .i64] x1.g.n (encL encI (Prod.fst (dqAt x1 k9))) (encL encI (Prod.fst (dqAt x1 (k9 + (1 : Nat)))))))/\(((0=0/\((Prod.snd (dqAt x1 k9)).length = (Prod.snd (dqAt x1 (k9 + (1 : Nat)))).length))/\True)/\(((RLe (Prod.snd (dqAt x1 (k9 + (1 : Nat)))).length (Prod.snd (dqAt x1 k9)).length)/\(RowsEq [.int .i64] (Prod.snd (dqAt x1 (k9 + (1 : Nat)))).length (encL encI (Prod.snd (dqAt x1 k9))) (encL encI (Prod.snd (dqAt x1 (k9 + (1 : Nat)))))))/\(True/\((x1.dist = x1.dist/\True)/\((((x1.node : Int) = (x1.node : Int))/\True)/\(((0=0 /\ x1.g.n = x1.g.n)/\True)/\(((RLe x1.g.n x1.g.n)/\(RowsEq [.sl [.int .i64]] x1.g.n (encLL (adjG x1.g x1.fwd)) (encLL (adjG x1.g x1.fwd))))/\True)))))))))))))))))))))))))))))/\((SLx.m x1 = (enumL (LLx.mk x1.g.n (adjG x1.g x1.fwd) (x1.node : Int))).length)/\(True/\(((RLe x1.g.n x1.g.n)/\(RowsEq [.int .i64] x1.g.n (encL encI (Prod.fst (dqAt x1 (SLx.m x1)))) (encL encI (Prod.fst (dqAt x1 (SLx.m x1))))))/\(((0=0/\((Prod.snd (dqAt x1 (SLx.m x1))).length = (Prod.snd (dqAt x1 (SLx.m x1))).length))/\True)/\(True/\(((RLe (Prod.snd (dqAt x1 (SLx.m x1))).length (Prod.snd (dqAt x1 (SLx.m x1))).length)/\(RowsEq [.int .i64] (Prod.snd (dqAt x1 (SLx.m x1))).length (encL encI (Prod.snd (dqAt x1 (SLx.m x1)))) (encL encI (Prod.snd (dqAt x1 (SLx.m x1))))))/\True)))))))))))))) = (KeepsLoop cfgSL (rf0 Try.f46 0).2.1.toList (rf0 Try.f46 0).2.2.1 (rf0 Try.f46 0).2.2.2 srchS) by kernel_rfl) (fun x1 => fun h2 => ⟨⟨(by (have q := h2.g.n; dsimp only; omega)),
fun j3 => fun h4 => (by exact adj_small h2 _ _)⟩,
(by (rw [sl_enum h2, adjG_eq, List.length_map]; first | exact Nat.le_refl _ | rfl)),
⟨trivial,
⟨⟨rfl,rfl⟩,
⟨rfl,rfl⟩,
⟨rfl,rfl⟩,
⟨rfl,rfl⟩,
⟨rfl,rfl⟩,
⟨rfl,rfl⟩,trivial⟩,
⟨⟨rfl,rfl⟩,trivial⟩,
⟨⟨Nat.le_refl _⟩,RowsEq.rfl'⟩,
⟨⟨rfl,rfl⟩,trivial⟩,
⟨⟨Nat.le_refl _⟩,RowsEq.rfl'⟩,
⟨rfl,trivial⟩,
⟨⟨rfl,rfl⟩,trivial⟩,
⟨⟨Nat.le_refl _⟩,
(by exact RowsEq.rfl')⟩,
⟨⟨rfl,
(by rfl)⟩,trivial⟩,
⟨⟨(by exact Nat.le_refl _)⟩,
(by exact RowsEq.rfl')⟩,trivial,
⟨rfl,trivial⟩,
⟨rfl,trivial⟩,
⟨⟨rfl,rfl⟩,trivial⟩,
⟨⟨Nat.le_refl _⟩,RowsEq.rfl'⟩,trivial⟩,
fun k5 => fun h6 => ⟨⟨(by (have q := h2.g.n; dsimp only; omega)),
fun j7 => fun h8 => (by exact adj_small h2 _ _)⟩,
⟨⟨rfl,rfl⟩,
⟨rfl,rfl⟩,trivial⟩,
⟨⟨rfl,trivial⟩,
⟨⟨rfl,rfl⟩,trivial⟩,
⟨⟨Nat.le_refl _⟩,RowsEq.rfl'⟩,trivial⟩,trivial⟩,
fun k9 => fun h10 => ⟨(by rfl),
({ g := SLx.g x1, i := List.getD (enumL { n := Gr.n (SLx.g x1), f := adjG (SLx.g x1) (SLx.fwd x1), i := (↑(SLx.node x1) : Int) : LLx }) k9 default : GIx }),trivial,
⟨⟨rfl,rfl⟩,rfl,trivial⟩,
⟨⟨⟨Nat.le_refl _⟩,RowsEq.rfl'⟩,trivial⟩,
fun h12 => ⟨⟨(by (try dsimp only at *); (obtain ⟨i, F⟩ := sl_f h2 h10; have q1 := F.lt; have q2 := F.ok; have q3 := h2.dist; have q4 := F.wr; have q5 := F.qn; have q6 := h2.g.n; unfold edOk at q2; simp only [F.e, F.ed, nat0, if_true, D.toI, INF] at *; omega)),
(by (try dsimp only at *); (obtain ⟨i, F⟩ := sl_f h2 h10; have q1 := F.lt; have q2 := F.ok; have q3 := h2.dist; have q4 := F.wr; have q5 := F.qn; have q6 := h2.g.n; unfold edOk at q2; simp only [F.e, F.ed, nat0, if_true, D.toI, INF] at *; omega))⟩,
(by (try dsimp only at *); (obtain ⟨i, F⟩ := sl_f h2 h10; have q1 := F.lt; have q2 := F.ok; have q3 := h2.dist; have q4 := F.wr; have q5 := F.qn; have q6 := h2.g.n; unfold edOk at q2; simp only [F.e, F.ed, nat0, if_true, D.toI, INF] at *; omega)),
fun g13 => have h13 := of_decide_eq_true g13; ⟨⟨(by (try dsimp only at *); (obtain ⟨i, F⟩ := sl_f h2 h10; have q1 := F.lt; have q2 := F.ok; have q3 := h2.dist; have q4 := F.wr; have q5 := F.qn; have q6 := h2.g.n; unfold edOk at q2; simp only [F.e, F.ed, nat0, if_true, D.toI, INF] at *; omega)),
(by (try dsimp only at *); (obtain ⟨i, F⟩ := sl_f h2 h10; have q1 := F.lt; have q2 := F.ok; have q3 := h2.dist; have q4 := F.wr; have q5 := F.qn; have q6 := h2.g.n; unfold edOk at q2; simp only [F.e, F.ed, nat0, if_true, D.toI, INF] at *; omega))⟩,
(by (try dsimp only at *); (obtain ⟨i, F⟩ := sl_f h2 h10; have q1 := F.lt; have q2 := F.ok; have q3 := h2.dist; have q4 := F.wr; have q5 := F.qn; have q6 := h2.g.n; unfold edOk at q2; simp only [F.e, F.ed, nat0, if_true, D.toI, INF] at *; omega)),
⟨(by (try dsimp only at *); (obtain ⟨i, F⟩ := sl_f h2 h10; have q1 := F.lt; have q2 := F.ok; have q3 := h2.dist; have q4 := F.wr; have q5 := F.qn; have q6 := h2.g.n; unfold edOk at q2; simp only [F.e, F.ed, nat0, if_true, D.toI, INF] at *; omega)),
(by (try dsimp only at *); (obtain ⟨i, F⟩ := sl_f h2 h10; have q1 := F.lt; have q2 := F.ok; have q3 := h2.dist; have q4 := F.wr; have q5 := F.qn; have q6 := h2.g.n; unfold edOk at q2; simp only [F.e, F.ed, nat0, if_true, D.toI, INF] at *; omega))⟩,
⟨(by (try dsimp only at *); (obtain ⟨i, F⟩ := sl_f h2 h10; have q1 := F.lt; have q2 := F.ok; have q3 := h2.dist; have q4 := F.wr; have q5 := F.qn; have q6 := h2.g.n; unfold edOk at q2; simp only [F.e, F.ed, nat0, if_true, D.toI, INF] at *; omega)),
(by (try dsimp only at *); (obtain ⟨i, F⟩ := sl_f h2 h10; have q1 := F.lt; have q2 := F.ok; have q3 := h2.dist; have q4 := F.wr; have q5 := F.qn; have q6 := h2.g.n; unfold edOk at q2; simp only [F.e, F.ed, nat0, if_true, D.toI, INF] at *; omega))⟩,
(by (try dsimp only at *); (obtain ⟨i, F⟩ := sl_f h2 h10; have q1 := F.lt; have q2 := F.ok; have q3 := h2.dist; have q4 := F.wr; have q5 := F.qn; have q6 := h2.g.n; unfold edOk at q2; simp only [F.e, F.ed, nat0, if_true, D.toI, INF] at *; omega)),
fun g14 => have h14 := of_decide_eq_true g14; ⟨⟨(by (try dsimp only at *); (obtain ⟨i, F⟩ := sl_f h2 h10; have q1 := F.lt; have q2 := F.ok; have q3 := h2.dist; have q4 := F.wr; have q5 := F.qn; have q6 := h2.g.n; unfold edOk at q2; simp only [F.e, F.ed, nat0, if_true, D.toI, INF] at *; omega)),
(by (try dsimp only at *); (obtain ⟨i, F⟩ := sl_f h2 h10; have q1 := F.lt; have q2 := F.ok; have q3 := h2.dist; have q4 := F.wr; have q5 := F.qn; have q6 := h2.g.n; unfold edOk at q2; simp only [F.e, F.ed, nat0, if_true, D.toI, INF] at *; omega))⟩,
(by (try dsimp only at *); (obtain ⟨i, F⟩ := sl_f h2 h10; have q1 := F.lt; have q2 := F.ok; have q3 := h2.dist; have q4 := F.wr; have q5 := F.qn; have q6 := h2.g.n; unfold edOk at q2; simp only [F.e, F.ed, nat0, if_true, D.toI, INF] at *; omega)),
⟨(by (try dsimp only at *); (obtain ⟨i, F⟩ := sl_f h2 h10; have q1 := F.lt; have q2 := F.ok; have q3 := h2.dist; have q4 := F.wr; have q5 := F.qn; have q6 := h2.g.n; unfold edOk at q2; simp only [F.e, F.ed, nat0, if_true, D.toI, INF] at *; omega)),
(by (try dsimp only at *); (obtain ⟨i, F⟩ := sl_f h2 h10; have q1 := F.lt; have q2 := F.ok; have q3 := h2.dist; have q4 := F.wr; have q5 := F.qn; have q6 := h2.g.n; unfold edOk at q2; simp only [F.e, F.ed, nat0, if_true, D.toI, INF] at *; omega))⟩,
⟨(by (try dsimp only at *); (obtain ⟨i, F⟩ := sl_f h2 h10; have q1 := F.lt; have q2 := F.ok; have q3 := h2.dist; have q4 := F.wr; have q5 := F.qn; have q6 := h2.g.n; unfold edOk at q2; simp only [F.e, F.ed, nat0, if_true, D.toI, INF] at *; omega)),
(by (try dsimp only at *); (obtain ⟨i, F⟩ := sl_f h2 h10; have q1 := F.lt; have q2 := F.ok; have q3 := h2.dist; have q4 := F.wr; have q5 := F.qn; have q6 := h2.g.n; unfold edOk at q2; simp only [F.e, F.ed, nat0, if_true, D.toI, INF] at *; omega))⟩,
⟨(by (try dsimp only at *); (obtain ⟨i, F⟩ := sl_f h2 h10; have q1 := F.lt; have q2 := F.ok; have q3 := h2.dist; have q4 := F.wr; have q5 := F.qn; have q6 := h2.g.n; unfold edOk at q2; simp only [F.e, F.ed, nat0, if_true, D.toI, INF] at *; omega)),trivial,trivial⟩,
⟨(by (try dsimp only at *); (obtain ⟨i, F⟩ := sl_f h2 h10; have q1 := F.lt; have q2 := F.ok; have q3 := h2.dist; have q4 := F.wr; have q5 := F.qn; have q6 := h2.g.n; unfold edOk at q2; simp only [F.e, F.ed, nat0, if_true, D.toI, INF] at *; omega)),
(by (try dsimp only at *); (obtain ⟨i, F⟩ := sl_f h2 h10; have q1 := F.lt; have q2 := F.ok; have q3 := h2.dist; have q4 := F.wr; have q5 := F.qn; have q6 := h2.g.n; unfold edOk at q2; simp only [F.e, F.ed, nat0, if_true, D.toI, INF] at *; omega))⟩,
(by (try dsimp only at *); (obtain ⟨i, F⟩ := sl_f h2 h10; have q1 := F.lt; have q2 := F.ok; have q3 := h2.dist; have q4 := F.wr; have q5 := F.qn; have q6 := h2.g.n; unfold edOk at q2; simp only [F.e, F.ed, nat0, if_true, D.toI, INF] at *; omega)),
({ q := Prod.snd (dqAt x1 k9), d := D.toI (if (0 : Nat) + Int.toNat (Ed.t (edAt { g := SLx.g x1, i := List.getD (enumL { n := Gr.n (SLx.g x1), f := adjG (SLx.g x1) (SLx.fwd x1), i := (↑(SLx.node x1) : Int) : LLx }) k9 default : GIx })) = (0 : Nat) + Int.toNat (Ed.t (edAt { g := SLx.g x1, i := List.getD (enumL { n := Gr.n (SLx.g x1), f := adjG (SLx.g x1) (SLx.fwd x1), i := (↑(SLx.node x1) : Int) : LLx }) k9 default : GIx })) then D.i (SLx.dist x1 + List.getD (SLx.ws x1) ((0 : Nat) + Int.toNat (List.getD (enumL { n := Gr.n (SLx.g x1), f := adjG (SLx.g x1) (SLx.fwd x1), i := (↑(SLx.node x1) : Int) : LLx }) k9 default)) default) else D.i (List.getD (Prod.fst (dqAt x1 k9)) ((0 : Nat) + Int.toNat (Ed.t (edAt { g := SLx.g x1, i := List.getD (enumL { n := Gr.n (SLx.g x1), f := adjG (SLx.g x1) (SLx.fwd x1), i := (↑(SLx.node x1) : Int) : LLx }) k9 default : GIx }))) default)), v := Ed.t (edAt { g := SLx.g x1, i := List.getD (enumL { n := Gr.n (SLx.g x1), f := adjG (SLx.g x1) (SLx.fwd x1), i := (↑(SLx.node x1) : Int) : LLx }) k9 default : GIx }) : QX }),
⟨(by (try dsimp only at *); (obtain ⟨i, F⟩ := sl_f h2 h10; have q1 := F.lt; have q2 := F.ok; have q3 := h2.dist; have q4 := F.wr; have q5 := F.qn; have q6 := h2.g.n; unfold edOk at q2; simp only [F.e, F.ed, nat0, if_true, D.toI, INF] at *; omega)),
(by (try dsimp only at *); (obtain ⟨i, F⟩ := sl_f h2 h10; have q1 := F.lt; have q2 := F.ok; have q3 := h2.dist; have q4 := F.wr; have q5 := F.qn; have q6 := h2.g.n; unfold edOk at q2; simp only [F.e, F.ed, nat0, if_true, D.toI, INF] at *; omega)),
(by (try dsimp only at *); (obtain ⟨i, F⟩ := sl_f h2 h10; have q1 := F.lt; have q2 := F.ok; have q3 := h2.dist; have q4 := F.wr; have q5 := F.qn; have q6 := h2.g.n; unfold edOk at q2; simp only [F.e, F.ed, nat0, if_true, D.toI, INF] at *; omega)),
(by (try dsimp only at *); (obtain ⟨i, F⟩ := sl_f h2 h10; have q1 := F.lt; have q2 := F.ok; have q3 := h2.dist; have q4 := F.wr; have q5 := F.qn; have q6 := h2.g.n; unfold edOk at q2; simp only [F.e, F.ed, nat0, if_true, D.toI, INF] at *; omega)),
(by (try dsimp only at *); (obtain ⟨i, F⟩ := sl_f h2 h10; have q1 := F.lt; have q2 := F.ok; have q3 := h2.dist; have q4 := F.wr; have q5 := F.qn; have q6 := h2.g.n; unfold edOk at q2; simp only [F.e, F.ed, nat0, if_true, D.toI, INF] at *; omega))⟩,
⟨⟨rfl,rfl⟩,rfl,rfl,trivial⟩,
⟨⟨⟨rfl,rfl⟩,trivial⟩,
⟨⟨Nat.le_refl _⟩,RowsEq.rfl'⟩,trivial⟩,trivial,
⟨⟨rfl,rfl⟩,
⟨rfl,rfl⟩,
⟨rfl,rfl⟩,
⟨rfl,rfl⟩,
⟨rfl,rfl⟩,
⟨rfl,rfl⟩,trivial⟩,
⟨⟨rfl,rfl⟩,trivial⟩,
⟨⟨Nat.le_refl _⟩,RowsEq.rfl'⟩,
⟨⟨rfl,rfl⟩,trivial⟩,
⟨⟨Nat.le_refl _⟩,RowsEq.rfl'⟩,
⟨rfl,trivial⟩,
⟨⟨rfl,rfl⟩,trivial⟩,
⟨⟨Nat.le_refl _⟩,
(by (try dsimp only at *); (obtain ⟨i, F⟩ := sl_f h2 h10; have q2 := F.ok; have q7 := F.ln; unfold edOk at q2; simp only [F.e, F.ed, nat0, if_true, D.toI] at *; have e := st_yes1 F (by assumption) (by assumption) (by assumption); first | (rw [e]; exact rows_setI (by omega)) | (rw [e]; exact RowsEq.rfl') | (rw [e]; dsimp only; rw [pushF_len]; done) | (rw [e]; dsimp only; rw [pushF_len]; exact Nat.le_refl _)))⟩,
⟨⟨rfl,
(by (try dsimp only at *); (obtain ⟨i, F⟩ := sl_f h2 h10; have q2 := F.ok; have q7 := F.ln; unfold edOk at q2; simp only [F.e, F.ed, nat0, if_true, D.toI] at *; have e := st_yes1 F (by assumption) (by assumption) (by assumption); first | (rw [e]; exact rows_setI (by omega)) | (rw [e]; exact RowsEq.rfl') | (rw [e]; dsimp only; rw [pushF_len]; done) | (rw [e]; dsimp only; rw [pushF_len]; exact Nat.le_refl _)))⟩,trivial⟩,
⟨⟨(by (try dsimp only at *); (obtain ⟨i, F⟩ := sl_f h2 h10; have q2 := F.ok; have q7 := F.ln; unfold edOk at q2; simp only [F.e, F.ed, nat0, if_true, D.toI] at *; have e := st_yes1 F (by assumption) (by assumption) (by assumption); first | (rw [e]; exact rows_setI (by omega)) | (rw [e]; exact RowsEq.rfl') | (rw [e]; dsimp only; rw [pushF_len]; done) | (rw [e]; dsimp only; rw [pushF_len]; exact Nat.le_refl _)))⟩,
(by (try dsimp only at *); (obtain ⟨i, F⟩ := sl_f h2 h10; have q2 := F.ok; have q7 := F.ln; unfold edOk at q2; simp only [F.e, F.ed, nat0, if_true, D.toI] at *; have e := st_yes1 F (by assumption) (by assumption) (by assumption); first | (rw [e]; exact rows_setI (by omega)) | (rw [e]; exact RowsEq.rfl') | (rw [e]; dsimp only; rw [pushF_len]; done) | (rw [e]; dsimp only; rw [pushF_len]; exact Nat.le_refl _)))⟩,trivial,
⟨rfl,trivial⟩,
⟨rfl,trivial⟩,
⟨⟨rfl,rfl⟩,trivial⟩,
⟨⟨Nat.le_refl _⟩,RowsEq.rfl'⟩,trivial⟩,
fun g16 => have h16 := of_decide_eq_false g16; ⟨trivial,
⟨⟨rfl,rfl⟩,
⟨rfl,rfl⟩,
⟨rfl,rfl⟩,
⟨rfl,rfl⟩,
⟨rfl,rfl⟩,
⟨rfl,rfl⟩,trivial⟩,
⟨⟨rfl,rfl⟩,trivial⟩,
⟨⟨Nat.le_refl _⟩,RowsEq.rfl'⟩,
⟨⟨rfl,rfl⟩,trivial⟩,
⟨⟨Nat.le_refl _⟩,RowsEq.rfl'⟩,
⟨rfl,trivial⟩,
⟨⟨rfl,rfl⟩,trivial⟩,
⟨⟨Nat.le_refl _⟩,
(by (try dsimp only at *); (obtain ⟨i, F⟩ := sl_f h2 h10; simp only [F.e, F.ed, nat0, if_true, D.toI] at *; first | (rw [st_no F (by assumption)]; first | exact Nat.le_refl _ | exact RowsEq.rfl') | (rw [st_no1 F (by assumption) (by assumption)]; first | exact Nat.le_refl _ | exact RowsEq.rfl') | (rw [st_no2 F (by assumption) (by assumption)]; first | exact Nat.le_refl _ | exact RowsEq.rfl')))⟩,
⟨⟨rfl,
(by (try dsimp only at *); (obtain ⟨i, F⟩ := sl_f h2 h10; simp only [F.e, F.ed, nat0, if_true, D.toI] at *; first | rw [st_no F (by assumption)] | rw [st_no1 F (by assumption) (by assumption)] | rw [st_no2 F (by assumption) (by assumption)]))⟩,trivial⟩,
⟨⟨(by (try dsimp only at *); (obtain ⟨i, F⟩ := sl_f h2 h10; simp only [F.e, F.ed, nat0, if_true, D.toI] at *; first | (rw [st_no F (by assumption)]; first | exact Nat.le_refl _ | exact RowsEq.rfl') | (rw [st_no1 F (by assumption) (by assumption)]; first | exact Nat.le_refl _ | exact RowsEq.rfl') | (rw [st_no2 F (by assumption) (by assumption)]; first | exact Nat.le_refl _ | exact RowsEq.rfl')))⟩,
(by (try dsimp only at *); (obtain ⟨i, F⟩ := sl_f h2 h10; simp only [F.e, F.ed, nat0, if_true, D.toI] at *; first | (rw [st_no F (by assumption)]; first | exact Nat.le_refl _ | exact RowsEq.rfl') | (rw [st_no1 F (by assumption) (by assumption)]; first | exact Nat.le_refl _ | exact RowsEq.rfl') | (rw [st_no2 F (by assumption) (by assumption)]; first | exact Nat.le_refl _ | exact RowsEq.rfl')))⟩,trivial,
⟨rfl,trivial⟩,
⟨rfl,trivial⟩,
⟨⟨rfl,rfl⟩,trivial⟩,
⟨⟨Nat.le_refl _⟩,RowsEq.rfl'⟩,trivial⟩⟩,
fun g17 => have h17 := of_decide_eq_false g17; ⟨trivial,
⟨⟨rfl,rfl⟩,
⟨rfl,rfl⟩,
⟨rfl,rfl⟩,
⟨rfl,rfl⟩,
⟨rfl,rfl⟩,
⟨rfl,rfl⟩,trivial⟩,
⟨⟨rfl,rfl⟩,trivial⟩,
⟨⟨Nat.le_refl _⟩,RowsEq.rfl'⟩,
⟨⟨rfl,rfl⟩,trivial⟩,
⟨⟨Nat.le_refl _⟩,RowsEq.rfl'⟩,
⟨rfl,trivial⟩,
⟨⟨rfl,rfl⟩,trivial⟩,
⟨⟨Nat.le_refl _⟩,
(by (try dsimp only at *); (obtain ⟨i, F⟩ := sl_f h2 h10; simp only [F.e, F.ed, nat0, if_true, D.toI] at *; first | (rw [st_no F (by assumption)]; first | exact Nat.le_refl _ | exact RowsEq.rfl') | (rw [st_no1 F (by assumption) (by assumption)]; first | exact Nat.le_refl _ | exact RowsEq.rfl') | (rw [st_no2 F (by assumption) (by assumption)]; first | exact Nat.le_refl _ | exact RowsEq.rfl')))⟩,
⟨⟨rfl,
(by (try dsimp only at *); (obtain ⟨i, F⟩ := sl_f h2 h10; simp only [F.e, F.ed, nat0, if_true, D.toI] at *; first | rw [st_no F (by assumption)] | rw [st_no1 F (by assumption) (by assumption)] | rw [st_no2 F (by assumption) (by assumption)]))⟩,trivial⟩,
⟨⟨(by (try dsimp only at *); (obtain ⟨i, F⟩ := sl_f h2 h10; simp only [F.e, F.ed, nat0, if_true, D.toI] at *; first | (rw [st_no F (by assumption)]; first | exact Nat.le_refl _ | exact RowsEq.rfl') | (rw [st_no1 F (by assumption) (by assumption)]; first | exact Nat.le_refl _ | exact RowsEq.rfl') | (rw [st_no2 F (by assumption) (by assumption)]; first | exact Nat.le_refl _ | exact RowsEq.rfl')))⟩,
(by (try dsimp only at *); (obtain ⟨i, F⟩ := sl_f h2 h10; simp only [F.e, F.ed, nat0, if_true, D.toI] at *; first | (rw [st_no F (by assumption)]; first | exact Nat.le_refl _ | exact RowsEq.rfl') | (rw [st_no1 F (by assumption) (by assumption)]; first | exact Nat.le_refl _ | exact RowsEq.rfl') | (rw [st_no2 F (by assumption) (by assumption)]; first | exact Nat.le_refl _ | exact RowsEq.rfl')))⟩,trivial,
⟨rfl,trivial⟩,
⟨rfl,trivial⟩,
⟨⟨rfl,rfl⟩,trivial⟩,
⟨⟨Nat.le_refl _⟩,RowsEq.rfl'⟩,trivial⟩⟩,
fun h18 => ⟨⟨(by (try dsimp only at *); (obtain ⟨i, F⟩ := sl_f h2 h10; have q1 := F.lt; have q2 := F.ok; have q3 := h2.dist; have q4 := F.wr; have q5 := F.qn; have q6 := h2.g.n; unfold edOk at q2; simp only [F.e, F.ed, nat0, if_true, D.toI, INF] at *; omega)),
(by (try dsimp only at *); (obtain ⟨i, F⟩ := sl_f h2 h10; have q1 := F.lt; have q2 := F.ok; have q3 := h2.dist; have q4 := F.wr; have q5 := F.qn; have q6 := h2.g.n; unfold edOk at q2; simp only [F.e, F.ed, nat0, if_true, D.toI, INF] at *; omega))⟩,
(by (try dsimp only at *); (obtain ⟨i, F⟩ := sl_f h2 h10; have q1 := F.lt; have q2 := F.ok; have q3 := h2.dist; have q4 := F.wr; have q5 := F.qn; have q6 := h2.g.n; unfold edOk at q2; simp only [F.e, F.ed, nat0, if_true, D.toI, INF] at *; omega)),
fun g19 => have h19 := of_decide_eq_true g19; ⟨⟨(by (try dsimp only at *); (obtain ⟨i, F⟩ := sl_f h2 h10; have q1 := F.lt; have q2 := F.ok; have q3 := h2.dist; have q4 := F.wr; have q5 := F.qn; have q6 := h2.g.n; unfold edOk at q2; simp only [F.e, F.ed, nat0, if_true, D.toI, INF] at *; omega)),
(by (try dsimp only at *); (obtain ⟨i, F⟩ := sl_f h2 h10; have q1 := F.lt; have q2 := F.ok; have q3 := h2.dist; have q4 := F.wr; have q5 := F.qn; have q6 := h2.g.n; unfold edOk at q2; simp only [F.e, F.ed, nat0, if_true, D.toI, INF] at *; omega))⟩,
(by (try dsimp only at *); (obtain ⟨i, F⟩ := sl_f h2 h10; have q1 := F.lt; have q2 := F.ok; have q3 := h2.dist; have q4 := F.wr; have q5 := F.qn; have q6 := h2.g.n; unfold edOk at q2; simp only [F.e, F.ed, nat0, if_true, D.toI, INF] at *; omega)),
⟨(by (try dsimp only at *); (obtain ⟨i, F⟩ := sl_f h2 h10; have q1 := F.lt; have q2 := F.ok; have q3 := h2.dist; have q4 := F.wr; have q5 := F.qn; have q6 := h2.g.n; unfold edOk at q2; simp only [F.e, F.ed, nat0, if_true, D.toI, INF] at *; omega)),
(by (try dsimp only at *); (obtain ⟨i, F⟩ := sl_f h2 h10; have q1 := F.lt; have q2 := F.ok; have q3 := h2.dist; have q4 := F.wr; have q5 := F.qn; have q6 := h2.g.n; unfold edOk at q2; simp only [F.e, F.ed, nat0, if_true, D.toI, INF] at *; omega))⟩,
⟨(by (try dsimp only at *); (obtain ⟨i, F⟩ := sl_f h2 h10; have q1 := F.lt; have q2 := F.ok; have q3 := h2.dist; have q4 := F.wr; have q5 := F.qn; have q6 := h2.g.n; unfold edOk at q2; simp only [F.e, F.ed, nat0, if_true, D.toI, INF] at *; omega)),
(by (try dsimp only at *); (obtain ⟨i, F⟩ := sl_f h2 h10; have q1 := F.lt; have q2 := F.ok; have q3 := h2.dist; have q4 := F.wr; have q5 := F.qn; have q6 := h2.g.n; unfold edOk at q2; simp only [F.e, F.ed, nat0, if_true, D.toI, INF] at *; omega))⟩,
(by (try dsimp only at *); (obtain ⟨i, F⟩ := sl_f h2 h10; have q1 := F.lt; have q2 := F.ok; have q3 := h2.dist; have q4 := F.wr; have q5 := F.qn; have q6 := h2.g.n; unfold edOk at q2; simp only [F.e, F.ed, nat0, if_true, D.toI, INF] at *; omega)),
fun g20 => have h20 := of_decide_eq_true g20; ⟨⟨(by (try dsimp only at *); (obtain ⟨i, F⟩ := sl_f h2 h10; have q1 := F.lt; have q2 := F.ok; have q3 := h2.dist; have q4 := F.wr; have q5 := F.qn; have q6 := h2.g.n; unfold edOk at q2; simp only [F.e, F.ed, nat0, if_true, D.toI, INF] at *; omega)),
(by (try dsimp only at *); (obtain ⟨i, F⟩ := sl_f h2 h10; have q1 := F.lt; have q2 := F.ok; have q3 := h2.dist; have q4 := F.wr; have q5 := F.qn; have q6 := h2.g.n; unfold edOk at q2; simp only [F.e, F.ed, nat0, if_true, D.toI, INF] at *; omega))⟩,
(by (try dsimp only at *); (obtain ⟨i, F⟩ := sl_f h2 h10; have q1 := F.lt; have q2 := F.ok; have q3 := h2.dist; have q4 := F.wr; have q5 := F.qn; have q6 := h2.g.n; unfold edOk at q2; simp only [F.e, F.ed, nat0, if_true, D.toI, INF] at *; omega)),
⟨(by (try dsimp only at *); (obtain ⟨i, F⟩ := sl_f h2 h10; have q1 := F.lt; have q2 := F.ok; have q3 := h2.dist; have q4 := F.wr; have q5 := F.qn; have q6 := h2.g.n; unfold edOk at q2; simp only [F.e, F.ed, nat0, if_true, D.toI, INF] at *; omega)),
(by (try dsimp only at *); (obtain ⟨i, F⟩ := sl_f h2 h10; have q1 := F.lt; have q2 := F.ok; have q3 := h2.dist; have q4 := F.wr; have q5 := F.qn; have q6 := h2.g.n; unfold edOk at q2; simp only [F.e, F.ed, nat0, if_true, D.toI, INF] at *; omega))⟩,
⟨(by (try dsimp only at *); (obtain ⟨i, F⟩ := sl_f h2 h10; have q1 := F.lt; have q2 := F.ok; have q3 := h2.dist; have q4 := F.wr; have q5 := F.qn; have q6 := h2.g.n; unfold edOk at q2; simp only [F.e, F.ed, nat0, if_true, D.toI, INF] at *; omega)),
(by (try dsimp only at *); (obtain ⟨i, F⟩ := sl_f h2 h10; have q1 := F.lt; have q2 := F.ok; have q3 := h2.dist; have q4 := F.wr; have q5 := F.qn; have q6 := h2.g.n; unfold edOk at q2; simp only [F.e, F.ed, nat0, if_true, D.toI, INF] at *; omega))⟩,
⟨(by (try dsimp only at *); (obtain ⟨i, F⟩ := sl_f h2 h10; have q1 := F.lt; have q2 := F.ok; have q3 := h2.dist; have q4 := F.wr; have q5 := F.qn; have q6 := h2.g.n; unfold edOk at q2; simp only [F.e, F.ed, nat0, if_true, D.toI, INF] at *; omega)),trivial,trivial⟩,
⟨(by (try dsimp only at *); (obtain ⟨i, F⟩ := sl_f h2 h10; have q1 := F.lt; have q2 := F.ok; have q3 := h2.dist; have q4 := F.wr; have q5 := F.qn; have q6 := h2.g.n; unfold edOk at q2; simp only [F.e, F.ed, nat0, if_true, D.toI, INF] at *; omega)),
(by (try dsimp only at *); (obtain ⟨i, F⟩ := sl_f h2 h10; have q1 := F.lt; have q2 := F.ok; have q3 := h2.dist; have q4 := F.wr; have q5 := F.qn; have q6 := h2.g.n; unfold edOk at q2; simp only [F.e, F.ed, nat0, if_true, D.toI, INF] at *; omega))⟩,
(by (try dsimp only at *); (obtain ⟨i, F⟩ := sl_f h2 h10; have q1 := F.lt; have q2 := F.ok; have q3 := h2.dist; have q4 := F.wr; have q5 := F.qn; have q6 := h2.g.n; unfold edOk at q2; simp only [F.e, F.ed, nat0, if_true, D.toI, INF] at *; omega)),
({ q := Prod.snd (dqAt x1 k9), d := D.toI (if (0 : Nat) + Int.toNat (Ed.f (edAt { g := SLx.g x1, i := List.getD (enumL { n := Gr.n (SLx.g x1), f := adjG (SLx.g x1) (SLx.fwd x1), i := (↑(SLx.node x1) : Int) : LLx }) k9 default : GIx })) = (0 : Nat) + Int.toNat (Ed.f (edAt { g := SLx.g x1, i := List.getD (enumL { n := Gr.n (SLx.g x1), f := adjG (SLx.g x1) (SLx.fwd x1), i := (↑(SLx.node x1) : Int) : LLx }) k9 default : GIx })) then D.i (SLx.dist x1 + List.getD (SLx.ws x1) ((0 : Nat) + Int.toNat (List.getD (enumL { n := Gr.n (SLx.g x1), f := adjG (SLx.g x1) (SLx.fwd x1), i := (↑(SLx.node x1) : Int) : LLx }) k9 default)) default) else D.i (List.getD (Prod.fst (dqAt x1 k9)) ((0 : Nat) + Int.toNat (Ed.f (edAt { g := SLx.g x1, i := List.getD (enumL { n := Gr.n (SLx.g x1), f := adjG (SLx.g x1) (SLx.fwd x1), i := (↑(SLx.node x1) : Int) : LLx }) k9 default : GIx }))) default)), v := Ed.f (edAt { g := SLx.g x1, i := List.getD (enumL { n := Gr.n (SLx.g x1), f := adjG (SLx.g x1) (SLx.fwd x1), i := (↑(SLx.node x1) : Int) : LLx }) k9 default : GIx }) : QX }),
⟨(by (try dsimp only at *); (obtain ⟨i, F⟩ := sl_f h2 h10; have q1 := F.lt; have q2 := F.ok; have q3 := h2.dist; have q4 := F.wr; have q5 := F.qn; have q6 := h2.g.n; unfold edOk at q2; simp only [F.e, F.ed, nat0, if_true, D.toI, INF] at *; omega)),
(by (try dsimp only at *); (obtain ⟨i, F⟩ := sl_f h2 h10; have q1 := F.lt; have q2 := F.ok; have q3 := h2.dist; have q4 := F.wr; have q5 := F.qn; have q6 := h2.g.n; unfold edOk at q2; simp only [F.e, F.ed, nat0, if_true, D.toI, INF] at *; omega)),
(by (try dsimp only at *); (obtain ⟨i, F⟩ := sl_f h2 h10; have q1 := F.lt; have q2 := F.ok; have q3 := h2.dist; have q4 := F.wr; have q5 := F.qn; have q6 := h2.g.n; unfold edOk at q2; simp only [F.e, F.ed, nat0, if_true, D.toI, INF] at *; omega)),
(by (try dsimp only at *); (obtain ⟨i, F⟩ := sl_f h2 h10; have q1 := F.lt; have q2 := F.ok; have q3 := h2.dist; have q4 := F.wr; have q5 := F.qn; have q6 := h2.g.n; unfold edOk at q2; simp only [F.e, F.ed, nat0, if_true, D.toI, INF] at *; omega)),
(by (try dsimp only at *); (obtain ⟨i, F⟩ := sl_f h2 h10; have q1 := F.lt; have q2 := F.ok; have q3 := h2.dist; have q4 := F.wr; have q5 := F.qn; have q6 := h2.g.n; unfold edOk at q2; simp only [F.e, F.ed, nat0, if_true, D.toI, INF] at *; omega))⟩,
⟨⟨rfl,rfl⟩,rfl,rfl,trivial⟩,
⟨⟨⟨rfl,rfl⟩,trivial⟩,
⟨⟨Nat.le_refl _⟩,RowsEq.rfl'⟩,trivial⟩,trivial,
⟨⟨rfl,rfl⟩,
⟨rfl,rfl⟩,
⟨rfl,rfl⟩,
⟨rfl,rfl⟩,
⟨rfl,rfl⟩,
⟨rfl,rfl⟩,trivial⟩,
⟨⟨rfl,rfl⟩,trivial⟩,
⟨⟨Nat.le_refl _⟩,RowsEq.rfl'⟩,
⟨⟨rfl,rfl⟩,trivial⟩,
⟨⟨Nat.le_refl _⟩,RowsEq.rfl'⟩,
⟨rfl,trivial⟩,
⟨⟨rfl,rfl⟩,trivial⟩,
⟨⟨Nat.le_refl _⟩,
(by (try dsimp only at *); (obtain ⟨i, F⟩ := sl_f h2 h10; have q2 := F.ok; have q7 := F.ln; unfold edOk at q2; simp only [F.e, F.ed, nat0, if_true, D.toI] at *; have e := st_yes2 F (by assumption) (by assumption) (by assumption); first | (rw [e]; exact rows_setI (by omega)) | (rw [e]; exact RowsEq.rfl') | (rw [e]; dsimp only; rw [pushF_len]; done) | (rw [e]; dsimp only; rw [pushF_len]; exact Nat.le_refl _)))⟩,
⟨⟨rfl,
(by (try dsimp only at *); (obtain ⟨i, F⟩ := sl_f h2 h10; have q2 := F.ok; have q7 := F.ln; unfold edOk at q2; simp only [F.e, F.ed, nat0, if_true, D.toI] at *; have e := st_yes2 F (by assumption) (by assumption) (by assumption); first | (rw [e]; exact rows_setI (by omega)) | (rw [e]; exact RowsEq.rfl') | (rw [e]; dsimp only; rw [pushF_len]; done) | (rw [e]; dsimp only; rw [pushF_len]; exact Nat.le_refl _)))⟩,trivial⟩,
⟨⟨(by (try dsimp only at *); (obtain ⟨i, F⟩ := sl_f h2 h10; have q2 := F.ok; have q7 := F.ln; unfold edOk at q2; simp only [F.e, F.ed, nat0, if_true, D.toI] at *; have e := st_yes2 F (by assumption) (by assumption) (by assumption); first | (rw [e]; exact rows_setI (by omega)) | (rw [e]; exact RowsEq.rfl') | (rw [e]; dsimp only; rw [pushF_len]; done) | (rw [e]; dsimp only; rw [pushF_len]; exact Nat.le_refl _)))⟩,
(by (try dsimp only at *); (obtain ⟨i, F⟩ := sl_f h2 h10; have q2 := F.ok; have q7 := F.ln; unfold edOk at q2; simp only [F.e, F.ed, nat0, if_true, D.toI] at *; have e := st_yes2 F (by assumption) (by assumption) (by assumption); first | (rw [e]; exact rows_setI (by omega)) | (rw [e]; exact RowsEq.rfl') | (rw [e]; dsimp only; rw [pushF_len]; done) | (rw [e]; dsimp only; rw [pushF_len]; exact Nat.le_refl _)))⟩,trivial,
⟨rfl,trivial⟩,
⟨rfl,trivial⟩,
⟨⟨rfl,rfl⟩,trivial⟩,
⟨⟨Nat.le_refl _⟩,RowsEq.rfl'⟩,trivial⟩,
fun g22 => have h22 := of_decide_eq_false g22; ⟨trivial,
⟨⟨rfl,rfl⟩,
⟨rfl,rfl⟩,
⟨rfl,rfl⟩,
⟨rfl,rfl⟩,
⟨rfl,rfl⟩,
⟨rfl,rfl⟩,trivial⟩,
⟨⟨rfl,rfl⟩,trivial⟩,
⟨⟨Nat.le_refl _⟩,RowsEq.rfl'⟩,
⟨⟨rfl,rfl⟩,trivial⟩,
⟨⟨Nat.le_refl _⟩,RowsEq.rfl'⟩,
⟨rfl,trivial⟩,
⟨⟨rfl,rfl⟩,trivial⟩,
⟨⟨Nat.le_refl _⟩,
(by (try dsimp only at *); (obtain ⟨i, F⟩ := sl_f h2 h10; simp only [F.e, F.ed, nat0, if_true, D.toI] at *; first | (rw [st_no F (by assumption)]; first | exact Nat.le_refl _ | exact RowsEq.rfl') | (rw [st_no1 F (by assumption) (by assumption)]; first | exact Nat.le_refl _ | exact RowsEq.rfl') | (rw [st_no2 F (by assumption) (by assumption)]; first | exact Nat.le_refl _ | exact RowsEq.rfl')))⟩,
⟨⟨rfl,
(by (try dsimp only at *); (obtain ⟨i, F⟩ := sl_f h2 h10; simp only [F.e, F.ed, nat0, if_true, D.toI] at *; first | rw [st_no F (by assumption)] | rw [st_no1 F (by assumption) (by assumption)] | rw [st_no2 F (by assumption) (by assumption)]))⟩,trivial⟩,
⟨⟨(by (try dsimp only at *); (obtain ⟨i, F⟩ := sl_f h2 h10; simp only [F.e, F.ed, nat0, if_true, D.toI] at *; first | (rw [st_no F (by assumption)]; first | exact Nat.le_refl _ | exact RowsEq.rfl') | (rw [st_no1 F (by assumption) (by assumption)]; first | exact Nat.le_refl _ | exact RowsEq.rfl') | (rw [st_no2 F (by assumption) (by assumption)]; first | exact Nat.le_refl _ | exact RowsEq.rfl')))⟩,
(by (try dsimp only at *); (obtain ⟨i, F⟩ := sl_f h2 h10; simp only [F.e, F.ed, nat0, if_true, D.toI] at *; first | (rw [st_no F (by assumption)]; first | exact Nat.le_refl _ | exact RowsEq.rfl') | (rw [st_no1 F (by assumption) (by assumption)]; first | exact Nat.le_refl _ | exact RowsEq.rfl') | (rw [st_no2 F (by assumption) (by assumption)]; first | exact Nat.le_refl _ | exact RowsEq.rfl')))⟩,trivial,
⟨rfl,trivial⟩,
⟨rfl,trivial⟩,
⟨⟨rfl,rfl⟩,trivial⟩,
⟨⟨Nat.le_refl _⟩,RowsEq.rfl'⟩,trivial⟩⟩,
fun g23 => have h23 := of_decide_eq_false g23; ⟨trivial,
⟨⟨rfl,rfl⟩,
⟨rfl,rfl⟩,
⟨rfl,rfl⟩,
⟨rfl,rfl⟩,
⟨rfl,rfl⟩,
⟨rfl,rfl⟩,trivial⟩,
⟨⟨rfl,rfl⟩,trivial⟩,
⟨⟨Nat.le_refl _⟩,RowsEq.rfl'⟩,
⟨⟨rfl,rfl⟩,trivial⟩,
⟨⟨Nat.le_refl _⟩,RowsEq.rfl'⟩,
⟨rfl,trivial⟩,
⟨⟨rfl,rfl⟩,trivial⟩,
⟨⟨Nat.le_refl _⟩,
(by (try dsimp only at *); (obtain ⟨i, F⟩ := sl_f h2 h10; simp only [F.e, F.ed, nat0, if_true, D.toI] at *; first | (rw [st_no F (by assumption)]; first | exact Nat.le_refl _ | exact RowsEq.rfl') | (rw [st_no1 F (by assumption) (by assumption)]; first | exact Nat.le_refl _ | exact RowsEq.rfl') | (rw [st_no2 F (by assumption) (by assumption)]; first | exact Nat.le_refl _ | exact RowsEq.rfl')))⟩,
⟨⟨rfl,
(by (try dsimp only at *); (obtain ⟨i, F⟩ := sl_f h2 h10; simp only [F.e, F.ed, nat0, if_true, D.toI] at *; first | rw [st_no F (by assumption)] | rw [st_no1 F (by assumption) (by assumption)] | rw [st_no2 F (by assumption) (by assumption)]))⟩,trivial⟩,
⟨⟨(by (try dsimp only at *); (obtain ⟨i, F⟩ := sl_f h2 h10; simp only [F.e, F.ed, nat0, if_true, D.toI] at *; first | (rw [st_no F (by assumption)]; first | exact Nat.le_refl _ | exact RowsEq.rfl') | (rw [st_no1 F (by assumption) (by assumption)]; first | exact Nat.le_refl _ | exact RowsEq.rfl') | (rw [st_no2 F (by assumption) (by assumption)]; first | exact Nat.le_refl _ | exact RowsEq.rfl')))⟩,
(by (try dsimp only at *); (obtain ⟨i, F⟩ := sl_f h2 h10; simp only [F.e, F.ed, nat0, if_true, D.toI] at *; first | (rw [st_no F (by assumption)]; first | exact Nat.le_refl _ | exact RowsEq.rfl') | (rw [st_no1 F (by assumption) (by assumption)]; first | exact Nat.le_refl _ | exact RowsEq.rfl') | (rw [st_no2 F (by assumption) (by assumption)]; first | exact Nat.le_refl _ | exact RowsEq.rfl')))⟩,trivial,
⟨rfl,trivial⟩,
⟨rfl,trivial⟩,
⟨⟨rfl,rfl⟩,trivial⟩,
⟨⟨Nat.le_refl _⟩,RowsEq.rfl'⟩,trivial⟩⟩⟩,
(by (try dsimp only at *); (rw [sl_enum h2, adjG_eq, List.length_map]; first | exact Nat.le_refl _ | rfl)),trivial,
⟨⟨Nat.le_refl _⟩,RowsEq.rfl'⟩,
⟨⟨rfl,rfl⟩,trivial⟩,trivial,
⟨⟨Nat.le_refl _⟩,RowsEq.rfl'⟩,trivial⟩)
end Go.Sym