import Derived.Test.YtplpefihhhcbbaaDoorK2
import Derived.Test.YtplpefihhhcbbaaDoorXD
namespace Go.Sym
set_option linter.unusedVariables false
set_option linter.unusedSimpArgs false
open Go.Proofs
set_option maxHeartbeats 4000000
structure Srch where
 n : Nat
 f : Nat -> List Int
 nodes : List Int
def nearS (f : Nat -> List Int) (v : Int) (m p : Int) : Int := min m ((f p.toNat).getD v.toNat default)
def nearAt (f : Nat -> List Int) (placed : List Int) (v : Int) (j : Nat) : Int := (placed.take j).foldl (nearS f v) 4611686018427387904
def nearF (f : Nat -> List Int) (placed : List Int) (v : Int) : Int := placed.foldl (nearS f v) 4611686018427387904
def waitS (f : Nat -> List Int) (placed : List Int) (w v : Int) : Int := max w (nearF f placed v)
def waitAt (f : Nat -> List Int) (nodes placed : List Int) (k : Nat) : Int := (nodes.take k).foldl (waitS f placed) 0
def waitF (f : Nat -> List Int) (nodes placed : List Int) : Int := nodes.foldl (waitS f placed) 0
theorem nearAt_succ {f : Nat -> List Int} {placed : List Int} {v : Int} {j : Nat} (h : (j : Int) < placed.length) : nearAt f placed v (j + 1) = min (nearAt f placed v j) ((f (placed.getD j default).toNat).getD v.toNat default) := by
 unfold nearAt; rw [take_succ_getD (d := default) (by omega), List.foldl_append]; rfl
theorem nearAt_end {f : Nat -> List Int} {placed : List Int} {v : Int} {j : Nat} (hle : j <= placed.length) (h : ¬ (j : Int) < placed.length) : nearAt f placed v j = nearF f placed v := by unfold nearAt nearF; rw [List.take_of_length_le (by omega)]
theorem waitAt_succ {f : Nat -> List Int} {nodes placed : List Int} {k : Nat} (h : (k : Int) < nodes.length) : waitAt f nodes placed (k + 1) = max (waitAt f nodes placed k) (nearF f placed (nodes.getD k default)) := by
 unfold waitAt; rw [take_succ_getD (d := default) (by omega), List.foldl_append]; rfl
theorem waitAt_end {f : Nat -> List Int} {nodes placed : List Int} {k : Nat} (hle : k <= nodes.length) (h : ¬ (k : Int) < nodes.length) : waitAt f nodes placed k = waitF f nodes placed := by unfold waitAt waitF; rw [List.take_of_length_le (by omega)]
structure ST where
 found : Bool
 worst : Int
 best : List Int
structure WTX where
 s : Srch
 placed : List Int
 st : ST
structure SrchOk (s : Srch) (placed : List Int) : Prop where
 f : ∀ p, p < s.n -> (s.f p).length = s.n
 v : ∀ k, k < s.nodes.length -> 0 <= s.nodes.getD k default /\ s.nodes.getD k default < s.n
 p : ∀ k, k < placed.length -> 0 <= placed.getD k default /\ placed.getD k default < s.n
 nl : s.nodes.length <= 4096
 pl : placed.length <= 1073741824
def srchCs (x : Srch) (np : Nat) (st : ST) (lp lb : Nat) : List SV := [.sl 100001 0 x.n, .sl 100002 0 x.nodes.length, .sl lp 0 np, .b st.found, .i .i64 st.worst, .sl lb 0 st.best.length]
def cwaitC : CT where
 X := WTX
 pre := fun x => SrchOk x.s x.placed
 args := fun x => [.p 100000 0 0]
 g0 := fun x => [(100000, .one .bor (srchCs x.s x.placed.length x.st 100003 100004)), (100001, .rows .bor kLL x.s.n (encLL x.s.f)), (100002, .rows .bor k1 x.s.nodes.length (encL encI x.s.nodes)),
  (100003, .rows .bor k1 x.placed.length (encL encI x.placed)), (100004, .rows .bor k1 x.st.best.length (encL encI x.st.best))]
 res := fun x => .i .i64 (waitF x.s.f x.s.nodes x.placed)
 g1 := fun x => []
def cwaitI (x : WTX) (id : Nat) : Option Inv := match id with
 | 0 => some { X := Nat, ok := fun k => k <= x.s.nodes.length, fr := fun k => [(14, .i .i64 k), (3, .i .i64 (waitAt x.s.f x.s.nodes x.placed k))], hp := fun _ => [], me := fun k => x.s.nodes.length - k,
               inn := fun k id => match id with
                | 2 => some { X := Nat, ok := fun j => j <= x.placed.length, fr := fun j => [(23, .i .i64 j), (6, .i .i64 (nearAt x.s.f x.placed (x.s.nodes.getD k default) j))], hp := fun _ => [], me := fun j => x.placed.length - j }
                | _ => none }
 | _ => none
set_option maxRecDepth 100000 in
theorem cwait_keeps : Keeps cfgN0 Tryd.f52 cwaitC cwaitI := Eq.mp (show ((∀ x1 : WTX, ((SrchOk x1.s x1.placed)-> (∃ x3 : Nat, (((x3 <= x1.s.nodes.length)/\(((0 = (x3 : Int))/\(((0 : Int) = waitAt x1.s.f x1.s.nodes x1.placed x3)/\(((x1.s.nodes.length : Int) = (x1.s.nodes.length : Int))/\((0=0 /\ x1.s.nodes.length = x1.s.nodes.length)/\((0=0/\((1 : Nat) = (1 : Nat)))/\((0=0 /\ 0=0)/\((0=0 /\ 0=0)/\(((0 : Int) = 0)/\((0=0 /\ 0=0)/\True)))))))))/\(((0=0 /\ x1.s.n = x1.s.n)/\((0=0 /\ x1.s.nodes.length = x1.s.nodes.length)/\((0=0 /\ x1.placed.length = x1.placed.length)/\(x1.st.found = x1.st.found/\(x1.st.worst = x1.st.worst/\((0=0 /\ x1.st.best.length = x1.st.best.length)/\True))))))/\(((RLe x1.s.n x1.s.n)/\(RowsEq [.sl [.int .i64]] x1.s.n (encLL x1.s.f) (encLL x1.s.f)))/\(((RLe x1.s.nodes.length x1.s.nodes.length)/\(RowsEq [.int .i64] x1.s.nodes.length (encL encI x1.s.nodes) (encL encI x1.s.nodes)))/\(((RLe x1.placed.length x1.placed.length)/\(RowsEq [.int .i64] x1.placed.length (encL encI x1.placed) (encL encI x1.placed)))/\(((RLe x1.st.best.length x1.st.best.length)/\(RowsEq [.int .i64] x1.st.best.length (encL encI x1.st.best) (encL encI x1.st.best)))/\True)))))))/\(∀ x4 : Nat, ((x4 <= x1.s.nodes.length)-> (((decide ((x4 : Int) < (x1.s.nodes.length : Int)) = true)-> ((((0 : Int) <= (x4 : Int))/\((x4 : Int) < (x1.s.nodes.length : Int)))/\((0 + Int.toNat (x4 : Int) < x1.s.nodes.length)/\(∃ x7 : Nat, (((x7 <= x1.placed.length)/\(((0 = (x7 : Int))/\(((4611686018427387904 : Int) = nearAt x1.s.f x1.placed (x1.s.nodes.getD x4 default) x7)/\(((x1.placed.length : Int) = (x1.placed.length : Int))/\((0=0 /\ x1.placed.length = x1.placed.length)/\((0=0/\((2 : Nat) = (2 : Nat)))/\((0=0 /\ 0=0)/\((0=0 /\ 0=0)/\((x1.s.nodes.getD (0 + Int.toNat (x4 : Int)) default = x1.s.nodes.getD (0 + Int.toNat (x4 : Int)) default)/\((x1.s.nodes.getD (0 + Int.toNat (x4 : Int)) default = x1.s.nodes.getD (0 + Int.toNat (x4 : Int)) default)/\(((0 + Int.toNat (x4 : Int) = 0 + Int.toNat (x4 : Int)) /\ 0=0)/\((decide ((x4 : Int) < (x1.s.nodes.length : Int)) = decide ((x4 : Int) < (x1.s.nodes.length : Int)))/\(((x4 : Int) = (x4 : Int))/\((waitAt x1.s.f x1.s.nodes x1.placed x4 = waitAt x1.s.f x1.s.nodes x1.placed x4)/\(((x1.s.nodes.length : Int) = (x1.s.nodes.length : Int))/\((0=0 /\ x1.s.nodes.length = x1.s.nodes.length)/\((0=0/\((1 : Nat) = (1 : Nat)))/\((0=0 /\ 0=0)/\((0=0 /\ 0=0)/\(((0 : Int) = 0)/\((0=0 /\ 0=0)/\True))))))))))))))))))))/\(((0=0 /\ x1.s.n = x1.s.n)/\((0=0 /\ x1.s.nodes.length = x1.s.nodes.length)/\((0=0 /\ x1.placed.length = x1.placed.length)/\(x1.st.found = x1.st.found/\(x1.st.worst = x1.st.worst/\((0=0 /\ x1.st.best.length = x1.st.best.length)/\True))))))/\(((RLe x1.s.n x1.s.n)/\(RowsEq [.sl [.int .i64]] x1.s.n (encLL x1.s.f) (encLL x1.s.f)))/\(((RLe x1.s.nodes.length x1.s.nodes.length)/\(RowsEq [.int .i64] x1.s.nodes.length (encL encI x1.s.nodes) (encL encI x1.s.nodes)))/\(((RLe x1.placed.length x1.placed.length)/\(RowsEq [.int .i64] x1.placed.length (encL encI x1.placed) (encL encI x1.placed)))/\(((RLe x1.st.best.length x1.st.best.length)/\(RowsEq [.int .i64] x1.st.best.length (encL encI x1.st.best) (encL encI x1.st.best)))/\True)))))))/\(∀ x8 : Nat, ((x8 <= x1.placed.length)-> (((decide ((x8 : Int) < (x1.placed.length : Int)) = true)-> ((((0 : Int) <= (x8 : Int))/\((x8 : Int) < (x1.placed.length : Int)))/\((0 + Int.toNat (x8 : Int) < x1.placed.length)/\((((0 : Int) <= x1.placed.getD (0 + Int.toNat (x8 : Int)) default)/\(x1.placed.getD (0 + Int.toNat (x8 : Int)) default < (x1.s.n : Int)))/\((0 + Int.toNat (x1.placed.getD (0 + Int.toNat (x8 : Int)) default) < x1.s.n)/\((((0 : Int) <= x1.s.nodes.getD (0 + Int.toNat (x4 : Int)) default)/\(x1.s.nodes.getD (0 + Int.toNat (x4 : Int)) default < (↑(x1.s.f (0 + Int.toNat (x1.placed.getD (0 + Int.toNat (x8 : Int)) default))).length : Int)))/\((0 + Int.toNat (x1.s.nodes.getD (0 + Int.toNat (x4 : Int)) default) < (x1.s.f (0 + Int.toNat (x1.placed.getD (0 + Int.toNat (x8 : Int)) default))).length)/\((((-9223372036854775808 : Int) <= (x8 : Int) + 1)/\((x8 : Int) + 1 <= (9223372036854775807 : Int)))/\(∃ x11 : Nat, ((x1.placed.length - x11 < x1.placed.length - x8)/\((x11 <= x1.placed.length)/\((((x8 : Int) + 1 = (x11 : Int))/\((min (nearAt x1.s.f x1.placed (x1.s.nodes.getD x4 default) x8) ((x1.s.f (0 + Int.toNat (x1.placed.getD (0 + Int.toNat (x8 : Int)) default))).getD (0 + Int.toNat (x1.s.nodes.getD (0 + Int.toNat (x4 : Int)) default)) default) = nearAt x1.s.f x1.placed (x1.s.nodes.getD x4 default) x11)/\(((x1.placed.length : Int) = (x1.placed.length : Int))/\((0=0 /\ x1.placed.length = x1.placed.length)/\((0=0/\((2 : Nat) = (2 : Nat)))/\((0=0 /\ 0=0)/\((0=0 /\ 0=0)/\((x1.s.nodes.getD (0 + Int.toNat (x4 : Int)) default = x1.s.nodes.getD (0 + Int.toNat (x4 : Int)) default)/\((x1.s.nodes.getD (0 + Int.toNat (x4 : Int)) default = x1.s.nodes.getD (0 + Int.toNat (x4 : Int)) default)/\(((0 + Int.toNat (x4 : Int) = 0 + Int.toNat (x4 : Int)) /\ 0=0)/\((decide ((x4 : Int) < (x1.s.nodes.length : Int)) = decide ((x4 : Int) < (x1.s.nodes.length : Int)))/\(((x4 : Int) = (x4 : Int))/\((waitAt x1.s.f x1.s.nodes x1.placed x4 = waitAt x1.s.f x1.s.nodes x1.placed x4)/\(((x1.s.nodes.length : Int) = (x1.s.nodes.length : Int))/\((0=0 /\ x1.s.nodes.length = x1.s.nodes.length)/\((0=0/\((1 : Nat) = (1 : Nat)))/\((0=0 /\ 0=0)/\((0=0 /\ 0=0)/\(((0 : Int) = 0)/\((0=0 /\ 0=0)/\True))))))))))))))))))))/\(((0=0 /\ x1.s.n = x1.s.n)/\((0=0 /\ x1.s.nodes.length = x1.s.nodes.length)/\((0=0 /\ x1.placed.length = x1.placed.length)/\(x1.st.found = x1.st.found/\(x1.st.worst = x1.st.worst/\((0=0 /\ x1.st.best.length = x1.st.best.length)/\True))))))/\(((RLe x1.s.n x1.s.n)/\(RowsEq [.sl [.int .i64]] x1.s.n (encLL x1.s.f) (encLL x1.s.f)))/\(((RLe x1.s.nodes.length x1.s.nodes.length)/\(RowsEq [.int .i64] x1.s.nodes.length (encL encI x1.s.nodes) (encL encI x1.s.nodes)))/\(((RLe x1.placed.length x1.placed.length)/\(RowsEq [.int .i64] x1.placed.length (encL encI x1.placed) (encL encI x1.placed)))/\(((RLe x1.st.best.length x1.st.best.length)/\(RowsEq [.int .i64] x1.st.best.length (encL encI x1.st.best) (encL encI x1.st.best)))/\True)))))))))))))))))/\((decide ((x8 : Int) < (x1.placed.length : Int)) = false)-> ((((-9223372036854775808 : Int) <= (x4 : Int) + 1)/\((x4 : Int) + 1 <= (9223372036854775807 : Int)))/\(∃ x13 : Nat, ((x1.s.nodes.length - x13 < x1.s.nodes.length - x4)/\((x13 <= x1.s.nodes.length)/\((((x4 : Int) + 1 = (x13 : Int))/\((max (waitAt x1.s.f x1.s.nodes x1.placed x4) (nearAt x1.s.f x1.placed (x1.s.nodes.getD x4 default) x8) = waitAt x1.s.f x1.s.nodes x1.placed x13)/\(((x1.s.nodes.length : Int) = (x1.s.nodes.length : Int))/\((0=0 /\ x1.s.nodes.length = x1.s.nodes.length)/\((0=0/\((1 : Nat) = (1 : Nat)))/\((0=0 /\ 0=0)/\((0=0 /\ 0=0)/\(((0 : Int) = 0)/\((0=0 /\ 0=0)/\True)))))))))/\(((0=0 /\ x1.s.n = x1.s.n)/\((0=0 /\ x1.s.nodes.length = x1.s.nodes.length)/\((0=0 /\ x1.placed.length = x1.placed.length)/\(x1.st.found = x1.st.found/\(x1.st.worst = x1.st.worst/\((0=0 /\ x1.st.best.length = x1.st.best.length)/\True))))))/\(((RLe x1.s.n x1.s.n)/\(RowsEq [.sl [.int .i64]] x1.s.n (encLL x1.s.f) (encLL x1.s.f)))/\(((RLe x1.s.nodes.length x1.s.nodes.length)/\(RowsEq [.int .i64] x1.s.nodes.length (encL encI x1.s.nodes) (encL encI x1.s.nodes)))/\(((RLe x1.placed.length x1.placed.length)/\(RowsEq [.int .i64] x1.placed.length (encL encI x1.placed) (encL encI x1.placed)))/\(((RLe x1.st.best.length x1.st.best.length)/\(RowsEq [.int .i64] x1.st.best.length (encL encI x1.st.best) (encL encI x1.st.best)))/\True)))))))))))))))))))/\((decide ((x4 : Int) < (x1.s.nodes.length : Int)) = false)-> ((waitAt x1.s.f x1.s.nodes x1.placed x4 = waitF x1.s.f x1.s.nodes x1.placed)/\True)))))))))) = (Keeps cfgN0 Tryd.f52 cwaitC cwaitI) by kernel_rfl) (fun x1 => fun h2 => ⟨((0 : Nat)),
⟨(by (try dsimp only at *); omega),
⟨(by (try dsimp only at *); omega),
(by (try dsimp only at *); rfl),rfl,
⟨rfl,rfl⟩,
⟨rfl,rfl⟩,
⟨rfl,rfl⟩,
⟨rfl,rfl⟩,rfl,
⟨rfl,rfl⟩,trivial⟩,
⟨⟨rfl,rfl⟩,
⟨rfl,rfl⟩,
⟨rfl,rfl⟩,rfl,rfl,
⟨rfl,rfl⟩,trivial⟩,
⟨⟨Nat.le_refl _⟩,RowsEq.rfl'⟩,
⟨⟨Nat.le_refl _⟩,RowsEq.rfl'⟩,
⟨⟨Nat.le_refl _⟩,RowsEq.rfl'⟩,
⟨⟨Nat.le_refl _⟩,RowsEq.rfl'⟩,trivial⟩,
fun x4 => fun h5 => ⟨fun g6 => have h6 := of_decide_eq_true g6; ⟨⟨(by (try dsimp only at *); omega),
(by (try dsimp only at *); omega)⟩,
(by (try dsimp only at *); omega),
((0 : Nat)),
⟨(by (try dsimp only at *); omega),
⟨(by (try dsimp only at *); omega),
(by (try dsimp only at *); rfl),rfl,
⟨rfl,rfl⟩,
⟨rfl,rfl⟩,
⟨rfl,rfl⟩,
⟨rfl,rfl⟩,rfl,rfl,
⟨rfl,rfl⟩,rfl,rfl,rfl,rfl,
⟨rfl,rfl⟩,
⟨rfl,rfl⟩,
⟨rfl,rfl⟩,
⟨rfl,rfl⟩,rfl,
⟨rfl,rfl⟩,trivial⟩,
⟨⟨rfl,rfl⟩,
⟨rfl,rfl⟩,
⟨rfl,rfl⟩,rfl,rfl,
⟨rfl,rfl⟩,trivial⟩,
⟨⟨Nat.le_refl _⟩,RowsEq.rfl'⟩,
⟨⟨Nat.le_refl _⟩,RowsEq.rfl'⟩,
⟨⟨Nat.le_refl _⟩,RowsEq.rfl'⟩,
⟨⟨Nat.le_refl _⟩,RowsEq.rfl'⟩,trivial⟩,
fun x8 => fun h9 => ⟨fun g10 => have h10 := of_decide_eq_true g10; ⟨⟨(by (try dsimp only at *); omega),
(by (try dsimp only at *); omega)⟩,
(by (try dsimp only at *); omega),
⟨(by (try dsimp only at *); ((try simp only [Nat.zero_add, Int.toNat_natCast] at *); have a := h2.p x8 (by omega); have b := h2.v x4 (by omega); have c := h2.f (x1.placed.getD x8 default).toNat (by omega); omega)),
(by (try dsimp only at *); ((try simp only [Nat.zero_add, Int.toNat_natCast] at *); have a := h2.p x8 (by omega); have b := h2.v x4 (by omega); have c := h2.f (x1.placed.getD x8 default).toNat (by omega); omega))⟩,
(by (try dsimp only at *); ((try simp only [Nat.zero_add, Int.toNat_natCast] at *); have a := h2.p x8 (by omega); have b := h2.v x4 (by omega); have c := h2.f (x1.placed.getD x8 default).toNat (by omega); omega)),
⟨(by (try dsimp only at *); ((try simp only [Nat.zero_add, Int.toNat_natCast] at *); have a := h2.p x8 (by omega); have b := h2.v x4 (by omega); have c := h2.f (x1.placed.getD x8 default).toNat (by omega); omega)),
(by (try dsimp only at *); ((try simp only [Nat.zero_add, Int.toNat_natCast] at *); have a := h2.p x8 (by omega); have b := h2.v x4 (by omega); have c := h2.f (x1.placed.getD x8 default).toNat (by omega); omega))⟩,
(by (try dsimp only at *); ((try simp only [Nat.zero_add, Int.toNat_natCast] at *); have a := h2.p x8 (by omega); have b := h2.v x4 (by omega); have c := h2.f (x1.placed.getD x8 default).toNat (by omega); omega)),
⟨(by (try dsimp only at *); omega),
(by (try dsimp only at *); (have := h2.nl; have := h2.pl; omega))⟩,
(x8 + (1 : Nat)),
(by (try dsimp only at *); omega),
(by (try dsimp only at *); omega),
⟨(by (try dsimp only at *); omega),
(by (try dsimp only at *); ((try simp only [Nat.zero_add, Int.toNat_natCast] at *); exact (nearAt_succ h10).symm)),rfl,
⟨rfl,rfl⟩,
⟨rfl,rfl⟩,
⟨rfl,rfl⟩,
⟨rfl,rfl⟩,rfl,rfl,
⟨rfl,rfl⟩,rfl,rfl,rfl,rfl,
⟨rfl,rfl⟩,
⟨rfl,rfl⟩,
⟨rfl,rfl⟩,
⟨rfl,rfl⟩,rfl,
⟨rfl,rfl⟩,trivial⟩,
⟨⟨rfl,rfl⟩,
⟨rfl,rfl⟩,
⟨rfl,rfl⟩,rfl,rfl,
⟨rfl,rfl⟩,trivial⟩,
⟨⟨Nat.le_refl _⟩,RowsEq.rfl'⟩,
⟨⟨Nat.le_refl _⟩,RowsEq.rfl'⟩,
⟨⟨Nat.le_refl _⟩,RowsEq.rfl'⟩,
⟨⟨Nat.le_refl _⟩,RowsEq.rfl'⟩,trivial⟩,
fun g12 => have h12 := of_decide_eq_false g12; ⟨⟨(by (try dsimp only at *); omega),
(by (try dsimp only at *); (have := h2.nl; have := h2.pl; omega))⟩,
(x4 + (1 : Nat)),
(by (try dsimp only at *); omega),
(by (try dsimp only at *); omega),
⟨(by (try dsimp only at *); omega),
(by (try dsimp only at *); (rw [waitAt_succ h6, nearAt_end h9 h12])),rfl,
⟨rfl,rfl⟩,
⟨rfl,rfl⟩,
⟨rfl,rfl⟩,
⟨rfl,rfl⟩,rfl,
⟨rfl,rfl⟩,trivial⟩,
⟨⟨rfl,rfl⟩,
⟨rfl,rfl⟩,
⟨rfl,rfl⟩,rfl,rfl,
⟨rfl,rfl⟩,trivial⟩,
⟨⟨Nat.le_refl _⟩,RowsEq.rfl'⟩,
⟨⟨Nat.le_refl _⟩,RowsEq.rfl'⟩,
⟨⟨Nat.le_refl _⟩,RowsEq.rfl'⟩,
⟨⟨Nat.le_refl _⟩,RowsEq.rfl'⟩,trivial⟩⟩⟩,
fun g14 => have h14 := of_decide_eq_false g14; ⟨(by (try dsimp only at *); exact waitAt_end h5 h14),trivial⟩⟩⟩)
theorem cwait_good : Good Tryd.prog 52 cwaitC /\ FnOk Tryd.prog 52 := good_of tok conN0 (fn := Tryd.f52) rfl (by decide +kernel) (fun _ => rfl) cwait_keeps
end Go.Sym