import Derived.Test.YtplpefihhhcbbaaDoorP6
import Derived.Test.YtplpefihhhcbbaaDoorXD
namespace Go.Sym
set_option linter.unusedVariables false
set_option linter.unusedSimpArgs false
open Go.Proofs
set_option maxHeartbeats 4000000
def putStep (f : Nat -> Int × List Int) (s : Int × List Int) (k : Nat) : Int × List Int := if s.1 < 0 ∨ (f k).1 < s.1 then f k else s
def putR (g : Gr) (ts of : List Int) : Nat -> List Int -> Nat -> Int × List Int
 | 0, there, _ => ((worstR g ts there of).1, there)
 | m + 1, there, fr => (List.range (g.n - fr)).foldl (fun s i => putStep (fun k => putR g ts of m (there ++ [(k : Int)]) k) s (fr + i)) (-1, there)
def putAt (g : Gr) (ts of : List Int) (m : Nat) (there : List Int) (fr j : Nat) : Int × List Int :=
 (List.range j).foldl (fun s i => putStep (fun k => putR g ts of m (there ++ [(k : Int)]) k) s (fr + i)) (-1, there)
theorem putAt_succ {g : Gr} {ts of : List Int} {m : Nat} {there : List Int} {fr j : Nat} : putAt g ts of m there fr (j + 1) = putStep (fun k => putR g ts of m (there ++ [(k : Int)]) k) (putAt g ts of m there fr j) (fr + j) := by
 unfold putAt; rw [List.range_succ, List.foldl_append]; rfl
structure PX where
 g : Gr
 ts : List Int
 of : List Int
 there : List Int
 from_ : Nat
 more : Nat
structure PXok (x : PX) : Prop where
 g : GOk x.g
 n : x.g.n <= 12
 of : x.of.length <= 1048576
 t : x.there.length + x.more <= 4
theorem PXok.w {x : PX} (h : PXok x) : WXok ⟨x.g, x.ts, x.there, x.of⟩ := ⟨⟨h.g, h.n, by have := h.t; show x.there.length <= _; omega⟩, h.of⟩
def putL (x : PX) : Int × List Int := putR x.g x.ts x.of x.more x.there x.from_
def putC (m : Nat) : CT where
 X := PX
 pre := fun x => PXok x /\ x.more < m
 args := fun x => [netA x.g, .sl 100001 0 x.ts.length, .sl 100002 0 x.of.length, .sl 100003 0 x.there.length, .i .i64 x.from_, .i .i64 x.more]
 g0 := fun x => [(100000, .rows .bor kE x.g.es.length (encL encE x.g.es)), (100001, .rows .bor k1 x.ts.length (encL encI x.ts)), (100002, .rows .bor k1 x.of.length (encL encI x.of)), (100003, .rows .own k1 x.there.length (encL encI x.there))]
 res := fun x => .tup [.i .i64 (putL x).1, .sl 1 0 (putL x).2.length]
 g1 := fun x => [(100003, .dead), (1, .rows .bor k1 (putL x).2.length (encL encI (putL x).2))]
def putI (x : PX) (id : Nat) : Option Inv := match id with
 | 0 => some { X := Nat, ok := fun j => j = 0 ∨ x.from_ + j <= x.g.n, fr := fun j => [(18, .i .i64 ((x.from_ + j : Nat) : Int)), (16, .i .i64 (putAt x.g x.ts x.of (x.more - 1) x.there x.from_ j).1), (17, .sl 61 0 (putAt x.g x.ts x.of (x.more - 1) x.there x.from_ j).2.length)],
               hp := fun j => [(61, .rows .bor k1 (putAt x.g x.ts x.of (x.more - 1) x.there x.from_ j).2.length (encL encI (putAt x.g x.ts x.of (x.more - 1) x.there x.from_ j).2)), (100003, .rows .bor k1 x.there.length (encL encI x.there))], me := fun j => x.g.n - (x.from_ + j) }
 | _ => none
def cfgPut (m : Nat) : Cfg := ⟨T, [], [(36, .one vworstC), (41, .one (putC m))], noInv, 50, {}⟩
theorem put_lt {g : Gr} {ts of : List Int} {m : Nat} {there : List Int} {fr j : Nat} (h : (putR g ts of m (there ++ [((fr + j : Nat) : Int)]) (fr + j)).1 < (putAt g ts of m there fr j).1) :
  putAt g ts of m there fr (j + 1) = putR g ts of m (there ++ [((fr + j : Nat) : Int)]) (fr + j) := by rw [putAt_succ]; exact if_pos (.inr h)
theorem put_neg {g : Gr} {ts of : List Int} {m : Nat} {there : List Int} {fr j : Nat} (h : (putAt g ts of m there fr j).1 < 0) :
  putAt g ts of m there fr (j + 1) = putR g ts of m (there ++ [((fr + j : Nat) : Int)]) (fr + j) := by rw [putAt_succ]; exact if_pos (.inl h)
theorem put_no {g : Gr} {ts of : List Int} {m : Nat} {there : List Int} {fr j : Nat} (h1 : ¬ (putAt g ts of m there fr j).1 < 0) (h : ¬ (putR g ts of m (there ++ [((fr + j : Nat) : Int)]) (fr + j)).1 < (putAt g ts of m there fr j).1) :
  putAt g ts of m there fr (j + 1) = putAt g ts of m there fr j := by rw [putAt_succ]; exact if_neg (fun q => q.elim h1 h)
theorem put_end {x : PX} {j : Nat} (hm : ¬ (x.more : Int) = 0) (h : j = 0 ∨ x.from_ + j <= x.g.n) (h2 : ¬ ((x.from_ + j : Nat) : Int) < x.g.n) : putAt x.g x.ts x.of (x.more - 1) x.there x.from_ j = putL x := by
 have e : j = x.g.n - x.from_ := by omega
 subst e
 unfold putL
 cases hq : x.more with
 | zero => exact absurd (by rw [hq]; rfl) hm
 | succ m => rfl
theorem push0_rows {l : List Int} {c : Int} : RowsEq k1 (l ++ [c]).length (appRows (0 + l.length) (appRows 0 (litRows []) 0 (encL encI l)) 0 (litRows [[.i c]])) (encL encI (l ++ [c])) :=
 rowsEq_pushOf (rowsEq_nil (ys := l) (by omega) (fun i _ => by rw [Nat.zero_add]; exact rowEq_rfl _ _ _)) (by simp) (by simp) (by simp only [rowEq, Kd.eqv, k1]; exact ⟨rfl, trivial⟩)
set_option maxRecDepth 100000 in
theorem put_keeps : ∀ m : Nat, Keeps (cfgPut m) Tryd.f41 (putC (m + 1)) putI := Eq.mp (show ((∀ m1 : Nat, (∀ x2 : PX, ((PXok x2 /\ x2.more < m1 + (1 : Nat))-> (((decide ((x2.more : Int) = 0) = true)-> (∃ x5 : WX, ((WXok x5)/\(((((x2.g.n : Int) = (x5.g.n : Int))/\((0=0 /\ x2.g.es.length = x5.g.es.length)/\True))/\((0=0 /\ x2.ts.length = x5.ts.length)/\((0=0 /\ x2.there.length = x5.src.length)/\((0=0 /\ x2.of.length = x5.of.length)/\True))))/\((((RLe x5.g.es.length x2.g.es.length)/\(RowsEq [.int .i64, .int .i64, .int .i64] x5.g.es.length (encL encE x2.g.es) (encL encE x5.g.es)))/\(((RLe x5.ts.length x2.ts.length)/\(RowsEq [.int .i64] x5.ts.length (encL encI x2.ts) (encL encI x5.ts)))/\(((RLe x5.src.length x2.there.length)/\(RowsEq [.int .i64] x5.src.length (encL encI x2.there) (encL encI x5.src)))/\(((RLe x5.of.length x2.of.length)/\(RowsEq [.int .i64] x5.of.length (encL encI x2.of) (encL encI x5.of)))/\True))))/\(((Prod.fst (worstR x5.g x5.ts x5.src x5.of) = Prod.fst (putL x2))/\((0=0/\(x2.there.length = (Prod.snd (putL x2)).length))/\True))/\(True/\(((RLe (Prod.snd (putL x2)).length x2.there.length)/\(RowsEq [.int .i64] (Prod.snd (putL x2)).length (encL encI x2.there) (encL encI (Prod.snd (putL x2)))))/\True))))))))/\((decide ((x2.more : Int) = 0) = false)-> (∃ x7 : Nat, (((x7 = (0 : Nat) ∨ x2.from_ + x7 <= x2.g.n)/\((((x2.from_ : Int) = (↑(x2.from_ + x7) : Int))/\(((-1 : Int) = Prod.fst (putAt x2.g x2.ts x2.of (x2.more - (1 : Nat)) x2.there x2.from_ x7))/\((0=0/\(x2.there.length = (Prod.snd (putAt x2.g x2.ts x2.of (x2.more - (1 : Nat)) x2.there x2.from_ x7)).length))/\(((x2.from_ : Int) = (x2.from_ : Int))/\((0=0 /\ x2.there.length = x2.there.length)/\((decide ((x2.more : Int) = 0) = decide ((x2.more : Int) = 0))/\(((x2.more : Int) = (x2.more : Int))/\(True/\(((0 : Int) = 0)/\((0=0 /\ 0=0)/\((((x2.g.n : Int) = (x2.g.n : Int))/\((0=0 /\ x2.g.es.length = x2.g.es.length)/\True))/\((0=0 /\ x2.ts.length = x2.ts.length)/\((0=0 /\ x2.of.length = x2.of.length)/\((0=0 /\ x2.there.length = x2.there.length)/\(((x2.from_ : Int) = (x2.from_ : Int))/\(((x2.more : Int) = (x2.more : Int))/\True))))))))))))))))/\(((RLe (Prod.snd (putAt x2.g x2.ts x2.of (x2.more - (1 : Nat)) x2.there x2.from_ x7)).length x2.there.length)/\(RowsEq [.int .i64] (Prod.snd (putAt x2.g x2.ts x2.of (x2.more - (1 : Nat)) x2.there x2.from_ x7)).length (encL encI x2.there) (encL encI (Prod.snd (putAt x2.g x2.ts x2.of (x2.more - (1 : Nat)) x2.there x2.from_ x7)))))/\(((RLe x2.there.length x2.there.length)/\(RowsEq [.int .i64] x2.there.length (encL encI x2.there) (encL encI x2.there)))/\((((x2.g.n : Int) = (x2.g.n : Int))/\((0=0 /\ x2.g.es.length = x2.g.es.length)/\True))/\(((RLe x2.g.es.length x2.g.es.length)/\(RowsEq [.int .i64, .int .i64, .int .i64] x2.g.es.length (encL encE x2.g.es) (encL encE x2.g.es)))/\(((RLe x2.ts.length x2.ts.length)/\(RowsEq [.int .i64] x2.ts.length (encL encI x2.ts) (encL encI x2.ts)))/\(((RLe x2.of.length x2.of.length)/\(RowsEq [.int .i64] x2.of.length (encL encI x2.of) (encL encI x2.of)))/\True))))))))/\(∀ x8 : Nat, ((x8 = (0 : Nat) ∨ x2.from_ + x8 <= x2.g.n)-> (((decide ((↑(x2.from_ + x8) : Int) < (x2.g.n : Int)) = true)-> (True/\((0=0/\(((0 : Nat) <= (0 : Nat))/\(((0 : Nat) + x2.there.length <= x2.there.length)/\((0 : Nat) + x2.there.length <= (1073741824 : Nat)))))/\(((True/\True)/\True)/\((0=0/\(((0 : Nat) + x2.there.length <= (0 : Nat) + x2.there.length)/\(((1 : Nat) <= (1 : Nat))/\((0 : Nat) + x2.there.length + (1 : Nat) <= (1073741824 : Nat)))))/\((((-9223372036854775808 : Int) <= (x2.more : Int) - 1)/\((x2.more : Int) - 1 <= (9223372036854775807 : Int)))/\(∃ x11 : PX, (((PXok x11)/\(x11.more < m1))/\(((((x2.g.n : Int) = (x11.g.n : Int))/\((0=0 /\ x2.g.es.length = x11.g.es.length)/\True))/\((0=0 /\ x2.ts.length = x11.ts.length)/\((0=0 /\ x2.of.length = x11.of.length)/\((0=0/\((0 : Nat) + x2.there.length + (1 : Nat) = x11.there.length))/\(((↑(x2.from_ + x8) : Int) = (x11.from_ : Int))/\(((x2.more : Int) - 1 = (x11.more : Int))/\True))))))/\((((RLe x11.g.es.length x2.g.es.length)/\(RowsEq [.int .i64, .int .i64, .int .i64] x11.g.es.length (encL encE x2.g.es) (encL encE x11.g.es)))/\(((RLe x11.ts.length x2.ts.length)/\(RowsEq [.int .i64] x11.ts.length (encL encI x2.ts) (encL encI x11.ts)))/\(((RLe x11.of.length x2.of.length)/\(RowsEq [.int .i64] x11.of.length (encL encI x2.of) (encL encI x11.of)))/\(((RLe x11.there.length ((0 : Nat) + x2.there.length + (1 : Nat)))/\(RowsEq [.int .i64] x11.there.length (appRows ((0 : Nat) + x2.there.length) (appRows 0 (litRows (@List.nil (List D))) 0 (encL encI x2.there)) 0 (litRows ((D.i (↑(x2.from_ + x8) : Int) :: @List.nil D) :: @List.nil (List D)))) (encL encI x11.there)))/\True))))/\(((decide (Prod.fst (putAt x2.g x2.ts x2.of (x2.more - (1 : Nat)) x2.there x2.from_ x8) < (0 : Int)) = false)-> (((decide (Prod.fst (putL x11) < Prod.fst (putAt x2.g x2.ts x2.of (x2.more - (1 : Nat)) x2.there x2.from_ x8)) = true)-> ((((-9223372036854775808 : Int) <= (↑(x2.from_ + x8) : Int) + 1)/\((↑(x2.from_ + x8) : Int) + 1 <= (9223372036854775807 : Int)))/\(∃ x14 : Nat, ((x2.g.n - (x2.from_ + x14) < x2.g.n - (x2.from_ + x8))/\((x14 = (0 : Nat) ∨ x2.from_ + x14 <= x2.g.n)/\((((↑(x2.from_ + x8) : Int) + 1 = (↑(x2.from_ + x14) : Int))/\((Prod.fst (putL x11) = Prod.fst (putAt x2.g x2.ts x2.of (x2.more - (1 : Nat)) x2.there x2.from_ x14))/\((0=0/\((Prod.snd (putL x11)).length = (Prod.snd (putAt x2.g x2.ts x2.of (x2.more - (1 : Nat)) x2.there x2.from_ x14)).length))/\(((x2.from_ : Int) = (x2.from_ : Int))/\((0=0 /\ x2.there.length = x2.there.length)/\((decide ((x2.more : Int) = 0) = decide ((x2.more : Int) = 0))/\(((x2.more : Int) = (x2.more : Int))/\(True/\(((0 : Int) = 0)/\((0=0 /\ 0=0)/\((((x2.g.n : Int) = (x2.g.n : Int))/\((0=0 /\ x2.g.es.length = x2.g.es.length)/\True))/\((0=0 /\ x2.ts.length = x2.ts.length)/\((0=0 /\ x2.of.length = x2.of.length)/\((0=0 /\ x2.there.length = x2.there.length)/\(((x2.from_ : Int) = (x2.from_ : Int))/\(((x2.more : Int) = (x2.more : Int))/\True))))))))))))))))/\(((RLe (Prod.snd (putAt x2.g x2.ts x2.of (x2.more - (1 : Nat)) x2.there x2.from_ x14)).length (Prod.snd (putL x11)).length)/\(RowsEq [.int .i64] (Prod.snd (putAt x2.g x2.ts x2.of (x2.more - (1 : Nat)) x2.there x2.from_ x14)).length (encL encI (Prod.snd (putL x11))) (encL encI (Prod.snd (putAt x2.g x2.ts x2.of (x2.more - (1 : Nat)) x2.there x2.from_ x14)))))/\(((RLe x2.there.length x2.there.length)/\(RowsEq [.int .i64] x2.there.length (encL encI x2.there) (encL encI x2.there)))/\((((x2.g.n : Int) = (x2.g.n : Int))/\((0=0 /\ x2.g.es.length = x2.g.es.length)/\True))/\(((RLe x2.g.es.length x2.g.es.length)/\(RowsEq [.int .i64, .int .i64, .int .i64] x2.g.es.length (encL encE x2.g.es) (encL encE x2.g.es)))/\(((RLe x2.ts.length x2.ts.length)/\(RowsEq [.int .i64] x2.ts.length (encL encI x2.ts) (encL encI x2.ts)))/\(((RLe x2.of.length x2.of.length)/\(RowsEq [.int .i64] x2.of.length (encL encI x2.of) (encL encI x2.of)))/\True))))))))))))/\((decide (Prod.fst (putL x11) < Prod.fst (putAt x2.g x2.ts x2.of (x2.more - (1 : Nat)) x2.there x2.from_ x8)) = false)-> ((((-9223372036854775808 : Int) <= (↑(x2.from_ + x8) : Int) + 1)/\((↑(x2.from_ + x8) : Int) + 1 <= (9223372036854775807 : Int)))/\(∃ x16 : Nat, ((x2.g.n - (x2.from_ + x16) < x2.g.n - (x2.from_ + x8))/\((x16 = (0 : Nat) ∨ x2.from_ + x16 <= x2.g.n)/\((((↑(x2.from_ + x8) : Int) + 1 = (↑(x2.from_ + x16) : Int))/\((Prod.fst (putAt x2.g x2.ts x2.of (x2.more - (1 : Nat)) x2.there x2.from_ x8) = Prod.fst (putAt x2.g x2.ts x2.of (x2.more - (1 : Nat)) x2.there x2.from_ x16))/\((0=0/\((Prod.snd (putAt x2.g x2.ts x2.of (x2.more - (1 : Nat)) x2.there x2.from_ x8)).length = (Prod.snd (putAt x2.g x2.ts x2.of (x2.more - (1 : Nat)) x2.there x2.from_ x16)).length))/\(((x2.from_ : Int) = (x2.from_ : Int))/\((0=0 /\ x2.there.length = x2.there.length)/\((decide ((x2.more : Int) = 0) = decide ((x2.more : Int) = 0))/\(((x2.more : Int) = (x2.more : Int))/\(True/\(((0 : Int) = 0)/\((0=0 /\ 0=0)/\((((x2.g.n : Int) = (x2.g.n : Int))/\((0=0 /\ x2.g.es.length = x2.g.es.length)/\True))/\((0=0 /\ x2.ts.length = x2.ts.length)/\((0=0 /\ x2.of.length = x2.of.length)/\((0=0 /\ x2.there.length = x2.there.length)/\(((x2.from_ : Int) = (x2.from_ : Int))/\(((x2.more : Int) = (x2.more : Int))/\True))))))))))))))))/\(((RLe (Prod.snd (putAt x2.g x2.ts x2.of (x2.more - (1 : Nat)) x2.there x2.from_ x16)).length (Prod.snd (putAt x2.g x2.ts x2.of (x2.more - (1 : Nat)) x2.there x2.from_ x8)).length)/\(RowsEq [.int .i64] (Prod.snd (putAt x2.g x2.ts x2.of (x2.more - (1 : Nat)) x2.there x2.from_ x16)).length (encL encI (Prod.snd (putAt x2.g x2.ts x2.of (x2.more - (1 : Nat)) x2.there x2.from_ x8))) (encL encI (Prod.snd (putAt x2.g x2.ts x2.of (x2.more - (1 : Nat)) x2.there x2.from_ x16)))))/\(((RLe x2.there.length x2.there.length)/\(RowsEq [.int .i64] x2.there.length (encL encI x2.there) (encL encI x2.there)))/\((((x2.g.n : Int) = (x2.g.n : Int))/\((0=0 /\ x2.g.es.length = x2.g.es.length)/\True))/\(((RLe x2.g.es.length x2.g.es.length)/\(RowsEq [.int .i64, .int .i64, .int .i64] x2.g.es.length (encL encE x2.g.es) (encL encE x2.g.es)))/\(((RLe x2.ts.length x2.ts.length)/\(RowsEq [.int .i64] x2.ts.length (encL encI x2.ts) (encL encI x2.ts)))/\(((RLe x2.of.length x2.of.length)/\(RowsEq [.int .i64] x2.of.length (encL encI x2.of) (encL encI x2.of)))/\True))))))))))))))/\((decide (Prod.fst (putAt x2.g x2.ts x2.of (x2.more - (1 : Nat)) x2.there x2.from_ x8) < (0 : Int)) = true)-> ((((-9223372036854775808 : Int) <= (↑(x2.from_ + x8) : Int) + 1)/\((↑(x2.from_ + x8) : Int) + 1 <= (9223372036854775807 : Int)))/\(∃ x18 : Nat, ((x2.g.n - (x2.from_ + x18) < x2.g.n - (x2.from_ + x8))/\((x18 = (0 : Nat) ∨ x2.from_ + x18 <= x2.g.n)/\((((↑(x2.from_ + x8) : Int) + 1 = (↑(x2.from_ + x18) : Int))/\((Prod.fst (putL x11) = Prod.fst (putAt x2.g x2.ts x2.of (x2.more - (1 : Nat)) x2.there x2.from_ x18))/\((0=0/\((Prod.snd (putL x11)).length = (Prod.snd (putAt x2.g x2.ts x2.of (x2.more - (1 : Nat)) x2.there x2.from_ x18)).length))/\(((x2.from_ : Int) = (x2.from_ : Int))/\((0=0 /\ x2.there.length = x2.there.length)/\((decide ((x2.more : Int) = 0) = decide ((x2.more : Int) = 0))/\(((x2.more : Int) = (x2.more : Int))/\(True/\(((0 : Int) = 0)/\((0=0 /\ 0=0)/\((((x2.g.n : Int) = (x2.g.n : Int))/\((0=0 /\ x2.g.es.length = x2.g.es.length)/\True))/\((0=0 /\ x2.ts.length = x2.ts.length)/\((0=0 /\ x2.of.length = x2.of.length)/\((0=0 /\ x2.there.length = x2.there.length)/\(((x2.from_ : Int) = (x2.from_ : Int))/\(((x2.more : Int) = (x2.more : Int))/\True))))))))))))))))/\(((RLe (Prod.snd (putAt x2.g x2.ts x2.of (x2.more - (1 : Nat)) x2.there x2.from_ x18)).length (Prod.snd (putL x11)).length)/\(RowsEq [.int .i64] (Prod.snd (putAt x2.g x2.ts x2.of (x2.more - (1 : Nat)) x2.there x2.from_ x18)).length (encL encI (Prod.snd (putL x11))) (encL encI (Prod.snd (putAt x2.g x2.ts x2.of (x2.more - (1 : Nat)) x2.there x2.from_ x18)))))/\(((RLe x2.there.length x2.there.length)/\(RowsEq [.int .i64] x2.there.length (encL encI x2.there) (encL encI x2.there)))/\((((x2.g.n : Int) = (x2.g.n : Int))/\((0=0 /\ x2.g.es.length = x2.g.es.length)/\True))/\(((RLe x2.g.es.length x2.g.es.length)/\(RowsEq [.int .i64, .int .i64, .int .i64] x2.g.es.length (encL encE x2.g.es) (encL encE x2.g.es)))/\(((RLe x2.ts.length x2.ts.length)/\(RowsEq [.int .i64] x2.ts.length (encL encI x2.ts) (encL encI x2.ts)))/\(((RLe x2.of.length x2.of.length)/\(RowsEq [.int .i64] x2.of.length (encL encI x2.of) (encL encI x2.of)))/\True)))))))))))))))))))))))/\((decide ((↑(x2.from_ + x8) : Int) < (x2.g.n : Int)) = false)-> (((Prod.fst (putAt x2.g x2.ts x2.of (x2.more - (1 : Nat)) x2.there x2.from_ x8) = Prod.fst (putL x2))/\((0=0/\((Prod.snd (putAt x2.g x2.ts x2.of (x2.more - (1 : Nat)) x2.there x2.from_ x8)).length = (Prod.snd (putL x2)).length))/\True))/\(True/\(((RLe (Prod.snd (putL x2)).length (Prod.snd (putAt x2.g x2.ts x2.of (x2.more - (1 : Nat)) x2.there x2.from_ x8)).length)/\(RowsEq [.int .i64] (Prod.snd (putL x2)).length (encL encI (Prod.snd (putAt x2.g x2.ts x2.of (x2.more - (1 : Nat)) x2.there x2.from_ x8))) (encL encI (Prod.snd (putL x2)))))/\True))))))))))))))) = (∀ m : Nat, Keeps (cfgPut m) Tryd.f41 (putC (m + 1)) putI) by kernel_rfl) (fun m1 => fun x2 => fun h3 => ⟨fun g4 => have h4 := of_decide_eq_true g4; ⟨({ g := PX.g x2, ts := PX.ts x2, src := PX.there x2, of := PX.of x2 : WX }),
(by (try dsimp only at *); exact h3.1.w),
⟨⟨rfl,
⟨rfl,rfl⟩,trivial⟩,
⟨rfl,rfl⟩,
⟨rfl,rfl⟩,
⟨rfl,rfl⟩,trivial⟩,
⟨⟨⟨Nat.le_refl _⟩,RowsEq.rfl'⟩,
⟨⟨Nat.le_refl _⟩,RowsEq.rfl'⟩,
⟨⟨Nat.le_refl _⟩,RowsEq.rfl'⟩,
⟨⟨Nat.le_refl _⟩,RowsEq.rfl'⟩,trivial⟩,
⟨(by (try dsimp only at *); (have e : x2.more = 0 := (by omega); unfold putL; rw [e]; first | rfl | exact Nat.le_refl _ | exact RowsEq.rfl')),
⟨rfl,
(by (try dsimp only at *); (have e : x2.more = 0 := (by omega); unfold putL; rw [e]; first | rfl | exact Nat.le_refl _ | exact RowsEq.rfl'))⟩,trivial⟩,trivial,
⟨⟨(by (try dsimp only at *); (have e : x2.more = 0 := (by omega); unfold putL; rw [e]; first | rfl | exact Nat.le_refl _ | exact RowsEq.rfl'))⟩,
(by (try dsimp only at *); (have e : x2.more = 0 := (by omega); unfold putL; rw [e]; first | rfl | exact Nat.le_refl _ | exact RowsEq.rfl'))⟩,trivial⟩,
fun g6 => have h6 := of_decide_eq_false g6; ⟨((0 : Nat)),
⟨(by (try dsimp only at *); omega),
⟨(by (try dsimp only at *); omega),
(by (try dsimp only at *); rfl),
⟨rfl,
(by (try dsimp only at *); rfl)⟩,rfl,
⟨rfl,rfl⟩,rfl,rfl,trivial,rfl,
⟨rfl,rfl⟩,
⟨rfl,
⟨rfl,rfl⟩,trivial⟩,
⟨rfl,rfl⟩,
⟨rfl,rfl⟩,
⟨rfl,rfl⟩,rfl,rfl,trivial⟩,
⟨⟨(by (try dsimp only at *); exact Nat.le_refl _)⟩,
(by (try dsimp only at *); exact RowsEq.rfl')⟩,
⟨⟨Nat.le_refl _⟩,RowsEq.rfl'⟩,
⟨rfl,
⟨rfl,rfl⟩,trivial⟩,
⟨⟨Nat.le_refl _⟩,RowsEq.rfl'⟩,
⟨⟨Nat.le_refl _⟩,RowsEq.rfl'⟩,
⟨⟨Nat.le_refl _⟩,RowsEq.rfl'⟩,trivial⟩,
fun x8 => fun h9 => ⟨fun g10 => have h10 := of_decide_eq_true g10; ⟨trivial,
⟨rfl,
(by (try dsimp only at *); omega),
(by (try dsimp only at *); omega),
(by (try dsimp only at *); (have := h3.1.t; have := h3.1.n; omega))⟩,
⟨⟨trivial,trivial⟩,trivial⟩,
⟨rfl,
(by (try dsimp only at *); omega),
(by (try dsimp only at *); omega),
(by (try dsimp only at *); (have := h3.1.t; have := h3.1.n; omega))⟩,
⟨(by (try dsimp only at *); omega),
(by (try dsimp only at *); (have := h3.1.t; have := h3.1.n; omega))⟩,
({ g := PX.g x2, ts := PX.ts x2, of := PX.of x2, there := PX.there x2 ++ (↑(PX.from_ x2 + x8) : Int) :: @List.nil Int, from_ := PX.from_ x2 + x8, more := PX.more x2 - (1 : Nat) : PX }),
⟨(by (try dsimp only at *); exact ⟨h3.1.g, h3.1.n, h3.1.of, by have := h3.1.t; simp; omega⟩),
(by (try dsimp only at *); omega)⟩,
⟨⟨rfl,
⟨rfl,rfl⟩,trivial⟩,
⟨rfl,rfl⟩,
⟨rfl,rfl⟩,
⟨rfl,
(by (try dsimp only at *); grind)⟩,rfl,
(by (try dsimp only at *); omega),trivial⟩,
⟨⟨⟨Nat.le_refl _⟩,RowsEq.rfl'⟩,
⟨⟨Nat.le_refl _⟩,RowsEq.rfl'⟩,
⟨⟨Nat.le_refl _⟩,RowsEq.rfl'⟩,
⟨⟨(by (try dsimp only at *); grind)⟩,
(by (try dsimp only at *); exact push0_rows)⟩,trivial⟩,
fun g12 => have h12 := of_decide_eq_false g12; ⟨fun g13 => have h13 := of_decide_eq_true g13; ⟨⟨(by (try dsimp only at *); omega),
(by (try dsimp only at *); (have := h3.1.t; have := h3.1.n; omega))⟩,
(x8 + (1 : Nat)),
(by (try dsimp only at *); omega),
(by (try dsimp only at *); omega),
⟨(by (try dsimp only at *); omega),
(by (try dsimp only at *); ((have e := (put_lt h13); first | exact congrArg Prod.fst e | exact (congrArg Prod.fst e).symm | (show _ = (_ : Nat); rw [e]; done) | (rw [e]; exact Nat.le_refl _) | (rw [e]; exact RowsEq.rfl') | (rw [e]; rfl)))),
⟨rfl,
(by (try dsimp only at *); ((have e := (put_lt h13); first | exact congrArg Prod.fst e | exact (congrArg Prod.fst e).symm | (show _ = (_ : Nat); rw [e]; done) | (rw [e]; exact Nat.le_refl _) | (rw [e]; exact RowsEq.rfl') | (rw [e]; rfl))))⟩,rfl,
⟨rfl,rfl⟩,rfl,rfl,trivial,rfl,
⟨rfl,rfl⟩,
⟨rfl,
⟨rfl,rfl⟩,trivial⟩,
⟨rfl,rfl⟩,
⟨rfl,rfl⟩,
⟨rfl,rfl⟩,rfl,rfl,trivial⟩,
⟨⟨(by (try dsimp only at *); ((have e := (put_lt h13); first | exact congrArg Prod.fst e | exact (congrArg Prod.fst e).symm | (show _ = (_ : Nat); rw [e]; done) | (rw [e]; exact Nat.le_refl _) | (rw [e]; exact RowsEq.rfl') | (rw [e]; rfl))))⟩,
(by (try dsimp only at *); ((have e := (put_lt h13); first | exact congrArg Prod.fst e | exact (congrArg Prod.fst e).symm | (show _ = (_ : Nat); rw [e]; done) | (rw [e]; exact Nat.le_refl _) | (rw [e]; exact RowsEq.rfl') | (rw [e]; rfl))))⟩,
⟨⟨Nat.le_refl _⟩,RowsEq.rfl'⟩,
⟨rfl,
⟨rfl,rfl⟩,trivial⟩,
⟨⟨Nat.le_refl _⟩,RowsEq.rfl'⟩,
⟨⟨Nat.le_refl _⟩,RowsEq.rfl'⟩,
⟨⟨Nat.le_refl _⟩,RowsEq.rfl'⟩,trivial⟩,
fun g15 => have h15 := of_decide_eq_false g15; ⟨⟨(by (try dsimp only at *); omega),
(by (try dsimp only at *); (have := h3.1.t; have := h3.1.n; omega))⟩,
(x8 + (1 : Nat)),
(by (try dsimp only at *); omega),
(by (try dsimp only at *); omega),
⟨(by (try dsimp only at *); omega),
(by (try dsimp only at *); ((have e := (put_no h12 h15); first | exact congrArg Prod.fst e | exact (congrArg Prod.fst e).symm | (show _ = (_ : Nat); rw [e]; done) | (rw [e]; exact Nat.le_refl _) | (rw [e]; exact RowsEq.rfl') | (rw [e]; rfl)))),
⟨rfl,
(by (try dsimp only at *); ((have e := (put_no h12 h15); first | exact congrArg Prod.fst e | exact (congrArg Prod.fst e).symm | (show _ = (_ : Nat); rw [e]; done) | (rw [e]; exact Nat.le_refl _) | (rw [e]; exact RowsEq.rfl') | (rw [e]; rfl))))⟩,rfl,
⟨rfl,rfl⟩,rfl,rfl,trivial,rfl,
⟨rfl,rfl⟩,
⟨rfl,
⟨rfl,rfl⟩,trivial⟩,
⟨rfl,rfl⟩,
⟨rfl,rfl⟩,
⟨rfl,rfl⟩,rfl,rfl,trivial⟩,
⟨⟨(by (try dsimp only at *); ((have e := (put_no h12 h15); first | exact congrArg Prod.fst e | exact (congrArg Prod.fst e).symm | (show _ = (_ : Nat); rw [e]; done) | (rw [e]; exact Nat.le_refl _) | (rw [e]; exact RowsEq.rfl') | (rw [e]; rfl))))⟩,
(by (try dsimp only at *); ((have e := (put_no h12 h15); first | exact congrArg Prod.fst e | exact (congrArg Prod.fst e).symm | (show _ = (_ : Nat); rw [e]; done) | (rw [e]; exact Nat.le_refl _) | (rw [e]; exact RowsEq.rfl') | (rw [e]; rfl))))⟩,
⟨⟨Nat.le_refl _⟩,RowsEq.rfl'⟩,
⟨rfl,
⟨rfl,rfl⟩,trivial⟩,
⟨⟨Nat.le_refl _⟩,RowsEq.rfl'⟩,
⟨⟨Nat.le_refl _⟩,RowsEq.rfl'⟩,
⟨⟨Nat.le_refl _⟩,RowsEq.rfl'⟩,trivial⟩⟩,
fun g17 => have h17 := of_decide_eq_true g17; ⟨⟨(by (try dsimp only at *); omega),
(by (try dsimp only at *); (have := h3.1.t; have := h3.1.n; omega))⟩,
(x8 + (1 : Nat)),
(by (try dsimp only at *); omega),
(by (try dsimp only at *); omega),
⟨(by (try dsimp only at *); omega),
(by (try dsimp only at *); ((have e := (put_neg h17); first | exact congrArg Prod.fst e | exact (congrArg Prod.fst e).symm | (show _ = (_ : Nat); rw [e]; done) | (rw [e]; exact Nat.le_refl _) | (rw [e]; exact RowsEq.rfl') | (rw [e]; rfl)))),
⟨rfl,
(by (try dsimp only at *); ((have e := (put_neg h17); first | exact congrArg Prod.fst e | exact (congrArg Prod.fst e).symm | (show _ = (_ : Nat); rw [e]; done) | (rw [e]; exact Nat.le_refl _) | (rw [e]; exact RowsEq.rfl') | (rw [e]; rfl))))⟩,rfl,
⟨rfl,rfl⟩,rfl,rfl,trivial,rfl,
⟨rfl,rfl⟩,
⟨rfl,
⟨rfl,rfl⟩,trivial⟩,
⟨rfl,rfl⟩,
⟨rfl,rfl⟩,
⟨rfl,rfl⟩,rfl,rfl,trivial⟩,
⟨⟨(by (try dsimp only at *); ((have e := (put_neg h17); first | exact congrArg Prod.fst e | exact (congrArg Prod.fst e).symm | (show _ = (_ : Nat); rw [e]; done) | (rw [e]; exact Nat.le_refl _) | (rw [e]; exact RowsEq.rfl') | (rw [e]; rfl))))⟩,
(by (try dsimp only at *); ((have e := (put_neg h17); first | exact congrArg Prod.fst e | exact (congrArg Prod.fst e).symm | (show _ = (_ : Nat); rw [e]; done) | (rw [e]; exact Nat.le_refl _) | (rw [e]; exact RowsEq.rfl') | (rw [e]; rfl))))⟩,
⟨⟨Nat.le_refl _⟩,RowsEq.rfl'⟩,
⟨rfl,
⟨rfl,rfl⟩,trivial⟩,
⟨⟨Nat.le_refl _⟩,RowsEq.rfl'⟩,
⟨⟨Nat.le_refl _⟩,RowsEq.rfl'⟩,
⟨⟨Nat.le_refl _⟩,RowsEq.rfl'⟩,trivial⟩⟩,
fun g19 => have h19 := of_decide_eq_false g19; ⟨⟨(by (try dsimp only at *); ((have e := (put_end h6 h9 h19); first | exact congrArg Prod.fst e | exact (congrArg Prod.fst e).symm | (show _ = (_ : Nat); rw [e]; done) | (rw [e]; exact Nat.le_refl _) | (rw [e]; exact RowsEq.rfl') | (rw [e]; rfl)))),
⟨rfl,
(by (try dsimp only at *); ((have e := (put_end h6 h9 h19); first | exact congrArg Prod.fst e | exact (congrArg Prod.fst e).symm | (show _ = (_ : Nat); rw [e]; done) | (rw [e]; exact Nat.le_refl _) | (rw [e]; exact RowsEq.rfl') | (rw [e]; rfl))))⟩,trivial⟩,trivial,
⟨⟨(by (try dsimp only at *); ((have e := (put_end h6 h9 h19); first | exact congrArg Prod.fst e | exact (congrArg Prod.fst e).symm | (show _ = (_ : Nat); rw [e]; done) | (rw [e]; exact Nat.le_refl _) | (rw [e]; exact RowsEq.rfl') | (rw [e]; rfl))))⟩,
(by (try dsimp only at *); ((have e := (put_end h6 h9 h19); first | exact congrArg Prod.fst e | exact (congrArg Prod.fst e).symm | (show _ = (_ : Nat); rw [e]; done) | (rw [e]; exact Nat.le_refl _) | (rw [e]; exact RowsEq.rfl') | (rw [e]; rfl))))⟩,trivial⟩⟩⟩⟩)
theorem put_fnok : FnOk Tryd.prog 41 := ⟨Tryd.f41, rfl, by decide +kernel, rfl⟩
theorem put_good (m : Nat) : Good Tryd.prog 41 (putC m) /\ FnOk Tryd.prog 41 := by
 induction m with
 | zero => exact ⟨fun x h => absurd h.2 (Nat.not_lt_zero _), put_fnok⟩
 | succ m ih =>
  have con : ConOk Tryd.prog (cfgPut m) := ConL.ok (.cons (ConL.one vworst_good) (.cons (ConL.one ih) .nil))
  exact good_of tok con (fn := Tryd.f41) rfl (by decide +kernel) (fun _ => rfl) (put_keeps m)
end Go.Sym