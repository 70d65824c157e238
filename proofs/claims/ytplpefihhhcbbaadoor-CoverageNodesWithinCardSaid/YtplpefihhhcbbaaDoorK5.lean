import Derived.Test.YtplpefihhhcbbaaDoorK4
import Derived.Test.YtplpefihhhcbbaaDoorC1
import Derived.Test.YtplpefihhhcbbaaDoorXD
namespace Go.Sym
set_option linter.unusedVariables false
set_option linter.unusedSimpArgs false
open Go.Proofs
set_option maxHeartbeats 4000000
def keepB (s : Srch) (placed : List Int) (st : ST) : ST := if st.found = false ∨ waitF s.f s.nodes placed < st.worst then ⟨true, waitF s.f s.nodes placed, placed⟩ else st
def placeR (s : Srch) : Nat -> List Int -> Nat -> ST -> ST
 | 0, placed, _, st => keepB s placed st
 | m + 1, placed, fr, st => (List.range (s.n - fr)).foldl (fun st i => placeR s m (placed ++ [((fr + i : Nat) : Int)]) (fr + i) st) st
def placeAt (s : Srch) (m : Nat) (placed : List Int) (fr : Nat) (st : ST) (j : Nat) : ST := (List.range j).foldl (fun st i => placeR s m (placed ++ [((fr + i : Nat) : Int)]) (fr + i) st) st
theorem placeAt_succ {s : Srch} {m : Nat} {placed : List Int} {fr j : Nat} {st : ST} : placeAt s m placed fr st (j + 1) = placeR s m (placed ++ [((fr + j : Nat) : Int)]) (fr + j) (placeAt s m placed fr st j) := by
 unfold placeAt; rw [List.range_succ, List.foldl_append]; rfl
structure PLX where
 s : Srch
 placed : List Int
 st : ST
 first : Nat
 units : Nat
structure PLok (x : PLX) : Prop where
 o : SrchOk x.s x.placed
 n : x.s.n <= 12
 u : x.placed.length + x.units <= 4
 b : x.st.best.length <= 4
def placeL (x : PLX) : ST := placeR x.s x.units x.placed x.first x.st
def placeC (m : Nat) : CT where
 X := PLX
 pre := fun x => PLok x /\ x.units < m
 args := fun x => [.p 100000 0 0, .i .i64 x.first, .i .i64 x.units]
 g0 := fun x => [(100000, .one .own (srchCs x.s x.placed.length x.st 100003 100004)), (100001, .rows .bor kLL x.s.n (encLL x.s.f)), (100002, .rows .bor k1 x.s.nodes.length (encL encI x.s.nodes)),
  (100003, .rows .own k1 x.placed.length (encL encI x.placed)), (100004, .rows .own k1 x.st.best.length (encL encI x.st.best))]
 res := fun x => .tup []
 g1 := fun x => [(100000, .one .own (srchCs x.s x.placed.length (placeL x) 1 2)), (100003, .dead), (100004, .dead), (1, .rows .own k1 x.placed.length (encL encI x.placed)), (2, .rows .own k1 (placeL x).best.length (encL encI (placeL x).best))]
def placeI (x : PLX) (id : Nat) : Option Inv := match id with
 | 0 => some { X := Nat, ok := fun j => j = 0 ∨ x.first + j <= x.s.n, fr := fun j => [(7, .i .i64 ((x.first + j : Nat) : Int)), (0, .p 100000 0 0)],
               hp := fun j => [(100000, .one .own (srchCs x.s x.placed.length (placeAt x.s (x.units - 1) x.placed x.first x.st j) 61 62)), (61, .rows .own k1 x.placed.length (encL encI x.placed)),
                (62, .rows .own k1 (placeAt x.s (x.units - 1) x.placed x.first x.st j).best.length (encL encI (placeAt x.s (x.units - 1) x.placed x.first x.st j).best)), (100003, .dead), (100004, .dead)], me := fun j => x.s.n - (x.first + j) }
 | _ => none
def cfgPl (m : Nat) : Cfg := ⟨T, [], [(52, .one cwaitC), (40, .one (placeC m)), (53, .one (cloneC k1))], noInv, 50, {}⟩
theorem placeAt_b {s : Srch} {m : Nat} {placed : List Int} {fr : Nat} {st : ST} (ih : ∀ k st, st.best.length <= 4 -> (placeR s m (placed ++ [((fr + k : Nat) : Int)]) (fr + k) st).best.length <= 4) (hb : st.best.length <= 4) : ∀ j, (placeAt s m placed fr st j).best.length <= 4
 | 0 => hb
 | j + 1 => by rw [placeAt_succ]; exact ih j _ (placeAt_b ih hb j)
theorem placeR_b {s : Srch} : ∀ (m : Nat) (placed : List Int) (fr : Nat) (st : ST), placed.length + m <= 4 -> st.best.length <= 4 -> (placeR s m placed fr st).best.length <= 4
 | 0, placed, fr, st, h, hb => by
  show (keepB s placed st).best.length <= 4
  unfold keepB; split
  ·exact h
  ·exact hb
 | m + 1, placed, fr, st, h, hb => placeAt_b (fun k st hb => placeR_b m _ _ st (by simp; omega) hb) hb (s.n - fr)
theorem PLok.at_ {x : PLX} (h : PLok x) (hu : ¬ (x.units : Int) = 0) (j : Nat) : (placeAt x.s (x.units - 1) x.placed x.first x.st j).best.length <= 4 :=
 placeAt_b (fun k st hb => placeR_b _ _ _ st (by have := h.u; simp; omega) hb) h.b j
theorem getD_snoc {l : List Int} {c : Int} {k : Nat} (h : k < l.length) : (l ++ [c]).getD k default = l.getD k default := by
 rw [List.getD_eq_getElem?_getD, List.getElem?_append_left h, <- List.getD_eq_getElem?_getD]
theorem getD_snoc_last {l : List Int} {c : Int} : (l ++ [c]).getD l.length default = c := by
 rw [List.getD_eq_getElem?_getD, List.getElem?_append_right (Nat.le_refl _)]; simp
theorem SrchOk.snoc {s : Srch} {placed : List Int} (h : SrchOk s placed) {k : Nat} (hk : k < s.n) (hl : placed.length + 1 <= 1073741824) : SrchOk s (placed ++ [(k : Int)]) := by
 refine ⟨h.f, h.v, fun j hj => ?_, h.nl, by simp; omega⟩
 by_cases e : j < placed.length
 ·rw [getD_snoc e]; exact h.p j e
 ·have : j = placed.length := by simp at hj; omega
  rw [this, getD_snoc_last]; omega
theorem PLok.next {x : PLX} (h : PLok x) (hu : ¬ (x.units : Int) = 0) {j : Nat} (hj : ((x.first + j : Nat) : Int) < x.s.n) :
  PLok ⟨x.s, x.placed ++ [((x.first + j : Nat) : Int)], placeAt x.s (x.units - 1) x.placed x.first x.st j, x.first + j, x.units - 1⟩ := by
 have := h.u
 exact ⟨h.o.snoc (by omega) (by omega), h.n, by simp; omega, h.at_ hu j⟩
theorem prefix_rows {l : List Int} {c : Int} : RowsEq k1 l.length (encL encI (l ++ [c])) (encL encI l) :=
 ⟨fun r hr => rowEq_of_eq (by funext j; show encI ((l ++ [c]).getD r default) j = encI (l.getD r default) j; rw [getD_snoc hr])⟩
theorem place_end {x : PLX} {j : Nat} (hm : ¬ (x.units : Int) = 0) (h : j = 0 ∨ x.first + j <= x.s.n) (h2 : ¬ ((x.first + j : Nat) : Int) < x.s.n) : placeAt x.s (x.units - 1) x.placed x.first x.st j = placeL x := by
 have e : j = x.s.n - x.first := by omega
 subst e
 unfold placeL
 cases hq : x.units with
 | zero => exact absurd (by rw [hq]; rfl) hm
 | succ m => rfl
theorem place0 {x : PLX} (h : (x.units : Int) = 0) : placeL x = keepB x.s x.placed x.st := by
 have e : x.units = 0 := by omega
 unfold placeL; rw [e]; rfl
theorem place_new {x : PLX} (h : (x.units : Int) = 0) (h2 : (!x.st.found) = true) : placeL x = ⟨true, waitF x.s.f x.s.nodes x.placed, x.placed⟩ := by
 rw [place0 h]; exact if_pos (.inl (by simpa using h2))
theorem place_lt {x : PLX} (h : (x.units : Int) = 0) (h2 : waitF x.s.f x.s.nodes x.placed < x.st.worst) : placeL x = ⟨true, waitF x.s.f x.s.nodes x.placed, x.placed⟩ := by
 rw [place0 h]; exact if_pos (.inr h2)
theorem place_stay {x : PLX} (h : (x.units : Int) = 0) (h1 : (!x.st.found) = false) (h2 : ¬ waitF x.s.f x.s.nodes x.placed < x.st.worst) : placeL x = x.st := by
 rw [place0 h]; exact if_neg (fun q => q.elim (fun q => by rw [q] at h1; cases h1) h2)
set_option maxRecDepth 100000 in
theorem place_keeps : ∀ m : Nat, Keeps (cfgPl m) Tryd.f40 (placeC (m + 1)) placeI := Eq.mp (show ((∀ m1 : Nat, (∀ x2 : PLX, ((PLok x2 /\ x2.units < m1 + (1 : Nat))-> (((decide ((x2.units : Int) = 0) = true)-> (∃ x5 : WTX, ((SrchOk x5.s x5.placed)/\(((0=0 /\ 0=0)/\True)/\((((0=0 /\ x2.s.n = x5.s.n)/\((0=0 /\ x2.s.nodes.length = x5.s.nodes.length)/\((0=0 /\ x2.placed.length = x5.placed.length)/\(x2.st.found = x5.st.found/\(x2.st.worst = x5.st.worst/\((0=0 /\ x2.st.best.length = x5.st.best.length)/\True))))))/\(((RLe x5.s.n x2.s.n)/\(RowsEq [.sl [.int .i64]] x5.s.n (encLL x2.s.f) (encLL x5.s.f)))/\(((RLe x5.s.nodes.length x2.s.nodes.length)/\(RowsEq [.int .i64] x5.s.nodes.length (encL encI x2.s.nodes) (encL encI x5.s.nodes)))/\(((RLe x5.placed.length x2.placed.length)/\(RowsEq [.int .i64] x5.placed.length (encL encI x2.placed) (encL encI x5.placed)))/\(((RLe x5.st.best.length x2.st.best.length)/\(RowsEq [.int .i64] x5.st.best.length (encL encI x2.st.best) (encL encI x5.st.best)))/\True)))))/\((((!x2.st.found) = false)-> (((decide (waitF x5.s.f x5.s.nodes x5.placed < x2.st.worst) = true)-> (∃ x8 : RX, ((x8.n <= (1073741824 : Nat))/\(((0=0 /\ x2.placed.length = x8.n)/\True)/\((((RLe x8.n x2.placed.length)/\(RowsEq [.int .i64] x8.n (encL encI x2.placed) x8.f))/\True)/\(True/\(((0=0 /\ x2.s.n = x2.s.n)/\((0=0 /\ x2.s.nodes.length = x2.s.nodes.length)/\((0=0 /\ x2.placed.length = x2.placed.length)/\((true = (placeL x2).found)/\((waitF x5.s.f x5.s.nodes x5.placed = (placeL x2).worst)/\((0=0/\(x8.n = (placeL x2).best.length))/\True))))))/\(True/\(True/\(((RLe x2.placed.length x2.placed.length)/\(RowsEq [.int .i64] x2.placed.length (encL encI x2.placed) (encL encI x2.placed)))/\(((RLe (placeL x2).best.length x8.n)/\(RowsEq [.int .i64] (placeL x2).best.length x8.f (encL encI (placeL x2).best)))/\True)))))))))))/\((decide (waitF x5.s.f x5.s.nodes x5.placed < x2.st.worst) = false)-> (True/\(((0=0 /\ x2.s.n = x2.s.n)/\((0=0 /\ x2.s.nodes.length = x2.s.nodes.length)/\((0=0 /\ x2.placed.length = x2.placed.length)/\((x2.st.found = (placeL x2).found)/\((x2.st.worst = (placeL x2).worst)/\((0=0/\(x2.st.best.length = (placeL x2).best.length))/\True))))))/\(True/\(True/\(((RLe x2.placed.length x2.placed.length)/\(RowsEq [.int .i64] x2.placed.length (encL encI x2.placed) (encL encI x2.placed)))/\(((RLe (placeL x2).best.length x2.st.best.length)/\(RowsEq [.int .i64] (placeL x2).best.length (encL encI x2.st.best) (encL encI (placeL x2).best)))/\True)))))))))/\(((!x2.st.found) = true)-> (∃ x11 : RX, ((x11.n <= (1073741824 : Nat))/\(((0=0 /\ x2.placed.length = x11.n)/\True)/\((((RLe x11.n x2.placed.length)/\(RowsEq [.int .i64] x11.n (encL encI x2.placed) x11.f))/\True)/\(True/\(((0=0 /\ x2.s.n = x2.s.n)/\((0=0 /\ x2.s.nodes.length = x2.s.nodes.length)/\((0=0 /\ x2.placed.length = x2.placed.length)/\((true = (placeL x2).found)/\((waitF x5.s.f x5.s.nodes x5.placed = (placeL x2).worst)/\((0=0/\(x11.n = (placeL x2).best.length))/\True))))))/\(True/\(True/\(((RLe x2.placed.length x2.placed.length)/\(RowsEq [.int .i64] x2.placed.length (encL encI x2.placed) (encL encI x2.placed)))/\(((RLe (placeL x2).best.length x11.n)/\(RowsEq [.int .i64] (placeL x2).best.length x11.f (encL encI (placeL x2).best)))/\True)))))))))))))))))/\((decide ((x2.units : Int) = 0) = false)-> (∃ x13 : Nat, (((x13 = (0 : Nat) ∨ x2.first + x13 <= x2.s.n)/\((((x2.first : Int) = (↑(x2.first + x13) : Int))/\((0=0 /\ 0=0)/\(((x2.first : Int) = (x2.first : Int))/\((decide ((x2.units : Int) = 0) = decide ((x2.units : Int) = 0))/\(((x2.units : Int) = (x2.units : Int))/\(((x2.first : Int) = (x2.first : Int))/\(((x2.units : Int) = (x2.units : Int))/\True)))))))/\(((0=0 /\ x2.s.n = x2.s.n)/\((0=0 /\ x2.s.nodes.length = x2.s.nodes.length)/\((0=0 /\ x2.placed.length = x2.placed.length)/\((x2.st.found = (placeAt x2.s (x2.units - (1 : Nat)) x2.placed x2.first x2.st x13).found)/\((x2.st.worst = (placeAt x2.s (x2.units - (1 : Nat)) x2.placed x2.first x2.st x13).worst)/\((0=0/\(x2.st.best.length = (placeAt x2.s (x2.units - (1 : Nat)) x2.placed x2.first x2.st x13).best.length))/\True))))))/\(((RLe x2.placed.length x2.placed.length)/\(RowsEq [.int .i64] x2.placed.length (encL encI x2.placed) (encL encI x2.placed)))/\(((RLe (placeAt x2.s (x2.units - (1 : Nat)) x2.placed x2.first x2.st x13).best.length x2.st.best.length)/\(RowsEq [.int .i64] (placeAt x2.s (x2.units - (1 : Nat)) x2.placed x2.first x2.st x13).best.length (encL encI x2.st.best) (encL encI (placeAt x2.s (x2.units - (1 : Nat)) x2.placed x2.first x2.st x13).best)))/\(True/\(True/\(((RLe x2.s.n x2.s.n)/\(RowsEq [.sl [.int .i64]] x2.s.n (encLL x2.s.f) (encLL x2.s.f)))/\(((RLe x2.s.nodes.length x2.s.nodes.length)/\(RowsEq [.int .i64] x2.s.nodes.length (encL encI x2.s.nodes) (encL encI x2.s.nodes)))/\True)))))))))/\(∀ x14 : Nat, ((x14 = (0 : Nat) ∨ x2.first + x14 <= x2.s.n)-> (((decide ((↑(x2.first + x14) : Int) < (x2.s.n : Int)) = true)-> (((True/\True)/\True)/\((0=0/\((x2.placed.length <= x2.placed.length)/\(((1 : Nat) <= (1 : Nat))/\(x2.placed.length + (1 : Nat) <= (1073741824 : Nat)))))/\((((-9223372036854775808 : Int) <= (x2.units : Int) - 1)/\((x2.units : Int) - 1 <= (9223372036854775807 : Int)))/\(∃ x17 : PLX, (((PLok x17)/\(x17.units < m1))/\(((0=0 /\ 0=0)/\(((↑(x2.first + x14) : Int) = (x17.first : Int))/\(((x2.units : Int) - 1 = (x17.units : Int))/\True)))/\((((0=0 /\ x2.s.n = x17.s.n)/\((0=0 /\ x2.s.nodes.length = x17.s.nodes.length)/\((0=0/\(x2.placed.length + (1 : Nat) = x17.placed.length))/\(((placeAt x2.s (x2.units - (1 : Nat)) x2.placed x2.first x2.st x14).found = x17.st.found)/\(((placeAt x2.s (x2.units - (1 : Nat)) x2.placed x2.first x2.st x14).worst = x17.st.worst)/\((0=0/\((placeAt x2.s (x2.units - (1 : Nat)) x2.placed x2.first x2.st x14).best.length = x17.st.best.length))/\True))))))/\(((RLe x17.s.n x2.s.n)/\(RowsEq [.sl [.int .i64]] x17.s.n (encLL x2.s.f) (encLL x17.s.f)))/\(((RLe x17.s.nodes.length x2.s.nodes.length)/\(RowsEq [.int .i64] x17.s.nodes.length (encL encI x2.s.nodes) (encL encI x17.s.nodes)))/\(((RLe x17.placed.length (x2.placed.length + (1 : Nat)))/\(RowsEq [.int .i64] x17.placed.length (appRows x2.placed.length (encL encI x2.placed) 0 (litRows ((D.i (↑(x2.first + x14) : Int) :: @List.nil D) :: @List.nil (List D)))) (encL encI x17.placed)))/\(((RLe x17.st.best.length (placeAt x2.s (x2.units - (1 : Nat)) x2.placed x2.first x2.st x14).best.length)/\(RowsEq [.int .i64] x17.st.best.length (encL encI (placeAt x2.s (x2.units - (1 : Nat)) x2.placed x2.first x2.st x14).best) (encL encI x17.st.best)))/\True)))))/\((((-9223372036854775808 : Int) <= (x17.placed.length : Int) - 1)/\((x17.placed.length : Int) - 1 <= (9223372036854775807 : Int)))/\((((0 : Int) <= (0 : Int))/\(((0 : Int) <= (x17.placed.length : Int) - 1)/\((x17.placed.length : Int) - 1 <= (x17.placed.length : Int))))/\((((-9223372036854775808 : Int) <= (↑(x2.first + x14) : Int) + 1)/\((↑(x2.first + x14) : Int) + 1 <= (9223372036854775807 : Int)))/\(∃ x18 : Nat, ((x2.s.n - (x2.first + x18) < x2.s.n - (x2.first + x14))/\((x18 = (0 : Nat) ∨ x2.first + x18 <= x2.s.n)/\((((↑(x2.first + x14) : Int) + 1 = (↑(x2.first + x18) : Int))/\((0=0 /\ 0=0)/\(((x2.first : Int) = (x2.first : Int))/\((decide ((x2.units : Int) = 0) = decide ((x2.units : Int) = 0))/\(((x2.units : Int) = (x2.units : Int))/\(((x2.first : Int) = (x2.first : Int))/\(((x2.units : Int) = (x2.units : Int))/\True)))))))/\(((0=0 /\ x17.s.n = x2.s.n)/\((0=0 /\ x17.s.nodes.length = x2.s.nodes.length)/\(((0 + Int.toNat (0 : Int) = (0 : Nat))/\(Int.toNat ((x17.placed.length : Int) - 1) - Int.toNat 0 = x2.placed.length))/\(((placeL x17).found = (placeAt x2.s (x2.units - (1 : Nat)) x2.placed x2.first x2.st x18).found)/\(((placeL x17).worst = (placeAt x2.s (x2.units - (1 : Nat)) x2.placed x2.first x2.st x18).worst)/\((0=0/\((placeL x17).best.length = (placeAt x2.s (x2.units - (1 : Nat)) x2.placed x2.first x2.st x18).best.length))/\True))))))/\(((RLe x2.placed.length x17.placed.length)/\(RowsEq [.int .i64] x2.placed.length (encL encI x17.placed) (encL encI x2.placed)))/\(((RLe (placeAt x2.s (x2.units - (1 : Nat)) x2.placed x2.first x2.st x18).best.length (placeL x17).best.length)/\(RowsEq [.int .i64] (placeAt x2.s (x2.units - (1 : Nat)) x2.placed x2.first x2.st x18).best.length (encL encI (placeL x17).best) (encL encI (placeAt x2.s (x2.units - (1 : Nat)) x2.placed x2.first x2.st x18).best)))/\(True/\(True/\(((RLe x2.s.n x2.s.n)/\(RowsEq [.sl [.int .i64]] x2.s.n (encLL x2.s.f) (encLL x2.s.f)))/\(((RLe x2.s.nodes.length x2.s.nodes.length)/\(RowsEq [.int .i64] x2.s.nodes.length (encL encI x2.s.nodes) (encL encI x2.s.nodes)))/\True))))))))))))))))))))))/\((decide ((↑(x2.first + x14) : Int) < (x2.s.n : Int)) = false)-> (True/\(((0=0 /\ x2.s.n = x2.s.n)/\((0=0 /\ x2.s.nodes.length = x2.s.nodes.length)/\((0=0 /\ x2.placed.length = x2.placed.length)/\(((placeAt x2.s (x2.units - (1 : Nat)) x2.placed x2.first x2.st x14).found = (placeL x2).found)/\(((placeAt x2.s (x2.units - (1 : Nat)) x2.placed x2.first x2.st x14).worst = (placeL x2).worst)/\((0=0/\((placeAt x2.s (x2.units - (1 : Nat)) x2.placed x2.first x2.st x14).best.length = (placeL x2).best.length))/\True))))))/\(True/\(True/\(((RLe x2.placed.length x2.placed.length)/\(RowsEq [.int .i64] x2.placed.length (encL encI x2.placed) (encL encI x2.placed)))/\(((RLe (placeL x2).best.length (placeAt x2.s (x2.units - (1 : Nat)) x2.placed x2.first x2.st x14).best.length)/\(RowsEq [.int .i64] (placeL x2).best.length (encL encI (placeAt x2.s (x2.units - (1 : Nat)) x2.placed x2.first x2.st x14).best) (encL encI (placeL x2).best)))/\True)))))))))))))))))) = (∀ m : Nat, Keeps (cfgPl m) Tryd.f40 (placeC (m + 1)) placeI) by kernel_rfl) (fun m1 => fun x2 => fun h3 => ⟨fun g4 => have h4 := of_decide_eq_true g4; ⟨({ s := PLX.s x2, placed := PLX.placed x2, st := PLX.st x2 : WTX }),
(by (try dsimp only at *); exact h3.1.o),
⟨⟨rfl,rfl⟩,trivial⟩,
⟨⟨⟨rfl,rfl⟩,
⟨rfl,rfl⟩,
⟨rfl,rfl⟩,rfl,rfl,
⟨rfl,rfl⟩,trivial⟩,
⟨⟨Nat.le_refl _⟩,RowsEq.rfl'⟩,
⟨⟨Nat.le_refl _⟩,RowsEq.rfl'⟩,
⟨⟨Nat.le_refl _⟩,RowsEq.rfl'⟩,
⟨⟨Nat.le_refl _⟩,RowsEq.rfl'⟩,trivial⟩,
fun h6 => ⟨fun g7 => have h7 := of_decide_eq_true g7; ⟨({ n := List.length (PLX.placed x2), f := encL encI (PLX.placed x2) : RX }),
(by (try dsimp only at *); exact h3.1.o.pl),
⟨⟨rfl,rfl⟩,trivial⟩,
⟨⟨⟨Nat.le_refl _⟩,RowsEq.rfl'⟩,trivial⟩,trivial,
⟨⟨rfl,rfl⟩,
⟨rfl,rfl⟩,
⟨rfl,rfl⟩,
(by (try dsimp only at *); ((have e := (place_lt h4 h7); first | exact (congrArg ST.found e).symm | exact (congrArg ST.worst e).symm | exact (congrArg (fun q => q.best.length) e).symm | exact congrArg ST.found e | exact congrArg ST.worst e | exact congrArg (fun q => q.best.length) e | (rw [e]; exact Nat.le_refl _) | (rw [e]; exact RowsEq.rfl')))),
(by (try dsimp only at *); ((have e := (place_lt h4 h7); first | exact (congrArg ST.found e).symm | exact (congrArg ST.worst e).symm | exact (congrArg (fun q => q.best.length) e).symm | exact congrArg ST.found e | exact congrArg ST.worst e | exact congrArg (fun q => q.best.length) e | (rw [e]; exact Nat.le_refl _) | (rw [e]; exact RowsEq.rfl')))),
⟨rfl,
(by (try dsimp only at *); ((have e := (place_lt h4 h7); first | exact (congrArg ST.found e).symm | exact (congrArg ST.worst e).symm | exact (congrArg (fun q => q.best.length) e).symm | exact congrArg ST.found e | exact congrArg ST.worst e | exact congrArg (fun q => q.best.length) e | (rw [e]; exact Nat.le_refl _) | (rw [e]; exact RowsEq.rfl'))))⟩,trivial⟩,trivial,trivial,
⟨⟨Nat.le_refl _⟩,RowsEq.rfl'⟩,
⟨⟨(by (try dsimp only at *); ((have e := (place_lt h4 h7); first | exact (congrArg ST.found e).symm | exact (congrArg ST.worst e).symm | exact (congrArg (fun q => q.best.length) e).symm | exact congrArg ST.found e | exact congrArg ST.worst e | exact congrArg (fun q => q.best.length) e | (rw [e]; exact Nat.le_refl _) | (rw [e]; exact RowsEq.rfl'))))⟩,
(by (try dsimp only at *); ((have e := (place_lt h4 h7); first | exact (congrArg ST.found e).symm | exact (congrArg ST.worst e).symm | exact (congrArg (fun q => q.best.length) e).symm | exact congrArg ST.found e | exact congrArg ST.worst e | exact congrArg (fun q => q.best.length) e | (rw [e]; exact Nat.le_refl _) | (rw [e]; exact RowsEq.rfl'))))⟩,trivial⟩,
fun g9 => have h9 := of_decide_eq_false g9; ⟨trivial,
⟨⟨rfl,rfl⟩,
⟨rfl,rfl⟩,
⟨rfl,rfl⟩,
(by (try dsimp only at *); ((have e := (place_stay h4 h6 h9); first | exact (congrArg ST.found e).symm | exact (congrArg ST.worst e).symm | exact (congrArg (fun q => q.best.length) e).symm | exact congrArg ST.found e | exact congrArg ST.worst e | exact congrArg (fun q => q.best.length) e | (rw [e]; exact Nat.le_refl _) | (rw [e]; exact RowsEq.rfl')))),
(by (try dsimp only at *); ((have e := (place_stay h4 h6 h9); first | exact (congrArg ST.found e).symm | exact (congrArg ST.worst e).symm | exact (congrArg (fun q => q.best.length) e).symm | exact congrArg ST.found e | exact congrArg ST.worst e | exact congrArg (fun q => q.best.length) e | (rw [e]; exact Nat.le_refl _) | (rw [e]; exact RowsEq.rfl')))),
⟨rfl,
(by (try dsimp only at *); ((have e := (place_stay h4 h6 h9); first | exact (congrArg ST.found e).symm | exact (congrArg ST.worst e).symm | exact (congrArg (fun q => q.best.length) e).symm | exact congrArg ST.found e | exact congrArg ST.worst e | exact congrArg (fun q => q.best.length) e | (rw [e]; exact Nat.le_refl _) | (rw [e]; exact RowsEq.rfl'))))⟩,trivial⟩,trivial,trivial,
⟨⟨Nat.le_refl _⟩,RowsEq.rfl'⟩,
⟨⟨(by (try dsimp only at *); ((have e := (place_stay h4 h6 h9); first | exact (congrArg ST.found e).symm | exact (congrArg ST.worst e).symm | exact (congrArg (fun q => q.best.length) e).symm | exact congrArg ST.found e | exact congrArg ST.worst e | exact congrArg (fun q => q.best.length) e | (rw [e]; exact Nat.le_refl _) | (rw [e]; exact RowsEq.rfl'))))⟩,
(by (try dsimp only at *); ((have e := (place_stay h4 h6 h9); first | exact (congrArg ST.found e).symm | exact (congrArg ST.worst e).symm | exact (congrArg (fun q => q.best.length) e).symm | exact congrArg ST.found e | exact congrArg ST.worst e | exact congrArg (fun q => q.best.length) e | (rw [e]; exact Nat.le_refl _) | (rw [e]; exact RowsEq.rfl'))))⟩,trivial⟩⟩,
fun h10 => ⟨({ n := List.length (PLX.placed x2), f := encL encI (PLX.placed x2) : RX }),
(by (try dsimp only at *); exact h3.1.o.pl),
⟨⟨rfl,rfl⟩,trivial⟩,
⟨⟨⟨Nat.le_refl _⟩,RowsEq.rfl'⟩,trivial⟩,trivial,
⟨⟨rfl,rfl⟩,
⟨rfl,rfl⟩,
⟨rfl,rfl⟩,
(by (try dsimp only at *); ((have e := (place_new h4 h10); first | exact (congrArg ST.found e).symm | exact (congrArg ST.worst e).symm | exact (congrArg (fun q => q.best.length) e).symm | exact congrArg ST.found e | exact congrArg ST.worst e | exact congrArg (fun q => q.best.length) e | (rw [e]; exact Nat.le_refl _) | (rw [e]; exact RowsEq.rfl')))),
(by (try dsimp only at *); ((have e := (place_new h4 h10); first | exact (congrArg ST.found e).symm | exact (congrArg ST.worst e).symm | exact (congrArg (fun q => q.best.length) e).symm | exact congrArg ST.found e | exact congrArg ST.worst e | exact congrArg (fun q => q.best.length) e | (rw [e]; exact Nat.le_refl _) | (rw [e]; exact RowsEq.rfl')))),
⟨rfl,
(by (try dsimp only at *); ((have e := (place_new h4 h10); first | exact (congrArg ST.found e).symm | exact (congrArg ST.worst e).symm | exact (congrArg (fun q => q.best.length) e).symm | exact congrArg ST.found e | exact congrArg ST.worst e | exact congrArg (fun q => q.best.length) e | (rw [e]; exact Nat.le_refl _) | (rw [e]; exact RowsEq.rfl'))))⟩,trivial⟩,trivial,trivial,
⟨⟨Nat.le_refl _⟩,RowsEq.rfl'⟩,
⟨⟨(by (try dsimp only at *); ((have e := (place_new h4 h10); first | exact (congrArg ST.found e).symm | exact (congrArg ST.worst e).symm | exact (congrArg (fun q => q.best.length) e).symm | exact congrArg ST.found e | exact congrArg ST.worst e | exact congrArg (fun q => q.best.length) e | (rw [e]; exact Nat.le_refl _) | (rw [e]; exact RowsEq.rfl'))))⟩,
(by (try dsimp only at *); ((have e := (place_new h4 h10); first | exact (congrArg ST.found e).symm | exact (congrArg ST.worst e).symm | exact (congrArg (fun q => q.best.length) e).symm | exact congrArg ST.found e | exact congrArg ST.worst e | exact congrArg (fun q => q.best.length) e | (rw [e]; exact Nat.le_refl _) | (rw [e]; exact RowsEq.rfl'))))⟩,trivial⟩⟩,
fun g12 => have h12 := of_decide_eq_false g12; ⟨((0 : Nat)),
⟨(by (try dsimp only at *); omega),
⟨(by (try dsimp only at *); omega),
⟨rfl,rfl⟩,rfl,rfl,rfl,rfl,rfl,trivial⟩,
⟨⟨rfl,rfl⟩,
⟨rfl,rfl⟩,
⟨rfl,rfl⟩,
(by (try dsimp only at *); rfl),
(by (try dsimp only at *); rfl),
⟨rfl,
(by (try dsimp only at *); rfl)⟩,trivial⟩,
⟨⟨Nat.le_refl _⟩,RowsEq.rfl'⟩,
⟨⟨(by (try dsimp only at *); exact Nat.le_refl _)⟩,
(by (try dsimp only at *); exact RowsEq.rfl')⟩,trivial,trivial,
⟨⟨Nat.le_refl _⟩,RowsEq.rfl'⟩,
⟨⟨Nat.le_refl _⟩,RowsEq.rfl'⟩,trivial⟩,
fun x14 => fun h15 => ⟨fun g16 => have h16 := of_decide_eq_true g16; ⟨⟨⟨trivial,trivial⟩,trivial⟩,
⟨rfl,
(by (try dsimp only at *); omega),
(by (try dsimp only at *); omega),
(by (try dsimp only at *); (have := h3.1.u; have := h3.1.n; omega))⟩,
⟨(by (try dsimp only at *); omega),
(by (try dsimp only at *); (have := h3.1.u; have := h3.1.n; omega))⟩,
({ s := PLX.s x2, placed := PLX.placed x2 ++ (↑(PLX.first x2 + x14) : Int) :: @List.nil Int, st := placeAt (PLX.s x2) (PLX.units x2 - (1 : Nat)) (PLX.placed x2) (PLX.first x2) (PLX.st x2) x14, first := PLX.first x2 + x14, units := PLX.units x2 - (1 : Nat) : PLX }),
⟨(by (try dsimp only at *); exact h3.1.next h12 h16),
(by (try dsimp only at *); omega)⟩,
⟨⟨rfl,rfl⟩,rfl,
(by (try dsimp only at *); omega),trivial⟩,
⟨⟨⟨rfl,rfl⟩,
⟨rfl,rfl⟩,
⟨rfl,
(by (try dsimp only at *); grind)⟩,rfl,rfl,
⟨rfl,rfl⟩,trivial⟩,
⟨⟨Nat.le_refl _⟩,RowsEq.rfl'⟩,
⟨⟨Nat.le_refl _⟩,RowsEq.rfl'⟩,
⟨⟨(by (try dsimp only at *); grind)⟩,
(by (try dsimp only at *); exact pushL_rows)⟩,
⟨⟨Nat.le_refl _⟩,RowsEq.rfl'⟩,trivial⟩,
⟨(by (try dsimp only at *); omega),
(by (try dsimp only at *); (have := h3.1.u; simp only [List.length_append, List.length_singleton]; omega))⟩,
⟨(by (try dsimp only at *); omega),
(by (try dsimp only at *); grind),
(by (try dsimp only at *); omega)⟩,
⟨(by (try dsimp only at *); omega),
(by (try dsimp only at *); (have := h3.1.u; have := h3.1.n; omega))⟩,
(x14 + (1 : Nat)),
(by (try dsimp only at *); omega),
(by (try dsimp only at *); omega),
⟨(by (try dsimp only at *); omega),
⟨rfl,rfl⟩,rfl,rfl,rfl,rfl,rfl,trivial⟩,
⟨⟨rfl,rfl⟩,
⟨rfl,rfl⟩,
⟨(by (try dsimp only at *); omega),
(by (try dsimp only at *); grind)⟩,
(by (try dsimp only at *); ((have e := (placeAt_succ (s := x2.s) (m := x2.units - 1) (placed := x2.placed) (fr := x2.first) (j := x14) (st := x2.st)); first | exact (congrArg ST.found e).symm | exact (congrArg ST.worst e).symm | exact (congrArg (fun q => q.best.length) e).symm | exact congrArg ST.found e | exact congrArg ST.worst e | exact congrArg (fun q => q.best.length) e | (rw [e]; exact Nat.le_refl _) | (rw [e]; exact RowsEq.rfl')))),
(by (try dsimp only at *); ((have e := (placeAt_succ (s := x2.s) (m := x2.units - 1) (placed := x2.placed) (fr := x2.first) (j := x14) (st := x2.st)); first | exact (congrArg ST.found e).symm | exact (congrArg ST.worst e).symm | exact (congrArg (fun q => q.best.length) e).symm | exact congrArg ST.found e | exact congrArg ST.worst e | exact congrArg (fun q => q.best.length) e | (rw [e]; exact Nat.le_refl _) | (rw [e]; exact RowsEq.rfl')))),
⟨rfl,
(by (try dsimp only at *); ((have e := (placeAt_succ (s := x2.s) (m := x2.units - 1) (placed := x2.placed) (fr := x2.first) (j := x14) (st := x2.st)); first | exact (congrArg ST.found e).symm | exact (congrArg ST.worst e).symm | exact (congrArg (fun q => q.best.length) e).symm | exact congrArg ST.found e | exact congrArg ST.worst e | exact congrArg (fun q => q.best.length) e | (rw [e]; exact Nat.le_refl _) | (rw [e]; exact RowsEq.rfl'))))⟩,trivial⟩,
⟨⟨(by (try dsimp only at *); grind)⟩,
(by (try dsimp only at *); exact prefix_rows)⟩,
⟨⟨(by (try dsimp only at *); ((have e := (placeAt_succ (s := x2.s) (m := x2.units - 1) (placed := x2.placed) (fr := x2.first) (j := x14) (st := x2.st)); first | exact (congrArg ST.found e).symm | exact (congrArg ST.worst e).symm | exact (congrArg (fun q => q.best.length) e).symm | exact congrArg ST.found e | exact congrArg ST.worst e | exact congrArg (fun q => q.best.length) e | (rw [e]; exact Nat.le_refl _) | (rw [e]; exact RowsEq.rfl'))))⟩,
(by (try dsimp only at *); ((have e := (placeAt_succ (s := x2.s) (m := x2.units - 1) (placed := x2.placed) (fr := x2.first) (j := x14) (st := x2.st)); first | exact (congrArg ST.found e).symm | exact (congrArg ST.worst e).symm | exact (congrArg (fun q => q.best.length) e).symm | exact congrArg ST.found e | exact congrArg ST.worst e | exact congrArg (fun q => q.best.length) e | (rw [e]; exact Nat.le_refl _) | (rw [e]; exact RowsEq.rfl'))))⟩,trivial,trivial,
⟨⟨Nat.le_refl _⟩,RowsEq.rfl'⟩,
⟨⟨Nat.le_refl _⟩,RowsEq.rfl'⟩,trivial⟩,
fun g19 => have h19 := of_decide_eq_false g19; ⟨trivial,
⟨⟨rfl,rfl⟩,
⟨rfl,rfl⟩,
⟨rfl,rfl⟩,
(by (try dsimp only at *); ((have e := (place_end h12 h15 h19); first | exact (congrArg ST.found e).symm | exact (congrArg ST.worst e).symm | exact (congrArg (fun q => q.best.length) e).symm | exact congrArg ST.found e | exact congrArg ST.worst e | exact congrArg (fun q => q.best.length) e | (rw [e]; exact Nat.le_refl _) | (rw [e]; exact RowsEq.rfl')))),
(by (try dsimp only at *); ((have e := (place_end h12 h15 h19); first | exact (congrArg ST.found e).symm | exact (congrArg ST.worst e).symm | exact (congrArg (fun q => q.best.length) e).symm | exact congrArg ST.found e | exact congrArg ST.worst e | exact congrArg (fun q => q.best.length) e | (rw [e]; exact Nat.le_refl _) | (rw [e]; exact RowsEq.rfl')))),
⟨rfl,
(by (try dsimp only at *); ((have e := (place_end h12 h15 h19); first | exact (congrArg ST.found e).symm | exact (congrArg ST.worst e).symm | exact (congrArg (fun q => q.best.length) e).symm | exact congrArg ST.found e | exact congrArg ST.worst e | exact congrArg (fun q => q.best.length) e | (rw [e]; exact Nat.le_refl _) | (rw [e]; exact RowsEq.rfl'))))⟩,trivial⟩,trivial,trivial,
⟨⟨Nat.le_refl _⟩,RowsEq.rfl'⟩,
⟨⟨(by (try dsimp only at *); ((have e := (place_end h12 h15 h19); first | exact (congrArg ST.found e).symm | exact (congrArg ST.worst e).symm | exact (congrArg (fun q => q.best.length) e).symm | exact congrArg ST.found e | exact congrArg ST.worst e | exact congrArg (fun q => q.best.length) e | (rw [e]; exact Nat.le_refl _) | (rw [e]; exact RowsEq.rfl'))))⟩,
(by (try dsimp only at *); ((have e := (place_end h12 h15 h19); first | exact (congrArg ST.found e).symm | exact (congrArg ST.worst e).symm | exact (congrArg (fun q => q.best.length) e).symm | exact congrArg ST.found e | exact congrArg ST.worst e | exact congrArg (fun q => q.best.length) e | (rw [e]; exact Nat.le_refl _) | (rw [e]; exact RowsEq.rfl'))))⟩,trivial⟩⟩⟩⟩)
theorem place_fnok : FnOk Tryd.prog 40 := ⟨Tryd.f40, rfl, by decide +kernel, rfl⟩
theorem place_good (m : Nat) : Good Tryd.prog 40 (placeC m) /\ FnOk Tryd.prog 40 := by
 induction m with
 | zero => exact ⟨fun x h => absurd h.2 (Nat.not_lt_zero _), place_fnok⟩
 | succ m ih =>
  have con : ConOk Tryd.prog (cfgPl m) := ConL.ok (.cons (ConL.one cwait_good) (.cons (ConL.one ih) (.cons (ConL.one cloneI_good) .nil)))
  exact good_of tok con (fn := Tryd.f40) rfl (by decide +kernel) (fun _ => rfl) (place_keeps m)
end Go.Sym