import Derived.Test.YtplpefihhhcbbaaDoorR1
import Derived.Test.YtplpefihhhcbbaaDoorXD
namespace Go.Sym
set_option linter.unusedVariables false
set_option linter.unusedSimpArgs false
open Go.Proofs
set_option maxHeartbeats 4000000
theorem qhas_good : Good Tryd.prog 67 qhasC /\ FnOk Tryd.prog 67 := good_of tok conN0 (fn := Tryd.f67) rfl (by decide +kernel) (fun _ => rfl) qhas_keeps
theorem sorted_ext : ∀ {a b : List Int}, a.Pairwise (· < ·) -> b.Pairwise (· < ·) -> (∀ x, x ∈ a ↔ x ∈ b) -> a = b
 | [], b, _, _, h => by
  cases b with
  | nil => rfl
  | cons y b => exact absurd ((h y).2 (by simp)) (by simp)
 | x :: a, [], _, _, h => absurd ((h x).1 (by simp)) (by simp)
 | x :: a, y :: b, ha, hb, h => by
  rw [List.pairwise_cons] at ha hb
  have e : x = y := by
   rcases List.mem_cons.1 ((h x).1 (by simp)) with q | q
   ·exact q
   ·rcases List.mem_cons.1 ((h y).2 (by simp)) with r | r
    ·exact r.symm
    ·have := ha.1 y r; have := hb.1 x q; omega
  subst e
  congr 1
  refine sorted_ext ha.2 hb.2 fun z => ?_
  constructor
  ·intro hz
   rcases List.mem_cons.1 ((h z).1 (by simp [hz])) with q | q
   ·subst q; exact absurd (ha.1 z hz) (by omega)
   ·exact q
  ·intro hz
   rcases List.mem_cons.1 ((h z).2 (by simp [hz])) with q | q
   ·subst q; exact absurd (hb.1 z hz) (by omega)
   ·exact q
theorem elemsZ_mem {ws : List Nat} {x : Int} : x ∈ elemsZ ws ↔ 0 <= x /\ x < 4096 /\ hasW ws x.toNat = true := by
 unfold elemsZ
 rw [List.mem_map]
 constructor
 ·rintro ⟨k, hk, rfl⟩
  have := elemsW_mem.1 hk
  exact ⟨by omega, by omega, by simpa using this.2⟩
 ·rintro ⟨h1, h2, h3⟩
  exact ⟨x.toNat, elemsW_mem.2 ⟨by omega, h3⟩, by omega⟩
theorem elemsZ_sorted (ws : List Nat) : (elemsZ ws).Pairwise (· < ·) := by
 unfold elemsZ
 rw [List.pairwise_map]
 exact (elemsW_sorted ws).imp (fun h => by omega)
def insF (n : Int) (s : List Int × Bool) (x : Int) : List Int × Bool := if s.2 = false /\ n < x then (s.1 ++ [n] ++ [x], true) else (s.1 ++ [x], s.2)
def insAt (l : List Int) (n : Int) (k : Nat) : List Int × Bool := (l.take k).foldl (insF n) ([], false)
theorem insAt_succ {l : List Int} {n : Int} {k : Nat} (h : k < l.length) : insAt l n (k + 1) = insF n (insAt l n k) (l.getD k default) := by
 unfold insAt; rw [take_succ_getD (d := default) h, List.foldl_append]; rfl
def insL (l : List Int) (n : Int) : List Int := if (insAt l n l.length).2 = false then (insAt l n l.length).1 ++ [n] else (insAt l n l.length).1
theorem insAt_spec (l : List Int) (n : Int) (hs : l.Pairwise (· < ·)) (hn : n ∉ l) : ∀ k, k <= l.length ->
  ((insAt l n k).2 = false /\ (insAt l n k).1 = l.take k /\ ∀ x ∈ l.take k, x < n) ∨ ((insAt l n k).2 = true /\ (insAt l n k).1.Pairwise (· < ·) /\ (∀ x, x ∈ (insAt l n k).1 ↔ x ∈ l.take k ∨ x = n) /\ ∃ y ∈ l.take k, n < y)
 | 0, _ => .inl ⟨rfl, by simp [insAt], by simp⟩
 | k + 1, h => by
  have hk : k < l.length := by omega
  rw [insAt_succ hk, take_succ_getD (d := default) hk]
  have hx : l.getD k default ∈ l := by rw [List.getD_eq_getElem?_getD, List.getElem?_eq_getElem hk]; exact List.getElem_mem hk
  have hlt : ∀ y ∈ l.take k, y < l.getD k default := by
   intro y hy
   have hs2 : (l.take k ++ [l.getD k default]).Pairwise (· < ·) := by rw [<- take_succ_getD (d := default) hk]; exact hs.sublist (List.take_sublist _ _)
   exact (List.pairwise_append.1 hs2).2.2 y hy _ (by simp)
  rcases insAt_spec l n hs hn k (by omega) with ⟨h1, h2, h3⟩ | ⟨h1, h2, h3, y, hy, hny⟩
  ·unfold insF
   by_cases hc : n < l.getD k default
   ·rw [if_pos ⟨h1, hc⟩, h2]
    right
    refine ⟨rfl, ?_, fun x => ?_, l.getD k default, by simp, hc⟩
    ·rw [List.pairwise_append, List.pairwise_append]
     refine ⟨⟨hs.sublist (List.take_sublist _ _), by simp, fun a ha b hb => ?_⟩, by simp, fun a ha b hb => ?_⟩
     ·rw [List.mem_singleton] at hb; subst hb; exact h3 a ha
     ·rw [List.mem_singleton] at hb; subst hb
      rcases List.mem_append.1 ha with q | q
      ·exact hlt a q
      ·rw [List.mem_singleton] at q; subst q; exact hc
    ·simp only [List.mem_append, List.mem_singleton]
     constructor
     ·rintro ((q | q) | q) <;> simp [q]
     ·rintro ((q | q) | q) <;> simp [q]
   ·rw [if_neg (fun q => hc q.2), h2]
    left
    refine ⟨h1, rfl, fun x hx' => ?_⟩
    rcases List.mem_append.1 hx' with q | q
    ·exact h3 x q
    ·rw [List.mem_singleton] at q; subst q
     have : l.getD k default ≠ n := fun e => hn (e ▸ hx)
     omega
  ·unfold insF
   rw [if_neg (fun q => by rw [h1] at q; cases q.1)]
   right
   have hny2 := hlt y hy
   refine ⟨h1, ?_, fun x => ?_, y, by simp [hy], hny⟩
   ·rw [List.pairwise_append]
    refine ⟨h2, by simp, fun a ha b hb => ?_⟩
    rw [List.mem_singleton] at hb; subst hb
    rcases (h3 a).1 ha with q | q
    ·exact hlt a q
    ·subst q; omega
   ·simp only [List.mem_append, List.mem_singleton, h3 x]
    constructor
    ·rintro ((q | q) | q) <;> simp [q]
    ·rintro ((q | q) | q) <;> simp [q]
theorem insL_spec {l : List Int} {n : Int} (hs : l.Pairwise (· < ·)) (hn : n ∉ l) : (insL l n).Pairwise (· < ·) /\ ∀ x, x ∈ insL l n ↔ x ∈ l ∨ x = n := by
 unfold insL
 have h := insAt_spec l n hs hn l.length (Nat.le_refl _)
 rw [List.take_length] at h
 rcases h with ⟨h1, h2, h3⟩ | ⟨h1, h2, h3, _⟩
 ·rw [if_pos h1, h2]
  refine ⟨?_, fun x => by simp⟩
  rw [List.pairwise_append]
  exact ⟨hs, by simp, fun a ha b hb => by rw [List.mem_singleton] at hb; subst hb; exact h3 a ha⟩
 ·rw [if_neg (by rw [h1]; decide)]
  exact ⟨h2, h3⟩
theorem elemsZ_add {ws : List Nat} (h : WOk ws) {n : Int} (hn : 0 <= n /\ n < 4096) (hno : n ∉ elemsZ ws) : elemsZ (addW ws n) = insL (elemsZ ws) n := by
 obtain ⟨h1, h2⟩ := insL_spec (elemsZ_sorted ws) hno
 refine sorted_ext (elemsZ_sorted _) h1 fun x => ?_
 rw [h2, elemsZ_mem, elemsZ_mem]
 constructor
 ·rintro ⟨a, b, c⟩
  rw [hasW_add h hn] at c
  rcases Bool.or_eq_true _ _ ▸ c with c | c
  ·exact .inl ⟨a, b, c⟩
  ·right; have := of_decide_eq_true c; omega
 ·rintro (⟨a, b, c⟩ | rfl)
  ·exact ⟨a, b, by rw [hasW_add h hn, c]; rfl⟩
  ·exact ⟨hn.1, hn.2, by rw [hasW_add h hn]; simp⟩
theorem elemsZ_same {ws : List Nat} (h : WOk ws) {n : Int} (hn : 0 <= n /\ n < 4096) (hin : n ∈ elemsZ ws) : elemsZ (addW ws n) = elemsZ ws := by
 refine sorted_ext (elemsZ_sorted _) (elemsZ_sorted _) fun x => ?_
 rw [elemsZ_mem, elemsZ_mem, hasW_add h hn]
 have := (elemsZ_mem.1 hin).2.2
 constructor
 ·rintro ⟨a, b, c⟩
  refine ⟨a, b, ?_⟩
  rcases Bool.or_eq_true _ _ ▸ c with c | c
  ·exact c
  ·have := of_decide_eq_true c; rw [this]; assumption
 ·rintro ⟨a, b, c⟩; exact ⟨a, b, by rw [c]; rfl⟩
def ofZ (l : List Int) (k : Nat) : List Int := elemsZ (ofW l k)
theorem ofZ_zero (l : List Int) : ofZ l 0 = [] := by
 show elemsZ nilW = []
 unfold elemsZ
 rw [nilW_elems]; rfl
theorem ofZ_out {l : List Int} {k : Nat} (hk : k < l.length) (h : ¬ (0 <= l.getD k default /\ l.getD k default < 4096)) : ofZ l (k + 1) = ofZ l k := by
 unfold ofZ; rw [ofW_succ hk]; unfold addOk; rw [if_neg h]
theorem ofZ_in {l : List Int} {k : Nat} (hk : k < l.length) (h : 0 <= l.getD k default /\ l.getD k default < 4096) (hi : l.getD k default ∈ ofZ l k) : ofZ l (k + 1) = ofZ l k := by
 unfold ofZ at *; rw [ofW_succ hk]; unfold addOk; rw [if_pos h]; exact elemsZ_same (ofW_ok l k) h hi
theorem ofZ_new {l : List Int} {k : Nat} (hk : k < l.length) (h : 0 <= l.getD k default /\ l.getD k default < 4096) (hi : l.getD k default ∉ ofZ l k) : ofZ l (k + 1) = insL (ofZ l k) (l.getD k default) := by
 unfold ofZ at *; rw [ofW_succ hk]; unfold addOk; rw [if_pos h]; exact elemsZ_add (ofW_ok l k) h hi
theorem ofZ_len (l : List Int) (k : Nat) : (ofZ l k).length <= 4096 := by unfold ofZ; rw [elemsZ_len]; exact elemsW_len _
theorem insAt_len (l : List Int) (n : Int) : ∀ k, k <= l.length -> (insAt l n k).1.length <= k + 1 /\ ((insAt l n k).2 = false -> (insAt l n k).1.length = k)
 | 0, _ => by simp [insAt]
 | k + 1, h => by
  rw [insAt_succ (by omega)]
  have ih := insAt_len l n k (by omega)
  unfold insF
  split
  ·rename_i q
   have := ih.2 q.1
   simp [this]
  ·rename_i q
   constructor
   ·cases hb : (insAt l n k).2 with
    | false => have := ih.2 hb; simp [this]
    | true => have := ih.1; simp; omega
   ·intro hb; have := ih.2 hb; simp [this]
def qofC : CT where
 X := List Int
 pre := fun l => l.length <= 1048576
 args := fun l => [.sl 100000 0 l.length]
 g0 := fun l => [(100000, .rows .bor k1 l.length (encL encI l))]
 res := fun l => .sl 1 0 (ofZ l l.length).length
 g1 := fun l => [(1, .rows .own k1 (ofZ l l.length).length (encL encI (ofZ l l.length)))]
def qofI (l : List Int) (id : Nat) : Option Inv := match id with
 | 0 => some { X := Nat, ok := fun k => k <= l.length, fr := fun k => [(12, .i .i64 k), (3, .sl 61 0 (ofZ l k).length)], hp := fun k => [(61, .rows .own k1 (ofZ l k).length (encL encI (ofZ l k)))], me := fun k => l.length - k,
               inn := fun k id => match id with
                | 2 => some { X := Nat, ok := fun j => j <= (ofZ l k).length, fr := fun j => [(29, .i .i64 j), (7, .b (insAt (ofZ l k) (l.getD k default) j).2), (6, .sl 62 0 (insAt (ofZ l k) (l.getD k default) j).1.length)],
                              hp := fun j => [(62, .rows .own k1 (insAt (ofZ l k) (l.getD k default) j).1.length (encL encI (insAt (ofZ l k) (l.getD k default) j).1))], me := fun j => (ofZ l k).length - j }
                | _ => none }
 | _ => none
def cfgOf2 : Cfg := ⟨T, [], [(67, .one qhasC)], noInv, 50, {}⟩
theorem conOf2 : ConOk Tryd.prog cfgOf2 := ConL.ok (.cons (ConL.one qhas_good) .nil)
theorem insL_yes {l : List Int} {n : Int} {j : Nat} (hj : ¬ (j : Int) < l.length) (hle : j <= l.length) (h : (insAt l n j).2 = false) : (insAt l n j).1 ++ [n] = insL l n := by
 have : j = l.length := by omega
 subst this
 unfold insL; rw [if_pos h]
theorem insL_no {l : List Int} {n : Int} {j : Nat} (hj : ¬ (j : Int) < l.length) (hle : j <= l.length) (h : (insAt l n j).2 = true) : (insAt l n j).1 = insL l n := by
 have : j = l.length := by omega
 subst this
 unfold insL; rw [if_neg (by rw [h]; decide)]
theorem pushL_rows {l : List Int} {c : Int} : RowsEq k1 (l ++ [c]).length (appRows l.length (encL encI l) 0 (litRows [[.i c]])) (encL encI (l ++ [c])) :=
 rowsEq_push rfl (by simp) (by simp only [rowEq, Kd.eqv, k1]; exact ⟨rfl, trivial⟩)
theorem push2_rows {l : List Int} {c d : Int} : RowsEq k1 (l ++ [c] ++ [d]).length (appRows (l.length + 1) (appRows l.length (encL encI l) 0 (litRows [[.i c]])) 0 (litRows [[.i d]])) (encL encI (l ++ [c] ++ [d])) :=
 rowsEq_pushOf (xs := l ++ [c]) push_rows (by simp) (by simp) (by simp only [rowEq, Kd.eqv, k1]; exact ⟨rfl, trivial⟩)
theorem ofZ_in2 {l : List Int} {k : Nat} (h : (k : Int) < l.length) (h1 : ¬ l.getD k default < 0) (h2 : ¬ 4096 <= l.getD k default) (hi : l.getD k default ∈ ofZ l k) : ofZ l (k + 1) = ofZ l k := ofZ_in (by omega) (by omega) hi
theorem ofZ_lo {l : List Int} {k : Nat} (h : (k : Int) < l.length) (h1 : l.getD k default < 0) : ofZ l (k + 1) = ofZ l k := ofZ_out (by omega) (by omega)
theorem ofZ_hi {l : List Int} {k : Nat} (h : (k : Int) < l.length) (h1 : 4096 <= l.getD k default) : ofZ l (k + 1) = ofZ l k := ofZ_out (by omega) (by omega)
theorem ofZ_app {l : List Int} {k j : Nat} (h : (k : Int) < l.length) (h1 : ¬ l.getD k default < 0) (h2 : ¬ 4096 <= l.getD k default) (hi : l.getD k default ∉ ofZ l k) (hj : ¬ (j : Int) < (ofZ l k).length) (hle : j <= (ofZ l k).length)
  (hb : (!(insAt (ofZ l k) (l.getD k default) j).2) = true) : ofZ l (k + 1) = (insAt (ofZ l k) (l.getD k default) j).1 ++ [l.getD k default] := by
 rw [ofZ_new (by omega) (by omega) hi, insL_yes hj hle (by simpa using hb)]
theorem ofZ_ins {l : List Int} {k j : Nat} (h : (k : Int) < l.length) (h1 : ¬ l.getD k default < 0) (h2 : ¬ 4096 <= l.getD k default) (hi : l.getD k default ∉ ofZ l k) (hj : ¬ (j : Int) < (ofZ l k).length) (hle : j <= (ofZ l k).length)
  (hb : (!(insAt (ofZ l k) (l.getD k default) j).2) = false) : ofZ l (k + 1) = (insAt (ofZ l k) (l.getD k default) j).1 := by
 rw [ofZ_new (by omega) (by omega) hi, insL_no hj hle (by simpa using hb)]
theorem ins_here {l : List Int} {n : Int} {k : Nat} (h : (k : Int) < l.length) (hb : (!(insAt l n k).2) = true) (hn : n < l.getD k default) : insAt l n (k + 1) = ((insAt l n k).1 ++ [n] ++ [l.getD k default], true) := by
 rw [insAt_succ (by omega)]; unfold insF; rw [if_pos ⟨by simpa using hb, hn⟩]
theorem ins_go {l : List Int} {n : Int} {k : Nat} (h : (k : Int) < l.length) (hn : ¬ n < l.getD k default) : insAt l n (k + 1) = ((insAt l n k).1 ++ [l.getD k default], (insAt l n k).2) := by
 rw [insAt_succ (by omega)]; unfold insF; rw [if_neg (fun q => hn q.2)]
theorem ins_done {l : List Int} {n : Int} {k : Nat} (h : (k : Int) < l.length) (hb : (!(insAt l n k).2) = false) : insAt l n (k + 1) = ((insAt l n k).1 ++ [l.getD k default], (insAt l n k).2) := by
 rw [insAt_succ (by omega)]; unfold insF; rw [if_neg (fun q => by rw [q.1] at hb; cases hb)]
theorem ins_len {l : List Int} {n : Int} {k c : Nat} (hk : k <= l.length) (hl : l.length <= c) : (insAt l n k).1.length <= c + 1 := by have := (insAt_len l n k hk).1; omega
set_option maxRecDepth 100000 in
theorem qof_keeps : Keeps cfgOf2 Tryd.f58 qofC qofI := Eq.mp (show ((∀ x1 : List Int, ((x1.length <= (1048576 : Nat))-> (∃ x3 : Nat, (((x3 <= x1.length)/\(((0 = (x3 : Int))/\((True/\(0=0/\((ofZ x1 x3).length = (0 : Nat))))/\(((x1.length : Int) = (x1.length : Int))/\((0=0 /\ x1.length = x1.length)/\(True/\((0=0 /\ x1.length = x1.length)/\True))))))/\(((ofZ x1 x3).length = (0 : Nat))/\(((RLe x1.length x1.length)/\(RowsEq [.int .i64] x1.length (encL encI x1) (encL encI x1)))/\True))))/\(∀ x4 : Nat, ((x4 <= x1.length)-> (((decide ((x4 : Int) < (x1.length : Int)) = true)-> ((((0 : Int) <= (x4 : Int))/\((x4 : Int) < (x1.length : Int)))/\((0 + Int.toNat (x4 : Int) < x1.length)/\(((decide (x1.getD (0 + Int.toNat (x4 : Int)) default < 0) = false)-> (((decide ((4096 : Int) <= x1.getD (0 + Int.toNat (x4 : Int)) default) = false)-> (∃ x9 : LIX, ((x9.l.length <= (1073741824 : Nat))/\(((0=0/\((ofZ x1 x4).length = x9.l.length))/\((x1.getD (0 + Int.toNat (x4 : Int)) default = x9.n)/\True))/\((((RLe x9.l.length (ofZ x1 x4).length)/\(RowsEq [.int .i64] x9.l.length (encL encI (ofZ x1 x4)) (encL encI x9.l)))/\True)/\(((decide (x9.n ∈ x9.l) = true)-> ((((-9223372036854775808 : Int) <= (x4 : Int) + 1)/\((x4 : Int) + 1 <= (9223372036854775807 : Int)))/\(∃ x11 : Nat, ((x1.length - x11 < x1.length - x4)/\((x11 <= x1.length)/\((((x4 : Int) + 1 = (x11 : Int))/\((0=0/\((ofZ x1 x4).length = (ofZ x1 x11).length))/\(((x1.length : Int) = (x1.length : Int))/\((0=0 /\ x1.length = x1.length)/\(True/\((0=0 /\ x1.length = x1.length)/\True))))))/\(((RLe (ofZ x1 x11).length (ofZ x1 x4).length)/\(RowsEq [.int .i64] (ofZ x1 x11).length (encL encI (ofZ x1 x4)) (encL encI (ofZ x1 x11))))/\(((RLe x1.length x1.length)/\(RowsEq [.int .i64] x1.length (encL encI x1) (encL encI x1)))/\True))))))))/\((decide (x9.n ∈ x9.l) = false)-> (∃ x13 : Nat, (((x13 <= (ofZ x1 x4).length)/\(((0 = (x13 : Int))/\((false = Prod.snd (insAt (ofZ x1 x4) (x1.getD x4 default) x13))/\((True/\(0=0/\((Prod.fst (insAt (ofZ x1 x4) (x1.getD x4 default) x13)).length = (0 : Nat))))/\(((↑(ofZ x1 x4).length : Int) = (↑(ofZ x1 x4).length : Int))/\((0=0/\((ofZ x1 x4).length = (ofZ x1 x4).length))/\((decide (x9.n ∈ x9.l) = decide (x9.n ∈ x9.l))/\((decide (x9.n ∈ x9.l) = decide (x9.n ∈ x9.l))/\((x1.getD (0 + Int.toNat (x4 : Int)) default = x1.getD (0 + Int.toNat (x4 : Int)) default)/\((0=0/\((ofZ x1 x4).length = (ofZ x1 x4).length))/\((decide ((4096 : Int) <= x1.getD (0 + Int.toNat (x4 : Int)) default) = decide ((4096 : Int) <= x1.getD (0 + Int.toNat (x4 : Int)) default))/\((decide ((4096 : Int) <= x1.getD (0 + Int.toNat (x4 : Int)) default) = decide ((4096 : Int) <= x1.getD (0 + Int.toNat (x4 : Int)) default))/\((decide ((4096 : Int) <= x1.getD (0 + Int.toNat (x4 : Int)) default) = decide ((4096 : Int) <= x1.getD (0 + Int.toNat (x4 : Int)) default))/\((x1.getD (0 + Int.toNat (x4 : Int)) default = x1.getD (0 + Int.toNat (x4 : Int)) default)/\((decide (x1.getD (0 + Int.toNat (x4 : Int)) default < 0) = decide (x1.getD (0 + Int.toNat (x4 : Int)) default < 0))/\((decide (x1.getD (0 + Int.toNat (x4 : Int)) default < 0) = decide (x1.getD (0 + Int.toNat (x4 : Int)) default < 0))/\((x1.getD (0 + Int.toNat (x4 : Int)) default = x1.getD (0 + Int.toNat (x4 : Int)) default)/\((x1.getD (0 + Int.toNat (x4 : Int)) default = x1.getD (0 + Int.toNat (x4 : Int)) default)/\((x1.getD (0 + Int.toNat (x4 : Int)) default = x1.getD (0 + Int.toNat (x4 : Int)) default)/\(((0 + Int.toNat (x4 : Int) = 0 + Int.toNat (x4 : Int)) /\ 0=0)/\((decide ((x4 : Int) < (x1.length : Int)) = decide ((x4 : Int) < (x1.length : Int)))/\(((x4 : Int) = (x4 : Int))/\((0=0/\((ofZ x1 x4).length = (ofZ x1 x4).length))/\(((x1.length : Int) = (x1.length : Int))/\((0=0 /\ x1.length = x1.length)/\(True/\((0=0 /\ x1.length = x1.length)/\True))))))))))))))))))))))))))/\(((Prod.fst (insAt (ofZ x1 x4) (x1.getD x4 default) x13)).length = (0 : Nat))/\(((RLe (ofZ x1 x4).length (ofZ x1 x4).length)/\(RowsEq [.int .i64] (ofZ x1 x4).length (encL encI (ofZ x1 x4)) (encL encI (ofZ x1 x4))))/\(((RLe x1.length x1.length)/\(RowsEq [.int .i64] x1.length (encL encI x1) (encL encI x1)))/\True)))))/\(∀ x14 : Nat, ((x14 <= (ofZ x1 x4).length)-> (((decide ((x14 : Int) < (↑(ofZ x1 x4).length : Int)) = true)-> ((((0 : Int) <= (x14 : Int))/\((x14 : Int) < (↑(ofZ x1 x4).length : Int)))/\((0 + Int.toNat (x14 : Int) < (ofZ x1 x4).length)/\((((!Prod.snd (insAt (ofZ x1 x4) (x1.getD x4 default) x14)) = true)-> (((decide (x1.getD (0 + Int.toNat (x4 : Int)) default < (ofZ x1 x4).getD (0 + Int.toNat (x14 : Int)) default) = true)-> (((True/\True)/\True)/\((0=0/\(((Prod.fst (insAt (ofZ x1 x4) (x1.getD x4 default) x14)).length <= (Prod.fst (insAt (ofZ x1 x4) (x1.getD x4 default) x14)).length)/\(((1 : Nat) <= (1 : Nat))/\((Prod.fst (insAt (ofZ x1 x4) (x1.getD x4 default) x14)).length + (1 : Nat) <= (1073741824 : Nat)))))/\(((True/\True)/\True)/\((0=0/\(((Prod.fst (insAt (ofZ x1 x4) (x1.getD x4 default) x14)).length + (1 : Nat) <= (Prod.fst (insAt (ofZ x1 x4) (x1.getD x4 default) x14)).length + (1 : Nat))/\(((1 : Nat) <= (1 : Nat))/\((Prod.fst (insAt (ofZ x1 x4) (x1.getD x4 default) x14)).length + (1 : Nat) + (1 : Nat) <= (1073741824 : Nat)))))/\((((-9223372036854775808 : Int) <= (x14 : Int) + 1)/\((x14 : Int) + 1 <= (9223372036854775807 : Int)))/\(∃ x19 : Nat, (((ofZ x1 x4).length - x19 < (ofZ x1 x4).length - x14)/\((x19 <= (ofZ x1 x4).length)/\((((x14 : Int) + 1 = (x19 : Int))/\((true = Prod.snd (insAt (ofZ x1 x4) (x1.getD x4 default) x19))/\((0=0/\((Prod.fst (insAt (ofZ x1 x4) (x1.getD x4 default) x14)).length + (1 : Nat) + (1 : Nat) = (Prod.fst (insAt (ofZ x1 x4) (x1.getD x4 default) x19)).length))/\(((↑(ofZ x1 x4).length : Int) = (↑(ofZ x1 x4).length : Int))/\((0=0/\((ofZ x1 x4).length = (ofZ x1 x4).length))/\((decide (x9.n ∈ x9.l) = decide (x9.n ∈ x9.l))/\((decide (x9.n ∈ x9.l) = decide (x9.n ∈ x9.l))/\((x1.getD (0 + Int.toNat (x4 : Int)) default = x1.getD (0 + Int.toNat (x4 : Int)) default)/\((0=0/\((ofZ x1 x4).length = (ofZ x1 x4).length))/\((decide ((4096 : Int) <= x1.getD (0 + Int.toNat (x4 : Int)) default) = decide ((4096 : Int) <= x1.getD (0 + Int.toNat (x4 : Int)) default))/\((decide ((4096 : Int) <= x1.getD (0 + Int.toNat (x4 : Int)) default) = decide ((4096 : Int) <= x1.getD (0 + Int.toNat (x4 : Int)) default))/\((decide ((4096 : Int) <= x1.getD (0 + Int.toNat (x4 : Int)) default) = decide ((4096 : Int) <= x1.getD (0 + Int.toNat (x4 : Int)) default))/\((x1.getD (0 + Int.toNat (x4 : Int)) default = x1.getD (0 + Int.toNat (x4 : Int)) default)/\((decide (x1.getD (0 + Int.toNat (x4 : Int)) default < 0) = decide (x1.getD (0 + Int.toNat (x4 : Int)) default < 0))/\((decide (x1.getD (0 + Int.toNat (x4 : Int)) default < 0) = decide (x1.getD (0 + Int.toNat (x4 : Int)) default < 0))/\((x1.getD (0 + Int.toNat (x4 : Int)) default = x1.getD (0 + Int.toNat (x4 : Int)) default)/\((x1.getD (0 + Int.toNat (x4 : Int)) default = x1.getD (0 + Int.toNat (x4 : Int)) default)/\((x1.getD (0 + Int.toNat (x4 : Int)) default = x1.getD (0 + Int.toNat (x4 : Int)) default)/\(((0 + Int.toNat (x4 : Int) = 0 + Int.toNat (x4 : Int)) /\ 0=0)/\((decide ((x4 : Int) < (x1.length : Int)) = decide ((x4 : Int) < (x1.length : Int)))/\(((x4 : Int) = (x4 : Int))/\((0=0/\((ofZ x1 x4).length = (ofZ x1 x4).length))/\(((x1.length : Int) = (x1.length : Int))/\((0=0 /\ x1.length = x1.length)/\(True/\((0=0 /\ x1.length = x1.length)/\True))))))))))))))))))))))))))/\(((RLe (Prod.fst (insAt (ofZ x1 x4) (x1.getD x4 default) x19)).length ((Prod.fst (insAt (ofZ x1 x4) (x1.getD x4 default) x14)).length + (1 : Nat) + (1 : Nat)))/\(RowsEq [.int .i64] (Prod.fst (insAt (ofZ x1 x4) (x1.getD x4 default) x19)).length (appRows ((Prod.fst (insAt (ofZ x1 x4) (x1.getD x4 default) x14)).length + (1 : Nat)) (appRows (Prod.fst (insAt (ofZ x1 x4) (x1.getD x4 default) x14)).length (encL encI (Prod.fst (insAt (ofZ x1 x4) (x1.getD x4 default) x14))) 0 (litRows ((D.i (x1.getD (0 + Int.toNat (x4 : Int)) default) :: @List.nil D) :: @List.nil (List D)))) 0 (litRows ((D.i ((ofZ x1 x4).getD (0 + Int.toNat (x14 : Int)) default) :: @List.nil D) :: @List.nil (List D)))) (encL encI (Prod.fst (insAt (ofZ x1 x4) (x1.getD x4 default) x19)))))/\(((RLe (ofZ x1 x4).length (ofZ x1 x4).length)/\(RowsEq [.int .i64] (ofZ x1 x4).length (encL encI (ofZ x1 x4)) (encL encI (ofZ x1 x4))))/\(((RLe x1.length x1.length)/\(RowsEq [.int .i64] x1.length (encL encI x1) (encL encI x1)))/\True)))))))))))))/\((decide (x1.getD (0 + Int.toNat (x4 : Int)) default < (ofZ x1 x4).getD (0 + Int.toNat (x14 : Int)) default) = false)-> (((True/\True)/\True)/\((0=0/\(((Prod.fst (insAt (ofZ x1 x4) (x1.getD x4 default) x14)).length <= (Prod.fst (insAt (ofZ x1 x4) (x1.getD x4 default) x14)).length)/\(((1 : Nat) <= (1 : Nat))/\((Prod.fst (insAt (ofZ x1 x4) (x1.getD x4 default) x14)).length + (1 : Nat) <= (1073741824 : Nat)))))/\((((-9223372036854775808 : Int) <= (x14 : Int) + 1)/\((x14 : Int) + 1 <= (9223372036854775807 : Int)))/\(∃ x21 : Nat, (((ofZ x1 x4).length - x21 < (ofZ x1 x4).length - x14)/\((x21 <= (ofZ x1 x4).length)/\((((x14 : Int) + 1 = (x21 : Int))/\((Prod.snd (insAt (ofZ x1 x4) (x1.getD x4 default) x14) = Prod.snd (insAt (ofZ x1 x4) (x1.getD x4 default) x21))/\((0=0/\((Prod.fst (insAt (ofZ x1 x4) (x1.getD x4 default) x14)).length + (1 : Nat) = (Prod.fst (insAt (ofZ x1 x4) (x1.getD x4 default) x21)).length))/\(((↑(ofZ x1 x4).length : Int) = (↑(ofZ x1 x4).length : Int))/\((0=0/\((ofZ x1 x4).length = (ofZ x1 x4).length))/\((decide (x9.n ∈ x9.l) = decide (x9.n ∈ x9.l))/\((decide (x9.n ∈ x9.l) = decide (x9.n ∈ x9.l))/\((x1.getD (0 + Int.toNat (x4 : Int)) default = x1.getD (0 + Int.toNat (x4 : Int)) default)/\((0=0/\((ofZ x1 x4).length = (ofZ x1 x4).length))/\((decide ((4096 : Int) <= x1.getD (0 + Int.toNat (x4 : Int)) default) = decide ((4096 : Int) <= x1.getD (0 + Int.toNat (x4 : Int)) default))/\((decide ((4096 : Int) <= x1.getD (0 + Int.toNat (x4 : Int)) default) = decide ((4096 : Int) <= x1.getD (0 + Int.toNat (x4 : Int)) default))/\((decide ((4096 : Int) <= x1.getD (0 + Int.toNat (x4 : Int)) default) = decide ((4096 : Int) <= x1.getD (0 + Int.toNat (x4 : Int)) default))/\((x1.getD (0 + Int.toNat (x4 : Int)) default = x1.getD (0 + Int.toNat (x4 : Int)) default)/\((decide (x1.getD (0 + Int.toNat (x4 : Int)) default < 0) = decide (x1.getD (0 + Int.toNat (x4 : Int)) default < 0))/\((decide (x1.getD (0 + Int.toNat (x4 : Int)) default < 0) = decide (x1.getD (0 + Int.toNat (x4 : Int)) default < 0))/\((x1.getD (0 + Int.toNat (x4 : Int)) default = x1.getD (0 + Int.toNat (x4 : Int)) default)/\((x1.getD (0 + Int.toNat (x4 : Int)) default = x1.getD (0 + Int.toNat (x4 : Int)) default)/\((x1.getD (0 + Int.toNat (x4 : Int)) default = x1.getD (0 + Int.toNat (x4 : Int)) default)/\(((0 + Int.toNat (x4 : Int) = 0 + Int.toNat (x4 : Int)) /\ 0=0)/\((decide ((x4 : Int) < (x1.length : Int)) = decide ((x4 : Int) < (x1.length : Int)))/\(((x4 : Int) = (x4 : Int))/\((0=0/\((ofZ x1 x4).length = (ofZ x1 x4).length))/\(((x1.length : Int) = (x1.length : Int))/\((0=0 /\ x1.length = x1.length)/\(True/\((0=0 /\ x1.length = x1.length)/\True))))))))))))))))))))))))))/\(((RLe (Prod.fst (insAt (ofZ x1 x4) (x1.getD x4 default) x21)).length ((Prod.fst (insAt (ofZ x1 x4) (x1.getD x4 default) x14)).length + (1 : Nat)))/\(RowsEq [.int .i64] (Prod.fst (insAt (ofZ x1 x4) (x1.getD x4 default) x21)).length (appRows (Prod.fst (insAt (ofZ x1 x4) (x1.getD x4 default) x14)).length (encL encI (Prod.fst (insAt (ofZ x1 x4) (x1.getD x4 default) x14))) 0 (litRows ((D.i ((ofZ x1 x4).getD (0 + Int.toNat (x14 : Int)) default) :: @List.nil D) :: @List.nil (List D)))) (encL encI (Prod.fst (insAt (ofZ x1 x4) (x1.getD x4 default) x21)))))/\(((RLe (ofZ x1 x4).length (ofZ x1 x4).length)/\(RowsEq [.int .i64] (ofZ x1 x4).length (encL encI (ofZ x1 x4)) (encL encI (ofZ x1 x4))))/\(((RLe x1.length x1.length)/\(RowsEq [.int .i64] x1.length (encL encI x1) (encL encI x1)))/\True)))))))))))))/\(((!Prod.snd (insAt (ofZ x1 x4) (x1.getD x4 default) x14)) = false)-> (((True/\True)/\True)/\((0=0/\(((Prod.fst (insAt (ofZ x1 x4) (x1.getD x4 default) x14)).length <= (Prod.fst (insAt (ofZ x1 x4) (x1.getD x4 default) x14)).length)/\(((1 : Nat) <= (1 : Nat))/\((Prod.fst (insAt (ofZ x1 x4) (x1.getD x4 default) x14)).length + (1 : Nat) <= (1073741824 : Nat)))))/\((((-9223372036854775808 : Int) <= (x14 : Int) + 1)/\((x14 : Int) + 1 <= (9223372036854775807 : Int)))/\(∃ x23 : Nat, (((ofZ x1 x4).length - x23 < (ofZ x1 x4).length - x14)/\((x23 <= (ofZ x1 x4).length)/\((((x14 : Int) + 1 = (x23 : Int))/\((Prod.snd (insAt (ofZ x1 x4) (x1.getD x4 default) x14) = Prod.snd (insAt (ofZ x1 x4) (x1.getD x4 default) x23))/\((0=0/\((Prod.fst (insAt (ofZ x1 x4) (x1.getD x4 default) x14)).length + (1 : Nat) = (Prod.fst (insAt (ofZ x1 x4) (x1.getD x4 default) x23)).length))/\(((↑(ofZ x1 x4).length : Int) = (↑(ofZ x1 x4).length : Int))/\((0=0/\((ofZ x1 x4).length = (ofZ x1 x4).length))/\((decide (x9.n ∈ x9.l) = decide (x9.n ∈ x9.l))/\((decide (x9.n ∈ x9.l) = decide (x9.n ∈ x9.l))/\((x1.getD (0 + Int.toNat (x4 : Int)) default = x1.getD (0 + Int.toNat (x4 : Int)) default)/\((0=0/\((ofZ x1 x4).length = (ofZ x1 x4).length))/\((decide ((4096 : Int) <= x1.getD (0 + Int.toNat (x4 : Int)) default) = decide ((4096 : Int) <= x1.getD (0 + Int.toNat (x4 : Int)) default))/\((decide ((4096 : Int) <= x1.getD (0 + Int.toNat (x4 : Int)) default) = decide ((4096 : Int) <= x1.getD (0 + Int.toNat (x4 : Int)) default))/\((decide ((4096 : Int) <= x1.getD (0 + Int.toNat (x4 : Int)) default) = decide ((4096 : Int) <= x1.getD (0 + Int.toNat (x4 : Int)) default))/\((x1.getD (0 + Int.toNat (x4 : Int)) default = x1.getD (0 + Int.toNat (x4 : Int)) default)/\((decide (x1.getD (0 + Int.toNat (x4 : Int)) default < 0) = decide (x1.getD (0 + Int.toNat (x4 : Int)) default < 0))/\((decide (x1.getD (0 + Int.toNat (x4 : Int)) default < 0) = decide (x1.getD (0 + Int.toNat (x4 : Int)) default < 0))/\((x1.getD (0 + Int.toNat (x4 : Int)) default = x1.getD (0 + Int.toNat (x4 : Int)) default)/\((x1.getD (0 + Int.toNat (x4 : Int)) default = x1.getD (0 + Int.toNat (x4 : Int)) default)/\((x1.getD (0 + Int.toNat (x4 : Int)) default = x1.getD (0 + Int.toNat (x4 : Int)) default)/\(((0 + Int.toNat (x4 : Int) = 0 + Int.toNat (x4 : Int)) /\ 0=0)/\((decide ((x4 : Int) < (x1.length : Int)) = decide ((x4 : Int) < (x1.length : Int)))/\(((x4 : Int) = (x4 : Int))/\((0=0/\((ofZ x1 x4).length = (ofZ x1 x4).length))/\(((x1.length : Int) = (x1.length : Int))/\((0=0 /\ x1.length = x1.length)/\(True/\((0=0 /\ x1.length = x1.length)/\True))))))))))))))))))))))))))/\(((RLe (Prod.fst (insAt (ofZ x1 x4) (x1.getD x4 default) x23)).length ((Prod.fst (insAt (ofZ x1 x4) (x1.getD x4 default) x14)).length + (1 : Nat)))/\(RowsEq [.int .i64] (Prod.fst (insAt (ofZ x1 x4) (x1.getD x4 default) x23)).length (appRows (Prod.fst (insAt (ofZ x1 x4) (x1.getD x4 default) x14)).length (encL encI (Prod.fst (insAt (ofZ x1 x4) (x1.getD x4 default) x14))) 0 (litRows ((D.i ((ofZ x1 x4).getD (0 + Int.toNat (x14 : Int)) default) :: @List.nil D) :: @List.nil (List D)))) (encL encI (Prod.fst (insAt (ofZ x1 x4) (x1.getD x4 default) x23)))))/\(((RLe (ofZ x1 x4).length (ofZ x1 x4).length)/\(RowsEq [.int .i64] (ofZ x1 x4).length (encL encI (ofZ x1 x4)) (encL encI (ofZ x1 x4))))/\(((RLe x1.length x1.length)/\(RowsEq [.int .i64] x1.length (encL encI x1) (encL encI x1)))/\True)))))))))))))))/\((decide ((x14 : Int) < (↑(ofZ x1 x4).length : Int)) = false)-> ((((!Prod.snd (insAt (ofZ x1 x4) (x1.getD x4 default) x14)) = true)-> (((True/\True)/\True)/\((0=0/\(((Prod.fst (insAt (ofZ x1 x4) (x1.getD x4 default) x14)).length <= (Prod.fst (insAt (ofZ x1 x4) (x1.getD x4 default) x14)).length)/\(((1 : Nat) <= (1 : Nat))/\((Prod.fst (insAt (ofZ x1 x4) (x1.getD x4 default) x14)).length + (1 : Nat) <= (1073741824 : Nat)))))/\((((-9223372036854775808 : Int) <= (x4 : Int) + 1)/\((x4 : Int) + 1 <= (9223372036854775807 : Int)))/\(∃ x26 : Nat, ((x1.length - x26 < x1.length - x4)/\((x26 <= x1.length)/\((((x4 : Int) + 1 = (x26 : Int))/\((0=0/\((Prod.fst (insAt (ofZ x1 x4) (x1.getD x4 default) x14)).length + (1 : Nat) = (ofZ x1 x26).length))/\(((x1.length : Int) = (x1.length : Int))/\((0=0 /\ x1.length = x1.length)/\(True/\((0=0 /\ x1.length = x1.length)/\True))))))/\(((RLe (ofZ x1 x26).length ((Prod.fst (insAt (ofZ x1 x4) (x1.getD x4 default) x14)).length + (1 : Nat)))/\(RowsEq [.int .i64] (ofZ x1 x26).length (appRows (Prod.fst (insAt (ofZ x1 x4) (x1.getD x4 default) x14)).length (encL encI (Prod.fst (insAt (ofZ x1 x4) (x1.getD x4 default) x14))) 0 (litRows ((D.i (x1.getD (0 + Int.toNat (x4 : Int)) default) :: @List.nil D) :: @List.nil (List D)))) (encL encI (ofZ x1 x26))))/\(((RLe x1.length x1.length)/\(RowsEq [.int .i64] x1.length (encL encI x1) (encL encI x1)))/\True))))))))))/\(((!Prod.snd (insAt (ofZ x1 x4) (x1.getD x4 default) x14)) = false)-> ((((-9223372036854775808 : Int) <= (x4 : Int) + 1)/\((x4 : Int) + 1 <= (9223372036854775807 : Int)))/\(∃ x28 : Nat, ((x1.length - x28 < x1.length - x4)/\((x28 <= x1.length)/\((((x4 : Int) + 1 = (x28 : Int))/\((0=0/\((Prod.fst (insAt (ofZ x1 x4) (x1.getD x4 default) x14)).length = (ofZ x1 x28).length))/\(((x1.length : Int) = (x1.length : Int))/\((0=0 /\ x1.length = x1.length)/\(True/\((0=0 /\ x1.length = x1.length)/\True))))))/\(((RLe (ofZ x1 x28).length (Prod.fst (insAt (ofZ x1 x4) (x1.getD x4 default) x14)).length)/\(RowsEq [.int .i64] (ofZ x1 x28).length (encL encI (Prod.fst (insAt (ofZ x1 x4) (x1.getD x4 default) x14))) (encL encI (ofZ x1 x28))))/\(((RLe x1.length x1.length)/\(RowsEq [.int .i64] x1.length (encL encI x1) (encL encI x1)))/\True))))))))))))))))))))))/\((decide ((4096 : Int) <= x1.getD (0 + Int.toNat (x4 : Int)) default) = true)-> ((((-9223372036854775808 : Int) <= (x4 : Int) + 1)/\((x4 : Int) + 1 <= (9223372036854775807 : Int)))/\(∃ x30 : Nat, ((x1.length - x30 < x1.length - x4)/\((x30 <= x1.length)/\((((x4 : Int) + 1 = (x30 : Int))/\((0=0/\((ofZ x1 x4).length = (ofZ x1 x30).length))/\(((x1.length : Int) = (x1.length : Int))/\((0=0 /\ x1.length = x1.length)/\(True/\((0=0 /\ x1.length = x1.length)/\True))))))/\(((RLe (ofZ x1 x30).length (ofZ x1 x4).length)/\(RowsEq [.int .i64] (ofZ x1 x30).length (encL encI (ofZ x1 x4)) (encL encI (ofZ x1 x30))))/\(((RLe x1.length x1.length)/\(RowsEq [.int .i64] x1.length (encL encI x1) (encL encI x1)))/\True))))))))))/\((decide (x1.getD (0 + Int.toNat (x4 : Int)) default < 0) = true)-> ((((-9223372036854775808 : Int) <= (x4 : Int) + 1)/\((x4 : Int) + 1 <= (9223372036854775807 : Int)))/\(∃ x32 : Nat, ((x1.length - x32 < x1.length - x4)/\((x32 <= x1.length)/\((((x4 : Int) + 1 = (x32 : Int))/\((0=0/\((ofZ x1 x4).length = (ofZ x1 x32).length))/\(((x1.length : Int) = (x1.length : Int))/\((0=0 /\ x1.length = x1.length)/\(True/\((0=0 /\ x1.length = x1.length)/\True))))))/\(((RLe (ofZ x1 x32).length (ofZ x1 x4).length)/\(RowsEq [.int .i64] (ofZ x1 x32).length (encL encI (ofZ x1 x4)) (encL encI (ofZ x1 x32))))/\(((RLe x1.length x1.length)/\(RowsEq [.int .i64] x1.length (encL encI x1) (encL encI x1)))/\True))))))))))))/\((decide ((x4 : Int) < (x1.length : Int)) = false)-> ((0=0/\((ofZ x1 x4).length = (ofZ x1 x1.length).length))/\(((RLe (ofZ x1 x1.length).length (ofZ x1 x4).length)/\(RowsEq [.int .i64] (ofZ x1 x1.length).length (encL encI (ofZ x1 x4)) (encL encI (ofZ x1 x1.length))))/\True))))))))))) = (Keeps cfgOf2 Tryd.f58 qofC qofI) by kernel_rfl) (fun x1 => fun h2 => ⟨((0 : Nat)),
⟨(by (try dsimp only at *); omega),
⟨(by (try dsimp only at *); omega),
⟨trivial,rfl,
(by (try dsimp only at *); (rw [ofZ_zero]; rfl))⟩,rfl,
⟨rfl,rfl⟩,trivial,
⟨rfl,rfl⟩,trivial⟩,
(by (try dsimp only at *); (rw [ofZ_zero]; rfl)),
⟨⟨Nat.le_refl _⟩,RowsEq.rfl'⟩,trivial⟩,
fun x4 => fun h5 => ⟨fun g6 => have h6 := of_decide_eq_true g6; ⟨⟨(by (try dsimp only at *); omega),
(by (try dsimp only at *); omega)⟩,
(by (try dsimp only at *); omega),
fun g7 => have h7 := of_decide_eq_false g7; ⟨fun g8 => have h8 := of_decide_eq_false g8; ⟨({ l := ofZ x1 x4, n := List.getD x1 ((0 : Nat) + Int.toNat (↑x4 : Int)) default : LIX }),
(by (try dsimp only at *); (have := ofZ_len x1 x4; first | (show (ofZ x1 x4).length <= _; omega) | omega)),
⟨⟨rfl,rfl⟩,rfl,trivial⟩,
⟨⟨⟨Nat.le_refl _⟩,RowsEq.rfl'⟩,trivial⟩,
fun g10 => have h10 := of_decide_eq_true g10; ⟨⟨(by (try dsimp only at *); omega),
(by (try dsimp only at *); omega)⟩,
(x4 + (1 : Nat)),
(by (try dsimp only at *); omega),
(by (try dsimp only at *); omega),
⟨(by (try dsimp only at *); omega),
⟨rfl,
(by (try dsimp only at *); ((simp only [nat0] at *; have e := (ofZ_in2 ‹_› ‹_› ‹_› ‹_›); first | (rw [e]; done) | (rw [e]; exact RowsEq.rfl') | (rw [e]; exact pushL_rows) | (rw [e]; exact push2_rows) | (simp only [e, List.length_append, List.length_singleton]; done) | (simp only [e, List.length_append, List.length_singleton]; omega))))⟩,rfl,
⟨rfl,rfl⟩,trivial,
⟨rfl,rfl⟩,trivial⟩,
⟨⟨(by (try dsimp only at *); ((simp only [nat0] at *; have e := (ofZ_in2 ‹_› ‹_› ‹_› ‹_›); first | (rw [e]; done) | (rw [e]; exact RowsEq.rfl') | (rw [e]; exact pushL_rows) | (rw [e]; exact push2_rows) | (simp only [e, List.length_append, List.length_singleton]; done) | (simp only [e, List.length_append, List.length_singleton]; omega))))⟩,
(by (try dsimp only at *); ((simp only [nat0] at *; have e := (ofZ_in2 ‹_› ‹_› ‹_› ‹_›); first | (rw [e]; done) | (rw [e]; exact RowsEq.rfl') | (rw [e]; exact pushL_rows) | (rw [e]; exact push2_rows) | (simp only [e, List.length_append, List.length_singleton]; done) | (simp only [e, List.length_append, List.length_singleton]; omega))))⟩,
⟨⟨Nat.le_refl _⟩,RowsEq.rfl'⟩,trivial⟩,
fun g12 => have h12 := of_decide_eq_false g12; ⟨((0 : Nat)),
⟨(by (try dsimp only at *); omega),
⟨(by (try dsimp only at *); omega),
(by (try dsimp only at *); rfl),
⟨trivial,rfl,
(by (try dsimp only at *); rfl)⟩,rfl,
⟨rfl,rfl⟩,rfl,rfl,rfl,
⟨rfl,rfl⟩,rfl,rfl,rfl,rfl,rfl,rfl,rfl,rfl,rfl,
⟨rfl,rfl⟩,rfl,rfl,
⟨rfl,rfl⟩,rfl,
⟨rfl,rfl⟩,trivial,
⟨rfl,rfl⟩,trivial⟩,
(by (try dsimp only at *); rfl),
⟨⟨Nat.le_refl _⟩,RowsEq.rfl'⟩,
⟨⟨Nat.le_refl _⟩,RowsEq.rfl'⟩,trivial⟩,
fun x14 => fun h15 => ⟨fun g16 => have h16 := of_decide_eq_true g16; ⟨⟨(by (try dsimp only at *); omega),
(by (try dsimp only at *); omega)⟩,
(by (try dsimp only at *); omega),
fun h17 => ⟨fun g18 => have h18 := of_decide_eq_true g18; ⟨⟨⟨trivial,trivial⟩,trivial⟩,
⟨rfl,
(by (try dsimp only at *); omega),
(by (try dsimp only at *); omega),
(by (try dsimp only at *); (have := ofZ_len x1 x4; have := ins_len (n := x1.getD x4 default) h15 this; omega))⟩,
⟨⟨trivial,trivial⟩,trivial⟩,
⟨rfl,
(by (try dsimp only at *); omega),
(by (try dsimp only at *); omega),
(by (try dsimp only at *); (have := ofZ_len x1 x4; have := ins_len (n := x1.getD x4 default) h15 this; omega))⟩,
⟨(by (try dsimp only at *); omega),
(by (try dsimp only at *); (have := ofZ_len x1 x4; first | (show (ofZ x1 x4).length <= _; omega) | omega))⟩,
(x14 + (1 : Nat)),
(by (try dsimp only at *); omega),
(by (try dsimp only at *); omega),
⟨(by (try dsimp only at *); omega),
(by (try dsimp only at *); ((simp only [nat0] at *; have e := (ins_here ‹_› ‹_› ‹_›); first | (rw [e]; done) | (rw [e]; exact RowsEq.rfl') | (rw [e]; exact pushL_rows) | (rw [e]; exact push2_rows) | (simp only [e, List.length_append, List.length_singleton]; done) | (simp only [e, List.length_append, List.length_singleton]; omega)))),
⟨rfl,
(by (try dsimp only at *); ((simp only [nat0] at *; have e := (ins_here ‹_› ‹_› ‹_›); first | (rw [e]; done) | (rw [e]; exact RowsEq.rfl') | (rw [e]; exact pushL_rows) | (rw [e]; exact push2_rows) | (simp only [e, List.length_append, List.length_singleton]; done) | (simp only [e, List.length_append, List.length_singleton]; omega))))⟩,rfl,
⟨rfl,rfl⟩,rfl,rfl,rfl,
⟨rfl,rfl⟩,rfl,rfl,rfl,rfl,rfl,rfl,rfl,rfl,rfl,
⟨rfl,rfl⟩,rfl,rfl,
⟨rfl,rfl⟩,rfl,
⟨rfl,rfl⟩,trivial,
⟨rfl,rfl⟩,trivial⟩,
⟨⟨(by (try dsimp only at *); ((simp only [nat0] at *; have e := (ins_here ‹_› ‹_› ‹_›); first | (rw [e]; done) | (rw [e]; exact RowsEq.rfl') | (rw [e]; exact pushL_rows) | (rw [e]; exact push2_rows) | (simp only [e, List.length_append, List.length_singleton]; done) | (simp only [e, List.length_append, List.length_singleton]; omega))))⟩,
(by (try dsimp only at *); ((simp only [nat0] at *; have e := (ins_here ‹_› ‹_› ‹_›); first | (rw [e]; done) | (rw [e]; exact RowsEq.rfl') | (rw [e]; exact pushL_rows) | (rw [e]; exact push2_rows) | (simp only [e, List.length_append, List.length_singleton]; done) | (simp only [e, List.length_append, List.length_singleton]; omega))))⟩,
⟨⟨Nat.le_refl _⟩,RowsEq.rfl'⟩,
⟨⟨Nat.le_refl _⟩,RowsEq.rfl'⟩,trivial⟩,
fun g20 => have h20 := of_decide_eq_false g20; ⟨⟨⟨trivial,trivial⟩,trivial⟩,
⟨rfl,
(by (try dsimp only at *); omega),
(by (try dsimp only at *); omega),
(by (try dsimp only at *); (have := ofZ_len x1 x4; have := ins_len (n := x1.getD x4 default) h15 this; omega))⟩,
⟨(by (try dsimp only at *); omega),
(by (try dsimp only at *); (have := ofZ_len x1 x4; first | (show (ofZ x1 x4).length <= _; omega) | omega))⟩,
(x14 + (1 : Nat)),
(by (try dsimp only at *); omega),
(by (try dsimp only at *); omega),
⟨(by (try dsimp only at *); omega),
(by (try dsimp only at *); ((simp only [nat0] at *; have e := (ins_go ‹_› ‹_›); first | (rw [e]; done) | (rw [e]; exact RowsEq.rfl') | (rw [e]; exact pushL_rows) | (rw [e]; exact push2_rows) | (simp only [e, List.length_append, List.length_singleton]; done) | (simp only [e, List.length_append, List.length_singleton]; omega)))),
⟨rfl,
(by (try dsimp only at *); ((simp only [nat0] at *; have e := (ins_go ‹_› ‹_›); first | (rw [e]; done) | (rw [e]; exact RowsEq.rfl') | (rw [e]; exact pushL_rows) | (rw [e]; exact push2_rows) | (simp only [e, List.length_append, List.length_singleton]; done) | (simp only [e, List.length_append, List.length_singleton]; omega))))⟩,rfl,
⟨rfl,rfl⟩,rfl,rfl,rfl,
⟨rfl,rfl⟩,rfl,rfl,rfl,rfl,rfl,rfl,rfl,rfl,rfl,
⟨rfl,rfl⟩,rfl,rfl,
⟨rfl,rfl⟩,rfl,
⟨rfl,rfl⟩,trivial,
⟨rfl,rfl⟩,trivial⟩,
⟨⟨(by (try dsimp only at *); ((simp only [nat0] at *; have e := (ins_go ‹_› ‹_›); first | (rw [e]; done) | (rw [e]; exact RowsEq.rfl') | (rw [e]; exact pushL_rows) | (rw [e]; exact push2_rows) | (simp only [e, List.length_append, List.length_singleton]; done) | (simp only [e, List.length_append, List.length_singleton]; omega))))⟩,
(by (try dsimp only at *); ((simp only [nat0] at *; have e := (ins_go ‹_› ‹_›); first | (rw [e]; done) | (rw [e]; exact RowsEq.rfl') | (rw [e]; exact pushL_rows) | (rw [e]; exact push2_rows) | (simp only [e, List.length_append, List.length_singleton]; done) | (simp only [e, List.length_append, List.length_singleton]; omega))))⟩,
⟨⟨Nat.le_refl _⟩,RowsEq.rfl'⟩,
⟨⟨Nat.le_refl _⟩,RowsEq.rfl'⟩,trivial⟩⟩,
fun h22 => ⟨⟨⟨trivial,trivial⟩,trivial⟩,
⟨rfl,
(by (try dsimp only at *); omega),
(by (try dsimp only at *); omega),
(by (try dsimp only at *); (have := ofZ_len x1 x4; have := ins_len (n := x1.getD x4 default) h15 this; omega))⟩,
⟨(by (try dsimp only at *); omega),
(by (try dsimp only at *); (have := ofZ_len x1 x4; first | (show (ofZ x1 x4).length <= _; omega) | omega))⟩,
(x14 + (1 : Nat)),
(by (try dsimp only at *); omega),
(by (try dsimp only at *); omega),
⟨(by (try dsimp only at *); omega),
(by (try dsimp only at *); ((simp only [nat0] at *; have e := (ins_done ‹_› ‹_›); first | (rw [e]; done) | (rw [e]; exact RowsEq.rfl') | (rw [e]; exact pushL_rows) | (rw [e]; exact push2_rows) | (simp only [e, List.length_append, List.length_singleton]; done) | (simp only [e, List.length_append, List.length_singleton]; omega)))),
⟨rfl,
(by (try dsimp only at *); ((simp only [nat0] at *; have e := (ins_done ‹_› ‹_›); first | (rw [e]; done) | (rw [e]; exact RowsEq.rfl') | (rw [e]; exact pushL_rows) | (rw [e]; exact push2_rows) | (simp only [e, List.length_append, List.length_singleton]; done) | (simp only [e, List.length_append, List.length_singleton]; omega))))⟩,rfl,
⟨rfl,rfl⟩,rfl,rfl,rfl,
⟨rfl,rfl⟩,rfl,rfl,rfl,rfl,rfl,rfl,rfl,rfl,rfl,
⟨rfl,rfl⟩,rfl,rfl,
⟨rfl,rfl⟩,rfl,
⟨rfl,rfl⟩,trivial,
⟨rfl,rfl⟩,trivial⟩,
⟨⟨(by (try dsimp only at *); ((simp only [nat0] at *; have e := (ins_done ‹_› ‹_›); first | (rw [e]; done) | (rw [e]; exact RowsEq.rfl') | (rw [e]; exact pushL_rows) | (rw [e]; exact push2_rows) | (simp only [e, List.length_append, List.length_singleton]; done) | (simp only [e, List.length_append, List.length_singleton]; omega))))⟩,
(by (try dsimp only at *); ((simp only [nat0] at *; have e := (ins_done ‹_› ‹_›); first | (rw [e]; done) | (rw [e]; exact RowsEq.rfl') | (rw [e]; exact pushL_rows) | (rw [e]; exact push2_rows) | (simp only [e, List.length_append, List.length_singleton]; done) | (simp only [e, List.length_append, List.length_singleton]; omega))))⟩,
⟨⟨Nat.le_refl _⟩,RowsEq.rfl'⟩,
⟨⟨Nat.le_refl _⟩,RowsEq.rfl'⟩,trivial⟩⟩,
fun g24 => have h24 := of_decide_eq_false g24; ⟨fun h25 => ⟨⟨⟨trivial,trivial⟩,trivial⟩,
⟨rfl,
(by (try dsimp only at *); omega),
(by (try dsimp only at *); omega),
(by (try dsimp only at *); (have := ofZ_len x1 x4; have := ins_len (n := x1.getD x4 default) h15 this; omega))⟩,
⟨(by (try dsimp only at *); omega),
(by (try dsimp only at *); omega)⟩,
(x4 + (1 : Nat)),
(by (try dsimp only at *); omega),
(by (try dsimp only at *); omega),
⟨(by (try dsimp only at *); omega),
⟨rfl,
(by (try dsimp only at *); ((simp only [nat0] at *; have e := (ofZ_app ‹_› ‹_› ‹_› ‹_› ‹_› ‹_› ‹_›); first | (rw [e]; done) | (rw [e]; exact RowsEq.rfl') | (rw [e]; exact pushL_rows) | (rw [e]; exact push2_rows) | (simp only [e, List.length_append, List.length_singleton]; done) | (simp only [e, List.length_append, List.length_singleton]; omega))))⟩,rfl,
⟨rfl,rfl⟩,trivial,
⟨rfl,rfl⟩,trivial⟩,
⟨⟨(by (try dsimp only at *); ((simp only [nat0] at *; have e := (ofZ_app ‹_› ‹_› ‹_› ‹_› ‹_› ‹_› ‹_›); first | (rw [e]; done) | (rw [e]; exact RowsEq.rfl') | (rw [e]; exact pushL_rows) | (rw [e]; exact push2_rows) | (simp only [e, List.length_append, List.length_singleton]; done) | (simp only [e, List.length_append, List.length_singleton]; omega))))⟩,
(by (try dsimp only at *); ((simp only [nat0] at *; have e := (ofZ_app ‹_› ‹_› ‹_› ‹_› ‹_› ‹_› ‹_›); first | (rw [e]; done) | (rw [e]; exact RowsEq.rfl') | (rw [e]; exact pushL_rows) | (rw [e]; exact push2_rows) | (simp only [e, List.length_append, List.length_singleton]; done) | (simp only [e, List.length_append, List.length_singleton]; omega))))⟩,
⟨⟨Nat.le_refl _⟩,RowsEq.rfl'⟩,trivial⟩,
fun h27 => ⟨⟨(by (try dsimp only at *); omega),
(by (try dsimp only at *); omega)⟩,
(x4 + (1 : Nat)),
(by (try dsimp only at *); omega),
(by (try dsimp only at *); omega),
⟨(by (try dsimp only at *); omega),
⟨rfl,
(by (try dsimp only at *); ((simp only [nat0] at *; have e := (ofZ_ins ‹_› ‹_› ‹_› ‹_› ‹_› ‹_› ‹_›); first | (rw [e]; done) | (rw [e]; exact RowsEq.rfl') | (rw [e]; exact pushL_rows) | (rw [e]; exact push2_rows) | (simp only [e, List.length_append, List.length_singleton]; done) | (simp only [e, List.length_append, List.length_singleton]; omega))))⟩,rfl,
⟨rfl,rfl⟩,trivial,
⟨rfl,rfl⟩,trivial⟩,
⟨⟨(by (try dsimp only at *); ((simp only [nat0] at *; have e := (ofZ_ins ‹_› ‹_› ‹_› ‹_› ‹_› ‹_› ‹_›); first | (rw [e]; done) | (rw [e]; exact RowsEq.rfl') | (rw [e]; exact pushL_rows) | (rw [e]; exact push2_rows) | (simp only [e, List.length_append, List.length_singleton]; done) | (simp only [e, List.length_append, List.length_singleton]; omega))))⟩,
(by (try dsimp only at *); ((simp only [nat0] at *; have e := (ofZ_ins ‹_› ‹_› ‹_› ‹_› ‹_› ‹_› ‹_›); first | (rw [e]; done) | (rw [e]; exact RowsEq.rfl') | (rw [e]; exact pushL_rows) | (rw [e]; exact push2_rows) | (simp only [e, List.length_append, List.length_singleton]; done) | (simp only [e, List.length_append, List.length_singleton]; omega))))⟩,
⟨⟨Nat.le_refl _⟩,RowsEq.rfl'⟩,trivial⟩⟩⟩⟩⟩,
fun g29 => have h29 := of_decide_eq_true g29; ⟨⟨(by (try dsimp only at *); omega),
(by (try dsimp only at *); omega)⟩,
(x4 + (1 : Nat)),
(by (try dsimp only at *); omega),
(by (try dsimp only at *); omega),
⟨(by (try dsimp only at *); omega),
⟨rfl,
(by (try dsimp only at *); ((simp only [nat0] at *; have e := (ofZ_hi ‹_› ‹_›); first | (rw [e]; done) | (rw [e]; exact RowsEq.rfl') | (rw [e]; exact pushL_rows) | (rw [e]; exact push2_rows) | (simp only [e, List.length_append, List.length_singleton]; done) | (simp only [e, List.length_append, List.length_singleton]; omega))))⟩,rfl,
⟨rfl,rfl⟩,trivial,
⟨rfl,rfl⟩,trivial⟩,
⟨⟨(by (try dsimp only at *); ((simp only [nat0] at *; have e := (ofZ_hi ‹_› ‹_›); first | (rw [e]; done) | (rw [e]; exact RowsEq.rfl') | (rw [e]; exact pushL_rows) | (rw [e]; exact push2_rows) | (simp only [e, List.length_append, List.length_singleton]; done) | (simp only [e, List.length_append, List.length_singleton]; omega))))⟩,
(by (try dsimp only at *); ((simp only [nat0] at *; have e := (ofZ_hi ‹_› ‹_›); first | (rw [e]; done) | (rw [e]; exact RowsEq.rfl') | (rw [e]; exact pushL_rows) | (rw [e]; exact push2_rows) | (simp only [e, List.length_append, List.length_singleton]; done) | (simp only [e, List.length_append, List.length_singleton]; omega))))⟩,
⟨⟨Nat.le_refl _⟩,RowsEq.rfl'⟩,trivial⟩⟩,
fun g31 => have h31 := of_decide_eq_true g31; ⟨⟨(by (try dsimp only at *); omega),
(by (try dsimp only at *); omega)⟩,
(x4 + (1 : Nat)),
(by (try dsimp only at *); omega),
(by (try dsimp only at *); omega),
⟨(by (try dsimp only at *); omega),
⟨rfl,
(by (try dsimp only at *); ((simp only [nat0] at *; have e := (ofZ_lo ‹_› ‹_›); first | (rw [e]; done) | (rw [e]; exact RowsEq.rfl') | (rw [e]; exact pushL_rows) | (rw [e]; exact push2_rows) | (simp only [e, List.length_append, List.length_singleton]; done) | (simp only [e, List.length_append, List.length_singleton]; omega))))⟩,rfl,
⟨rfl,rfl⟩,trivial,
⟨rfl,rfl⟩,trivial⟩,
⟨⟨(by (try dsimp only at *); ((simp only [nat0] at *; have e := (ofZ_lo ‹_› ‹_›); first | (rw [e]; done) | (rw [e]; exact RowsEq.rfl') | (rw [e]; exact pushL_rows) | (rw [e]; exact push2_rows) | (simp only [e, List.length_append, List.length_singleton]; done) | (simp only [e, List.length_append, List.length_singleton]; omega))))⟩,
(by (try dsimp only at *); ((simp only [nat0] at *; have e := (ofZ_lo ‹_› ‹_›); first | (rw [e]; done) | (rw [e]; exact RowsEq.rfl') | (rw [e]; exact pushL_rows) | (rw [e]; exact push2_rows) | (simp only [e, List.length_append, List.length_singleton]; done) | (simp only [e, List.length_append, List.length_singleton]; omega))))⟩,
⟨⟨Nat.le_refl _⟩,RowsEq.rfl'⟩,trivial⟩⟩,
fun g33 => have h33 := of_decide_eq_false g33; ⟨⟨rfl,
(by (try dsimp only at *); grind)⟩,
⟨⟨(by (try dsimp only at *); grind)⟩,
(by (try dsimp only at *); (have e : x4 = x1.length := (by omega); subst e; exact RowsEq.rfl'))⟩,trivial⟩⟩⟩)
theorem qof_good : Good Tryd.prog 58 qofC /\ FnOk Tryd.prog 58 := good_of tok conOf2 (fn := Tryd.f58) rfl (by decide +kernel) (fun _ => rfl) qof_keeps
end Go.Sym