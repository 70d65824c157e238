/- law03: HeapStringKeys: the walk. -/
import Derived.Test.YtofigelofojjlaaW4
import Derived.Test.YtofigelofojjlaaHEs
import Derived.Test.YtofigelofojjlaaXD
namespace Go.Sym
set_option linter.unusedVariables false
set_option linter.unusedSimpArgs false
open Go.Proofs
abbrev SEl := El ByteArray
def kS : List Kd := [.str]
/-- How many of a list are less. -/
def cntK (l : List ByteArray) (s : ByteArray) (k : Nat) : Nat := (l.take k).countP fun o => lts o s
def atS (l : List ByteArray) (s : ByteArray) : Nat := l.countP fun o => lts o s
theorem cntK_all (l : List ByteArray) (s : ByteArray) : cntK l s l.length = atS l s := by unfold cntK atS; rw [List.take_length]
theorem cntK_succ {l : List ByteArray} {s : ByteArray} {k : Nat} (h : k < l.length) : cntK l s (k + 1) = cntK l s k + if lts (l.getD k default) s = true then 1 else 0 := by
  unfold cntK; rw [take_succ_getD (d := default) h, List.countP_append]; simp [List.countP_cons]
theorem cntK_le (l : List ByteArray) (s : ByteArray) (k : Nat) : cntK l s k ≤ l.length := by
  have h1 : cntK l s k ≤ (l.take k).length := List.countP_le_length
  rw [List.length_take] at h1
  omega
theorem count_le {l : List ByteArray} {p q : ByteArray → Bool} (h : ∀ o, p o = true → q o = true) : l.countP p ≤ l.countP q := by
  induction l with
  | nil => simp
  | cons a r ih =>
    rw [List.countP_cons, List.countP_cons]
    have := h a
    cases hp : p a <;> cases hq : q a <;> simp_all <;> omega
theorem count_lt {l : List ByteArray} {p q : ByteArray → Bool} (h : ∀ o, p o = true → q o = true) {x : ByteArray} (hx : x ∈ l) (h1 : q x = true) (h2 : p x = false) : l.countP p < l.countP q := by
  induction l with
  | nil => cases hx
  | cons a r ih =>
    rw [List.countP_cons, List.countP_cons]
    have hr := count_le (l := r) h
    rcases List.mem_cons.1 hx with rfl | hx
    · rw [h1, h2]; simp; omega
    · have := ih hx
      have := h a
      cases hp : p a <;> cases hq : q a <;> simp_all <;> omega
theorem atS_iff {l : List ByteArray} {a b : ByteArray} (ha : a ∈ l) (hb : b ∈ l) : lts a b = decide ((atS l a : Int) < atS l b) := by
  have key : ∀ {x y : ByteArray}, x ∈ l → lts x y = true → atS l x < atS l y := by
    intro x y hx h
    exact count_lt (fun o ho => lts_ok.trans _ _ _ ho h) hx h (lts_ok.irr x)
  cases h : lts a b with
  | true => have := key ha h; exact (decide_eq_true (by omega)).symm
  | false =>
    cases h2 : lts b a with
    | true => have := key hb h2; exact (decide_eq_false (by omega)).symm
    | false => have := lts_ok.tot _ _ h h2; subst this; exact (decide_eq_false (by omega)).symm
def phi (l : List ByteArray) (e : SEl) : Line := ⟨e.id, atS l e.key⟩
structure TwinS (l : List ByteArray) (h : List SEl) (x : List Line) : Prop where
  p : (h.map (phi l)).Perm x
  n : (ids h).Nodup
  o : HeapOk lts h
  m : ∀ e ∈ h, ∃ i : Nat, i < l.length ∧ e = ⟨i, l.getD i default⟩
theorem getD_mem {l : List ByteArray} {i : Nat} (hi : i < l.length) : l.getD i default ∈ l := by
  rw [List.getD_eq_getElem?_getD, List.getElem?_eq_getElem hi]; exact List.getElem_mem _
theorem TwinS.ids {l : List ByteArray} {h : List SEl} {x : List Line} (t : TwinS l h x) : (Go.Sym.ids h).Perm (Go.Sym.ids x) := by
  have := ids_perm t.p
  have e : Go.Sym.ids (h.map (phi l)) = Go.Sym.ids h := by unfold Go.Sym.ids; rw [List.map_map]; rfl
  rw [e] at this; exact this
theorem TwinS.len {l : List ByteArray} {h : List SEl} {x : List Line} (t : TwinS l h x) : h.length = x.length := by
  have := t.p.length_eq; simpa using this
theorem TwinS.less {l : List ByteArray} {h : List SEl} {x : List Line} (t : TwinS l h x) {a b : SEl} (ha : a ∈ h) (hb : b ∈ h) : El.less lts a b = El.less lti (phi l a) (phi l b) := by
  obtain ⟨i, hi, rfl⟩ := t.m a ha
  obtain ⟨j, hj, rfl⟩ := t.m b hb
  unfold El.less phi
  simp only
  rw [atS_iff (getD_mem hi) (getD_mem hj), atS_iff (getD_mem hj) (getD_mem hi)]
  rfl
theorem getD_memS {h : List SEl} {i : Nat} (hi : i < h.length) : h.getD i default ∈ h := by
  rw [List.getD_eq_getElem?_getD, List.getElem?_eq_getElem hi]; exact List.getElem_mem _
theorem TwinS.top {l : List ByteArray} {h : List SEl} {x : List Line} (t : TwinS l h x) (h0 : h.length ≠ 0) : topK x x.length = phi l (h.getD 0 default) := by
  have hl := t.len
  obtain ⟨h1, h2⟩ := topK_spec (l := x) x.length (Nat.le_refl _) (by omega)
  have m0 := getD_memS (h := h) (i := 0) (by omega)
  have m1 : phi l (h.getD 0 default) ∈ x := t.p.mem_iff.1 (List.mem_map.2 ⟨_, m0, rfl⟩)
  obtain ⟨e, he, e1⟩ := List.mem_map.1 (t.p.mem_iff.2 h1)
  have a := heap_min_mem lts_ok t.o he
  rw [t.less he m0, e1] at a
  obtain ⟨j, hj, e2⟩ := List.mem_iff_getElem.1 m1
  have b := h2 j hj
  have e' : x.getD j default = phi l (h.getD 0 default) := by rw [← e2]; simp [List.getD_eq_getElem?_getD, hj]
  rw [e'] at b
  exact less_tot lti_ok a b
theorem TwinS.pop {l : List ByteArray} {h : List SEl} {x : List Line} (t : TwinS l h x) (h0 : h.length ≠ 0) : TwinS l (popF lts h) (dropI x (h.getD 0 default).id) := by
  have e : popF lts h = removeF lts h 0 := popF_conss h0
  have hp := removeF_perm lts (l := h) (i := 0) (by omega)
  rw [← e] at hp
  have nx : (Go.Sym.ids x).Nodup := t.ids.nodup_iff.1 t.n
  have px : x.Perm (phi l (h.getD 0 default) :: (popF lts h).map (phi l)) := t.p.symm.trans (hp.map (phi l))
  have q := (dropI_wo nx (phi l (h.getD 0 default)).id).trans (wo_of_perm px nx)
  refine ⟨q.symm, by rw [e]; exact removeF_nodup lts t.n (by omega), by rw [e]; exact removeF_heap lts_ok t.n t.o (by omega), fun a ha => t.m a (hp.mem_iff.2 (List.mem_cons_of_mem _ ha))⟩
def hS (l : List ByteArray) (k : Nat) : List SEl := (List.range k).foldl (fun h (i : Nat) => putF lts h (i : Int) (l.getD i default)) []
def xS (l : List ByteArray) (k : Nat) : List Line := (List.range k).foldl (fun h (i : Nat) => putBase h (i : Int) (atS l (l.getD i default) : Int)) []
theorem hS_succ (l : List ByteArray) (k : Nat) : hS l (k + 1) = putF lts (hS l k) (k : Int) (l.getD k default) := by
  unfold hS; rw [List.range_succ, List.foldl_append]; rfl
theorem xS_succ (l : List ByteArray) (k : Nat) : xS l (k + 1) = putBase (xS l k) (k : Int) (atS l (l.getD k default) : Int) := by
  unfold xS; rw [List.range_succ, List.foldl_append]; rfl
theorem twinS (l : List ByteArray) : ∀ k : Nat, k ≤ l.length → TwinS l (hS l k) (xS l k) ∧ (hS l k).length = k ∧ ∀ i ∈ ids (hS l k), i < (k : Int)
  | 0, _ => ⟨⟨List.Perm.refl _, List.nodup_nil, fun i _ h => by simp [hS] at h, fun e he => by simp [hS] at he⟩, rfl, fun i hi => by simp [hS, ids] at hi⟩
  | k + 1, hk => by
    obtain ⟨t, h2, h3⟩ := twinS l k (by omega)
    have hn : (k : Int) ∉ ids (hS l k) := fun h => by have := h3 _ h; omega
    have hx : (k : Int) ∉ ids (xS l k) := fun h => hn (t.ids.mem_iff.2 h)
    rw [hS_succ, xS_succ]
    have p1 : (putF lts (hS l k) (k : Int) (l.getD k default)).Perm (hS l k ++ [⟨k, l.getD k default⟩]) := by
      have := putF_perm lts (hS l k) (k : Int) (l.getD k default)
      unfold putBase at this
      rw [if_neg hn] at this
      exact this
    have p2 : putBase (xS l k) (k : Int) (atS l (l.getD k default) : Int) = xS l k ++ [⟨k, atS l (l.getD k default)⟩] := by unfold putBase; rw [if_neg hx]
    refine ⟨⟨?_, putF_nodup lts t.n _ _, putF_heap lts_ok t.n t.o _ _, fun e he => ?_⟩, ?_, fun i hi => ?_⟩
    · rw [p2]
      have := p1.map (phi l)
      rw [List.map_append] at this
      exact this.trans (t.p.append (List.Perm.refl _))
    · rcases List.mem_append.1 (p1.mem_iff.1 he) with h | h
      · exact t.m e h
      · simp at h; exact ⟨k, by omega, by simpa using h⟩
    · rw [p1.length_eq]; simp [h2]
    · have := (ids_perm p1).mem_iff.1 hi
      simp only [ids, List.map_append, List.mem_append, List.map_cons, List.map_nil, List.mem_singleton] at this
      rcases this with h | h
      · have := h3 i h; omega
      · omega
def popS (l : List ByteArray) : Nat → List SEl × List Line
  | 0 => (hS l l.length, xS l l.length)
  | k + 1 => (popF lts (popS l k).1, dropI (popS l k).2 ((popS l k).1.getD 0 default).id)
theorem popS_succ (l : List ByteArray) (k : Nat) : popS l (k + 1) = (popF lts (popS l k).1, dropI (popS l k).2 ((popS l k).1.getD 0 default).id) := rfl
theorem popF_lens {h : List SEl} : (popF lts h).length = h.length - 1 := by
  unfold popF
  split
  · omega
  · exact removeF_length lts (by omega)
theorem popS_ok (l : List ByteArray) : ∀ k : Nat, k ≤ l.length → TwinS l (popS l k).1 (popS l k).2 ∧ (popS l k).1.length = l.length - k
  | 0, _ => ⟨(twinS l l.length (Nat.le_refl _)).1, (twinS l l.length (Nat.le_refl _)).2.1⟩
  | k + 1, hk => by
    obtain ⟨t, h⟩ := popS_ok l k (by omega)
    rw [popS_succ]
    exact ⟨t.pop (by omega), by dsimp only; rw [popF_lens]; omega⟩
theorem popS_in (l : List ByteArray) {k : Nat} (hk : k < l.length) : ∃ i : Nat, i < l.length ∧ (popS l k).1.getD 0 default = ⟨i, l.getD i default⟩ ∧ topK (popS l k).2 (popS l k).2.length = ⟨i, atS l (l.getD i default)⟩ := by
  obtain ⟨t, h⟩ := popS_ok l k (by omega)
  obtain ⟨i, hi, e⟩ := t.m _ (getD_memS (h := (popS l k).1) (i := 0) (by omega))
  refine ⟨i, hi, e, ?_⟩
  rw [t.top (by omega), e]
  rfl
def heapLs (a b c : Nat) (l : List SEl) : List (Nat × Blk) := [(a, .one .own [.sl b 0 l.length, .mp c]), (b, .rows .own kEs l.length (encL encEs l)), (c, .map .own .i64 kMap false (ids l) (posD l))]
def strC : CT where
  X := List ByteArray
  pre := fun _ => True
  args := fun l => [.sl 100000 0 l.length]
  g0 := fun l => [(100000, .rows .bor kS l.length (encL encS l))]
  res := fun _ => .b true
  g1 := fun _ => []
def strI2 (l : List ByteArray) (k : Nat) (id : Nat) : Option Inv := match id with
  | 2 => some { X := Nat, ok := fun j => j ≤ l.length, fr := fun j => [(37, .i .i64 j), (7, .i .i64 (cntK l (l.getD k default) j))], hp := fun j => [], me := fun j => l.length - j }
  | _ => none
def strI (l : List ByteArray) (id : Nat) : Option Inv := match id with
  | 0 => some { X := Nat, ok := fun k => k ≤ l.length, fr := fun k => [(23, .i .i64 k), (3, .p 1 0 0), (4, .sl 4 0 (xS l k).length)], hp := fun k => heapLs 1 2 3 (hS l k) ++ [refB 4 (xS l k)], me := fun k => l.length - k, inn := fun k => strI2 l k }
  | 4 => some { X := Nat, ok := fun k => k ≤ l.length, fr := fun k => [(54, .i .i64 k), (3, .p 1 0 0), (4, .sl 4 0 (popS l k).2.length)], hp := fun k => heapLs 1 2 3 (popS l k).1 ++ [refB 4 (popS l k).2], me := fun k => l.length - k }
  | _ => none
def Cs5 : List (Nat × Con) := [(9, .one wakesC), (18, .one newsC), (19, .one putsC), (20, .one rputC), (21, .one topC), (22, .one popsC), (14, .one rdropC), (23, .one lensC)]
theorem cons5 : ConL Try.prog Cs5 := .cons (ConL.one wakes_good) (.cons (ConL.one news_good) (.cons (ConL.one puts_good) (.cons (ConL.one rput_good) (.cons (ConL.one top_good) (.cons (ConL.one pops_good) (.cons (ConL.one rdrop_good) (.cons (ConL.one lens_good) .nil)))))))
theorem cntK_yes {l : List ByteArray} {i k : Nat} (h : (k : Int) < l.length) (hl : Op.bytesLess (l.getD (0 + (k : Int).toNat) default).toList (l.getD (0 + (i : Int).toNat) default).toList = true) : (cntK l (l.getD i default) k : Int) + 1 = (cntK l (l.getD i default) (k + 1) : Nat) := by
  rw [Nat.zero_add, Int.toNat_natCast, Nat.zero_add, Int.toNat_natCast] at hl
  rw [cntK_succ (by omega), if_pos (show lts (l.getD k default) (l.getD i default) = true from hl)]; simp
theorem cntK_no {l : List ByteArray} {i k : Nat} (h : (k : Int) < l.length) (hl : Op.bytesLess (l.getD (0 + (k : Int).toNat) default).toList (l.getD (0 + (i : Int).toNat) default).toList = false) : (cntK l (l.getD i default) k : Int) = (cntK l (l.getD i default) (k + 1) : Nat) := by
  rw [Nat.zero_add, Int.toNat_natCast, Nat.zero_add, Int.toNat_natCast] at hl
  rw [cntK_succ (by omega), if_neg (by rw [show lts (l.getD k default) (l.getD i default) = false from hl]; decide)]; simp
theorem hS_put {l : List ByteArray} {k : Nat} : putF lts (hS l k) (k : Int) (l.getD (0 + (k : Int).toNat) default) = hS l (k + 1) := by
  rw [Nat.zero_add, Int.toNat_natCast, hS_succ]
theorem xS_put {l : List ByteArray} {k j : Nat} (h1 : j ≤ l.length) (h2 : ¬ (j : Int) < l.length) : putBase (xS l k) (k : Int) (cntK l (l.getD k default) j : Int) = xS l (k + 1) := by
  obtain rfl : j = l.length := by omega
  rw [cntK_all, xS_succ]
theorem popS_facts {l : List ByteArray} {k : Nat} (hk : k ≤ l.length) : (popS l k).1.length = l.length - k ∧ (popS l k).2.length = l.length - k ∧ (ids (popS l k).1).Nodup := by
  obtain ⟨t, h⟩ := popS_ok l k hk
  exact ⟨h, by rw [← t.len]; exact h, t.n⟩
theorem popS_put {l : List ByteArray} {k : Nat} (h : ¬ ((popS l k).1.getD 0 default).id ≠ (topK (popS l k).2 (popS l k).2.length).id) : dropI (popS l k).2 (topK (popS l k).2 (popS l k).2.length).id = (popS l (k + 1)).2 := by
  rw [popS_succ, ← Decidable.not_not.1 h]
theorem popS_same {l : List ByteArray} {k : Nat} (hk : (k : Int) < l.length) : ((popS l k).1.getD 0 default).id = (topK (popS l k).2 (popS l k).2.length).id := by
  obtain ⟨i, hi, e1, e2⟩ := popS_in l (k := k) (by omega)
  rw [e1, e2]
theorem popS_rng {l : List ByteArray} {k : Nat} (hk : (k : Int) < l.length) : 0 ≤ (topK (popS l k).2 (popS l k).2.length).id ∧ (topK (popS l k).2 (popS l k).2.length).id < l.length := by
  obtain ⟨i, hi, e1, e2⟩ := popS_in l (k := k) (by omega)
  rw [e2]; dsimp only; omega
theorem popS_key {l : List ByteArray} {k : Nat} (hk : (k : Int) < l.length) : ((popS l k).1.getD 0 default).key = l.getD (0 + (topK (popS l k).2 (popS l k).2.length).id.toNat) default := by
  obtain ⟨i, hi, e1, e2⟩ := popS_in l (k := k) (by omega)
  rw [e1, e2]; simp
set_option maxHeartbeats 1000000 in
set_option maxRecDepth 100000 in
theorem str_keeps : Keeps ⟨T, [], Cs5, noInv, 60⟩ Try.f5 strC strI := Eq.mp (show ((∀ x1 : List ByteArray,
 ((True) →
 (∃ x3 : Unit,
 ((True) ∧
 ((True) ∧
 ((True) ∧
 (((false = true) →
 ((false = true) ∧
 (True))) ∧
 ((false = false) →
 (((decide ((40 : Int) < (↑(List.length x1) : Int)) = true) →
 ((true = true) ∧
 (True))) ∧
 ((decide ((40 : Int) < (↑(List.length x1) : Int)) = false) →
 (∃ x8 : Unit,
 ((True) ∧
 ((True) ∧
 ((True) ∧
 (∃ x9 : Nat,
 (((x9 ≤ List.length x1) ∧
 ((((0 : Int) = (↑x9 : Int)) ∧
 ((((0 : Nat) = (0 : Nat)) ∧
 ((0 : Nat) = (0 : Nat))) ∧
 (((True) ∧
 (((0 : Nat) = (0 : Nat)) ∧
 (List.length (xS x1 x9) = (0 : Nat)))) ∧
 (((↑(List.length x1) : Int) = (↑(List.length x1) : Int)) ∧
 ((((0 : Nat) = (0 : Nat)) ∧
 (List.length x1 = List.length x1)) ∧
 ((decide ((40 : Int) < (↑(List.length x1) : Int)) = decide ((40 : Int) < (↑(List.length x1) : Int))) ∧
 (((↑(List.length x1) : Int) = (↑(List.length x1) : Int)) ∧
 ((((0 : Nat) = (0 : Nat)) ∧
 (List.length x1 = List.length x1)) ∧
 ((false = false) ∧
 ((true = true) ∧
 ((((0 : Nat) = (0 : Nat)) ∧
 (List.length x1 = List.length x1)) ∧
 (True)))))))))))) ∧
 (((((0 : Nat) = (0 : Nat)) ∧
 ((0 : Nat) = List.length (hS x1 x9))) ∧
 ((True) ∧
 (True))) ∧
 (((RLe (List.length (hS x1 x9)) (0 : Nat)) ∧
 (RowsEq (Kd.int IntKind.i64 :: Kd.str :: @List.nil Kd) (List.length (hS x1 x9)) (encL encEs (@List.nil (El ByteArray))) (encL encEs (hS x1 x9)))) ∧
 ((MapEq (Kd.int IntKind.i64 :: @List.nil Kd) (@List.nil Int) (ids (hS x1 x9)) (posD (@List.nil (El ByteArray))) (posD (hS x1 x9))) ∧
 ((List.length (xS x1 x9) = (0 : Nat)) ∧
 (((RLe (List.length x1) (List.length x1)) ∧
 (RowsEq (Kd.str :: @List.nil Kd) (List.length x1) (encL encS x1) (encL encS x1))) ∧
 (True)))))))) ∧
 (∀ x10 : Nat,
 ((x10 ≤ List.length x1) →
 (((decide ((↑x10 : Int) < (↑(List.length x1) : Int)) = true) →
 ((((0 : Int) ≤ (↑x10 : Int)) ∧
 ((↑x10 : Int) < (↑(List.length x1) : Int))) ∧
 (((0 : Nat) + Int.toNat (↑x10 : Int) < List.length x1) ∧
 (((decide ((100 : Int) < (↑(ByteArray.size (List.getD x1 ((0 : Nat) + Int.toNat (↑x10 : Int)) default)) : Int)) = true) →
 ((true = true) ∧
 (True))) ∧
 ((decide ((100 : Int) < (↑(ByteArray.size (List.getD x1 ((0 : Nat) + Int.toNat (↑x10 : Int)) default)) : Int)) = false) →
 (∃ x15 : LKs,
 (((List.Nodup (ids (LKs.l x15))) ∧
 (List.length (LKs.l x15) ≤ (999999 : Nat))) ∧
 (((((0 : Nat) = (0 : Nat)) ∧
 ((0 : Nat) = (0 : Nat))) ∧
 (((↑x10 : Int) = LKs.id x15) ∧
 ((List.getD x1 ((0 : Nat) + Int.toNat (↑x10 : Int)) default = LKs.key x15) ∧
 (True)))) ∧
 ((((((0 : Nat) = (0 : Nat)) ∧
 (List.length (hS x1 x10) = List.length (LKs.l x15))) ∧
 ((True) ∧
 (True))) ∧
 (((RLe (List.length (LKs.l x15)) (List.length (hS x1 x10))) ∧
 (RowsEq (Kd.int IntKind.i64 :: Kd.str :: @List.nil Kd) (List.length (LKs.l x15)) (encL encEs (hS x1 x10)) (encL encEs (LKs.l x15)))) ∧
 ((MapEq (Kd.int IntKind.i64 :: @List.nil Kd) (ids (hS x1 x10)) (ids (LKs.l x15)) (posD (hS x1 x10)) (posD (LKs.l x15))) ∧
 (True)))) ∧
 (∃ x16 : Nat,
 (((x16 ≤ List.length x1) ∧
 ((((0 : Int) = (↑x16 : Int)) ∧
 (((0 : Int) = (↑(cntK x1 (List.getD x1 x10 default) x16) : Int)) ∧
 (((↑(List.length x1) : Int) = (↑(List.length x1) : Int)) ∧
 ((((0 : Nat) = (0 : Nat)) ∧
 (List.length x1 = List.length x1)) ∧
 ((True) ∧
 ((List.getD x1 ((0 : Nat) + Int.toNat (↑x10 : Int)) default = List.getD x1 ((0 : Nat) + Int.toNat (↑x10 : Int)) default) ∧
 (((↑x10 : Int) = (↑x10 : Int)) ∧
 ((((0 : Nat) = (0 : Nat)) ∧
 ((0 : Nat) = (0 : Nat))) ∧
 ((decide ((100 : Int) < (↑(ByteArray.size (List.getD x1 ((0 : Nat) + Int.toNat (↑x10 : Int)) default)) : Int)) = decide ((100 : Int) < (↑(ByteArray.size (List.getD x1 ((0 : Nat) + Int.toNat (↑x10 : Int)) default)) : Int))) ∧
 (((↑(ByteArray.size (List.getD x1 ((0 : Nat) + Int.toNat (↑x10 : Int)) default)) : Int) = (↑(ByteArray.size (List.getD x1 ((0 : Nat) + Int.toNat (↑x10 : Int)) default)) : Int)) ∧
 ((List.getD x1 ((0 : Nat) + Int.toNat (↑x10 : Int)) default = List.getD x1 ((0 : Nat) + Int.toNat (↑x10 : Int)) default) ∧
 ((List.getD x1 ((0 : Nat) + Int.toNat (↑x10 : Int)) default = List.getD x1 ((0 : Nat) + Int.toNat (↑x10 : Int)) default) ∧
 (((↑x10 : Int) = (↑x10 : Int)) ∧
 ((List.getD x1 ((0 : Nat) + Int.toNat (↑x10 : Int)) default = List.getD x1 ((0 : Nat) + Int.toNat (↑x10 : Int)) default) ∧
 ((((0 : Nat) + Int.toNat (↑x10 : Int) = (0 : Nat) + Int.toNat (↑x10 : Int)) ∧
 ((0 : Nat) = (0 : Nat))) ∧
 (((↑x10 : Int) = (↑x10 : Int)) ∧
 ((decide ((↑x10 : Int) < (↑(List.length x1) : Int)) = decide ((↑x10 : Int) < (↑(List.length x1) : Int))) ∧
 (((↑x10 : Int) = (↑x10 : Int)) ∧
 ((((0 : Nat) = (0 : Nat)) ∧
 ((0 : Nat) = (0 : Nat))) ∧
 ((((0 : Nat) = (0 : Nat)) ∧
 (List.length (xS x1 x10) = List.length (xS x1 x10))) ∧
 (((↑(List.length x1) : Int) = (↑(List.length x1) : Int)) ∧
 ((((0 : Nat) = (0 : Nat)) ∧
 (List.length x1 = List.length x1)) ∧
 ((decide ((40 : Int) < (↑(List.length x1) : Int)) = decide ((40 : Int) < (↑(List.length x1) : Int))) ∧
 (((↑(List.length x1) : Int) = (↑(List.length x1) : Int)) ∧
 ((((0 : Nat) = (0 : Nat)) ∧
 (List.length x1 = List.length x1)) ∧
 ((false = false) ∧
 ((true = true) ∧
 ((((0 : Nat) = (0 : Nat)) ∧
 (List.length x1 = List.length x1)) ∧
 (True))))))))))))))))))))))))))))) ∧
 (((((0 : Nat) = (0 : Nat)) ∧
 (List.length (putF lts (LKs.l x15) (LKs.id x15) (LKs.key x15)) = List.length (putF lts (LKs.l x15) (LKs.id x15) (LKs.key x15)))) ∧
 ((True) ∧
 (True))) ∧
 (((RLe (List.length (putF lts (LKs.l x15) (LKs.id x15) (LKs.key x15))) (List.length (putF lts (LKs.l x15) (LKs.id x15) (LKs.key x15)))) ∧
 (RowsEq (Kd.int IntKind.i64 :: Kd.str :: @List.nil Kd) (List.length (putF lts (LKs.l x15) (LKs.id x15) (LKs.key x15))) (encL encEs (putF lts (LKs.l x15) (LKs.id x15) (LKs.key x15))) (encL encEs (putF lts (LKs.l x15) (LKs.id x15) (LKs.key x15))))) ∧
 ((MapEq (Kd.int IntKind.i64 :: @List.nil Kd) (ids (putF lts (LKs.l x15) (LKs.id x15) (LKs.key x15))) (ids (putF lts (LKs.l x15) (LKs.id x15) (LKs.key x15))) (posD (putF lts (LKs.l x15) (LKs.id x15) (LKs.key x15))) (posD (putF lts (LKs.l x15) (LKs.id x15) (LKs.key x15)))) ∧
 (((RLe (List.length (xS x1 x10)) (List.length (xS x1 x10))) ∧
 (RowsEq (Kd.int IntKind.i64 :: Kd.int IntKind.i64 :: @List.nil Kd) (List.length (xS x1 x10)) (encL encEi (xS x1 x10)) (encL encEi (xS x1 x10)))) ∧
 (((RLe (List.length x1) (List.length x1)) ∧
 (RowsEq (Kd.str :: @List.nil Kd) (List.length x1) (encL encS x1) (encL encS x1))) ∧
 (True)))))))) ∧
 (∀ x17 : Nat,
 ((x17 ≤ List.length x1) →
 (((decide ((↑x17 : Int) < (↑(List.length x1) : Int)) = true) →
 ((((0 : Int) ≤ (↑x17 : Int)) ∧
 ((↑x17 : Int) < (↑(List.length x1) : Int))) ∧
 (((0 : Nat) + Int.toNat (↑x17 : Int) < List.length x1) ∧
 (((Op.bytesLess (ByteArray.toList (List.getD x1 ((0 : Nat) + Int.toNat (↑x17 : Int)) default)) (ByteArray.toList (List.getD x1 ((0 : Nat) + Int.toNat (↑x10 : Int)) default)) = true) →
 ((((-9223372036854775808 : Int) ≤ (↑(cntK x1 (List.getD x1 x10 default) x17) : Int) + (1 : Int)) ∧
 ((↑(cntK x1 (List.getD x1 x10 default) x17) : Int) + (1 : Int) ≤ (9223372036854775807 : Int))) ∧
 ((((-9223372036854775808 : Int) ≤ (↑x17 : Int) + (1 : Int)) ∧
 ((↑x17 : Int) + (1 : Int) ≤ (9223372036854775807 : Int))) ∧
 (∃ x21 : Nat,
 ((List.length x1 - x21 < List.length x1 - x17) ∧
 ((x21 ≤ List.length x1) ∧
 ((((↑x17 : Int) + (1 : Int) = (↑x21 : Int)) ∧
 (((↑(cntK x1 (List.getD x1 x10 default) x17) : Int) + (1 : Int) = (↑(cntK x1 (List.getD x1 x10 default) x21) : Int)) ∧
 (((↑(List.length x1) : Int) = (↑(List.length x1) : Int)) ∧
 ((((0 : Nat) = (0 : Nat)) ∧
 (List.length x1 = List.length x1)) ∧
 ((True) ∧
 ((List.getD x1 ((0 : Nat) + Int.toNat (↑x10 : Int)) default = List.getD x1 ((0 : Nat) + Int.toNat (↑x10 : Int)) default) ∧
 (((↑x10 : Int) = (↑x10 : Int)) ∧
 ((((0 : Nat) = (0 : Nat)) ∧
 ((0 : Nat) = (0 : Nat))) ∧
 ((decide ((100 : Int) < (↑(ByteArray.size (List.getD x1 ((0 : Nat) + Int.toNat (↑x10 : Int)) default)) : Int)) = decide ((100 : Int) < (↑(ByteArray.size (List.getD x1 ((0 : Nat) + Int.toNat (↑x10 : Int)) default)) : Int))) ∧
 (((↑(ByteArray.size (List.getD x1 ((0 : Nat) + Int.toNat (↑x10 : Int)) default)) : Int) = (↑(ByteArray.size (List.getD x1 ((0 : Nat) + Int.toNat (↑x10 : Int)) default)) : Int)) ∧
 ((List.getD x1 ((0 : Nat) + Int.toNat (↑x10 : Int)) default = List.getD x1 ((0 : Nat) + Int.toNat (↑x10 : Int)) default) ∧
 ((List.getD x1 ((0 : Nat) + Int.toNat (↑x10 : Int)) default = List.getD x1 ((0 : Nat) + Int.toNat (↑x10 : Int)) default) ∧
 (((↑x10 : Int) = (↑x10 : Int)) ∧
 ((List.getD x1 ((0 : Nat) + Int.toNat (↑x10 : Int)) default = List.getD x1 ((0 : Nat) + Int.toNat (↑x10 : Int)) default) ∧
 ((((0 : Nat) + Int.toNat (↑x10 : Int) = (0 : Nat) + Int.toNat (↑x10 : Int)) ∧
 ((0 : Nat) = (0 : Nat))) ∧
 (((↑x10 : Int) = (↑x10 : Int)) ∧
 ((decide ((↑x10 : Int) < (↑(List.length x1) : Int)) = decide ((↑x10 : Int) < (↑(List.length x1) : Int))) ∧
 (((↑x10 : Int) = (↑x10 : Int)) ∧
 ((((0 : Nat) = (0 : Nat)) ∧
 ((0 : Nat) = (0 : Nat))) ∧
 ((((0 : Nat) = (0 : Nat)) ∧
 (List.length (xS x1 x10) = List.length (xS x1 x10))) ∧
 (((↑(List.length x1) : Int) = (↑(List.length x1) : Int)) ∧
 ((((0 : Nat) = (0 : Nat)) ∧
 (List.length x1 = List.length x1)) ∧
 ((decide ((40 : Int) < (↑(List.length x1) : Int)) = decide ((40 : Int) < (↑(List.length x1) : Int))) ∧
 (((↑(List.length x1) : Int) = (↑(List.length x1) : Int)) ∧
 ((((0 : Nat) = (0 : Nat)) ∧
 (List.length x1 = List.length x1)) ∧
 ((false = false) ∧
 ((true = true) ∧
 ((((0 : Nat) = (0 : Nat)) ∧
 (List.length x1 = List.length x1)) ∧
 (True))))))))))))))))))))))))))))) ∧
 (((((0 : Nat) = (0 : Nat)) ∧
 (List.length (putF lts (LKs.l x15) (LKs.id x15) (LKs.key x15)) = List.length (putF lts (LKs.l x15) (LKs.id x15) (LKs.key x15)))) ∧
 ((True) ∧
 (True))) ∧
 (((RLe (List.length (putF lts (LKs.l x15) (LKs.id x15) (LKs.key x15))) (List.length (putF lts (LKs.l x15) (LKs.id x15) (LKs.key x15)))) ∧
 (RowsEq (Kd.int IntKind.i64 :: Kd.str :: @List.nil Kd) (List.length (putF lts (LKs.l x15) (LKs.id x15) (LKs.key x15))) (encL encEs (putF lts (LKs.l x15) (LKs.id x15) (LKs.key x15))) (encL encEs (putF lts (LKs.l x15) (LKs.id x15) (LKs.key x15))))) ∧
 ((MapEq (Kd.int IntKind.i64 :: @List.nil Kd) (ids (putF lts (LKs.l x15) (LKs.id x15) (LKs.key x15))) (ids (putF lts (LKs.l x15) (LKs.id x15) (LKs.key x15))) (posD (putF lts (LKs.l x15) (LKs.id x15) (LKs.key x15))) (posD (putF lts (LKs.l x15) (LKs.id x15) (LKs.key x15)))) ∧
 (((RLe (List.length (xS x1 x10)) (List.length (xS x1 x10))) ∧
 (RowsEq (Kd.int IntKind.i64 :: Kd.int IntKind.i64 :: @List.nil Kd) (List.length (xS x1 x10)) (encL encEi (xS x1 x10)) (encL encEi (xS x1 x10)))) ∧
 (((RLe (List.length x1) (List.length x1)) ∧
 (RowsEq (Kd.str :: @List.nil Kd) (List.length x1) (encL encS x1) (encL encS x1))) ∧
 (True))))))))))))) ∧
 ((Op.bytesLess (ByteArray.toList (List.getD x1 ((0 : Nat) + Int.toNat (↑x17 : Int)) default)) (ByteArray.toList (List.getD x1 ((0 : Nat) + Int.toNat (↑x10 : Int)) default)) = false) →
 ((((-9223372036854775808 : Int) ≤ (↑x17 : Int) + (1 : Int)) ∧
 ((↑x17 : Int) + (1 : Int) ≤ (9223372036854775807 : Int))) ∧
 (∃ x23 : Nat,
 ((List.length x1 - x23 < List.length x1 - x17) ∧
 ((x23 ≤ List.length x1) ∧
 ((((↑x17 : Int) + (1 : Int) = (↑x23 : Int)) ∧
 (((↑(cntK x1 (List.getD x1 x10 default) x17) : Int) = (↑(cntK x1 (List.getD x1 x10 default) x23) : Int)) ∧
 (((↑(List.length x1) : Int) = (↑(List.length x1) : Int)) ∧
 ((((0 : Nat) = (0 : Nat)) ∧
 (List.length x1 = List.length x1)) ∧
 ((True) ∧
 ((List.getD x1 ((0 : Nat) + Int.toNat (↑x10 : Int)) default = List.getD x1 ((0 : Nat) + Int.toNat (↑x10 : Int)) default) ∧
 (((↑x10 : Int) = (↑x10 : Int)) ∧
 ((((0 : Nat) = (0 : Nat)) ∧
 ((0 : Nat) = (0 : Nat))) ∧
 ((decide ((100 : Int) < (↑(ByteArray.size (List.getD x1 ((0 : Nat) + Int.toNat (↑x10 : Int)) default)) : Int)) = decide ((100 : Int) < (↑(ByteArray.size (List.getD x1 ((0 : Nat) + Int.toNat (↑x10 : Int)) default)) : Int))) ∧
 (((↑(ByteArray.size (List.getD x1 ((0 : Nat) + Int.toNat (↑x10 : Int)) default)) : Int) = (↑(ByteArray.size (List.getD x1 ((0 : Nat) + Int.toNat (↑x10 : Int)) default)) : Int)) ∧
 ((List.getD x1 ((0 : Nat) + Int.toNat (↑x10 : Int)) default = List.getD x1 ((0 : Nat) + Int.toNat (↑x10 : Int)) default) ∧
 ((List.getD x1 ((0 : Nat) + Int.toNat (↑x10 : Int)) default = List.getD x1 ((0 : Nat) + Int.toNat (↑x10 : Int)) default) ∧
 (((↑x10 : Int) = (↑x10 : Int)) ∧
 ((List.getD x1 ((0 : Nat) + Int.toNat (↑x10 : Int)) default = List.getD x1 ((0 : Nat) + Int.toNat (↑x10 : Int)) default) ∧
 ((((0 : Nat) + Int.toNat (↑x10 : Int) = (0 : Nat) + Int.toNat (↑x10 : Int)) ∧
 ((0 : Nat) = (0 : Nat))) ∧
 (((↑x10 : Int) = (↑x10 : Int)) ∧
 ((decide ((↑x10 : Int) < (↑(List.length x1) : Int)) = decide ((↑x10 : Int) < (↑(List.length x1) : Int))) ∧
 (((↑x10 : Int) = (↑x10 : Int)) ∧
 ((((0 : Nat) = (0 : Nat)) ∧
 ((0 : Nat) = (0 : Nat))) ∧
 ((((0 : Nat) = (0 : Nat)) ∧
 (List.length (xS x1 x10) = List.length (xS x1 x10))) ∧
 (((↑(List.length x1) : Int) = (↑(List.length x1) : Int)) ∧
 ((((0 : Nat) = (0 : Nat)) ∧
 (List.length x1 = List.length x1)) ∧
 ((decide ((40 : Int) < (↑(List.length x1) : Int)) = decide ((40 : Int) < (↑(List.length x1) : Int))) ∧
 (((↑(List.length x1) : Int) = (↑(List.length x1) : Int)) ∧
 ((((0 : Nat) = (0 : Nat)) ∧
 (List.length x1 = List.length x1)) ∧
 ((false = false) ∧
 ((true = true) ∧
 ((((0 : Nat) = (0 : Nat)) ∧
 (List.length x1 = List.length x1)) ∧
 (True))))))))))))))))))))))))))))) ∧
 (((((0 : Nat) = (0 : Nat)) ∧
 (List.length (putF lts (LKs.l x15) (LKs.id x15) (LKs.key x15)) = List.length (putF lts (LKs.l x15) (LKs.id x15) (LKs.key x15)))) ∧
 ((True) ∧
 (True))) ∧
 (((RLe (List.length (putF lts (LKs.l x15) (LKs.id x15) (LKs.key x15))) (List.length (putF lts (LKs.l x15) (LKs.id x15) (LKs.key x15)))) ∧
 (RowsEq (Kd.int IntKind.i64 :: Kd.str :: @List.nil Kd) (List.length (putF lts (LKs.l x15) (LKs.id x15) (LKs.key x15))) (encL encEs (putF lts (LKs.l x15) (LKs.id x15) (LKs.key x15))) (encL encEs (putF lts (LKs.l x15) (LKs.id x15) (LKs.key x15))))) ∧
 ((MapEq (Kd.int IntKind.i64 :: @List.nil Kd) (ids (putF lts (LKs.l x15) (LKs.id x15) (LKs.key x15))) (ids (putF lts (LKs.l x15) (LKs.id x15) (LKs.key x15))) (posD (putF lts (LKs.l x15) (LKs.id x15) (LKs.key x15))) (posD (putF lts (LKs.l x15) (LKs.id x15) (LKs.key x15)))) ∧
 (((RLe (List.length (xS x1 x10)) (List.length (xS x1 x10))) ∧
 (RowsEq (Kd.int IntKind.i64 :: Kd.int IntKind.i64 :: @List.nil Kd) (List.length (xS x1 x10)) (encL encEi (xS x1 x10)) (encL encEi (xS x1 x10)))) ∧
 (((RLe (List.length x1) (List.length x1)) ∧
 (RowsEq (Kd.str :: @List.nil Kd) (List.length x1) (encL encS x1) (encL encS x1))) ∧
 (True)))))))))))))))) ∧
 ((decide ((↑x17 : Int) < (↑(List.length x1) : Int)) = false) →
 (∃ x25 : LKi,
 ((List.length (LKi.l x25) ≤ (999999 : Nat)) ∧
 (((((0 : Nat) = (0 : Nat)) ∧
 (List.length (xS x1 x10) = List.length (LKi.l x25))) ∧
 (((↑x10 : Int) = LKi.id x25) ∧
 (((↑(cntK x1 (List.getD x1 x10 default) x17) : Int) = LKi.key x25) ∧
 (True)))) ∧
 ((((RLe (List.length (LKi.l x25)) (List.length (xS x1 x10))) ∧
 (RowsEq (Kd.int IntKind.i64 :: Kd.int IntKind.i64 :: @List.nil Kd) (List.length (LKi.l x25)) (encL encEi (xS x1 x10)) (encL encEi (LKi.l x25)))) ∧
 (True)) ∧
 ((((-9223372036854775808 : Int) ≤ (↑x10 : Int) + (1 : Int)) ∧
 ((↑x10 : Int) + (1 : Int) ≤ (9223372036854775807 : Int))) ∧
 (∃ x26 : Nat,
 ((List.length x1 - x26 < List.length x1 - x10) ∧
 ((x26 ≤ List.length x1) ∧
 ((((↑x10 : Int) + (1 : Int) = (↑x26 : Int)) ∧
 ((((0 : Nat) = (0 : Nat)) ∧
 ((0 : Nat) = (0 : Nat))) ∧
 ((((0 : Nat) = (0 : Nat)) ∧
 (List.length (putBase (LKi.l x25) (LKi.id x25) (LKi.key x25)) = List.length (xS x1 x26))) ∧
 (((↑(List.length x1) : Int) = (↑(List.length x1) : Int)) ∧
 ((((0 : Nat) = (0 : Nat)) ∧
 (List.length x1 = List.length x1)) ∧
 ((decide ((40 : Int) < (↑(List.length x1) : Int)) = decide ((40 : Int) < (↑(List.length x1) : Int))) ∧
 (((↑(List.length x1) : Int) = (↑(List.length x1) : Int)) ∧
 ((((0 : Nat) = (0 : Nat)) ∧
 (List.length x1 = List.length x1)) ∧
 ((false = false) ∧
 ((true = true) ∧
 ((((0 : Nat) = (0 : Nat)) ∧
 (List.length x1 = List.length x1)) ∧
 (True)))))))))))) ∧
 (((((0 : Nat) = (0 : Nat)) ∧
 (List.length (putF lts (LKs.l x15) (LKs.id x15) (LKs.key x15)) = List.length (hS x1 x26))) ∧
 ((True) ∧
 (True))) ∧
 (((RLe (List.length (hS x1 x26)) (List.length (putF lts (LKs.l x15) (LKs.id x15) (LKs.key x15)))) ∧
 (RowsEq (Kd.int IntKind.i64 :: Kd.str :: @List.nil Kd) (List.length (hS x1 x26)) (encL encEs (putF lts (LKs.l x15) (LKs.id x15) (LKs.key x15))) (encL encEs (hS x1 x26)))) ∧
 ((MapEq (Kd.int IntKind.i64 :: @List.nil Kd) (ids (putF lts (LKs.l x15) (LKs.id x15) (LKs.key x15))) (ids (hS x1 x26)) (posD (putF lts (LKs.l x15) (LKs.id x15) (LKs.key x15))) (posD (hS x1 x26))) ∧
 (((RLe (List.length (xS x1 x26)) (List.length (putBase (LKi.l x25) (LKi.id x25) (LKi.key x25)))) ∧
 (RowsEq (Kd.int IntKind.i64 :: Kd.int IntKind.i64 :: @List.nil Kd) (List.length (xS x1 x26)) (encL encEi (putBase (LKi.l x25) (LKi.id x25) (LKi.key x25))) (encL encEi (xS x1 x26)))) ∧
 (((RLe (List.length x1) (List.length x1)) ∧
 (RowsEq (Kd.str :: @List.nil Kd) (List.length x1) (encL encS x1) (encL encS x1))) ∧
 (True)))))))))))))))))))))))))))))) ∧
 ((decide ((↑x10 : Int) < (↑(List.length x1) : Int)) = false) →
 (∃ x28 : Nat,
 (((x28 ≤ List.length x1) ∧
 ((((0 : Int) = (↑x28 : Int)) ∧
 ((((0 : Nat) = (0 : Nat)) ∧
 ((0 : Nat) = (0 : Nat))) ∧
 ((((0 : Nat) = (0 : Nat)) ∧
 (List.length (xS x1 x10) = List.length (Prod.snd (popS x1 x28)))) ∧
 (((↑(List.length x1) : Int) = (↑(List.length x1) : Int)) ∧
 ((((0 : Nat) = (0 : Nat)) ∧
 (List.length x1 = List.length x1)) ∧
 ((decide ((↑x10 : Int) < (↑(List.length x1) : Int)) = decide ((↑x10 : Int) < (↑(List.length x1) : Int))) ∧
 (((↑x10 : Int) = (↑x10 : Int)) ∧
 (((↑(List.length x1) : Int) = (↑(List.length x1) : Int)) ∧
 ((((0 : Nat) = (0 : Nat)) ∧
 (List.length x1 = List.length x1)) ∧
 ((decide ((40 : Int) < (↑(List.length x1) : Int)) = decide ((40 : Int) < (↑(List.length x1) : Int))) ∧
 (((↑(List.length x1) : Int) = (↑(List.length x1) : Int)) ∧
 ((((0 : Nat) = (0 : Nat)) ∧
 (List.length x1 = List.length x1)) ∧
 ((false = false) ∧
 ((true = true) ∧
 ((((0 : Nat) = (0 : Nat)) ∧
 (List.length x1 = List.length x1)) ∧
 (True)))))))))))))))) ∧
 (((((0 : Nat) = (0 : Nat)) ∧
 (List.length (hS x1 x10) = List.length (Prod.fst (popS x1 x28)))) ∧
 ((True) ∧
 (True))) ∧
 (((RLe (List.length (Prod.fst (popS x1 x28))) (List.length (hS x1 x10))) ∧
 (RowsEq (Kd.int IntKind.i64 :: Kd.str :: @List.nil Kd) (List.length (Prod.fst (popS x1 x28))) (encL encEs (hS x1 x10)) (encL encEs (Prod.fst (popS x1 x28))))) ∧
 ((MapEq (Kd.int IntKind.i64 :: @List.nil Kd) (ids (hS x1 x10)) (ids (Prod.fst (popS x1 x28))) (posD (hS x1 x10)) (posD (Prod.fst (popS x1 x28)))) ∧
 (((RLe (List.length (Prod.snd (popS x1 x28))) (List.length (xS x1 x10))) ∧
 (RowsEq (Kd.int IntKind.i64 :: Kd.int IntKind.i64 :: @List.nil Kd) (List.length (Prod.snd (popS x1 x28))) (encL encEi (xS x1 x10)) (encL encEi (Prod.snd (popS x1 x28))))) ∧
 (((RLe (List.length x1) (List.length x1)) ∧
 (RowsEq (Kd.str :: @List.nil Kd) (List.length x1) (encL encS x1) (encL encS x1))) ∧
 (True)))))))) ∧
 (∀ x29 : Nat,
 ((x29 ≤ List.length x1) →
 (((decide ((↑x29 : Int) < (↑(List.length x1) : Int)) = true) →
 (∃ x32 : List Line,
 ((List.length x32 ≤ (1000000 : Nat)) ∧
 (((((0 : Nat) = (0 : Nat)) ∧
 (List.length (Prod.snd (popS x1 x29)) = List.length x32)) ∧
 (True)) ∧
 ((((RLe (List.length x32) (List.length (Prod.snd (popS x1 x29)))) ∧
 (RowsEq (Kd.int IntKind.i64 :: Kd.int IntKind.i64 :: @List.nil Kd) (List.length x32) (encL encEi (Prod.snd (popS x1 x29))) (encL encEi x32))) ∧
 (True)) ∧
 (∃ x33 : List (El ByteArray),
 (((List.Nodup (ids x33)) ∧
 (List.length x33 ≤ (1000000 : Nat))) ∧
 (((((0 : Nat) = (0 : Nat)) ∧
 ((0 : Nat) = (0 : Nat))) ∧
 (True)) ∧
 ((((((0 : Nat) = (0 : Nat)) ∧
 (List.length (Prod.fst (popS x1 x29)) = List.length x33)) ∧
 ((True) ∧
 (True))) ∧
 (((RLe (List.length x33) (List.length (Prod.fst (popS x1 x29)))) ∧
 (RowsEq (Kd.int IntKind.i64 :: Kd.str :: @List.nil Kd) (List.length x33) (encL encEs (Prod.fst (popS x1 x29))) (encL encEs x33))) ∧
 ((MapEq (Kd.int IntKind.i64 :: @List.nil Kd) (ids (Prod.fst (popS x1 x29))) (ids x33) (posD (Prod.fst (popS x1 x29))) (posD x33)) ∧
 (True)))) ∧
 (((decide (El.id (List.getD x33 (0 : Nat) default) ≠ El.id (topK x32 (List.length x32))) = false) →
 ((((!decide (List.length x33 ≠ (0 : Nat))) = false) →
 ((((0 : Int) ≤ El.id (topK x32 (List.length x32))) ∧
 (El.id (topK x32 (List.length x32)) < (↑(List.length x1) : Int))) ∧
 (((0 : Nat) + Int.toNat (El.id (topK x32 (List.length x32))) < List.length x1) ∧
 ((((!ByteArray.toList (El.key (List.getD x33 (0 : Nat) default)) == ByteArray.toList (List.getD x1 ((0 : Nat) + Int.toNat (El.id (topK x32 (List.length x32)))) default)) = true) →
 ((false = true) ∧
 (True))) ∧
 (((!ByteArray.toList (El.key (List.getD x33 (0 : Nat) default)) == ByteArray.toList (List.getD x1 ((0 : Nat) + Int.toNat (El.id (topK x32 (List.length x32)))) default)) = false) →
 (∃ x38 : LKi,
 ((List.length (LKi.l x38) ≤ (1000000 : Nat)) ∧
 (((((0 : Nat) = (0 : Nat)) ∧
 (List.length (Prod.snd (popS x1 x29)) = List.length (LKi.l x38))) ∧
 ((El.id (topK x32 (List.length x32)) = LKi.id x38) ∧
 (True))) ∧
 ((((RLe (List.length (LKi.l x38)) (List.length (Prod.snd (popS x1 x29)))) ∧
 (RowsEq (Kd.int IntKind.i64 :: Kd.int IntKind.i64 :: @List.nil Kd) (List.length (LKi.l x38)) (encL encEi (Prod.snd (popS x1 x29))) (encL encEi (LKi.l x38)))) ∧
 (True)) ∧
 ((((-9223372036854775808 : Int) ≤ (↑x29 : Int) + (1 : Int)) ∧
 ((↑x29 : Int) + (1 : Int) ≤ (9223372036854775807 : Int))) ∧
 (∃ x39 : Nat,
 ((List.length x1 - x39 < List.length x1 - x29) ∧
 ((x39 ≤ List.length x1) ∧
 ((((↑x29 : Int) + (1 : Int) = (↑x39 : Int)) ∧
 ((((0 : Nat) = (0 : Nat)) ∧
 ((0 : Nat) = (0 : Nat))) ∧
 ((((0 : Nat) = (0 : Nat)) ∧
 (List.length (dropI (LKi.l x38) (LKi.id x38)) = List.length (Prod.snd (popS x1 x39)))) ∧
 (((↑(List.length x1) : Int) = (↑(List.length x1) : Int)) ∧
 ((((0 : Nat) = (0 : Nat)) ∧
 (List.length x1 = List.length x1)) ∧
 ((decide ((↑x10 : Int) < (↑(List.length x1) : Int)) = decide ((↑x10 : Int) < (↑(List.length x1) : Int))) ∧
 (((↑x10 : Int) = (↑x10 : Int)) ∧
 (((↑(List.length x1) : Int) = (↑(List.length x1) : Int)) ∧
 ((((0 : Nat) = (0 : Nat)) ∧
 (List.length x1 = List.length x1)) ∧
 ((decide ((40 : Int) < (↑(List.length x1) : Int)) = decide ((40 : Int) < (↑(List.length x1) : Int))) ∧
 (((↑(List.length x1) : Int) = (↑(List.length x1) : Int)) ∧
 ((((0 : Nat) = (0 : Nat)) ∧
 (List.length x1 = List.length x1)) ∧
 ((false = false) ∧
 ((true = true) ∧
 ((((0 : Nat) = (0 : Nat)) ∧
 (List.length x1 = List.length x1)) ∧
 (True)))))))))))))))) ∧
 (((((0 : Nat) = (0 : Nat)) ∧
 (List.length (popF lts x33) = List.length (Prod.fst (popS x1 x39)))) ∧
 ((True) ∧
 (True))) ∧
 (((RLe (List.length (Prod.fst (popS x1 x39))) (List.length (popF lts x33))) ∧
 (RowsEq (Kd.int IntKind.i64 :: Kd.str :: @List.nil Kd) (List.length (Prod.fst (popS x1 x39))) (encL encEs (popF lts x33)) (encL encEs (Prod.fst (popS x1 x39))))) ∧
 ((MapEq (Kd.int IntKind.i64 :: @List.nil Kd) (ids (popF lts x33)) (ids (Prod.fst (popS x1 x39))) (posD (popF lts x33)) (posD (Prod.fst (popS x1 x39)))) ∧
 (((RLe (List.length (Prod.snd (popS x1 x39))) (List.length (dropI (LKi.l x38) (LKi.id x38)))) ∧
 (RowsEq (Kd.int IntKind.i64 :: Kd.int IntKind.i64 :: @List.nil Kd) (List.length (Prod.snd (popS x1 x39))) (encL encEi (dropI (LKi.l x38) (LKi.id x38))) (encL encEi (Prod.snd (popS x1 x39))))) ∧
 (((RLe (List.length x1) (List.length x1)) ∧
 (RowsEq (Kd.str :: @List.nil Kd) (List.length x1) (encL encS x1) (encL encS x1))) ∧
 (True)))))))))))))))))))) ∧
 (((!decide (List.length x33 ≠ (0 : Nat))) = true) →
 ((false = true) ∧
 (True))))) ∧
 ((decide (El.id (List.getD x33 (0 : Nat) default) ≠ El.id (topK x32 (List.length x32))) = true) →
 ((false = true) ∧
 (True))))))))))))) ∧
 ((decide ((↑x29 : Int) < (↑(List.length x1) : Int)) = false) →
 (∃ x43 : List (El ByteArray),
 ((True) ∧
 (((((0 : Nat) = (0 : Nat)) ∧
 ((0 : Nat) = (0 : Nat))) ∧
 (True)) ∧
 ((((((0 : Nat) = (0 : Nat)) ∧
 (List.length (Prod.fst (popS x1 x29)) = List.length x43)) ∧
 ((True) ∧
 (True))) ∧
 (((RLe (List.length x43) (List.length (Prod.fst (popS x1 x29)))) ∧
 (RowsEq (Kd.int IntKind.i64 :: Kd.str :: @List.nil Kd) (List.length x43) (encL encEs (Prod.fst (popS x1 x29))) (encL encEs x43))) ∧
 ((MapEq (Kd.int IntKind.i64 :: @List.nil Kd) (ids (Prod.fst (popS x1 x29))) (ids x43) (posD (Prod.fst (popS x1 x29))) (posD x43)) ∧
 (True)))) ∧
 ((decide ((↑(List.length x43) : Int) = (0 : Int)) = true) ∧
 (True))))))))))))))))))))))))))))))))) = Keeps ⟨T, [], Cs5, noInv, 60⟩ Try.f5 strC strI by kernel_rfl) (fun x1 => fun h2 => ⟨(default),
 trivial,
 trivial,
 trivial,
 fun h4 => ⟨(by (try dsimp only at *); omega),
 trivial⟩,
 fun h5 => ⟨fun g6 => have h6 := of_decide_eq_true g6; ⟨rfl,
 trivial⟩,
 fun g7 => have h7 := of_decide_eq_false g7; ⟨(default),
 trivial,
 trivial,
 trivial,
 ((0 : Nat)),
 ⟨(by (try dsimp only at *); omega),
 ⟨(by (try dsimp only at *); omega),
 ⟨rfl,
 rfl⟩,
 ⟨trivial,
 rfl,
 (by (try dsimp only at *); rfl)⟩,
 rfl,
 ⟨rfl,
 rfl⟩,
 rfl,
 rfl,
 ⟨rfl,
 rfl⟩,
 rfl,
 rfl,
 ⟨rfl,
 rfl⟩,
 trivial⟩,
 ⟨⟨rfl,
 (by (try dsimp only at *); rfl)⟩,
 trivial,
 trivial⟩,
 ⟨⟨(by (try dsimp only at *); exact Nat.le_refl _)⟩,
 (by (try dsimp only at *); exact RowsEq.rfl')⟩,
 (by (try dsimp only at *); exact MapEq.rfl'),
 (by (try dsimp only at *); rfl),
 ⟨⟨Nat.le_refl _⟩,
 RowsEq.rfl'⟩,
 trivial⟩,
 fun x10 => fun h11 => ⟨fun g12 => have h12 := of_decide_eq_true g12; ⟨⟨(by (try dsimp only at *); omega),
 (by (try dsimp only at *); omega)⟩,
 (by (try dsimp only at *); omega),
 fun g13 => have h13 := of_decide_eq_true g13; ⟨rfl,
 trivial⟩,
 fun g14 => have h14 := of_decide_eq_false g14; ⟨({ l := hS x1 x10, id := (↑x10 : Int), key := List.getD x1 ((0 : Nat) + Int.toNat (↑x10 : Int)) default : LKs }),
 ⟨(by (try dsimp only at *); (have a := twinS x1 x10 (by omega); have b := a.1.len; have c := a.2.1; first | omega | exact a.1.n)),
 (by (try dsimp only at *); (have a := twinS x1 x10 (by omega); have b := a.1.len; have c := a.2.1; first | omega | exact a.1.n))⟩,
 ⟨⟨rfl,
 rfl⟩,
 rfl,
 rfl,
 trivial⟩,
 ⟨⟨⟨rfl,
 rfl⟩,
 trivial,
 trivial⟩,
 ⟨⟨Nat.le_refl _⟩,
 RowsEq.rfl'⟩,
 (by (try dsimp only at *); exact MapEq.rfl'),
 trivial⟩,
 ((0 : Nat)),
 ⟨(by (try dsimp only at *); omega),
 ⟨(by (try dsimp only at *); omega),
 (by (try dsimp only at *); rfl),
 rfl,
 ⟨rfl,
 rfl⟩,
 trivial,
 rfl,
 rfl,
 ⟨rfl,
 rfl⟩,
 rfl,
 rfl,
 rfl,
 rfl,
 rfl,
 rfl,
 ⟨rfl,
 rfl⟩,
 rfl,
 rfl,
 rfl,
 ⟨rfl,
 rfl⟩,
 ⟨rfl,
 rfl⟩,
 rfl,
 ⟨rfl,
 rfl⟩,
 rfl,
 rfl,
 ⟨rfl,
 rfl⟩,
 rfl,
 rfl,
 ⟨rfl,
 rfl⟩,
 trivial⟩,
 ⟨⟨rfl,
 rfl⟩,
 trivial,
 trivial⟩,
 ⟨⟨Nat.le_refl _⟩,
 RowsEq.rfl'⟩,
 MapEq.rfl',
 ⟨⟨Nat.le_refl _⟩,
 RowsEq.rfl'⟩,
 ⟨⟨Nat.le_refl _⟩,
 RowsEq.rfl'⟩,
 trivial⟩,
 fun x17 => fun h18 => ⟨fun g19 => have h19 := of_decide_eq_true g19; ⟨⟨(by (try dsimp only at *); omega),
 (by (try dsimp only at *); omega)⟩,
 (by (try dsimp only at *); omega),
 fun h20 => ⟨⟨(by (try dsimp only at *); omega),
 (by (try dsimp only at *); (have a := cntK_le x1 (x1.getD x10 default) x17; omega))⟩,
 ⟨(by (try dsimp only at *); omega),
 (by (try dsimp only at *); omega)⟩,
 (x17 + (1 : Nat)),
 (by (try dsimp only at *); omega),
 (by (try dsimp only at *); omega),
 ⟨(by (try dsimp only at *); omega),
 (by (try dsimp only at *); exact cntK_yes ‹_› ‹_›),
 rfl,
 ⟨rfl,
 rfl⟩,
 trivial,
 rfl,
 rfl,
 ⟨rfl,
 rfl⟩,
 rfl,
 rfl,
 rfl,
 rfl,
 rfl,
 rfl,
 ⟨rfl,
 rfl⟩,
 rfl,
 rfl,
 rfl,
 ⟨rfl,
 rfl⟩,
 ⟨rfl,
 rfl⟩,
 rfl,
 ⟨rfl,
 rfl⟩,
 rfl,
 rfl,
 ⟨rfl,
 rfl⟩,
 rfl,
 rfl,
 ⟨rfl,
 rfl⟩,
 trivial⟩,
 ⟨⟨rfl,
 rfl⟩,
 trivial,
 trivial⟩,
 ⟨⟨Nat.le_refl _⟩,
 RowsEq.rfl'⟩,
 MapEq.rfl',
 ⟨⟨Nat.le_refl _⟩,
 RowsEq.rfl'⟩,
 ⟨⟨Nat.le_refl _⟩,
 RowsEq.rfl'⟩,
 trivial⟩,
 fun h22 => ⟨⟨(by (try dsimp only at *); omega),
 (by (try dsimp only at *); omega)⟩,
 (x17 + (1 : Nat)),
 (by (try dsimp only at *); omega),
 (by (try dsimp only at *); omega),
 ⟨(by (try dsimp only at *); omega),
 (by (try dsimp only at *); exact cntK_no ‹_› ‹_›),
 rfl,
 ⟨rfl,
 rfl⟩,
 trivial,
 rfl,
 rfl,
 ⟨rfl,
 rfl⟩,
 rfl,
 rfl,
 rfl,
 rfl,
 rfl,
 rfl,
 ⟨rfl,
 rfl⟩,
 rfl,
 rfl,
 rfl,
 ⟨rfl,
 rfl⟩,
 ⟨rfl,
 rfl⟩,
 rfl,
 ⟨rfl,
 rfl⟩,
 rfl,
 rfl,
 ⟨rfl,
 rfl⟩,
 rfl,
 rfl,
 ⟨rfl,
 rfl⟩,
 trivial⟩,
 ⟨⟨rfl,
 rfl⟩,
 trivial,
 trivial⟩,
 ⟨⟨Nat.le_refl _⟩,
 RowsEq.rfl'⟩,
 MapEq.rfl',
 ⟨⟨Nat.le_refl _⟩,
 RowsEq.rfl'⟩,
 ⟨⟨Nat.le_refl _⟩,
 RowsEq.rfl'⟩,
 trivial⟩⟩,
 fun g24 => have h24 := of_decide_eq_false g24; ⟨({ l := xS x1 x10, id := (↑x10 : Int), key := (↑(cntK x1 (List.getD x1 x10 default) x17) : Int) : LKi }),
 (by (try dsimp only at *); (have a := twinS x1 x10 (by omega); have b := a.1.len; have c := a.2.1; first | omega | exact a.1.n)),
 ⟨⟨rfl,
 rfl⟩,
 rfl,
 rfl,
 trivial⟩,
 ⟨⟨⟨Nat.le_refl _⟩,
 RowsEq.rfl'⟩,
 trivial⟩,
 ⟨(by (try dsimp only at *); omega),
 (by (try dsimp only at *); omega)⟩,
 (x10 + (1 : Nat)),
 (by (try dsimp only at *); omega),
 (by (try dsimp only at *); omega),
 ⟨(by (try dsimp only at *); omega),
 ⟨rfl,
 rfl⟩,
 ⟨rfl,
 (by
        (dsimp only; rw [xS_put (l := x1) (k := x10) (j := x17) (by omega) (by omega)]))⟩,
 rfl,
 ⟨rfl,
 rfl⟩,
 rfl,
 rfl,
 ⟨rfl,
 rfl⟩,
 rfl,
 rfl,
 ⟨rfl,
 rfl⟩,
 trivial⟩,
 ⟨⟨rfl,
 (by
        (dsimp only; rw [hS_put]))⟩,
 trivial,
 trivial⟩,
 ⟨⟨(by
        (dsimp only; rw [hS_put]; exact Nat.le_refl _))⟩,
 (by
        (dsimp only; rw [hS_put]; exact RowsEq.rfl'))⟩,
 (by
        (dsimp only; rw [hS_put]; exact MapEq.rfl')),
 ⟨⟨(by
        (dsimp only; rw [xS_put (l := x1) (k := x10) (j := x17) (by omega) (by omega)]; exact Nat.le_refl _))⟩,
 (by
        (dsimp only; rw [xS_put (l := x1) (k := x10) (j := x17) (by omega) (by omega)]; exact RowsEq.rfl'))⟩,
 ⟨⟨Nat.le_refl _⟩,
 RowsEq.rfl'⟩,
 trivial⟩⟩⟩⟩,
 fun g27 => have h27 := of_decide_eq_false g27; ⟨((0 : Nat)),
 ⟨(by (try dsimp only at *); omega),
 ⟨(by (try dsimp only at *); omega),
 ⟨rfl,
 rfl⟩,
 ⟨rfl,
 (by (try dsimp only at *); (obtain rfl : x10 = x1.length := (by omega); first | rfl | exact Nat.le_refl _ | exact MapEq.rfl' | exact RowsEq.rfl'))⟩,
 rfl,
 ⟨rfl,
 rfl⟩,
 rfl,
 rfl,
 rfl,
 ⟨rfl,
 rfl⟩,
 rfl,
 rfl,
 ⟨rfl,
 rfl⟩,
 rfl,
 rfl,
 ⟨rfl,
 rfl⟩,
 trivial⟩,
 ⟨⟨rfl,
 (by (try dsimp only at *); (obtain rfl : x10 = x1.length := (by omega); first | rfl | exact Nat.le_refl _ | exact MapEq.rfl' | exact RowsEq.rfl'))⟩,
 trivial,
 trivial⟩,
 ⟨⟨(by (try dsimp only at *); (obtain rfl : x10 = x1.length := (by omega); first | rfl | exact Nat.le_refl _ | exact MapEq.rfl' | exact RowsEq.rfl'))⟩,
 (by (try dsimp only at *); (obtain rfl : x10 = x1.length := (by omega); first | rfl | exact Nat.le_refl _ | exact MapEq.rfl' | exact RowsEq.rfl'))⟩,
 (by (try dsimp only at *); (obtain rfl : x10 = x1.length := (by omega); first | rfl | exact Nat.le_refl _ | exact MapEq.rfl' | exact RowsEq.rfl')),
 ⟨⟨(by (try dsimp only at *); (obtain rfl : x10 = x1.length := (by omega); first | rfl | exact Nat.le_refl _ | exact MapEq.rfl' | exact RowsEq.rfl'))⟩,
 (by (try dsimp only at *); (obtain rfl : x10 = x1.length := (by omega); first | rfl | exact Nat.le_refl _ | exact MapEq.rfl' | exact RowsEq.rfl'))⟩,
 ⟨⟨Nat.le_refl _⟩,
 RowsEq.rfl'⟩,
 trivial⟩,
 fun x29 => fun h30 => ⟨fun g31 => have h31 := of_decide_eq_true g31; ⟨(Prod.snd (popS x1 x29)),
 (by (try dsimp only at *); (have a := popS_facts (l := x1) (k := x29) (by omega); (try dsimp only); first | omega | exact a.2.2)),
 ⟨⟨rfl,
 rfl⟩,
 trivial⟩,
 ⟨⟨⟨Nat.le_refl _⟩,
 RowsEq.rfl'⟩,
 trivial⟩,
 (Prod.fst (popS x1 x29)),
 ⟨(by (try dsimp only at *); (have a := popS_facts (l := x1) (k := x29) (by omega); (try dsimp only); first | omega | exact a.2.2)),
 (by (try dsimp only at *); (have a := popS_facts (l := x1) (k := x29) (by omega); (try dsimp only); first | omega | exact a.2.2))⟩,
 ⟨⟨rfl,
 rfl⟩,
 trivial⟩,
 ⟨⟨⟨rfl,
 rfl⟩,
 trivial,
 trivial⟩,
 ⟨⟨Nat.le_refl _⟩,
 RowsEq.rfl'⟩,
 MapEq.rfl',
 trivial⟩,
 fun g34 => have h34 := of_decide_eq_false g34; ⟨fun h35 => ⟨⟨(by (try dsimp only at *); (have a := popS_rng (l := x1) (k := x29) (by omega); omega)),
 (by (try dsimp only at *); (have a := popS_rng (l := x1) (k := x29) (by omega); omega))⟩,
 (by (try dsimp only at *); (have a := popS_rng (l := x1) (k := x29) (by omega); omega)),
 fun h36 => ⟨(by
        (have a := popS_key (l := x1) (k := x29) (by omega); rw [a] at h36; simp at h36)),
 trivial⟩,
 fun h37 => ⟨({ l := Prod.snd (popS x1 x29), id := El.id (topK (Prod.snd (popS x1 x29)) (List.length (Prod.snd (popS x1 x29)))), key := default : LKi }),
 (by (try dsimp only at *); (have a := popS_facts (l := x1) (k := x29) (by omega); (try dsimp only); first | omega | exact a.2.2)),
 ⟨⟨rfl,
 rfl⟩,
 rfl,
 trivial⟩,
 ⟨⟨⟨Nat.le_refl _⟩,
 RowsEq.rfl'⟩,
 trivial⟩,
 ⟨(by (try dsimp only at *); omega),
 (by (try dsimp only at *); omega)⟩,
 (x29 + (1 : Nat)),
 (by (try dsimp only at *); omega),
 (by (try dsimp only at *); omega),
 ⟨(by (try dsimp only at *); omega),
 ⟨rfl,
 rfl⟩,
 ⟨rfl,
 (by
        (dsimp only; rw [popS_put (l := x1) (k := x29) ‹_›]))⟩,
 rfl,
 ⟨rfl,
 rfl⟩,
 rfl,
 rfl,
 rfl,
 ⟨rfl,
 rfl⟩,
 rfl,
 rfl,
 ⟨rfl,
 rfl⟩,
 rfl,
 rfl,
 ⟨rfl,
 rfl⟩,
 trivial⟩,
 ⟨⟨rfl,
 (by (try dsimp only at *); (obtain rfl : x10 = x1.length := (by omega); first | rfl | exact Nat.le_refl _ | exact MapEq.rfl' | exact RowsEq.rfl'))⟩,
 trivial,
 trivial⟩,
 ⟨⟨(by (try dsimp only at *); (obtain rfl : x10 = x1.length := (by omega); first | rfl | exact Nat.le_refl _ | exact MapEq.rfl' | exact RowsEq.rfl'))⟩,
 (by (try dsimp only at *); exact RowsEq.rfl')⟩,
 (by (try dsimp only at *); exact MapEq.rfl'),
 ⟨⟨(by
        (dsimp only; rw [popS_put (l := x1) (k := x29) ‹_›]; exact Nat.le_refl _))⟩,
 (by
        (dsimp only; rw [popS_put (l := x1) (k := x29) ‹_›]; exact RowsEq.rfl'))⟩,
 ⟨⟨Nat.le_refl _⟩,
 RowsEq.rfl'⟩,
 trivial⟩⟩,
 fun h40 => ⟨(by
        (have a := popS_facts (l := x1) (k := x29) (by omega); simp at *; have b : (popS x1 x29).1.length ≠ 0 := (by omega); simp_all)),
 trivial⟩⟩,
 fun g41 => have h41 := of_decide_eq_true g41; ⟨(by
        exact absurd (popS_same (by omega)) ‹_›),
 trivial⟩⟩,
 fun g42 => have h42 := of_decide_eq_false g42; ⟨(Prod.fst (popS x1 x29)),
 trivial,
 ⟨⟨rfl,
 rfl⟩,
 trivial⟩,
 ⟨⟨⟨rfl,
 rfl⟩,
 trivial,
 trivial⟩,
 ⟨⟨Nat.le_refl _⟩,
 RowsEq.rfl'⟩,
 MapEq.rfl',
 trivial⟩,
 (by
        (have a := popS_facts (l := x1) (k := x29) (by omega); exact decide_eq_true (by omega))),
 trivial⟩⟩⟩⟩⟩⟩⟩)

theorem str_good : Good Try.prog 5 strC ∧ FnOk Try.prog 5 := good_of (c := ⟨T, [], Cs5, noInv, 60⟩) tok (ConL.ok cons5) (fn := Try.f5) rfl (by decide +kernel) (fun _ => rfl) str_keeps
end Go.Sym
