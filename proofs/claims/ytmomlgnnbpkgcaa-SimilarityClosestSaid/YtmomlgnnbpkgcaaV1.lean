import Derived.Test.YtmomlgnnbpkgcaaXD
namespace Go.Sym
set_option linter.unusedVariables false
set_option linter.unusedSimpArgs false
open Go.ChangeShapes Go.WideShapes Go.RowKit
structure SlI where
 ks : List Kd
 d : D
 v : Value
abbrev zW (W : World) : Nat -> Option Obj := fun b => W.heap[b]?
theorem blk_fz {at' : Nat -> Option Place} {W : World} {l : Nat} {ks : List Kd} {n : Nat} {f : Nat -> Nat -> D} {m : Md} (hm : m.isOwn = false) (h : BlkOk ⟨at', zW W⟩ W l (.rows .bor ks n f)) : BlkOk ⟨at', zW W⟩ W l (.rows m ks n f) := by
 rcases h with h | ⟨pl, h1, h2, _, h4⟩ | ⟨pl, arr, TT, fz, h1, h2, _, _, h5⟩
 ·exact .inl h
 ·exact .inr (.inl ⟨pl, h1, h2, hm, h4⟩)
 ·exact .inr (.inr ⟨pl, arr, TT, fz, h1, h2, (fun q => by rw [hm] at q; cases q), (fun _ => h2), h5⟩)
theorem sls_place {W : World} (ss : List SlI) (l : Nat) (hs : ∀ s ∈ ss, DenD (zW W) (.sl s.ks) s.d s.v) :
  ∃ at' : Nat -> Option Place, (∀ l', ¬ (l <= l' /\ l' < l + ss.length) -> at' l' = none) /\ ∀ (i : Nat) (s : SlI), ss[i]? = some s -> Den ⟨at', zW W⟩ (.sl (l + i) 0 s.d.toN) s.v /\ BlkOk ⟨at', zW W⟩ W (l + i) (.rows .bor s.ks s.d.toN s.d.toF) := by
 have h : ∀ i : Nat, ∃ q : Option Place, ∀ s : SlI, ss[i]? = some s -> ∀ (at' : Nat -> Option Place) (l : Nat), at' l = q -> Den ⟨at', zW W⟩ (.sl l 0 s.d.toN) s.v /\ BlkOk ⟨at', zW W⟩ W l (.rows .bor s.ks s.d.toN s.d.toF) := by
  intro i
  cases hi : ss[i]? with
  | none => exact ⟨none, fun s h => by cases h⟩
  | some s =>
   obtain ⟨q, hq⟩ := slice_place (w := W) (fun _ _ h => h) (hs s (List.mem_of_getElem? hi))
   exact ⟨q, fun s' h => by cases h; exact hq⟩
 refine ⟨fun l' => if l <= l' /\ l' < l + ss.length then Classical.choose (h (l' - l)) else none, fun l' hl => if_neg hl, fun i s hi => ?_⟩
 have hlt : i < ss.length := by
  rcases Nat.lt_or_ge i ss.length with q | q
  ·exact q
  ·rw [List.getElem?_eq_none q] at hi; cases hi
 exact Classical.choose_spec (h i) s hi _ _ (by show (if l <= l + i /\ l + i < l + ss.length then Classical.choose (h (l + i - l)) else none) = _; rw [if_pos ⟨by omega, by omega⟩, show l + i - l = i by omega])
def blkL : Nat -> List (Md × SlI × (Nat -> Nat -> D)) -> List (Nat × Blk)
 | _, [] => []
 | l, (m, s, f) :: r => (l, .rows m s.ks s.d.toN f) :: blkL (l + 1) r
theorem blkL_mem : ∀ (items : List (Md × SlI × (Nat -> Nat -> D))) (l l' : Nat) (b : Blk), (l', b) ∈ blkL l items -> ∃ i m s f, items[i]? = some (m, s, f) /\ l' = l + i /\ b = .rows m s.ks s.d.toN f
 | [], l, l', b, h => by cases h
 | (m, s, f) :: r, l, l', b, h => by
  rcases List.mem_cons.1 h with h | h
  ·cases h; exact ⟨0, m, s, f, rfl, rfl, rfl⟩
  ·obtain ⟨i, m', s', f', h1, h2, h3⟩ := blkL_mem r (l + 1) l' b h
   exact ⟨i + 1, m', s', f', by simpa using h1, by omega, h3⟩
theorem blkL_none : ∀ (items : List (Md × SlI × (Nat -> Nat -> D))) (l l' : Nat), hget (blkL l items) l' = none -> ¬ (l <= l' /\ l' < l + items.length)
 | [], l, l', h => by simp only [List.length_nil]; omega
 | (m, s, f) :: r, l, l', h => by
  unfold blkL hget at h
  split at h
  ·cases h
  ·rename_i hb
   have := blkL_none r (l + 1) l' h
   have e : ¬ l = l' := fun e => by subst e; simp at hb
   simp only [List.length_cons]; omega
theorem law_sls [Glob] {P : Program} {f : Nat} {ct : CT} (hg : Good P f ct) {x : ct.X} (hpre : ct.pre x) (hres : ct.res x = .b true) {W : World} (items : List (Md × SlI × (Nat -> Nat -> D)))
  (hd : ∀ m s f, (m, s, f) ∈ items -> DenD (zW W) (.sl s.ks) s.d s.v /\ RowsEq s.ks s.d.toN s.d.toF f /\ m.isOwn = false) (h0 : ct.g0 x = blkL 100000 items) {vals : List Value}
  (ha : ∀ at' : Nat -> Option Place, (∀ i m s f, items[i]? = some (m, s, f) -> Den ⟨at', zW W⟩ (.sl (100000 + i) 0 s.d.toN) s.v) -> DenL ⟨at', zW W⟩ (ct.args x) vals) (hgl : ∀ at', Glob.ok ⟨at', zW W⟩) :
  Calls P f vals.toArray W fun e W' => e = .returned (.bool true) /\ Below W.heap.size W W' := by
 obtain ⟨at', h1, h2⟩ := sls_place (W := W) (items.map fun q => q.2.1) 100000 (fun s hs => by
  obtain ⟨⟨m, s', f⟩, hq, rfl⟩ := List.mem_map.1 hs
  exact (hd m s' f hq).1)
 have h3 : ∀ i m s f, items[i]? = some (m, s, f) -> (items.map fun q => q.2.1)[i]? = some s := fun i m s f h => by rw [List.getElem?_map, h]; rfl
 refine law_run hg hpre hres (ρ := ⟨at', zW W⟩) (ha at' fun i m s f h => (h2 i s (h3 i m s f h)).1) ?_ ?_ (hgl at')
 ·rw [h0]
  refine HSat.read (fun l hl => h1 l (by rw [List.length_map]; exact blkL_none items _ l hl)) fun l b hl => ?_
  obtain ⟨i, m, s, f, e1, rfl, rfl⟩ := blkL_mem _ _ _ _ (hget_mem hl)
  have hh := hd m s f (List.mem_of_getElem? e1)
  have hk := blk_fz (m := m) hh.2.2 (h2 i s (h3 i m s f e1)).2
  exact ⟨hk.rows_eqv hh.2.1, hh.2.2, rfl⟩
 ·intro l b hl
  rw [h0] at hl
  obtain ⟨i, m, s, f, e1, rfl, rfl⟩ := blkL_mem _ _ _ _ (hget_mem hl)
  exact (hd m s f (List.mem_of_getElem? e1)).2.2
def cellS : Nat -> List Kd -> (Nat -> D) -> Nat -> List SV
 | _, [], _, _ => []
 | l, .int k :: ks, g, c => .i k (g c).toI :: cellS l ks g (c + 1)
 | l, .bool :: ks, g, c => .b (g c).toB :: cellS l ks g (c + 1)
 | l, .str :: ks, g, c => .s (g c).toS :: cellS l ks g (c + 1)
 | l, .sl _ :: ks, g, c => .sl l 0 (g c).toN :: cellS (l + 1) ks g (c + 1)
 | l, .pt _ _ :: ks, g, c => .u :: cellS l ks g (c + 1)
def cellI : List Kd -> (Nat -> D) -> Nat -> List Value -> List SlI
 | .sl ks' :: ks, g, c, v :: vs => ⟨ks', g c, v⟩ :: cellI ks g (c + 1) vs
 | _ :: ks, g, c, _ :: vs => cellI ks g (c + 1) vs
 | _, _, _, _ => []
def CellsD (W : World) (ks : List Kd) (g : Nat -> D) (c : Nat) (vs : List Value) : Prop := vs.length = ks.length /\ ∀ j k, ks[j]? = some k -> ∃ u, vs[j]? = some u /\ DenD (zW W) k (g (c + j)) u
theorem CellsD.tail {W : World} {k : Kd} {ks : List Kd} {g : Nat -> D} {c : Nat} {v : Value} {vs : List Value} (h : CellsD W (k :: ks) g c (v :: vs)) : DenD (zW W) k (g c) v /\ CellsD W ks g (c + 1) vs := by
 refine ⟨?_, by simpa using h.1, fun j k' hj => ?_⟩
 ·obtain ⟨u, a, b⟩ := h.2 0 k rfl
  cases a; exact b
 ·obtain ⟨u, a, b⟩ := h.2 (j + 1) k' (by simpa using hj)
  exact ⟨u, by simpa using a, by rwa [show c + (j + 1) = c + 1 + j by omega] at b⟩
theorem cellI_ok {W : World} : ∀ {ks : List Kd} {g : Nat -> D} {c : Nat} {vs : List Value}, CellsD W ks g c vs -> ∀ s ∈ cellI ks g c vs, DenD (zW W) (.sl s.ks) s.d s.v
 | [], g, c, vs, h, s, hs => by cases vs <;> simp [cellI] at hs
 | k :: ks, g, c, [], h, s, hs => by have := h.1; simp at this
 | k :: ks, g, c, v :: vs, h, s, hs => by
  have ht := h.tail
  cases k <;> simp only [cellI] at hs
  case sl ks' =>
   rcases List.mem_cons.1 hs with e | e
   ·subst e; exact ht.1
   ·exact cellI_ok ht.2 s e
  all_goals exact cellI_ok ht.2 s hs
theorem cellS_den {at' : Nat -> Option Place} {W : World} : ∀ {ks : List Kd} {g : Nat -> D} {c l : Nat} {vs : List Value}, CellsD W ks g c vs -> (∀ i s, (cellI ks g c vs)[i]? = some s -> Den ⟨at', zW W⟩ (.sl (l + i) 0 s.d.toN) s.v) -> DenL ⟨at', zW W⟩ (cellS l ks g c) vs
 | [], g, c, l, vs, h, hs => by cases vs with
  | nil => simp [cellS, DenL]
  | cons => have := h.1; simp at this
 | k :: ks, g, c, l, [], h, hs => by have := h.1; simp at this
 | k :: ks, g, c, l, v :: vs, h, hs => by
  have ht := h.tail
  cases k <;> simp only [cellS] <;> simp only [cellI] at hs <;> rw [DenL_cons]
  case sl ks' =>
   exact ⟨hs 0 _ rfl, cellS_den ht.2 fun i s hi => by have := hs (i + 1) s (by simpa using hi); rwa [show l + (i + 1) = l + 1 + i by omega] at this⟩
  case pt => exact ⟨by simp only [Den], cellS_den ht.2 hs⟩
  all_goals exact ⟨by have := ht.1; simp only [DenD] at this; simp only [Den]; exact this, cellS_den ht.2 hs⟩
theorem struct_cells {H : Type} {enc : TypeId × Value -> H} {P : Program} {W : World} {T : List (Nat × TI)} (hT : TOk P T) {t : Nat} {ks : List Kd} {cs : Array Value} {d : DataW H} {p : List MemPlace} (hk : kdsL T 40 t = some ks) (hs : cs.size = ks.length)
  (h : DataW.Trod enc P W 0 (fun _ => true) true t (.agg cs) d p) : ∃ g : Nat -> D, CellsD W ks g 0 cs.toList := by
 obtain ⟨fl, h⟩ := h
 obtain ⟨g, hg⟩ := (trod_lift hT 40).1 t ks hk fl _ _ h
 refine ⟨g, by simpa using hs, fun j k hj => ?_⟩
 have hlt : j < ks.length := by
  rcases Nat.lt_or_ge j ks.length with q | q
  ·exact q
  ·rw [List.getElem?_eq_none q] at hj; cases hj
 obtain ⟨u, h1, h2, _⟩ := hg j hlt
 refine ⟨u, by simpa [Value.cells] using h1, ?_⟩
 rw [List.getElem?_eq_getElem hlt] at hj
 cases hj
 simpa using h2
theorem agg_den {at' : Nat -> Option Place} {W : World} {ks : List Kd} {g : Nat -> D} {l : Nat} {cs : Array Value} (h : CellsD W ks g 0 cs.toList) (hs : ∀ i s, (cellI ks g 0 cs.toList)[i]? = some s -> Den ⟨at', zW W⟩ (.sl (l + i) 0 s.d.toN) s.v) : Den ⟨at', zW W⟩ (.agg (cellS l ks g 0)) (.agg cs) := by
 rw [Den]; exact ⟨cs, rfl, cellS_den h hs⟩
end Go.Sym