import Derived.Test.YtmomlgnnbpkgcaaN6
import Derived.Deep.RegionHeld3
import Derived.Deep.AppendLies
import Derived.Deep.Cut
namespace Go.Sym
set_option linter.unusedVariables false
open Go.Proofs Go.RowKit
abbrev ints (l : List Int) : List Value := l.map (Value.int .i64)
def updF {α : Type} (f : Bool -> Nat -> α) (s : Bool) (x : Nat) (v : α) : Bool -> Nat -> α := fun s' j => if s' = s /\ j = x then v else f s' j
structure BInv (B2 eT : Nat) (w : World) (bg : Nat) (blk : Bool -> Nat) (ev : Value) (n : Nat) (c : Bool -> Nat -> Value) (L : Bool -> Nat -> List Int) : Prop where
 g : ∃ T, w.heap[bg]? = some (.cells #[ev, .slice (some ⟨blk true, 0, none⟩) n n, .slice (some ⟨blk false, 0, none⟩) n n] T (0, 0))
 r : ∀ s, ∃ arr T, w.heap[blk s]? = some (.cells arr T (0, 0)) /\ arr.size = n /\ ∀ j, j < n -> arr[j]? = some (c s j)
 own : ∀ s j, j < n -> w.ownsRow B2 eT 1 (c s j) (L s j).length (ints (L s j))
 ap : ∀ s j s' j' g, j < n -> j' < n -> (c s j).ownBlock = some g -> (c s' j').ownBlock = some g -> s = s' /\ j = j'
 gt : bg < B2
 bt : ∀ s, blk s < B2
 gb : ∀ s, bg ≠ blk s
 bb : blk true ≠ blk false
 sz : B2 <= w.heap.size
theorem setCell_other {w : World} {a : Addr} {v : Value} {k : Nat} (h : k ≠ a.block) : (w.setCell a v).heap[k]? = w.heap[k]? := by
 simp [World.setCell, Array.getElem?_modify, Ne.symm h]
theorem setCell_same {w : World} {b o : Nat} {v : Value} {arr : Array Value} {T : TypeId} {fz : Nat × Nat} (h : w.heap[b]? = some (.cells arr T fz)) :
  (w.setCell ⟨b, o, none⟩ v).heap[b]? = some (.cells (arr.setIfInBounds o v) T fz) := by
 simp [World.setCell, Array.getElem?_modify, h]
theorem ownsRow_of_block {w w' : World} {B e sz n : Nat} {v : Value} {xs : List Value} (h : w.ownsRow B e sz v n xs) (hb : ∀ g, v.ownBlock = some g -> w'.heap[g]? = w.heap[g]?) : w'.ownsRow B e sz v n xs := by
 obtain ⟨h1, h2⟩ := h
 refine ⟨h1, ?_⟩
 rcases h2 with h2 | ⟨g, cap, cur, q1, q2, q3, q4⟩
 ·exact .inl h2
 ·exact .inr ⟨g, cap, cur, q1, q2, (hb g (by rw [q1]; rfl)).trans q3, q4⟩
theorem ownBlock_lt {w : World} {B e sz n : Nat} {v : Value} {xs : List Value} (h : w.ownsRow B e sz v n xs) {g : Nat} (hg : v.ownBlock = some g) : B <= g /\ g < w.heap.size := by
 obtain ⟨h1, h2⟩ := h
 rcases h2 with ⟨rfl, _⟩ | ⟨g', cap, cur, rfl, q2, q3, q4⟩
 ·simp [Value.ownBlock] at hg
 ·simp [Value.ownBlock] at hg
  subst hg
  exact ⟨q2, (Array.getElem?_eq_some_iff.1 q3).1⟩
theorem BInv.more {B2 eT : Nat} {w w' : World} {bg : Nat} {blk : Bool -> Nat} {ev : Value} {n : Nat} {c : Bool -> Nat -> Value} {L : Bool -> Nat -> List Int} (I : BInv B2 eT w bg blk ev n c L)
  (hs : w.heap.size <= w'.heap.size) (hb : ∀ k, k < w.heap.size -> w'.heap[k]? = w.heap[k]?) : BInv B2 eT w' bg blk ev n c L := by
 have hsz := I.sz
 refine ⟨?_, fun s => ?_, fun s j hj => ?_, I.ap, I.gt, I.bt, I.gb, I.bb, by omega⟩
 ·obtain ⟨T, h⟩ := I.g
  exact ⟨T, (hb _ (by have := I.gt; omega)).trans h⟩
 ·obtain ⟨arr, T, h, h2⟩ := I.r s
  exact ⟨arr, T, (hb _ (by have := I.bt s; omega)).trans h, h2⟩
 ·exact ownsRow_of_block (I.own s j hj) fun g hg => hb g (ownBlock_lt (I.own s j hj) hg).2
theorem BInv.push {B2 eT : Nat} {w w1 w2 : World} {bg : Nat} {blk : Bool -> Nat} {ev : Value} {n : Nat} {c : Bool -> Nat -> Value} {L : Bool -> Nat -> List Int} (I : BInv B2 eT w bg blk ev n c L)
  (hs : w.heap.size <= w1.heap.size) (hb : ∀ k, k < w.heap.size -> w1.heap[k]? = w.heap[k]?) {s : Bool} {x : Nat} (hx : x < n) {i : Int} {v : Value}
  (hown : w2.ownsRow B2 eT 1 v ((L s x).length + 1) (ints (L s x) ++ [.int .i64 i])) (hg : w1.grownBy w2 (c s x).ownBlock) {gg : Nat} (hv : v.ownBlock = some gg) (hat : (c s x).ownBlock = some gg ∨ gg = w1.heap.size) :
  BInv B2 eT (w2.setCell ⟨blk s, x, none⟩ v) bg blk ev n (updF c s x v) (updF L s x (L s x ++ [i])) := by
 have hsz := I.sz
 have hgt := I.gt
 have hbt := I.bt
 have hgs := hg.size
 -- blocks below B2 stand as they stood, but for the store
 have low : ∀ k, k < B2 -> w2.heap[k]? = w.heap[k]? := by
  intro k hk
  rw [hg.block k (by omega) (fun e => by have := (ownBlock_lt (I.own s x hx) e.symm).1; omega)]
  exact hb k (by omega)
 have own2 : ∀ s' j, j < n -> ¬ (s' = s /\ j = x) -> w2.ownsRow B2 eT 1 (c s' j) (L s' j).length (ints (L s' j)) := by
  intro s' j hj hne
  refine ownsRow_of_block (I.own s' j hj) fun g hgb => ?_
  have hlt := (ownBlock_lt (I.own s' j hj) hgb).2
  rw [hg.block g (by omega) (fun e => hne (I.ap s' j s x g hj hx hgb e.symm))]
  exact hb g hlt
 have hlow2 : ∀ k, k ≠ blk s -> (w2.setCell ⟨blk s, x, none⟩ v).heap[k]? = w2.heap[k]? := fun k hk => setCell_other hk
 refine ⟨?_, fun s' => ?_, fun s' j hj => ?_, ?_, hgt, hbt, I.gb, I.bb, ?_⟩
 ·obtain ⟨T, h⟩ := I.g
  exact ⟨T, by rw [hlow2 _ (I.gb s), low _ hgt]; exact h⟩
 ·obtain ⟨arr, T, h, h2, h3⟩ := I.r s'
  by_cases e : s' = s
  ·subst e
   refine ⟨arr.setIfInBounds x v, T, setCell_same (by rw [low _ (hbt s')]; exact h), by simpa using h2, fun j hj => ?_⟩
   rw [Array.getElem?_setIfInBounds]
   unfold updF
   by_cases ej : x = j
   ·subst ej; simp [h2, hx]
   ·rw [if_neg ej, if_neg (fun q => ej q.2.symm)]; exact h3 j hj
  ·refine ⟨arr, T, ?_, h2, fun j hj => ?_⟩
   ·rw [hlow2 _ (by
     intro e2
     cases s <;> cases s' <;> first | exact e rfl | exact I.bb e2 | exact I.bb e2.symm), low _ (hbt s')]
    exact h
   ·unfold updF; rw [if_neg (fun q => e q.1)]; exact h3 j hj
 ·have tail : ∀ {v' : Value} {m : Nat} {xs : List Value}, w2.ownsRow B2 eT 1 v' m xs -> (w2.setCell ⟨blk s, x, none⟩ v).ownsRow B2 eT 1 v' m xs := fun h =>
   ownsRow_of_block h fun g hgb => hlow2 g (by have := (ownBlock_lt h hgb).1; have := hbt s; omega)
  unfold updF
  by_cases e : s' = s /\ j = x
  ·rw [if_pos e, if_pos e]
   refine tail ?_
   have e1 : (L s x ++ [i]).length = (L s x).length + 1 := by simp
   have e2 : ints (L s x ++ [i]) = ints (L s x) ++ [.int .i64 i] := by simp [ints]
   rw [e1, e2]; exact hown
  ·rw [if_neg e, if_neg e]
   exact tail (own2 s' j hj e)
 ·intro s1 j1 s2 j2 g h1 h2 e1 e2
  unfold updF at e1 e2
  have key : ∀ s' j', j' < n -> ¬ (s' = s /\ j' = x) -> (c s' j').ownBlock = some g -> v.ownBlock = some g -> False := by
   intro s' j' hj' hne h3 h4
   rw [hv] at h4; cases h4
   rcases hat with h5 | h5
   ·exact hne (I.ap s' j' s x _ hj' hx h3 h5)
   ·have := (ownBlock_lt (I.own s' j' hj') h3).2; omega
  by_cases q1 : s1 = s /\ j1 = x
  ·by_cases q2 : s2 = s /\ j2 = x
   ·exact ⟨q1.1.trans q2.1.symm, q1.2.trans q2.2.symm⟩
   ·rw [if_pos q1] at e1; rw [if_neg q2] at e2
    exact (key s2 j2 h2 q2 e2 e1).elim
  ·rw [if_neg q1] at e1
   by_cases q2 : s2 = s /\ j2 = x
   ·rw [if_pos q2] at e2
    exact (key s1 j1 h1 q1 e1 e2).elim
   ·rw [if_neg q2] at e2
    exact I.ap s1 j1 s2 j2 g h1 h2 e1 e2
 ·have : (w2.setCell ⟨blk s, x, none⟩ v).heap.size = w2.heap.size := by simp [World.setCell]
  omega
end Go.Sym