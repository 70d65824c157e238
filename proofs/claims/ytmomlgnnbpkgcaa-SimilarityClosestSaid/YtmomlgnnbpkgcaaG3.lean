import Derived.Test.YtmomlgnnbpkgcaaG2
import Derived.Test.YtmomlgnnbpkgcaaXD
namespace Go.Sym
set_option linter.unusedVariables false
set_option linter.unusedSimpArgs false
open Go.Proofs Go.RowKit
def kE : List Kd := [.int .i64, .int .i64, .int .i64]
def kLL : List Kd := [.sl k1]
def kG : List Kd := [.sl kE, .sl kLL, .sl kLL]
def encE (e : Ed) : Nat -> D := encN [.i e.f, .i e.t, .i e.d]
def encLL (f : Nat -> List Int) : Nat -> Nat -> D := fun r _ => .l (f r).length (encL encI (f r))
structure Gr where
 n : Nat
 es : List Ed
def adjG (g : Gr) (s : Bool) (x : Nat) : List Int := adj g.es g.es.length s x
def encG (g : Gr) : Nat -> Nat -> D := fun _ => encN [.l g.es.length (encL encE g.es), .l g.n (encLL (adjG g true)), .l g.n (encLL (adjG g false))]
def edOk (n : Nat) (e : Ed) : Prop := 0 <= e.f /\ e.f < n /\ 0 <= e.t /\ e.t < n
structure GOk (g : Gr) : Prop where
 n1 : 1 <= g.n
 n : g.n <= 4096
 m : g.es.length <= 16384
 e : ∀ k, k < g.es.length -> edOk g.n (g.es.getD k default)
def buildC : CT where
 X := Gr
 pre := GOk
 args := fun g => [.i .i64 g.n, .sl 100000 0 g.es.length]
 g0 := fun g => [(100000, .rows .own kE g.es.length (encL encE g.es))]
 res := fun g => .p 1 0 0
 g1 := fun g => [(100000, .dead), (1, .rows .own kG 1 (encG g))]
theorem row_ints {z : Nat -> Option Obj} {w : World} {B n : Nat} {v : Value} {l : List Int} (h : w.ownsRow B 3 1 v n (ints l)) (hn : n = l.length) (hz : ∀ b, B <= b -> v.ownBlock = some b -> z b = w.heap[b]?) :
  DenD z (.sl k1) (.l l.length (encL encI l)) v := by
 obtain ⟨h1, h2⟩ := h
 simp only [DenD, D.toN, D.toF]
 rcases h2 with ⟨rfl, h0⟩ | ⟨g, cap, cur, rfl, q2, q3, q4, q5, q6, q7⟩
 ·exact .inl ⟨by omega, .inl rfl⟩
 ·refine .inr ⟨g, 0, cap, cur, 3, (0, 0), by rw [hn], by omega, (hz g q2 rfl).trans q3, by simp [k1]; omega, fun r hr => ?_⟩
  simp only [k1, DenR, DenD, List.length_singleton, Nat.mul_one, Nat.zero_add]
  refine ⟨⟨_, ?_, rfl⟩, trivial⟩
  have hr2 : r < cur.size := by omega
  rw [Array.getElem?_eq_getElem hr2]
  have e : (cur.toList.take (n * 1))[r]? = (ints l)[r]? := by rw [q7]
  rw [List.getElem?_take, if_pos (by omega)] at e
  rw [Array.getElem?_toList, Array.getElem?_eq_getElem hr2] at e
  rw [e]
  simp [encL, encI, D.toI, List.getD_eq_getElem?_getD, hr]
theorem rows_ints {z : Nat -> Option Obj} {w : World} {B2 bg n : Nat} {blk : Bool -> Nat} {ev : Value} {c : Bool -> Nat -> Value} {L : Bool -> Nat -> List Int} (I : BInv B2 3 w bg blk ev n c L) (s : Bool)
  (hn : 1 <= n) (hz : ∀ b, B2 <= b -> z b = w.heap[b]?) (hzb : z (blk s) = w.heap[blk s]?) : DenD z (.sl kLL) (.l n (encLL (L s))) (.slice (some ⟨blk s, 0, none⟩) n n) := by
 obtain ⟨arr, T, h1, h2, h3⟩ := I.r s
 simp only [DenD, D.toN, D.toF]
 refine .inr ⟨blk s, 0, n, arr, T, (0, 0), rfl, Nat.le_refl _, hzb.trans h1, by simp [kLL]; omega, fun r hr => ?_⟩
 simp only [kLL, DenR, List.length_singleton, Nat.mul_one, Nat.zero_add]
 exact ⟨⟨_, h3 r hr, row_ints (I.own s r hr) rfl fun b hb _ => hz b hb⟩, trivial⟩
theorem edges_in {ρ : Env} {w : World} {es : List Ed} {v : Value} (hd : Den ρ (.sl 100000 0 es.length) v) (H : HSat ρ (hget [(100000, .rows .own kE es.length (encL encE es))]) w) :
  ∃ a cap, v = .slice a es.length cap /\ ((es.length = 0 /\ (v = .slice none 0 0 ∨ ∃ a cap, v = .slice (some a) 0 cap /\ (0 < cap -> a.spot = none))) ∨
   ∃ pl arr T, ρ 100000 = some pl /\ a = some ⟨pl.b, pl.off, none⟩ /\ 0 < es.length /\ cap = pl.cap /\ es.length <= pl.cap /\ w.heap[pl.b]? = some (.cells arr T (0, 0)) /\ pl.off + pl.cap * 3 <= arr.size /\
    ∀ r, r < es.length -> arr[pl.off + r * 3]? = some (.int .i64 (es.getD r default).f) /\ arr[pl.off + r * 3 + 1]? = some (.int .i64 (es.getD r default).t) /\ arr[pl.off + r * 3 + 2]? = some (.int .i64 (es.getD r default).d)) := by
 simp only [Den] at hd
 rcases hd with ⟨h1, rfl, h2, _⟩ | ⟨pl, a, h1, rfl, h2, h3⟩
 ·exact ⟨none, 0, by rw [h2], .inl ⟨h2, .inl rfl⟩⟩
 ·refine ⟨some a, pl.cap - 0, rfl, ?_⟩
  rcases H.blk 100000 (.rows .own kE es.length (encL encE es)) rfl with ⟨q1, _⟩ | ⟨q, q1, q2, q3, _⟩ | ⟨q, arr, T, fz, q1, q2, q3, _, q4, q5, q6, q7⟩
  ·rw [h1] at q1; cases q1
  ·cases q3
  ·rw [h1] at q1; cases q1
   have hk : pl.k = 3 := q4
   by_cases h0 : es.length = 0
   ·refine .inl ⟨h0, .inr ⟨a, pl.cap - 0, by rw [h0], fun hc => ?_⟩⟩
    rw [h3 (by omega)]; rfl
   ·have ha := h3 (by omega)
    refine .inr ⟨pl, arr, T, h1, by rw [ha]; simp [ptr], by omega, by omega, by omega, by rw [q3 rfl] at q2; exact q2, by rw [hk] at q6; exact q6, fun r hr => ?_⟩
    have := q7 r hr
    simp only [kE, DenR, DenD, hk, encL, encE, encN, D.toI] at this
    obtain ⟨⟨u1, e1, rfl⟩, ⟨u2, e2, rfl⟩, ⟨u3, e3, rfl⟩, _⟩ := this
    exact ⟨e1, e2, e3⟩
theorem got3 {R Q : Blk} {l : Nat} {b : Blk} (h : hget [(100000, Blk.dead), (1, R), (100000, Q)] l = some b) : b = .dead ∨ (l = 1 /\ b = R) := by
 simp only [hget] at h
 cases h0 : Nat.beq 100000 l with
 | true => rw [h0] at h; cases h; exact .inl rfl
 | false =>
  rw [h0] at h
  cases h1 : Nat.beq 1 l with
  | true => rw [h1] at h; cases h; exact .inr ⟨(Nat.eq_of_beq_eq_true h1).symm, rfl⟩
  | false => rw [h1] at h; cases h
theorem build_good : Good Try.prog 36 buildC /\ FnOk Try.prog 36 := by
 refine ⟨fun g hg => ⟨rfl, fun ρ w vals hgl hv H => ?_⟩, Try.f36, rfl, by decide +kernel, rfl⟩
 have hg : GOk g := hg
 simp only [buildC, DenL] at hv
 obtain ⟨v0, r0, rfl, hv0, v1, r1, rfl, hv1, rfl⟩ := hv
 simp only [Den] at hv0
 subst hv0
 have hg0 : buildC.g0 g = [(100000, .rows .own kE g.es.length (encL encE g.es))] := rfl
 rw [hg0] at H
 obtain ⟨a, cap, rfl, hin⟩ := edges_in hv1 H
 have hn := hg.n
 have hn1 := hg.n1
 have hm := hg.m
 -- the walk
 have hcore : Calls Try.prog 36 #[.int .i64 g.n, .slice a g.es.length cap] w fun e w' => ∃ v, e = .returned v /\ Met2 w (.slice a g.es.length cap) g.n (adjG g) v w' := by
  rcases hin with ⟨h0, _⟩ | ⟨pl, arr, T, p1, rfl, p2, rfl, p3, p4, p5, p6⟩
  ·exact build_core g.n 0 0 g.es.length cap a g.es w hn rfl hm (fun h => by omega) (fun h => by omega) (fun k hk => by omega) (fun k hk => by omega)
  ·exact build_core g.n pl.b pl.off g.es.length pl.cap _ g.es w hn rfl hm (fun _ => rfl) (fun _ => (Array.getElem?_eq_some_iff.1 p4).1)
    (fun k hk => ⟨cell_in p4 (p6 k hk).1, cell_in p4 (p6 k hk).2.1, cell_in p4 (p6 k hk).2.2⟩) (fun k hk => hg.e k hk)
 refine hcore.mono ?_
 rintro e w' ⟨v, rfl, B2, bg, blk, c, rfl, I, hbel, hbg, hblk⟩
 -- what is frozen
 let F : Nat -> Prop := fun b => (w.heap.size <= b /\ b ≠ bg) ∨ ∃ pl, ρ 100000 = some pl /\ 0 < g.es.length /\ b = pl.b
 have hF : ∀ b, Decidable (F b) := fun b => Classical.propDecidable _
 let z' : Nat -> Option Obj := fun b => if F b then w'.heap[b]? else ρ.z b
 let ρ' : Env := ⟨fun l => if l = 1 then some ⟨bg, 0, 3, 1⟩ else if l = 100000 then ρ 100000 else none, z'⟩
 have zlt : ∀ {b o}, ρ.z b = some o -> b < w.heap.size := fun h => (Array.getElem?_eq_some_iff.1 (H.zok _ _ h)).1
 have zown : ∀ {pl}, ρ 100000 = some pl -> ρ.z pl.b = none := fun h => H.zap 100000 _ _ rfl rfl h
 have zF : ∀ {b}, F b -> z' b = w'.heap[b]? := fun h => if_pos h
 have zN : ∀ {b}, ¬ F b -> z' b = ρ.z b := fun h => if_neg h
 have hzB : ∀ b, B2 <= b -> z' b = w'.heap[b]? := fun b hb => zF (.inl ⟨by have := I.bt true; have := hblk true; omega, by have := I.gt; omega⟩)
 have hzk : ∀ s, z' (blk s) = w'.heap[blk s]? := fun s => zF (.inl ⟨hblk s, fun h => I.gb s h.symm⟩)
 have hge : appH (buildC.g1 g) (buildC.g0 g) = [(100000, .dead), (1, .rows .own kG 1 (encG g)), (100000, .rows .own kE g.es.length (encL encE g.es))] := rfl
 have zok' : ∀ b o, z' b = some o -> w'.heap[b]? = some o := by
  intro b o h
  by_cases hb : F b
  ·rw [zF hb] at h; exact h
  ·rw [zN hb] at h
   rw [hbel.block b (zlt h)]; exact H.zok b o h
 have zmore : ∀ b o, ρ.z b = some o -> z' b = some o := by
  intro b o h
  have : ¬ F b := by
   rintro (⟨h1, _⟩ | ⟨pl, h1, _, rfl⟩)
   ·have := zlt h; omega
   ·rw [zown h1] at h; cases h
  rw [zN this]; exact h
 have bgN : ¬ F bg := by
  rintro (⟨_, h1⟩ | ⟨pl, h1, h2, h3⟩)
  ·exact h1 rfl
  ·rcases H.blk 100000 _ rfl with ⟨q1, _⟩ | ⟨q, q1, q2, q3, _⟩ | ⟨q, arr, T, fz, q1, q2, _⟩
   ·rw [h1] at q1; cases q1
   ·cases q3
   ·rw [h1] at q1; cases q1
    have := (Array.getElem?_eq_some_iff.1 q2).1; omega
 have hbgz : z' bg = none := by
  rw [zN bgN]
  cases h : ρ.z bg with
  | none => rfl
  | some o => have := zlt h; omega
 obtain ⟨Tg, hTg⟩ := I.g
 have hrow : DenR z' kG (encG g 0) 0 #[.slice a g.es.length cap, .slice (some ⟨blk true, 0, none⟩) g.n g.n, .slice (some ⟨blk false, 0, none⟩) g.n g.n] 0 := by
  simp only [kG, DenR, encG, encN]
  refine ⟨⟨_, rfl, ?_⟩, ⟨_, rfl, rows_ints I true hn1 hzB (hzk true)⟩, ⟨_, rfl, rows_ints I false hn1 hzB (hzk false)⟩, trivial⟩
  simp only [DenD, D.toN, D.toF]
  rcases hin with ⟨h0, h1⟩ | ⟨pl, arr, T, p1, rfl, p2, rfl, p3, p4, p5, p6⟩
  ·exact .inl ⟨h0, h1⟩
  ·have hz1 : z' pl.b = w'.heap[pl.b]? := zF (.inr ⟨pl, p1, p2, rfl⟩)
   refine .inr ⟨pl.b, pl.off, pl.cap, arr, T, (0, 0), rfl, p3, ?_, by simpa [kE] using p5, fun r hr => ?_⟩
   ·rw [hz1, hbel.block _ (Array.getElem?_eq_some_iff.1 p4).1]; exact p4
   ·simp only [kE, DenR, DenD, List.length_cons, List.length_nil, Nat.zero_add, Nat.reduceAdd, encL, encE, encN, D.toI]
    exact ⟨⟨_, (p6 r hr).1, rfl⟩, ⟨_, (p6 r hr).2.1, rfl⟩, ⟨_, (p6 r hr).2.2, rfl⟩, trivial⟩
 refine ⟨_, ρ', rfl, ?_, ?_, ⟨hbel.os, hbel.tape, hbel.output, hbel.size, fun k hk _ => hbel.block k hk⟩, ?_, fun l hl => ?_⟩
 ·simp only [buildC, Den]
  exact ⟨⟨bg, 0, 3, 1⟩, rfl, rfl⟩
 ·rw [hge]
  refine ⟨fun l b hb => ?_, fun l1 l2 b1 b2 p1 p2 hne h1 h2 hm1 hr2 e1 e2 => ?_, fun l b hb => ?_, fun l hl => ?_, zok', fun l b p hb hm hp => ?_⟩
  ·rcases got3 hb with rfl | ⟨rfl, rfl⟩
   ·trivial
   ·refine .inr (.inr ⟨⟨bg, 0, 3, 1⟩, _, Tg, (0, 0), rfl, hTg, fun _ => rfl, fun h => (by cases h), rfl, Nat.le_refl _, by simp, fun r hr => ?_⟩)
    obtain rfl : r = 0 := by omega
    exact hrow
  ·have q1 := (got3 h1).resolve_left (fun e => by rw [e] at hm1; cases hm1)
   have q2 := (got3 h2).resolve_left (fun e => by rw [e] at hr2; exact hr2)
   exact absurd (q1.1.trans q2.1.symm) hne
  ·rcases got3 hb with rfl | ⟨rfl, rfl⟩ <;> (intro l' hl'; cases hl')
  ·show (if l = 1 then _ else if l = 100000 then _ else _) = none
   have h1 : ¬ l = 1 := by rintro rfl; cases hl
   have h2 : ¬ l = 100000 := by rintro rfl; cases hl
   rw [if_neg h1, if_neg h2]
  ·rcases got3 hb with rfl | ⟨rfl, rfl⟩
   ·cases hm
   ·cases hp; exact hbgz
 ·rw [hge]
  have only : ∀ {l b pl}, hget [(100000, Blk.dead), (1, .rows .own kG 1 (encG g)), (100000, .rows .own kE g.es.length (encL encE g.es))] l = some b -> b.real -> ρ' l = some pl -> pl.b = bg := by
   intro l b pl hb hr hp
   rcases got3 hb with rfl | ⟨rfl, rfl⟩
   ·exact hr.elim
   ·cases hp; rfl
  refine ⟨fun l b pl hb hm hp => .inr (by rw [only hb (Blk.real_of_mut hm) hp]; exact hbg), fun l b pl hb hr hp => .inr (by rw [only hb hr hp]; exact hbg), zmore, fun b hb => ?_, fun b hb => ?_⟩
  ·by_cases hFb : F b
   ·rcases hFb with ⟨h1, _⟩ | ⟨pl, h1, h2, rfl⟩
    ·exact .inr (.inr h1)
    ·exact .inr (.inl ⟨100000, _, pl, rfl, rfl, h1, rfl⟩)
   ·left
    have : z' b ≠ none := hb
    rw [zN hFb] at this; exact this
  ·rcases hb with h | ⟨l, blk', pl, h1, h2, h3, h4⟩
   ·exact .inr h
   ·exact .inl ⟨l, blk', pl, h1, Blk.real_of_mut h2, h3, h4⟩
 ·have hl' : l = 100000 := by
   rw [hg0] at hl
   simp only [hget] at hl
   split at hl
   ·rename_i h; exact (Nat.eq_of_beq_eq_true h).symm
   ·exact absurd rfl hl
  subst hl'
  rfl
end Go.Sym