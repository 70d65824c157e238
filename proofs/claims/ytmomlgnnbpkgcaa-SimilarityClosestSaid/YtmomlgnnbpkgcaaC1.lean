import Derived.Test.YtmomlgnnbpkgcaaG3
import Derived.Test.YtmomlgnnbpkgcaaXD
namespace Go.Sym
set_option linter.unusedVariables false
set_option linter.unusedSimpArgs false
open Go.Proofs Go.RowKit
structure RX where
 n : Nat
 f : Nat -> Nat -> D
def cloneC (ks : List Kd) : CT where
 X := RX
 pre := fun x => x.n <= 1073741824
 args := fun x => [.sl 100000 0 x.n]
 g0 := fun x => [(100000, .rows .bor ks x.n x.f)]
 res := fun x => .sl 1 0 x.n
 g1 := fun x => [(1, .rows .own ks x.n x.f)]
def cloneC1 (ks : List Kd) : CT := { cloneC ks with pre := fun x => 1 <= x.n /\ x.n <= 1073741824 }
theorem app0 {ks : List Kd} {n : Nat} {f g : Nat -> Nat -> D} : RowsEq ks n (appRows 0 g 0 f) f := ⟨fun r _ => rowEq_of_eq (by funext c; simp [appRows])⟩
set_option maxRecDepth 100000 in
theorem cloneE_keeps : Keeps cfgN0 Try.f37 (cloneC1 [.int .i64, .int .i64, .int .i64]) noIv := Eq.mp (show ((∀ x1 : CT.X (cloneC [.int .i64, .int .i64, .int .i64]), (((1 : Nat) <= RX.n x1 /\ RX.n x1 <= (1073741824 : Nat))-> (((1 : Nat) <= RX.n x1)/\(True/\((0=0/\(((0 : Nat) <= (0 : Nat))/\(((0 : Nat) + RX.n x1 <= RX.n x1)/\((0 : Nat) + RX.n x1 <= (1073741824 : Nat)))))/\((0=0/\((0 : Nat) + RX.n x1 = RX.n x1))/\(((RLe (RX.n x1) ((0 : Nat) + RX.n x1))/\(RowsEq [.int .i64, .int .i64, .int .i64] (RX.n x1) (appRows 0 (litRows (@List.nil (List D))) 0 (RX.f x1)) (RX.f x1)))/\True)))))))) = (Keeps cfgN0 Try.f37 (cloneC1 [.int .i64, .int .i64, .int .i64]) noIv) by kernel_rfl) (fun x1 => fun h2 => ⟨(by omega),trivial,
⟨rfl,
(by omega),
(by omega),
(by omega)⟩,
⟨rfl,
(by omega)⟩,
⟨⟨(by omega)⟩,
(by
       exact app0)⟩,trivial⟩)
theorem cloneE_nil (w : World) : Calls Try.prog 37 #[.slice none 0 0] w fun e w' => e = .returned (.slice none 0 0) /\ w' = w := by
 have hq := run_eql_sl (P := Try.prog) w 22 67 none 0 0 Try.underlying22
 go_enter Try.func37, Try.ntmps37
 go_wp2
 go_ret
 exact ⟨rfl, rfl⟩
theorem cloneE_empty (w : World) (a : Addr) (cap : Nat) : Calls Try.prog 37 #[.slice (some a) 0 cap] w fun e w' => e = .returned (.slice (some ⟨w.heap.size, 0, none⟩) 0 0) /\ w' = w.alloc (.cells #[] 67) := by
 have hq := run_eql_sl (P := Try.prog) w 22 67 (some a) 0 cap Try.underlying22
 go_enter Try.func37, Try.ntmps37
 go_wp2
 go_ret
 exact ⟨rfl, rfl⟩
theorem got2 {R Q : Blk} {l : Nat} {b : Blk} (h : hget [(1, R), (100000, Q)] l = some b) : (l = 1 /\ b = R) ∨ (l = 100000 /\ b = Q) := by
 simp only [hget] at h
 cases h0 : Nat.beq 1 l with
 | true => rw [h0] at h; cases h; exact .inl ⟨(Nat.eq_of_beq_eq_true h0).symm, rfl⟩
 | false =>
  rw [h0] at h
  cases h1 : Nat.beq 100000 l with
  | true => rw [h1] at h; cases h; exact .inr ⟨(Nat.eq_of_beq_eq_true h1).symm, rfl⟩
  | false => rw [h1] at h; cases h
theorem clone_zero {P : Program} [Glob] {f : Nat} {ks : List Kd} {T : TypeId} (h1 : ∀ w, Calls P f #[.slice none 0 0] w fun e w' => e = .returned (.slice none 0 0) /\ w' = w)
  (h2 : ∀ w a cap, Calls P f #[.slice (some a) 0 cap] w fun e w' => e = .returned (.slice (some ⟨w.heap.size, 0, none⟩) 0 0) /\ w' = w.alloc (.cells #[] T)) :
  Good P f { cloneC ks with pre := fun x => x.n = 0 } := by
 rintro ⟨n, g⟩ hn
 have hn : n = 0 := hn
 subst hn
 refine ⟨rfl, fun ρ w vals hgl hv H => ?_⟩
 simp only [cloneC, DenL] at hv
 obtain ⟨v, r, rfl, hv, rfl⟩ := hv
 have H : HSat ρ (hget [(100000, .rows .bor ks 0 g)]) w := H
 have hge : appH ((cloneC ks).g1 ⟨0, g⟩) ((cloneC ks).g0 ⟨0, g⟩) = [(1, .rows .own ks 0 g), (100000, .rows .bor ks 0 g)] := rfl
 -- either way the new label is laid down as it is
 have key : ∀ (w' : World) (z : Value) (p : Option Place), w.heap.size <= w'.heap.size -> (∀ k, k < w.heap.size -> w'.heap[k]? = w.heap[k]?) -> w'.os = w.os -> w'.tape = w.tape -> w'.output = w.output ->
   (∀ q, p = some q -> w.heap.size <= q.b) -> Den (updE ρ 1 p) (.sl 1 0 0) z -> BlkOk (updE ρ 1 p) w' 1 (.rows .own ks 0 g) ->
   ∃ v ρ', Ending.returned z = .returned v /\ Den ρ' ((cloneC ks).res ⟨0, g⟩) v /\ HSat ρ' (hget (appH ((cloneC ks).g1 ⟨0, g⟩) ((cloneC ks).g0 ⟨0, g⟩))) w' /\ Keep (CE ρ ((cloneC ks).g0 ⟨0, g⟩)) w w' /\
    MutIn (CE ρ ((cloneC ks).g0 ⟨0, g⟩)) (CA ρ ((cloneC ks).g0 ⟨0, g⟩)) ρ w.heap.size ρ' (hget (appH ((cloneC ks).g1 ⟨0, g⟩) ((cloneC ks).g0 ⟨0, g⟩))) /\ ∀ l, hget ((cloneC ks).g0 ⟨0, g⟩) l ≠ none -> ρ' l = ρ l := by
  intro w' z p hs hb ho ht hou hp hd hk
  have hz : (updE ρ 1 p).z = ρ.z := rfl
  have at1 : (updE ρ 1 p) 1 = p := rfl
  have at0 : ∀ {l}, l ≠ 1 -> (updE ρ 1 p) l = ρ l := fun {l} h => by show (match Nat.beq 1 l with | true => p | false => ρ l) = ρ l; rw [beq_ne (Ne.symm h)]
  have zlt : ∀ {b o}, ρ.z b = some o -> b < w.heap.size := fun h => (Array.getElem?_eq_some_iff.1 (H.zok _ _ h)).1
  have pz : ∀ q, p = some q -> ρ.z q.b = none := fun q hq => by
   cases h : ρ.z q.b with
   | none => rfl
   | some o => have := zlt h; have := hp q hq; omega
  refine ⟨z, updE ρ 1 p, rfl, hd, ?_, ⟨ho, ht, hou, hs, fun k hk _ => hb k hk⟩, ?_, fun l hl => ?_⟩
  ·rw [hge]
   refine ⟨fun l b hb' => ?_, fun l1 l2 b1 b2 p1 p2 hne h1 h2 hm1 hr2 e1 e2 => ?_, fun l b hb' => ?_, fun l hl => ?_, fun b o h => ?_, fun l b q hb' hm hq => ?_⟩
   ·rcases got2 hb' with ⟨rfl, rfl⟩ | ⟨rfl, rfl⟩
    ·exact hk
    ·exact (H.blk 100000 _ rfl).unreal (fun h => by rcases h with h | h <;> first | cases h | exact h rfl) (at0 (by decide))
   ·rcases got2 h1 with ⟨rfl, rfl⟩ | ⟨rfl, rfl⟩
    ·rcases got2 h2 with ⟨rfl, rfl⟩ | ⟨rfl, rfl⟩
     ·exact absurd rfl hne
     ·rcases hr2 with h | h <;> first | cases h | exact absurd rfl h
    ·cases hm1
   ·rcases got2 hb' with ⟨rfl, rfl⟩ | ⟨rfl, rfl⟩ <;> (intro l' hl'; cases hl')
   ·have h1 : l ≠ 1 := by rintro rfl; cases hl
    have h2 : l ≠ 100000 := by rintro rfl; cases hl
    rw [at0 h1]
    exact H.tight l (by simp [hget, beq_ne (Ne.symm h2)])
   ·rw [hb b (zlt h)]; exact H.zok b o h
   ·rcases got2 hb' with ⟨rfl, rfl⟩ | ⟨rfl, rfl⟩
    ·rw [at1] at hq; exact pz q hq
    ·cases hm
  ·rw [hge]
   have only : ∀ {l b pl}, hget [(1, Blk.rows .own ks 0 g), (100000, .rows .bor ks 0 g)] l = some b -> b.real -> (updE ρ 1 p) l = some pl -> w.heap.size <= pl.b := by
    intro l b pl hb' hr hq
    rcases got2 hb' with ⟨rfl, rfl⟩ | ⟨rfl, rfl⟩
    ·rw [at1] at hq; exact hp pl hq
    ·rcases hr with h | h <;> first | cases h | exact absurd rfl h
   exact ⟨fun l b pl h1 h2 h3 => .inr (only h1 (Blk.real_of_mut h2) h3), fun l b pl h1 h2 h3 => .inr (only h1 h2 h3), fun _ _ h => h, fun _ h => .inl h,
    fun b h => h.elim .inr fun ⟨l, blk, pl, h1, h2, h3, h4⟩ => .inl ⟨l, blk, pl, h1, Blk.real_of_mut h2, h3, h4⟩⟩
  ·have : l ≠ 1 := by rintro rfl; exact hl rfl
   exact at0 this
 simp only [Den] at hv
 rcases hv with ⟨_, rfl, _, _⟩ | ⟨pl, a, _, rfl, _, _⟩
 ·refine (h1 w).mono ?_
  rintro e w' ⟨rfl, rfl⟩
  refine key _ _ none (Nat.le_refl _) (fun _ _ => rfl) rfl rfl rfl (fun q h => by cases h) ?_ (.inl ⟨rfl, rfl⟩)
  simp only [Den]
  exact .inl ⟨rfl, by simp⟩
 ·refine (h2 w a _).mono ?_
  rintro e w' ⟨rfl, rfl⟩
  refine key _ _ (some ⟨w.heap.size, 0, ks.length, 0⟩) (by show _ <= (w.heap.push _).size; rw [Array.size_push]; omega) (fun k hk => heap_alloc_old w _ hk) rfl rfl rfl (fun q h => by cases h; exact Nat.le_refl _) ?_ ?_
  ·simp only [Den]
   exact .inr ⟨⟨w.heap.size, 0, ks.length, 0⟩, _, rfl, rfl, Nat.le_refl _, fun h => absurd h (Nat.lt_irrefl _)⟩
  ·exact .inr (.inr ⟨⟨w.heap.size, 0, ks.length, 0⟩, #[], T, (0, 0), rfl, heap_alloc_new w _, fun _ => rfl, fun h => (by cases h), rfl, Nat.le_refl _, by simp, fun r hr => by omega⟩)
theorem clone_both {P : Program} [Glob] {f : Nat} {ks : List Kd} (h0 : Good P f { cloneC ks with pre := fun x => x.n = 0 }) (h1 : Good P f (cloneC1 ks)) : Good P f (cloneC ks) := by
 intro x hx
 by_cases h : x.n = 0
 ·exact h0 x h
 ·exact h1 x ⟨by omega, hx⟩
theorem cloneE_good : Good Try.prog 37 (cloneC kE) /\ FnOk Try.prog 37 :=
 ⟨clone_both (clone_zero cloneE_nil cloneE_empty) (good_of tok conN0 (fn := Try.f37) rfl (by decide +kernel) (fun _ => rfl) cloneE_keeps).1, Try.f37, rfl, by decide +kernel, rfl⟩
end Go.Sym