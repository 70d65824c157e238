/- A call by its contract. -/
import Derived.Test.YtpggcpinebbjgaaXE15
namespace Go.Sym
set_option linter.unusedVariables false
set_option linter.unusedSimpArgs false

theorem inj_of_nodup_map {m : Nat → Nat} : ∀ {ls : List Nat}, (ls.map m).Nodup → ∀ {y z : Nat}, y ∈ ls → z ∈ ls → m y = m z → y = z
  | [], _, y, z, hy, _, _ => by simp at hy
  | x :: r, h, y, z, hy, hz, e => by
    rw [List.map_cons, List.nodup_cons] at h
    rcases List.mem_cons.1 hy with h1 | h1
    · rcases List.mem_cons.1 hz with h2 | h2
      · rw [h1, h2]
      · exact absurd (List.mem_map.2 ⟨z, h2, by rw [← h1, e]⟩) h.1
    · rcases List.mem_cons.1 hz with h2 | h2
      · exact absurd (List.mem_map.2 ⟨y, h1, by rw [← h2, e]⟩) h.1
      · exact inj_of_nodup_map h.2 h1 h2 e
theorem appH_eq (a b : List (Nat × Blk)) : appH a b = a ++ b := by induction a with | nil => rfl | cons x r ih => simp [appH, ih]
theorem hget_mem {g : List (Nat × Blk)} {l : Nat} {b : Blk} (h : hget g l = some b) : (l, b) ∈ g := by
  induction g with
  | nil => cases h
  | cons x r ih =>
    obtain ⟨k, v⟩ := x
    unfold hget at h
    split at h
    · rename_i hk
      cases h
      rw [Nat.eq_of_beq_eq_true hk]
      simp
    · exact List.mem_cons_of_mem _ (ih h)
theorem hget_of_mem {g : List (Nat × Blk)} (hn : (keys g).Nodup) {l : Nat} {b : Blk} (h : (l, b) ∈ g) : hget g l = some b := by
  induction g with
  | nil => cases h
  | cons x r ih =>
    obtain ⟨k, v⟩ := x
    simp only [keys, List.nodup_cons] at hn
    unfold hget
    rcases List.mem_cons.1 h with h | h
    · cases h; simp
    · have : l ∈ keys r := by rw [keys_eq]; exact List.mem_map.2 ⟨_, h, rfl⟩
      have hne : k ≠ l := fun e => hn.1 (e ▸ this)
      rw [beq_ne hne]
      exact ih hn.2 h
theorem hget_some_mem {g : List (Nat × Blk)} {l : Nat} (h : hget g l ≠ none) : l ∈ keys g := by
  rw [ne_eq, hget_none_iff] at h
  exact Classical.not_not.1 h
theorem hget_not_none {g : List (Nat × Blk)} {l : Nat} (h : l ∈ keys g) : hget g l ≠ none := by
  rw [ne_eq, hget_none_iff]
  exact fun k => k h
theorem EntH_mem {G : Hp} {g : List (Nat × Blk)} (h : EntH G g) {l : Nat} {b : Blk} (hm : (l, b) ∈ g) : EntB G l b := by
  induction g with
  | nil => cases hm
  | cons x r ih =>
    obtain ⟨k, v⟩ := x
    rcases List.mem_cons.1 hm with h' | h'
    · cases h'; exact h.1
    · exact ih h.2 h'
theorem renH_mem {m : Nat → Nat} {g : List (Nat × Blk)} {l : Nat} {b : Blk} (h : (l, b) ∈ g) : (m l, b.ren m) ∈ renH m g := by
  induction g with
  | nil => cases h
  | cons x r ih =>
    obtain ⟨k, v⟩ := x
    rcases List.mem_cons.1 h with h' | h'
    · cases h'; simp [renH]
    · exact List.mem_cons_of_mem _ (ih h')
theorem newLs_mem (g0 : List Nat) {l : Nat} : ∀ (g1 : List Nat), l ∈ newLs g0 g1 ↔ l ∈ g1 ∧ l ∉ g0
  | [] => by simp [newLs]
  | x :: r => by
    unfold newLs
    cases h : memN g0 x with
    | true =>
      have := (memN_iff g0 x).1 h
      simp only [newLs_mem g0 r, List.mem_cons]
      constructor
      · rintro ⟨h1, h2⟩; exact ⟨.inr h1, h2⟩
      · rintro ⟨h1 | h1, h2⟩
        · subst h1; exact absurd this h2
        · exact ⟨h1, h2⟩
    | false =>
      have := (memN_false g0 x).1 h
      simp only [List.mem_cons, newLs_mem g0 r]
      constructor
      · rintro (h1 | ⟨h1, h2⟩)
        · subst h1; exact ⟨.inl rfl, this⟩
        · exact ⟨.inr h1, h2⟩
      · rintro ⟨h1 | h1, h2⟩
        · exact .inl h1
        · exact .inr ⟨h1, h2⟩
theorem freshLs_spec {G : Hp} {m : Nat → Nat} : ∀ {ls : List Nat}, freshLs G m ls = true → ∀ l ∈ ls, G (m l) = none
  | [], _, l, hl => by simp at hl
  | x :: r, h, l, hl => by
    unfold freshLs at h
    split at h
    · rename_i hx
      rcases List.mem_cons.1 hl with rfl | hl
      · exact hx
      · exact freshLs_spec h l hl
    · cases h
theorem liveH_spec : ∀ {g : List (Nat × Blk)}, liveH g = true → ∀ l b, (l, b) ∈ g → b.live = true
  | [], _, l, b, hm => by cases hm
  | (k, v) :: r, h, l, b, hm => by
    unfold liveH at h
    split at h
    · rename_i hv
      rcases List.mem_cons.1 hm with h' | h'
      · cases h'; exact hv
      · exact liveH_spec h l b h'
    · cases h
theorem mutOk_spec {g1 : List Nat} : ∀ {g : List (Nat × Blk)}, mutOk g1 g = true → ∀ l b, (l, b) ∈ g → b.mut = true → l ∈ g1
  | [], _, l, b, hm, _ => by cases hm
  | (k, v) :: r, h, l, b, hm, hb => by
    unfold mutOk at h
    rcases List.mem_cons.1 hm with h' | h'
    · simp only [Prod.mk.injEq] at h'
      obtain ⟨e1, e2⟩ := h'
      rw [← e1, ← e2, hb] at h
      cases hg : memN g1 l with
      | true => exact (memN_iff g1 l).1 hg
      | false => rw [hg] at h; cases h
    · refine mutOk_spec ?_ l b h' hb
      revert h
      cases v.mut <;> cases memN g1 k <;> simp
theorem chgOk_spec {g0 : List (Nat × Blk)} : ∀ {g : List (Nat × Blk)}, chgOk g0 g = true → ∀ l b, (l, b) ∈ g → (∀ b0, hget g0 l = some b0 → b0.mut = true)
  | [], _, l, b, hm => by cases hm
  | (k, v) :: r, h, l, b, hm => by
    unfold chgOk at h
    rcases List.mem_cons.1 hm with h' | h'
    · simp only [Prod.mk.injEq] at h'
      obtain ⟨e1, e2⟩ := h'
      rw [← e1] at h
      split at h
      · rename_i b0 hb0
        split at h
        · rename_i hmut
          exact fun b1 hb1 => by rw [hb0] at hb1; cases hb1; exact hmut
        · cases h
      · rename_i hn
        exact fun b1 hb1 => (by rw [hn] at hb1; cases hb1)
    · refine chgOk_spec (g := r) ?_ l b h'
      split at h
      · split at h
        · exact h
        · cases h
      · exact h
theorem newBor_spec {g0 : List Nat} : ∀ {g : List (Nat × Blk)}, newBor g0 g = false → ∀ l b, (l, b) ∈ g → l ∉ g0 → b.live = true → b.mut = true ∨ (∃ ks n f, b = .rows .fz ks n f) ∨ ∃ cs, b = .one .fz cs
  | [], _, l, b, hm => by cases hm
  | (k, v) :: r, h, l, b, hm => by
    unfold newBor at h
    intro hl hlive
    rcases List.mem_cons.1 hm with h' | h'
    · simp only [Prod.mk.injEq] at h'
      obtain ⟨e1, e2⟩ := h'
      subst e1 e2
      rw [(memN_false g0 _).2 hl] at h
      dsimp only at h
      cases b with
      | dead => cases hlive
      | one m cs => cases m <;> first | exact .inl rfl | exact .inr (.inr ⟨_, rfl⟩) | cases h
      | rows m ks n f => cases m <;> first | exact .inl rfl | exact .inr (.inl ⟨_, _, _, rfl⟩) | cases h
      | map m kk ks a keys f => cases m <;> first | exact .inl rfl | cases h
    · refine newBor_spec (g := r) ?_ l b h' hl hlive
      split at h
      · exact h
      · split at h <;> first | exact h | cases h
theorem lentOk_spec {G : Hp} {m : Nat → Nat} : ∀ {g : List (Nat × Blk)}, lentOk G m g = true → ∀ l b, (l, b) ∈ g → b.mut = false → ∀ b', G (m l) = some b' → b'.mut = false
  | [], _, l, b, hm => by cases hm
  | (k, v) :: r, h, l, b, hm => by
    unfold lentOk at h
    intro hb b' hG
    rcases List.mem_cons.1 hm with h' | h'
    · cases h'
      rw [hb] at h
      dsimp only at h
      rw [hG] at h
      dsimp only at h
      cases hm : b'.mut with
      | true => rw [hm] at h; cases h
      | false => rfl
    · refine lentOk_spec (g := r) ?_ l b h' hb b' hG
      split at h
      · exact h
      · split at h
        · split at h
          · cases h
          · exact h
        · exact h
theorem defd_spec {hp : List (Nat × Blk)} : ∀ {ls : List Nat}, defd hp ls = true → ∀ l ∈ ls, hget hp l ≠ none
  | [], _, l, hl => by simp at hl
  | x :: r, h, l, hl => by
    unfold defd at h
    split at h
    · rename_i b hb
      rcases List.mem_cons.1 hl with rfl | hl
      · rw [hb]; simp
      · exact defd_spec h l hl
    · cases h
theorem scopeH_spec {hp : List (Nat × Blk)} : ∀ {g : List (Nat × Blk)}, scopeH hp g = true → ∀ l b, (l, b) ∈ g → ∀ y ∈ b.labs, hget hp y ≠ none
  | [], _, l, b, hm => by cases hm
  | (k, v) :: r, h, l, b, hm => by
    unfold scopeH at h
    split at h
    · rename_i hv
      rcases List.mem_cons.1 hm with h' | h'
      · cases h'; exact defd_spec hv
      · exact scopeH_spec h l b h'
    · cases h

/-- The blocks that a contract may change. -/
def CE (ρ : Env) (g0 : List (Nat × Blk)) : Nat → Prop := fun b => ∃ l blk pl, hget g0 l = some blk ∧ blk.mut = true ∧ ρ l = some pl ∧ pl.b = b
/-- The blocks that it may lead to. -/
def CA (ρ : Env) (g0 : List (Nat × Blk)) : Nat → Prop := fun b => (∃ l blk pl, hget g0 l = some blk ∧ blk.real ∧ ρ l = some pl ∧ pl.b = b) ∨ ρ.z b ≠ none

structure CtSt (ct : CT) (x : ct.X) : Prop where
  d0 : (keys (ct.g0 x)).Nodup
  d1 : (keys (ct.g1 x)).Nodup
  live : ∀ l b, (l, b) ∈ ct.g0 x → b.live = true
  mutok : ∀ l b, (l, b) ∈ ct.g0 x → b.mut = true → l ∈ keys (ct.g1 x)
  chg : ∀ l b, (l, b) ∈ ct.g1 x → (∀ b0, hget (ct.g0 x) l = some b0 → b0.mut = true)
  scp0 : ∀ l b, (l, b) ∈ ct.g0 x → ∀ y ∈ b.labs, hget (ct.g0 x) y ≠ none
  args : ∀ y ∈ labsL (ct.args x), hget (ct.g0 x) y ≠ none
  scp1 : ∀ l b, (l, b) ∈ ct.g1 x → ∀ y ∈ b.labs, hget (appH (ct.g1 x) (ct.g0 x)) y ≠ none
  res : ∀ y ∈ (ct.res x).labs, hget (appH (ct.g1 x) (ct.g0 x)) y ≠ none
  great : ∀ l ∈ keys (ct.g0 x), 100000 ≤ l
theorem greatLs_spec : ∀ {ls : List Nat}, greatLs ls = true → ∀ l ∈ ls, 100000 ≤ l
  | [], _, l, hl => by simp at hl
  | x :: r, h, l, hl => by
    unfold greatLs at h
    split at h
    · rename_i hx
      rcases List.mem_cons.1 hl with h' | h'
      · rw [h']; exact Nat.le_of_ble_eq_true hx
      · exact greatLs_spec h l h'
    · cases h
theorem smallLs_spec {G : Hp} {m : Nat → Nat} : ∀ {ls : List Nat}, smallLs G m ls = true → ∀ l ∈ ls, G (m l) = none → m l < 100000
  | [], _, l, hl, _ => by simp at hl
  | x :: r, h, l, hl, hG => by
    unfold smallLs at h
    rcases List.mem_cons.1 hl with h' | h'
    · rw [← h', hG] at h
      simp only at h
      split at h
      · rename_i hx; exact Nat.le_of_ble_eq_true (show Nat.ble (m l + 1) 100000 = true from hx)
      · cases h
    · refine smallLs_spec (ls := r) ?_ l h' hG
      split at h
      · exact h
      · split at h
        · exact h
        · cases h
theorem ctSt_spec {ct : CT} {x : ct.X} (h : ctSt ct x = true) : CtSt ct x := by
  unfold ctSt at h
  split at h
  · rename_i h1 h2 h3 h4 h5 h6 h7 h8 h9 h10
    exact ⟨(diff_iff _).1 h1, (diff_iff _).1 h2, liveH_spec h3, mutOk_spec h4, chgOk_spec h5, scopeH_spec h6, defd_spec h7, scopeH_spec h8, defd_spec h9, greatLs_spec h10⟩
  · cases h

theorem Blk.real_of_mut {b : Blk} (h : b.mut = true) : b.real := by
  cases b with
  | dead => cases h
  | one m cs => trivial
  | rows m ks n f => exact .inl h
  | map m kk ks a keys f => trivial
theorem Blk.live_of_real {b : Blk} (h : b.real) : b.live = true := by cases b <;> first | rfl | exact h.elim
theorem Blk.real_ren {b : Blk} {m : Nat → Nat} : (b.ren m).real ↔ b.real := by cases b <;> exact Iff.rfl

def Good (P : Program) (f : Nat) (ct : CT) : Prop :=
  ∀ x, ct.pre x → ctSt ct x = true ∧ ∀ (ρ : Env) (w : World) (vals : List Value), DenL ρ (ct.args x) vals → HSat ρ (hget (ct.g0 x)) w →
    Calls P f vals.toArray w fun e w' => ∃ v ρ', e = .returned v ∧ Den ρ' (ct.res x) v ∧ HSat ρ' (hget (appH (ct.g1 x) (ct.g0 x))) w' ∧ Keep (CE ρ (ct.g0 x)) w w' ∧
      MutIn (CE ρ (ct.g0 x)) (CA ρ (ct.g0 x)) ρ w.heap.size ρ' (hget (appH (ct.g1 x) (ct.g0 x))) ∧ ∀ l, hget (ct.g0 x) l ≠ none → ρ' l = ρ l

section
variable {ρi : Env} {P : Program} {E A : Nat → Prop} {w0 : World} {ρ : Env} {F : Fr} {G : Hp} {a : Act} {w : World}

theorem Md.le_spec {m' m : Md} (h : Md.le m' m = true) : (m'.isOwn = true → m.isOwn = true) ∧ (m' = .fz → m = .fz) := by
  cases m' <;> cases m <;> simp_all [Md.le, Md.isOwn]
/-- What the block behind a label that was handed over is like on either side. -/
theorem EntB_use (H : HSat ρ G w) {m : Nat → Nat} {l : Nat} {b : Blk} {ρc : Env} (h : EntB G (m l) (b.ren m)) (hb : b.live = true) (hl : ρc l = ρ (m l)) (hz : ρc.z = ρ.z) (hlab : ∀ y ∈ b.labs, ρc y = ρ (m y)) :
    BlkOk ρc w l b ∧ (∀ pl, ρ (m l) = some pl → ∃ b', G (m l) = some b' ∧ (b.real → b'.real) ∧ (b.mut = true → b'.mut = true)) := by
  have hzl : ZLe (ρ.ren m) ρc := fun x o hx => by rw [hz]; exact hx
  cases b with
  | dead => cases hb
  | one mb cs =>
    simp only [Blk.ren, EntB] at h
    split at h
    · rename_i mb' cs' hG
      split at h
      · rename_i h2 h1
        obtain ⟨hm1, hm2⟩ := Md.le_spec h2
        have hlen := Nat.eq_of_beq_eq_true h1
        rw [lenL_eq, lenL_eq, renL_length] at hlen
        obtain ⟨pl, arr, T, fz, e1, e2, e3, e3', e4, e5⟩ := H.blk _ _ hG
        refine ⟨⟨pl, arr, T, fz, hl.trans e1, e2, fun hm => e3 (hm1 hm), fun hm => by rw [hz]; exact e3' (hm2 hm), by omega, ?_⟩, fun pl' _ => ⟨_, hG, fun _ => trivial, hm1⟩⟩
        rw [← hlen]
        have := EntL.den H.tight _ _ _ h e5
        rw [DenL_ren] at this
        exact DenL.congr hzl _ _ (fun y hy => (hlab y (by simpa [Blk.labs] using hy)).symm) this
      · exact h.elim
    · exact h.elim
  | rows mb ks n f =>
    simp only [Blk.ren, EntB] at h
    split at h
    · rename_i mb' ks' n' f' hG
      split at h
      · rename_i h2 h1
        obtain ⟨hm1, hm2⟩ := Md.le_spec h2
        obtain ⟨rfl, h3⟩ := h
        have := kdsSame_iff.1 h1
        subst this
        refine ⟨?_, fun pl' _ => ⟨_, hG, fun hr => hr.imp hm1 id, hm1⟩⟩
        rcases H.blk _ _ hG with ⟨e1, e2⟩ | ⟨pl, e1, e2, e3, e4⟩ | ⟨pl, arr, T, fz, e1, e2, e3, e3', e4, e5, e6, e7⟩
        · exact .inl ⟨hl.trans e1, e2⟩
        · refine .inr (.inl ⟨pl, hl.trans e1, e2, ?_, e4⟩)
          cases hq : mb.isOwn with
          | false => rfl
          | true => rw [hm1 hq] at e3; cases e3
        · exact .inr (.inr ⟨pl, arr, T, fz, hl.trans e1, e2, fun hm => e3 (hm1 hm), fun hm => by rw [hz]; exact e3' (hm2 hm), e4, e5, e6, fun r hr => by rw [hz]; exact DenR.eqv (h3.h r hr) (e7 r hr)⟩)
      · exact h.elim
    · rename_i hG
      have := H.tight _ hG
      exact ⟨.inl ⟨hl.trans this, h⟩, fun pl hp => by rw [this] at hp; cases hp⟩
    · exact h.elim
  | map mb kk ks ag keys f =>
    simp only [Blk.ren, EntB] at h
    split at h
    · rename_i mb' kk' ks' ag' keys' f' hG
      split at h
      · rename_i h2 h1 h3 h4
        obtain ⟨hm1, hm2⟩ := Md.le_spec h2
        have := IntKind.same_iff.1 h1
        subst this
        have := kdsSame_iff.1 h3
        subst this
        have := eq_of_beq h4
        subst this
        refine ⟨?_, fun pl' _ => ⟨_, hG, fun _ => trivial, hm1⟩⟩
        obtain ⟨pl, es, clk, e1, e2, q1, ⟨ls, q2, q2'⟩, q3, q4⟩ := H.blk _ _ hG
        refine ⟨pl, es, clk, hl.trans e1, e2, h.p.nodup_iff.1 q1, ⟨ls, q2.trans h.p, q2'⟩, fun e he k hk => ?_, q4⟩
        obtain ⟨r1, r2, r3⟩ := q3 e he k hk
        refine ⟨r1, r2, ?_⟩
        rw [hz]
        refine DenR.eqv (h.h k ?_) r3
        have : e.key ∈ ls.map (Value.int kk') := by rw [← q2']; exact List.mem_map.2 ⟨e, he, rfl⟩
        rw [hk] at this
        obtain ⟨k', hk', e'⟩ := List.mem_map.1 this
        cases e'
        exact (q2.trans h.p).mem_iff.1 hk'
      · exact h.elim
    · exact h.elim

theorem absL_spec {m : Nat → Nat} : ∀ {g : List (Nat × Blk)} {l' : Nat} {b' : Blk}, (l', b') ∈ absL G m g → ∃ l b, (l, b) ∈ g ∧ m l = l' ∧ b' = b.ren m ∧ G l' = none
  | [], l', b', h => by cases h
  | (l, b) :: r, l', b', h => by
    unfold absL at h
    split at h
    · rename_i hG
      rcases List.mem_cons.1 h with h | h
      · cases h; exact ⟨l, b, by simp, rfl, rfl, hG⟩
      · obtain ⟨l2, b2, h1, h2⟩ := absL_spec h
        exact ⟨l2, b2, List.mem_cons_of_mem _ h1, h2⟩
    · obtain ⟨l2, b2, h1, h2⟩ := absL_spec h
      exact ⟨l2, b2, List.mem_cons_of_mem _ h1, h2⟩
theorem absL_has {m : Nat → Nat} : ∀ {g : List (Nat × Blk)} {l : Nat} {b : Blk}, (l, b) ∈ g → G (m l) = none → (m l, b.ren m) ∈ absL G m g
  | [], l, b, h, _ => by cases h
  | (k, v) :: r, l, b, h, hG => by
    unfold absL
    rcases List.mem_cons.1 h with h | h
    · cases h; rw [hG]; simp
    · split
      · exact List.mem_cons_of_mem _ (absL_has h hG)
      · exact absL_has h hG

/-- Which new label lies here? -/
def inv (m : Nat → Nat) : List Nat → Nat → Option Nat
  | [], _ => none
  | x :: r, l' => match Nat.beq (m x) l' with | true => some x | false => inv m r l'
theorem inv_some {m : Nat → Nat} : ∀ {ls : List Nat} {l' l : Nat}, inv m ls l' = some l → l ∈ ls ∧ m l = l'
  | [], _, _, h => by cases h
  | x :: r, l', l, h => by
    unfold inv at h
    split at h
    · rename_i hx; cases h; exact ⟨by simp, Nat.eq_of_beq_eq_true hx⟩
    · obtain ⟨h1, h2⟩ := inv_some h; exact ⟨List.mem_cons_of_mem _ h1, h2⟩
theorem inv_none {m : Nat → Nat} : ∀ {ls : List Nat} {l' : Nat}, inv m ls l' = none → ∀ l ∈ ls, m l ≠ l'
  | [], _, _, l, hl => by simp at hl
  | x :: r, l', h, l, hl => by
    unfold inv at h
    split at h
    · cases h
    · rename_i hx
      rcases List.mem_cons.1 hl with rfl | hl
      · intro e; rw [e] at hx; simp at hx
      · exact inv_none h l hl

theorem memF_spec {l : Nat} {g : Bool} : ∀ {r : List (Nat × Bool)}, memF l g r = false → ∀ f, (l, f) ∈ r → f = false ∧ g = false
  | [], _, f, h => by cases h
  | (x, f0) :: r, h, f, hm => by
    have hr : memF l g r = false → (l, f) ∈ r → f = false ∧ g = false := fun h hm => memF_spec h f hm
    unfold memF at h
    rcases List.mem_cons.1 hm with e | hm'
    · cases e
      rw [Nat.beq_refl] at h
      cases f0 <;> cases g <;> simp_all
    · refine hr ?_ hm'
      revert h
      cases Nat.beq x l <;> cases f0 <;> cases g <;> simp
theorem mfl_mem {m : Nat → Nat} {g : List (Nat × Blk)} {t : List (Nat × Bool)} : ∀ {ls : List Nat} {z : Nat × Bool}, z ∈ mfl m g ls t ↔ (∃ l ∈ ls, z = (m l, mflag g l)) ∨ z ∈ t
  | [], z => by simp [mfl]
  | l :: r, z => by
    simp only [mfl, List.mem_cons, mfl_mem (ls := r)]
    constructor
    · rintro (h | ⟨l', h, e⟩ | h)
      · exact .inl ⟨l, .inl rfl, h⟩
      · exact .inl ⟨l', .inr h, e⟩
      · exact .inr h
    · rintro (⟨l', h | h, e⟩ | h)
      · subst h; exact .inl e
      · exact .inr (.inl ⟨l', h, e⟩)
      · exact .inr (.inr h)
theorem mft_mem {m : Nat → Nat} : ∀ {ls : List Nat} {z : Nat × Bool}, z ∈ mft m ls ↔ ∃ l ∈ ls, z = (m l, true)
  | [], z => by simp [mft]
  | l :: r, z => by simp [mft, mft_mem (ls := r)]
theorem diffF_tail {m : Nat → Nat} {g : List (Nat × Blk)} {t : List (Nat × Bool)} : ∀ {ls : List Nat}, diffF (mfl m g ls t) = true → diffF t = true
  | [], h => h
  | l :: r, h => by
    simp only [mfl, diffF] at h
    split at h
    · cases h
    · exact diffF_tail h
theorem diffF_mft {m : Nat → Nat} : ∀ {ls : List Nat}, diffF (mft m ls) = true → ∀ {y z : Nat}, y ∈ ls → z ∈ ls → m y = m z → y = z
  | [], _, y, z, hy, _, _ => by simp at hy
  | x :: r, h, y, z, hy, hz, e => by
    simp only [mft, diffF] at h
    split at h
    · cases h
    · rename_i hm
      rcases List.mem_cons.1 hy with h1 | h1
      · rcases List.mem_cons.1 hz with h2 | h2
        · rw [h1, h2]
        · have := (memF_spec hm true (mft_mem.2 ⟨z, h2, by rw [← e, h1]⟩)).1
          cases this
      · rcases List.mem_cons.1 hz with h2 | h2
        · have := (memF_spec hm true (mft_mem.2 ⟨y, h1, by rw [e, h2]⟩)).1
          cases this
        · exact diffF_mft h h1 h2 e
theorem diffF_mfl {m : Nat → Nat} {g : List (Nat × Blk)} {t : List (Nat × Bool)} : ∀ {ls : List Nat}, diffF (mfl m g ls t) = true → ∀ {y : Nat}, y ∈ ls → (∀ z ∈ ls, m y = m z → y = z ∨ (mflag g y = false ∧ mflag g z = false)) ∧ (∀ f, (m y, f) ∈ t → f = false ∧ mflag g y = false)
  | [], _, y, hy => by simp at hy
  | x :: r, h, y, hy => by
    simp only [mfl, diffF] at h
    split at h
    · cases h
    · rename_i hm
      rcases List.mem_cons.1 hy with h1 | h1
      · subst h1
        refine ⟨fun z hz e => ?_, fun f hf => memF_spec hm f (mfl_mem.2 (.inr hf))⟩
        rcases List.mem_cons.1 hz with h2 | h2
        · exact .inl h2.symm
        · have := memF_spec hm (mflag g z) (mfl_mem.2 (.inl ⟨z, h2, by rw [e]⟩))
          exact .inr ⟨this.2, this.1⟩
      · have ih := diffF_mfl h h1
        refine ⟨fun z hz e => ?_, ih.2⟩
        rcases List.mem_cons.1 hz with h2 | h2
        · subst h2
          have := memF_spec hm (mflag g y) (mfl_mem.2 (.inl ⟨y, h1, by rw [e]⟩))
          exact .inr ⟨this.1, this.2⟩
        · exact ih.1 z h2 e
theorem mflag_of {g : List (Nat × Blk)} {l : Nat} {b : Blk} (h : hget g l = some b) : mflag g l = b.mut := by unfold mflag; rw [h]

theorem call_sound (H : HSat ρ G w) (K : Keep E w0 w) (M : MutIn E A ρi w0.heap.size ρ G) {f : Nat} {ct : CT} (good : Good P f ct) {args : List SV} {vals : List Value} (hargs : DenL ρ args vals)
    {x : ct.X} {m : Nat → Nat} (hst : callSt ct G x m = true) (hok : CallOk ct args G x m) :
    Calls P f vals.toArray w fun e w' => ∃ v ρ', e = .returned v ∧ Den ρ' (ren m (ct.res x)) v ∧ HSat ρ' (upds G (appH (renH m (ct.g1 x)) (absL G m (ct.g0 x)))) w' ∧ Keep E w0 w' ∧
      MutIn E A ρi w0.heap.size ρ' (upds G (appH (renH m (ct.g1 x)) (absL G m (ct.g0 x)))) ∧ (∀ l, G l ≠ none → ρ' l = ρ l) ∧ ZLe ρ ρ' ∧
      (∀ l ∈ (ren m (ct.res x)).labs, upds G (appH (renH m (ct.g1 x)) (absL G m (ct.g0 x))) l ≠ none) := by
  obtain ⟨hct, hcall⟩ := good x hok.pre
  have C := ctSt_spec hct
  generalize hg0 : ct.g0 x = g0 at *
  generalize hg1 : ct.g1 x = g1 at *
  have hinj : diffF (mfl m g0 (keys g0) (mft m (newLs (keys g0) (keys g1)))) = true ∧ freshLs G m (newLs (keys g0) (keys g1)) = true ∧ aliasOk G m g0 g1 = true := by
    unfold callSt at hst
    rw [hg0, hg1] at hst
    split at hst
    · rename_i h1 h2 h3 h4
      exact ⟨h1, h2, h4⟩
    · cases hst
  obtain ⟨hinj, hfresh, halias⟩ := hinj
  have C0 := C.d0; have C1 := C.d1; have Cl := C.live; have Cm := C.mutok; have Cc := C.chg; have Cs := C.scp0; have Ca := C.args; have Cs1 := C.scp1; have Cr := C.res
  rw [hg0] at C0 Cl Cm Cc Cs Ca Cs1 Cr
  rw [hg1] at C1 Cm Cc Cs1 Cr
  have hheap := hok.heap
  rw [hg0] at hheap
  -- all labels of the contract
  have mem0 : ∀ {y : Nat}, hget g0 y ≠ none → y ∈ keys g0 ++ newLs (keys g0) (keys g1) := fun h => List.mem_append.2 (.inl (hget_some_mem h))
  have memA : ∀ {y : Nat}, hget (appH g1 g0) y ≠ none → y ∈ keys g0 ++ newLs (keys g0) (keys g1) := by
    intro y h
    have h1 := hget_some_mem h
    rw [appH_eq, keys_eq, List.map_append, ← keys_eq, ← keys_eq, List.mem_append] at h1
    by_cases hy : y ∈ keys g0
    · exact List.mem_append.2 (.inl hy)
    · exact List.mem_append.2 (.inr ((newLs_mem _ _).2 ⟨h1.resolve_right hy, hy⟩))
  have minj0 : ∀ {y z : Nat}, y ∈ keys g0 → z ∈ keys g0 → m y = m z → mflag g0 y = true → y = z := by
    intro y z hy hz e hf
    rcases (diffF_mfl hinj hy).1 z hz e with h | ⟨h, _⟩
    · exact h
    · rw [h] at hf; cases hf
  have minj : ∀ {y z : Nat}, y ∈ newLs (keys g0) (keys g1) → z ∈ keys g0 ++ newLs (keys g0) (keys g1) → m y = m z → y = z := by
    intro y z hy hz e
    rcases List.mem_append.1 hz with h | h
    · have := ((diffF_mfl hinj h).2 true (mft_mem.2 ⟨y, hy, by rw [e]⟩)).1
      cases this
    · exact diffF_mft (diffF_tail hinj) hy h e
  -- the callee's places
  let ρc : Env := ⟨fun l => match hget g0 l with | some _ => ρ (m l) | none => none, ρ.z⟩
  have ρc_of : ∀ {y : Nat}, hget g0 y ≠ none → ρc y = ρ (m y) := by
    intro y hy
    show (match hget g0 y with | some _ => ρ (m y) | none => none) = _
    cases h : hget g0 y with
    | none => exact absurd h hy
    | some _ => rfl
  have use : ∀ {l : Nat} {b : Blk}, hget g0 l = some b → BlkOk ρc w l b ∧ (∀ pl, ρ (m l) = some pl → ∃ b', G (m l) = some b' ∧ (b.real → b'.real) ∧ (b.mut = true → b'.mut = true)) := by
    intro l b hb
    have hm := hget_mem hb
    exact EntB_use H (EntH_mem hheap (renH_mem hm)) (Cl _ _ hm) (ρc_of (by rw [hb]; simp)) rfl (fun y hy => ρc_of (Cs _ _ hm y hy))
  have hzc : ZLe (ρ.ren m) ρc := fun _ _ h => h
  have Hc : HSat ρc (hget g0) w := by
    refine ⟨fun l b hb => (use hb).1, ?_, fun l b hb y hy => Cs _ _ (hget_mem hb) y hy, ?_, H.zok, ?_⟩
    · intro l1 l2 b1 b2 p1 p2 hn h1 h2 hm hv e1 e2
      have n1 : hget g0 l1 ≠ none := by rw [h1]; simp
      have n2 : hget g0 l2 ≠ none := by rw [h2]; simp
      rw [ρc_of n1] at e1
      rw [ρc_of n2] at e2
      obtain ⟨c1, g1', _, k1⟩ := (use h1).2 p1 e1
      obtain ⟨c2, g2', v2, _⟩ := (use h2).2 p2 e2
      exact H.inj (m l1) (m l2) c1 c2 p1 p2 (fun e => hn (minj0 (hget_some_mem n1) (hget_some_mem n2) e (by rw [mflag_of h1]; exact hm))) g1' g2' (k1 hm) (v2 hv) e1 e2
    · intro l hl
      show (match hget g0 l with | some _ => ρ (m l) | none => none) = none
      rw [hl]
    · intro l b p hb hm hp
      have n1 : hget g0 l ≠ none := by rw [hb]; simp
      rw [ρc_of n1] at hp
      obtain ⟨c1, g1', _, k1⟩ := (use hb).2 p hp
      exact H.zap (m l) c1 p g1' (k1 hm) hp
  have hargs' : DenL ρc (ct.args x) vals := by
    have := EntL.den H.tight _ _ _ hok.args hargs
    rw [DenL_ren] at this
    exact DenL.congr hzc _ _ (fun y hy => (ρc_of (Ca y hy)).symm) this
  refine (hcall ρc w vals hargs' Hc).mono ?_
  rintro e w' ⟨v, ρ', rfl, hv, H', K', M', hkeep⟩
  -- the caller's places
  let ρn : Env := ⟨fun l' => match inv m (newLs (keys g0) (keys g1)) l' with | some l => ρ' l | none => ρ l', ρ'.z⟩
  have hzn : ZLe ρ' (ρn.ren m) := fun _ _ h => h
  have ρn_old : ∀ {l' : Nat}, G l' ≠ none → ρn l' = ρ l' := by
    intro l' hl'
    show (match inv m _ l' with | some l => ρ' l | none => ρ l') = _
    cases h : inv m (newLs (keys g0) (keys g1)) l' with
    | none => rfl
    | some l =>
      obtain ⟨h1, h2⟩ := inv_some h
      exact absurd (h2 ▸ freshLs_spec hfresh l h1) hl'
  have ρn_of : ∀ {y : Nat}, y ∈ keys g0 ++ newLs (keys g0) (keys g1) → ρn (m y) = ρ' y := by
    intro y hy
    show (match inv m _ (m y) with | some l => ρ' l | none => ρ (m y)) = _
    cases h : inv m (newLs (keys g0) (keys g1)) (m y) with
    | some l =>
      obtain ⟨h1, h2⟩ := inv_some h
      rw [minj h1 hy h2]
    | none =>
      rcases List.mem_append.1 hy with h1 | h1
      · have hn := hget_not_none h1
        rw [hkeep y hn, ρc_of hn]
      · exact absurd rfl (inv_none h y h1)
  have hwr : ∀ {l' : Nat}, upds G (appH (renH m g1) (absL G m g0)) l' = match hget (renH m g1) l' with | some b => some b | none => match hget (absL G m g0) l' with | some b => some b | none => G l' := by
    intro l'
    rw [appH_eq, upds_eq, hget_append, upds_eq]
    cases hget (renH m g1) l' <;> rfl
  -- a label of the caller's: out of g1, out of the nil slices, or as it was
  have kinds : ∀ {l' : Nat} {b' : Blk}, upds G (appH (renH m g1) (absL G m g0)) l' = some b' →
      (∃ l b, hget g1 l = some b ∧ m l = l' ∧ b' = b.ren m) ∨
      (∃ l b, hget g0 l = some b ∧ m l = l' ∧ b' = b.ren m ∧ G l' = none ∧ l ∉ keys g1) ∨
      (G l' = some b' ∧ ∀ l ∈ keys g1, m l ≠ l') := by
    intro l' b' h
    rw [hwr] at h
    cases h1 : hget (renH m g1) l' with
    | some c =>
      rw [h1] at h; cases h
      have hm := hget_mem h1
      have : ∀ {g : List (Nat × Blk)}, (l', b') ∈ renH m g → ∃ l b, (l, b) ∈ g ∧ m l = l' ∧ b' = b.ren m := by
        intro g
        induction g with
        | nil => intro h; cases h
        | cons z r ih =>
          obtain ⟨k, u⟩ := z
          intro h
          rcases List.mem_cons.1 h with h | h
          · cases h; exact ⟨k, u, by simp, rfl, rfl⟩
          · obtain ⟨l, b, q1, q2⟩ := ih h; exact ⟨l, b, List.mem_cons_of_mem _ q1, q2⟩
      obtain ⟨l, b, q1, q2, q3⟩ := this hm
      exact .inl ⟨l, b, hget_of_mem C1 q1, q2, q3⟩
    | none =>
      have hno : ∀ l ∈ keys g1, m l ≠ l' := by
        intro l hl e
        rw [hget_none_iff, keys_renH, mapN_eq] at h1
        exact h1 (List.mem_map.2 ⟨l, hl, e⟩)
      rw [h1] at h
      simp only at h
      cases h2 : hget (absL G m g0) l' with
      | some c =>
        rw [h2] at h; cases h
        obtain ⟨l, b, q1, q2, q3, q4⟩ := absL_spec (hget_mem h2)
        exact .inr (.inl ⟨l, b, hget_of_mem C0 q1, q2, q3, q4, fun hl => hno l hl q2⟩)
      | none => rw [h2] at h; exact .inr (.inr ⟨h, hno⟩)
  have defined : ∀ {y : Nat}, y ∈ keys g0 ++ newLs (keys g0) (keys g1) → upds G (appH (renH m g1) (absL G m g0)) (m y) ≠ none := by
    intro y hy
    rw [hwr]
    cases h1 : hget (renH m g1) (m y) with
    | some c => simp
    | none =>
      rcases List.mem_append.1 hy with h2 | h2
      · have hn := hget_not_none h2
        cases hb : hget g0 y with
        | none => exact absurd hb hn
        | some b =>
          cases hG : G (m y) with
          | some c => cases hget (absL G m g0) (m y) <;> simp
          | none =>
            have := absL_has (hget_mem hb) hG
            cases h3 : hget (absL G m g0) (m y) with
            | some c => simp
            | none =>
              rw [hget_none_iff, keys_eq] at h3
              exact absurd (List.mem_map.2 ⟨_, this, rfl⟩) h3
      · rw [hget_none_iff, keys_renH, mapN_eq] at h1
        exact absurd (List.mem_map.2 ⟨y, ((newLs_mem _ _).1 h2).1, rfl⟩) h1
  have defined' : ∀ {l' : Nat}, G l' ≠ none → upds G (appH (renH m g1) (absL G m g0)) l' ≠ none := by
    intro l' h
    rw [hwr]
    cases hget (renH m g1) l' with
    | some c => simp
    | none => cases hget (absL G m g0) l' with
      | some c => simp
      | none => exact h
  have get1 : ∀ {l : Nat} {b : Blk}, hget g1 l = some b → hget (appH g1 g0) l = some b := by
    intro l b h
    rw [appH_eq, hget_append, upds_eq, h]
  have mem1 : ∀ {l : Nat} {b : Blk}, hget g1 l = some b → l ∈ keys g0 ++ newLs (keys g0) (keys g1) := fun h => memA (by rw [get1 h]; simp)
  -- an untouched label's place against one of the contract's
  have notCE : ∀ {l' : Nat} {b' : Blk} {p1 : Place}, G l' = some b' → (∀ l ∈ keys g1, m l ≠ l') → b'.real → ρ l' = some p1 → ¬ CE ρc g0 p1.b := by
    intro l' b' p1 hG hno hv' e1
    rintro ⟨l3, b3, p3, h3, hm3, e3, e4⟩
    have hn3 : hget g0 l3 ≠ none := by rw [h3]; simp
    rw [ρc_of hn3] at e3
    obtain ⟨c, hc, hcl, hcm⟩ := (use h3).2 p3 e3
    have hne : m l3 ≠ l' := hno l3 (Cm _ _ (hget_mem h3) hm3)
    exact H.inj (m l3) l' c b' p3 p1 hne hc hG (hcm hm3) hv' e3 e1 e4
  have notZ : ∀ {l' : Nat} {b' : Blk} {p1 : Place}, G l' = some b' → (∀ l ∈ keys g1, m l ≠ l') → b'.mut = true → ρ l' = some p1 → ρ'.z p1.b = none := by
    intro l' b' p1 hG hno hv' e1
    cases hz : ρ'.z p1.b with
    | none => rfl
    | some o =>
      exfalso
      rcases M'.zi p1.b (by rw [hz]; simp) with h | h | h
      · exact h (H.zap l' b' p1 hG hv' e1)
      · exact notCE hG hno (Blk.real_of_mut hv') e1 h
      · have := (H.blk _ _ hG).lt (Blk.real_of_mut hv') e1
        omega
  have far : ∀ {l' l : Nat} {b' b : Blk} {p1 p2 : Place}, G l' = some b' → (∀ l ∈ keys g1, m l ≠ l') → hget g1 l = some b → b'.real → b.real → (b'.mut = true ∨ b.mut = true) →
      ρ l' = some p1 → ρ' l = some p2 → p1.b ≠ p2.b := by
    intro l' l b' b p1 p2 hG hno hb hv' hvb hmm e1 e2
    have hlt := (H.blk _ _ hG).lt hv' e1
    cases h0 : hget g0 l with
    | some b0 =>
      have hmut := Cc l b (hget_mem hb) b0 h0
      have hn0 : hget g0 l ≠ none := by rw [h0]; simp
      rw [hkeep l hn0, ρc_of hn0] at e2
      obtain ⟨c, hc, hcl, hcm⟩ := (use h0).2 p2 e2
      have hne : m l ≠ l' := hno l (hget_some_mem (by rw [hb]; simp))
      exact (H.inj (m l) l' c b' p2 p1 hne hc hG (hcm hmut) hv' e2 e1).symm
    | none =>
      intro e
      cases hbm : b.mut with
      | true =>
        rcases M'.m l b p2 (get1 hb) hbm e2 with h | h
        · exact notCE hG hno hv' e1 (e ▸ h)
        · rw [e] at hlt; omega
      | false =>
        have hm' : b'.mut = true := hmm.resolve_right (by rw [hbm]; simp)
        rcases M'.a l b p2 (get1 hb) hvb e2 with (⟨l3, b3, p3, h3, hr3, e3, e4⟩ | h) | h
        · have hn3 : hget g0 l3 ≠ none := by rw [h3]; simp
          have e3' := e3
          rw [ρc_of hn3] at e3
          obtain ⟨c, hc, hcl, hcm⟩ := (use h3).2 p3 e3
          cases hm3 : b3.mut with
          | true => exact notCE hG hno hv' e1 ⟨l3, b3, p3, h3, hm3, e3', e4.trans e.symm⟩
          | false =>
            have key : m l3 = l' → False := by
              intro el
              cases hnb : newBor (keys g0) g1 with
              | true =>
                have hla : lentOk G m g0 = true := by
                  unfold aliasOk at halias
                  rw [hnb] at halias
                  exact halias
                have := lentOk_spec hla l3 b3 (hget_mem h3) hm3 b' (el ▸ hG)
                rw [hm'] at this
                cases this
              | false =>
                have hz : ρ'.z p2.b ≠ none := by
                  rcases newBor_spec hnb l b (hget_mem hb) (fun hl => hget_not_none hl h0) (Blk.live_of_real hvb) with q | ⟨ks, n, f, rfl⟩ | ⟨cs, rfl⟩
                  · rw [hbm] at q; cases q
                  · rcases H'.blk l _ (get1 hb) with ⟨q1, q2⟩ | ⟨pl, q1, q2, _⟩ | ⟨pl, arr, T, fz, q1, q2, q3, q4, _⟩
                    · rw [q1] at e2; cases e2
                    · rcases hvb with hv | hv
                      · cases hv
                      · exact absurd q2 hv
                    · rw [q1] at e2; cases e2
                      rw [q4 rfl]; simp
                  · obtain ⟨pl, arr, T, fz, q1, q2, q3, q4, _⟩ := H'.blk l _ (get1 hb)
                    rw [q1] at e2; cases e2
                    rw [q4 rfl]; simp
                exact hz (e ▸ notZ hG hno hm' e1)
            exact H.inj l' (m l3) b' c p1 p3 (fun q => key q.symm) hG hc hm' (hcl hr3) e1 e3 (e.trans e4.symm)
        · exact h (e ▸ H.zap l' b' p1 hG hm' e1)
        · rw [e] at hlt; omega
  have ceE : ∀ {k : Nat}, CE ρc g0 k → E k ∨ w0.heap.size ≤ k := by
    rintro k ⟨l3, b3, p3, h3, hm3, e3, e4⟩
    have hn3 : hget g0 l3 ≠ none := by rw [h3]; simp
    rw [ρc_of hn3] at e3
    obtain ⟨c, hc, hcl, hcm⟩ := (use h3).2 p3 e3
    rw [← e4]
    exact M.m (m l3) c p3 hc (hcm hm3) e3
  refine ⟨v, ρn, rfl, ?_, ⟨?_, ?_, ?_, ?_, H'.zok, ?_⟩, ?_, ⟨?_, ?_, ?_, ?_, M.za⟩, fun l hl => ρn_old hl, M'.zx, ?_⟩
  · rw [Den_ren]
    exact Den.congr hzn _ _ (fun y hy => (ρn_of (memA (Cr y hy))).symm) hv
  · -- the blocks
    intro l' b' h
    rcases kinds h with ⟨l, b, hb, rfl, rfl⟩ | ⟨l, b, hb, rfl, rfl, hG, hl1⟩ | ⟨hG, hno⟩
    · have hB := H'.blk l b (get1 hb)
      have hy : ∀ y ∈ b.labs, ρn (m y) = ρ' y := fun y hy => ρn_of (memA (Cs1 l b (hget_mem hb) y hy))
      have hl := ρn_of (mem1 hb)
      cases b with
      | dead => trivial
      | one mb cs =>
        obtain ⟨pl, arr, T, fz, e1, e2, e3, e3', e4, e5⟩ := hB
        refine ⟨pl, arr, T, fz, hl.trans e1, e2, e3, e3', by rw [renL_length]; exact e4, ?_⟩
        rw [renL_length, DenL_ren]
        exact DenL.congr hzn _ _ (fun y hy' => (hy y (by simpa [Blk.labs] using hy')).symm) e5
      | rows mb ks n f =>
        rcases hB with ⟨e1, e2⟩ | ⟨pl, e1, e2⟩ | ⟨pl, arr, T, fz, e1, e2⟩
        · exact .inl ⟨hl.trans e1, e2⟩
        · exact .inr (.inl ⟨pl, hl.trans e1, e2⟩)
        · exact .inr (.inr ⟨pl, arr, T, fz, hl.trans e1, e2⟩)
      | map mb kk ks ag keys f =>
        obtain ⟨pl, es, clk, e1, e2⟩ := hB
        exact ⟨pl, es, clk, hl.trans e1, e2⟩
    · have hn : hget g0 l ≠ none := by rw [hb]; simp
      have hEB := EntH_mem hheap (renH_mem (m := m) (hget_mem hb))
      cases b with
      | dead => trivial
      | one mb cs => simp only [Blk.ren, EntB, hG] at hEB
      | rows mb ks n f =>
        simp only [Blk.ren, EntB, hG] at hEB
        refine .inl ⟨?_, hEB⟩
        rw [ρn_of (mem0 hn), hkeep l hn, ρc_of hn]
        exact H.tight _ hG
      | map mb kk ks ag keys f => simp only [Blk.ren, EntB, hG] at hEB
    · by_cases hv' : b'.real
      · refine (H.blk l' b' hG).mono (ρn_old (by rw [hG]; simp)) (fun y hy => ρn_old (H.scp _ _ hG y hy)) M'.zx fun pl hpl => ?_
        exact K'.block pl.b ((H.blk _ _ hG).lt hv' hpl) (notCE hG hno hv' hpl)
      · exact (H.blk l' b' hG).unreal hv' (ρn_old (by rw [hG]; simp))
  · -- apart
    intro l1 l2 b1 b2 p1 p2 hn h1 h2 hm hv2 e1 e2
    rcases kinds h1 with ⟨x1, c1, hc1, rfl, rfl⟩ | ⟨x1, c1, hc1, rfl, rfl, hG1, hk1⟩ | ⟨hG1, hno1⟩
    · rw [ρn_of (mem1 hc1)] at e1
      rw [Blk.mut_ren] at hm
      rcases kinds h2 with ⟨x2, c2, hc2, rfl, rfl⟩ | ⟨x2, c2, hc2, rfl, rfl, hG2, hk2⟩ | ⟨hG2, hno2⟩
      · rw [ρn_of (mem1 hc2)] at e2
        rw [Blk.real_ren] at hv2
        exact H'.inj x1 x2 c1 c2 p1 p2 (fun e => hn (by rw [e])) (get1 hc1) (get1 hc2) hm hv2 e1 e2
      · have hn2 : hget g0 x2 ≠ none := by rw [hc2]; simp
        rw [ρn_of (mem0 hn2), hkeep x2 hn2, ρc_of hn2, H.tight _ hG2] at e2
        cases e2
      · rw [ρn_old (by rw [hG2]; simp)] at e2
        exact (far hG2 hno2 hc1 hv2 (Blk.real_of_mut hm) (.inr hm) e2 e1).symm
    · have hn1 : hget g0 x1 ≠ none := by rw [hc1]; simp
      rw [ρn_of (mem0 hn1), hkeep x1 hn1, ρc_of hn1, H.tight _ hG1] at e1
      cases e1
    · rw [ρn_old (by rw [hG1]; simp)] at e1
      rcases kinds h2 with ⟨x2, c2, hc2, rfl, rfl⟩ | ⟨x2, c2, hc2, rfl, rfl, hG2, hk2⟩ | ⟨hG2, hno2⟩
      · rw [ρn_of (mem1 hc2)] at e2
        rw [Blk.real_ren] at hv2
        exact far hG1 hno1 hc2 (Blk.real_of_mut hm) hv2 (.inl hm) e1 e2
      · have hn2 : hget g0 x2 ≠ none := by rw [hc2]; simp
        rw [ρn_of (mem0 hn2), hkeep x2 hn2, ρc_of hn2, H.tight _ hG2] at e2
        cases e2
      · rw [ρn_old (by rw [hG2]; simp)] at e2
        exact H.inj l1 l2 b1 b2 p1 p2 hn hG1 hG2 hm hv2 e1 e2
  · -- what is named is defined
    intro l' b' h y hy
    rcases kinds h with ⟨l, b, hb, rfl, rfl⟩ | ⟨l, b, hb, rfl, rfl, hG, hl1⟩ | ⟨hG, hno⟩
    · rw [Blk.labs_ren] at hy
      obtain ⟨z, hz, rfl⟩ := List.mem_map.1 hy
      exact defined (memA (Cs1 l b (hget_mem hb) z hz))
    · rw [Blk.labs_ren] at hy
      obtain ⟨z, hz, rfl⟩ := List.mem_map.1 hy
      exact defined (mem0 (Cs l b (hget_mem hb) z hz))
    · exact defined' (H.scp _ _ hG y hy)
  · -- what is not defined has no place
    intro l' hl'
    have hG : G l' = none := by
      cases h : G l' with
      | none => rfl
      | some b => exact absurd hl' (defined' (by rw [h]; simp))
    show (match inv m _ l' with | some l => ρ' l | none => ρ l') = none
    cases h : inv m (newLs (keys g0) (keys g1)) l' with
    | none => exact H.tight _ hG
    | some l =>
      obtain ⟨h1, h2⟩ := inv_some h
      exact absurd hl' (h2 ▸ defined (List.mem_append.2 (.inr h1)))
  · -- nothing of our own is frozen
    intro l' b' p h hm hp
    rcases kinds h with ⟨l, b, hb, rfl, rfl⟩ | ⟨l, b, hb, rfl, rfl, hG, hl1⟩ | ⟨hG, hno⟩
    · rw [ρn_of (mem1 hb)] at hp
      rw [Blk.mut_ren] at hm
      exact H'.zap l b p (get1 hb) hm hp
    · have hn : hget g0 l ≠ none := by rw [hb]; simp
      rw [ρn_of (mem0 hn), hkeep l hn, ρc_of hn, H.tight _ hG] at hp
      cases hp
    · rw [ρn_old (by rw [hG]; simp)] at hp
      exact notZ hG hno hm hp
  · -- what was there
    refine ⟨K'.os.trans K.os, K'.tape.trans K.tape, K'.output.trans K.output, Nat.le_trans K.size K'.size, fun k hk hE => ?_⟩
    rw [K'.block k (Nat.lt_of_lt_of_le hk K.size) ?_]
    · exact K.block k hk hE
    · intro h
      rcases ceE h with h | h
      · exact hE h
      · omega
  · -- the mutable labels
    intro l' b' pl h hm hpl
    rcases kinds h with ⟨l, b, hb, rfl, rfl⟩ | ⟨l, b, hb, rfl, rfl, hG, hl1⟩ | ⟨hG, hno⟩
    · rw [ρn_of (mem1 hb)] at hpl
      rw [Blk.mut_ren] at hm
      rcases M'.m l b pl (get1 hb) hm hpl with h | h
      · exact ceE h
      · right; have := K.size; omega
    · have hn : hget g0 l ≠ none := by rw [hb]; simp
      rw [ρn_of (mem0 hn), hkeep l hn, ρc_of hn, H.tight _ hG] at hpl
      cases hpl
    · rw [ρn_old (by rw [hG]; simp)] at hpl
      exact M.m l' b' pl hG hm hpl
  · -- all labels
    intro l' b' pl h hr hpl
    rcases kinds h with ⟨l, b, hb, rfl, rfl⟩ | ⟨l, b, hb, rfl, rfl, hG, hl1⟩ | ⟨hG, hno⟩
    · rw [ρn_of (mem1 hb)] at hpl
      rw [Blk.real_ren] at hr
      rcases M'.a l b pl (get1 hb) hr hpl with (⟨l3, b3, p3, h3, hr3, e3, e4⟩ | h) | h
      · have hn3 : hget g0 l3 ≠ none := by rw [h3]; simp
        rw [ρc_of hn3] at e3
        obtain ⟨c, hc, hcl, hcm⟩ := (use h3).2 p3 e3
        rw [← e4]
        exact M.a (m l3) c p3 hc (hcl hr3) e3
      · rcases M.zi pl.b h with h | h | h
        · exact .inl (M.za _ (.inl h))
        · exact .inl (M.za _ (.inr h))
        · exact .inr h
      · right; have := K.size; omega
    · have hn : hget g0 l ≠ none := by rw [hb]; simp
      rw [ρn_of (mem0 hn), hkeep l hn, ρc_of hn, H.tight _ hG] at hpl
      cases hpl
    · rw [ρn_old (by rw [hG]; simp)] at hpl
      exact M.a l' b' pl hG hr hpl
  · exact fun b o h => M'.zx b o (M.zx b o h)
  · intro b h
    rcases M'.zi b h with h | h | h
    · exact M.zi b h
    · exact .inr (ceE h)
    · have := K.size
      exact .inr (.inr (by omega))
  · intro l hl
    rw [labs_ren] at hl
    obtain ⟨z, hz, rfl⟩ := List.mem_map.1 hl
    exact defined (memA (Cr z hz))
end
end Go.Sym
