/- What came in from outside, in the engine's words: every block that stood is frozen. -/
import Derived.Test.YtpggcpinebbjgaaXE24
import Derived.Deep.Slices
import Derived.OpenShut
import Derived.Below
namespace Go.Sym
set_option linter.unusedVariables false
set_option linter.unusedSimpArgs false

mutual
/-- A datum fits its kind. -/
def WfD : Kd → D → Prop
  | .int k, d => inR k d.toI
  | .bool, _ => True
  | .str, d => d.toS.size ≤ maxLen
  | .sl ks, d => d.toN ≤ maxLen ∧ ∀ r, r < d.toN → WfR ks (d.toF r) 0
  | .pt _ ks, d => ∀ r, r < d.toN → WfR ks (d.toF r) 0
def WfR : List Kd → (Nat → D) → Nat → Prop
  | [], _, _ => True
  | k :: ks, g, c => WfD k (g c) ∧ WfR ks g (c + 1)
end
theorem WfR_iff : ∀ {ks : List Kd} {g : Nat → D} {c : Nat}, WfR ks g c ↔ ∀ j (h : j < ks.length), WfD (ks[j]'h) (g (c + j))
  | [], g, c => by simp only [WfR, true_iff]; intro j h; simp at h
  | k :: ks, g, c => by
    simp only [WfR, WfR_iff (ks := ks)]
    constructor
    · rintro ⟨h1, h2⟩ j hj
      cases j with
      | zero => exact h1
      | succ j => have := h2 j (by simpa using hj); rw [show c + 1 + j = c + (j + 1) by omega] at this; simpa using this
    · intro h
      refine ⟨h 0 (by simp), fun j hj => ?_⟩
      have := h (j + 1) (by simpa using hj)
      rw [show c + 1 + j = c + (j + 1) by omega]
      simpa using this

mutual
/-- The kinds of a type's cells, where they lie one behind the other. -/
def kdsL (T : List (Nat × TI)) : Nat → Nat → Option (List Kd)
  | 0, _ => none
  | fuel + 1, t => match tget T t with
    | none => none
    | some ti => match ti.d with
      | .int k => some [.int k]
      | .bool => some [.bool]
      | .str => some [.str]
      | .slice e => match tget T e, kdsL T fuel e with
        | some te, some ks => match Nat.beq (lenK ks) te.size, Nat.ble 1 te.size with | true, true => some [.sl ks] | _, _ => none
        | _, _ => none
      | .struct fs => kdsLF T fuel fs 0
      | _ => none
def kdsLF (T : List (Nat × TI)) : Nat → List (Nat × Nat) → Nat → Option (List Kd)
  | 0, _, _ => none
  | _ + 1, [], _ => some []
  | fuel + 1, (o, t) :: r, off => match tget T t, kdsL T fuel t with
    | some ti, some a => match Nat.beq o off, Nat.beq (lenK a) ti.size, kdsLF T fuel r (off + ti.size) with
      | true, true, some b => some (apK a b)
      | _, _, _ => none
    | _, _ => none
end

theorem inR_of_wf {k : IntKind} {n : Int} (h : (Lit.int k n).wf = true) : inR k n := by
  simp only [Lit.wf, Bool.and_eq_true, decide_eq_true_eq] at h
  obtain ⟨h1, h2⟩ := h
  cases k <;> exact ⟨h1, h2⟩
theorem cell_block {w : World} {a : Addr} {v : Value} (h : w.cell? a = some v) : ∃ arr T fz, w.heap[a.block]? = some (.cells arr T fz) ∧ a.spot = none ∧ arr[a.off]? = some v := by
  unfold World.cell? at h
  split at h
  · rename_i arr T fz hb
    split at h
    · cases h
    · rename_i hs
      exact ⟨arr, T, fz, hb, by simpa using hs, h⟩
  · cases h

section
variable {H : Type} {enc : TypeId × Value → H} {P : Program} {w : World} {T : List (Nat × TI)}

/-- Cells, each of its kind and fit. -/
def DenW (w : World) (ks : List Kd) (g : Nat → D) (cs : List Value) (off : Nat) : Prop :=
  ∀ j (h : j < ks.length), ∃ u, cs[off + j]? = some u ∧ DenD (fun b => w.heap[b]?) (ks[j]'h) (g j) u ∧ WfD (ks[j]'h) (g j)
theorem cellsOf_eq (hT : TOk P T) {t : Nat} {ti : TI} (h : tget T t = some ti) : P.cellsOf t = ti.size := by
  obtain ⟨i, z, hi, _, hs, _⟩ := (hT _ _ h).i
  simp [Program.cellsOf, hi, hs]
theorem DenW.one {k : Kd} {d : D} {v : Value} (h1 : DenD (fun b => w.heap[b]?) k d v) (h2 : WfD k d) : DenW w [k] (fun _ => d) [v] 0 := by
  intro j hj
  have : j = 0 := by simpa using hj
  subst this
  exact ⟨v, rfl, h1, h2⟩
/-- The rows behind a slice that came in. -/
theorem slice_rows (hT : TOk P T) {e : Nat} {te : TI} {ks : List Kd} (hte : tget T e = some te) (hk : ks.length = te.size) (h1 : 1 ≤ te.size)
    {a : Addr} {len cap n : Nat} {D0 : Nat → DataW H} {Pl : Nat → List MemPlace} (hl : len ≤ cap) (h0 : 0 < cap)
    (hi : ∀ i, i < cap → ∃ cs', w.cells? 0 (a.add (i * P.cellsOf e)) (P.cellsOf e) = some cs' ∧ DataW.trod enc P w 0 (fun _ => true) true n e cs' = some (D0 i, Pl i))
    (ih : ∀ (fl : Nat) (cs : List Value) (x : DataW H × List MemPlace), DataW.trod enc P w 0 (fun _ => true) true fl e cs = some x → ∃ g, DenW w ks g cs 0) :
    ∃ (f : Nat → Nat → D) (arr : Array Value) (TT : TypeId) (fz : Nat × Nat), a.spot = none ∧ w.heap[a.block]? = some (.cells arr TT fz) ∧ a.off + cap * ks.length ≤ arr.size ∧
      (∀ r, r < cap → DenR (fun b => w.heap[b]?) ks (f r) 0 arr (a.off + r * ks.length)) ∧ ∀ r, r < cap → WfR ks (f r) 0 := by
  have hC : P.cellsOf e = ks.length := by rw [cellsOf_eq hT hte, hk]
  rw [hC] at hi
  have hkl : 0 < ks.length := by omega
  have cell : ∀ r, r < cap → ∀ j, j < ks.length → ∃ v, w.cell? (a.add (r * ks.length + j)) = some v := by
    intro r hr j hj
    obtain ⟨cs', g1, _⟩ := hi r hr
    obtain ⟨_, g2, g3⟩ := World.cells?_some g1
    have := g3 j hj
    rw [Go.Deep.add_add, List.getElem?_eq_getElem (by omega)] at this
    exact ⟨_, this⟩
  obtain ⟨v0, hv0⟩ := cell 0 h0 0 hkl
  have ha0 : a.add (0 * ks.length + 0) = a := by simp [Addr.add]
  rw [ha0] at hv0
  obtain ⟨arr, TT, fz, hb, hsp, _⟩ := cell_block hv0
  have hadd : ∀ i, (a.add i).block = a.block ∧ (a.add i).off = a.off + i ∧ ((a.add i).spot = none) := by
    intro i
    unfold Addr.add
    by_cases h : i = 0
    · subst h; simp [hsp]
    · simp [h, hsp]
  have at' : ∀ i v, w.cell? (a.add i) = some v → arr[a.off + i]? = some v := by
    intro i v h
    obtain ⟨arr', TT', fz', q1, _, q3⟩ := cell_block h
    rw [(hadd i).1, hb] at q1
    cases q1
    rw [(hadd i).2.1] at q3
    exact q3
  have rows : ∀ r, ∃ g : Nat → D, r < cap → DenR (fun b => w.heap[b]?) ks g 0 arr (a.off + r * ks.length) ∧ WfR ks g 0 := by
    intro r
    by_cases hr : r < cap
    · obtain ⟨cs', g1, g2⟩ := hi r hr
      obtain ⟨g, hg⟩ := ih _ _ _ g2
      obtain ⟨_, g3, g4⟩ := World.cells?_some g1
      refine ⟨g, fun _ => ⟨?_, ?_⟩⟩
      · rw [DenR_iff]
        intro j hj
        obtain ⟨u, q1, q2, _⟩ := hg j hj
        rw [Nat.zero_add] at q1 ⊢
        refine ⟨u, ?_, q2⟩
        have := g4 j hj
        rw [Go.Deep.add_add, q1] at this
        rw [Nat.add_assoc]
        exact at' _ _ this
      · rw [WfR_iff]
        intro j hj
        obtain ⟨u, _, _, q3⟩ := hg j hj
        rw [Nat.zero_add]
        exact q3
    · exact ⟨fun _ => .i 0, fun h => absurd h hr⟩
  refine ⟨fun r => Classical.choose (rows r), arr, TT, fz, hsp, hb, ?_, fun r hr => (Classical.choose_spec (rows r) hr).1, fun r hr => (Classical.choose_spec (rows r) hr).2⟩
  obtain ⟨v, hv⟩ := cell (cap - 1) (by omega) (ks.length - 1) (by omega)
  have := at' _ _ hv
  have hlt : a.off + ((cap - 1) * ks.length + (ks.length - 1)) < arr.size := by
    rcases Nat.lt_or_ge (a.off + ((cap - 1) * ks.length + (ks.length - 1))) arr.size with h | h
    · exact h
    · rw [Array.getElem?_eq_none h] at this; cases this
  have : cap * ks.length = (cap - 1) * ks.length + ks.length := by
    rw [← Nat.succ_mul]; congr 1; omega
  omega

theorem trod_lift (hT : TOk P T) : ∀ fuel,
    (∀ t ks, kdsL T fuel t = some ks → ∀ (fl : Nat) (cs : List Value) (x : DataW H × List MemPlace), DataW.trod enc P w 0 (fun _ => true) true fl t cs = some x → ∃ g, DenW w ks g cs 0) ∧
    (∀ (fs : List (Nat × Nat)) (off : Nat) (ks : List Kd), kdsLF T fuel fs off = some ks → ∀ (cs : List Value), (∀ (i o t : Nat), fs[i]? = some (o, t) → ∃ (fl : Nat) (x : DataW H × List MemPlace), DataW.trod enc P w 0 (fun _ => true) true fl t ((cs.drop o).take (P.cellsOf t)) = some x) → ∃ g, DenW w ks g cs off)
  | 0 => ⟨fun t ks h => by simp [kdsL] at h, fun fs off ks h => by simp [kdsLF] at h⟩
  | fuel + 1 => by
    obtain ⟨ih1, ih2⟩ := trod_lift hT fuel
    refine ⟨fun t ks h fl cs x hx => ?_, fun fs off ks h cs hf => ?_⟩
    · simp only [kdsL] at h
      split at h
      · cases h
      · rename_i ti hti
        obtain ⟨td, sz, by', ze⟩ := ti
        simp only at h
        split at h
        · cases h
          obtain ⟨n, rfl, rfl, hw⟩ := DataW.trod_int (int_shape hT hti) hx
          exact ⟨_, DenW.one (d := .i n) (by simp only [DenD, D.toI]) (by simp only [WfD, D.toI]; exact inR_of_wf hw)⟩
        · cases h
          obtain ⟨dd, hd1, hd2⟩ := (hT _ _ hti).d
          have hu : P.underlying t = some .bool := by cases dd <;> simp only [tdOk] at hd2 <;> first | exact hd1 | cases hd2
          obtain ⟨b, rfl, rfl⟩ := DataW.trod_bool hu hx
          exact ⟨_, DenW.one (d := .b b) (by simp only [DenD, D.toB]) (by simp only [WfD])⟩
        · cases h
          obtain ⟨s, rfl, rfl, hs⟩ := DataW.trod_string (str_shape hT hti) hx
          exact ⟨_, DenW.one (d := .s s) (by simp only [DenD, D.toS]) (by simp only [WfD, D.toS]; exact hs)⟩
        · rename_i e
          split at h
          · rename_i te ks' hte hks
            split at h
            · rename_i h1 h2
              cases h
              have h1 := Nat.eq_of_beq_eq_true h1
              have h2 := Nat.le_of_ble_eq_true h2
              rw [lenK_eq] at h1
              rcases Go.Deep.open_slice (slice_shape hT hti) hx with ⟨rfl, rfl⟩ | ⟨a, len, cap, m, n, D0, Pl, rfl, _, hl, hm, hmm, rfl, hi⟩
              · exact ⟨_, DenW.one (d := .l 0 fun _ _ => .i 0) (by simp only [DenD]; exact .inl ⟨rfl, .inl trivial⟩) (by simp only [WfD, D.toN]; exact ⟨Nat.zero_le _, fun r hr => absurd hr (Nat.not_lt_zero _)⟩)⟩
              · simp only [if_true] at hmm
                subst hmm
                by_cases h0 : 0 < m
                · obtain ⟨f, arr, TT, fz, q1, q2, q3, q4, q5⟩ := slice_rows hT hte h1 h2 hl h0 hi (fun fl cs x hx => ih1 _ _ hks fl cs x hx)
                  obtain ⟨b, off, sp⟩ := a
                  simp only at q1 q2 q3 q4
                  subst q1
                  refine ⟨_, DenW.one (d := .l len f) ?_ ?_⟩
                  · simp only [DenD, D.toN, D.toF]
                    by_cases hlen : len = 0
                    · exact .inl ⟨hlen, .inr ⟨_, _, by rw [hlen], fun _ => rfl⟩⟩
                    · exact .inr ⟨b, off, m, arr, TT, fz, rfl, hl, q2, q3, fun r hr => q4 r (by omega)⟩
                  · simp only [WfD, D.toN, D.toF]
                    exact ⟨by omega, fun r hr => q5 r (by omega)⟩
                · have : m = 0 := by omega
                  subst this
                  have : len = 0 := by omega
                  subst this
                  exact ⟨_, DenW.one (d := .l 0 fun _ _ => .i 0) (by simp only [DenD]; exact .inl ⟨rfl, .inr ⟨_, _, rfl, fun h => absurd h (by omega)⟩⟩) (by simp only [WfD, D.toN]; exact ⟨Nat.zero_le _, fun r hr => absurd hr (Nat.not_lt_zero _)⟩)⟩
            · cases h
          · cases h
        · rename_i fs
          obtain ⟨gs, hu, hfs, _⟩ := struct_shape hT hti
          obtain ⟨xs, n, _, _, hlen, hxl, hg⟩ := DataW.trod_struct hu hx
          refine ih2 fs 0 ks h cs fun i o t' hi => ?_
          rw [← hfs, List.getElem?_map] at hi
          cases hgi : gs.toList[i]? with
          | none => rw [hgi] at hi; cases hi
          | some f =>
            rw [hgi] at hi
            simp only [Option.map_some, Option.some.injEq, Prod.mk.injEq] at hi
            obtain ⟨rfl, rfl⟩ := hi
            have hgi' : gs[i]? = some f := by simpa using hgi
            have := hg i f hgi'
            have hil : i < gs.size := (Array.getElem?_eq_some_iff.1 hgi').1
            rw [List.getElem?_eq_getElem (by omega)] at this
            exact ⟨n, _, this⟩
        · cases h
    · cases fs with
      | nil =>
        simp only [kdsLF, Option.some.injEq] at h
        subst h
        exact ⟨fun _ => .i 0, fun j hj => by simp at hj⟩
      | cons y r =>
        obtain ⟨o, t⟩ := y
        simp only [kdsLF] at h
        split at h
        · rename_i ti a hti hka
          split at h
          · rename_i b h1 h2 h3
            cases h
            have h1 := Nat.eq_of_beq_eq_true h1
            have h2 := Nat.eq_of_beq_eq_true h2
            subst h1
            rw [lenK_eq] at h2
            obtain ⟨fl, x, hx⟩ := hf 0 o t rfl
            obtain ⟨g1, hg1⟩ := ih1 t a hka fl _ x hx
            obtain ⟨g2, hg2⟩ := ih2 r (o + ti.size) b h3 cs (fun i o' t' hi => hf (i + 1) o' t' (by simpa using hi))
            refine ⟨fun j => if j < a.length then g1 j else g2 (j - a.length), ?_⟩
            rw [apK_eq]
            intro j hj
            by_cases hja : j < a.length
            · obtain ⟨u, q1, q2, q3⟩ := hg1 j hja
              rw [Nat.zero_add, List.getElem?_take] at q1
              split at q1
              · rw [List.getElem?_drop] at q1
                refine ⟨u, q1, ?_⟩
                simp only [hja, if_true, List.getElem_append_left hja]
                exact ⟨q2, q3⟩
              · cases q1
            · have hj' : j - a.length < b.length := by simp at hj; omega
              obtain ⟨u, q1, q2, q3⟩ := hg2 (j - a.length) hj'
              refine ⟨u, by rw [← q1]; congr 1; omega, ?_⟩
              simp only [hja, if_false, List.getElem_append_right (Nat.le_of_not_lt hja)]
              exact ⟨q2, q3⟩
          · cases h
        · cases h
/-- A value that came in is one cell of its kind. -/
theorem lift_one (hT : TOk P T) {t : Nat} {k : Kd} {v : Value} {d : DataW H} {p : List MemPlace} (fuel : Nat) (hk : kdsL T fuel t = some [k]) (hc : v.cells = #[v]) (h : DataW.Trod enc P w 0 (fun _ => true) true t v d p) :
    ∃ x : D, DenD (fun b => w.heap[b]?) k x v ∧ WfD k x := by
  obtain ⟨fl, h⟩ := h
  obtain ⟨g, hg⟩ := (trod_lift hT fuel).1 t [k] hk fl _ _ h
  obtain ⟨u, h1, h2, h3⟩ := hg 0 (by simp)
  rw [hc] at h1
  simp at h1
  subst h1
  exact ⟨g 0, h2, h3⟩
/-- Where a slice that came in lies. -/
theorem slice_place {z : Nat → Option Obj} (hz : ∀ b o, z b = some o → w.heap[b]? = some o) {ks : List Kd} {d : D} {v : Value} (h : DenD z (.sl ks) d v) :
    ∃ q : Option Place, ∀ (at' : Nat → Option Place) (l : Nat), at' l = q → Den ⟨at', z⟩ (.sl l 0 d.toN) v ∧ BlkOk ⟨at', z⟩ w l (.rows .bor ks d.toN d.toF) := by
  simp only [DenD] at h
  rcases h with ⟨h0, rfl | ⟨a, cap, rfl, hsp⟩⟩ | ⟨b, off, cap, arr, TT, fz, rfl, h1, h2, h3, h4⟩
  · refine ⟨none, fun at' l hl => ⟨?_, .inl ⟨hl, h0⟩⟩⟩
    simp only [Den]
    exact .inl ⟨hl, trivial, h0, trivial⟩
  · refine ⟨some ⟨a.block, a.off, ks.length, cap⟩, fun at' l hl => ⟨?_, .inr (.inl ⟨_, hl, h0, rfl, rfl⟩)⟩⟩
    simp only [Den]
    refine .inr ⟨_, a, hl, by rw [h0]; rfl, by rw [h0]; exact Nat.zero_le _, fun hc => ?_⟩
    have := hsp hc
    obtain ⟨b, off, sp⟩ := a
    simp only at this
    subst this
    simp [ptr]
  · refine ⟨some ⟨b, off, ks.length, cap⟩, fun at' l hl => ⟨?_, .inr (.inr ⟨_, arr, TT, fz, hl, hz _ _ h2, fun h => (by cases h), fun h => (by cases h), rfl, h1, h3, h4⟩)⟩⟩
    simp only [Den]
    exact .inr ⟨_, _, hl, rfl, by simpa using h1, fun _ => by simp [ptr]⟩
theorem BlkOk.rows_eqv {ρ : Env} {l : Nat} {m : Md} {ks : List Kd} {n : Nat} {f g : Nat → Nat → D} (h : BlkOk ρ w l (.rows m ks n f)) (e : RowsEq ks n f g) : BlkOk ρ w l (.rows m ks n g) := by
  rcases h with h | h | ⟨pl, arr, TT, fz, e1, e2, e3, e3', e4, e5, e6, e7⟩
  · exact .inl h
  · exact .inr (.inl h)
  · exact .inr (.inr ⟨pl, arr, TT, fz, e1, e2, e3, e3', e4, e5, e6, fun r hr => DenR.eqv (e.h r hr) (e7 r hr)⟩)
/-- A heap that is only read. -/
theorem HSat.read {at' : Nat → Option Place} {g : List (Nat × Blk)} (hat : ∀ l, hget g l = none → at' l = none)
    (hb : ∀ l b, hget g l = some b → BlkOk ⟨at', fun b => w.heap[b]?⟩ w l b ∧ b.mut = false ∧ b.labs = []) : HSat ⟨at', fun b => w.heap[b]?⟩ (hget g) w :=
  ⟨fun l b h => (hb l b h).1, fun l1 l2 b1 b2 p1 p2 _ h1 _ hm => (by rw [(hb l1 b1 h1).2.1] at hm; cases hm), fun l b h y hy => (by rw [(hb l b h).2.2] at hy; cases hy), hat, fun _ _ h => h,
    fun l b p h hm => (by rw [(hb l b h).2.1] at hm; cases hm)⟩
/-- A law that reads and says true. -/
theorem law_run {f : Nat} {ct : CT} (hg : Good P f ct) {x : ct.X} (hpre : ct.pre x) (hres : ct.res x = .b true) {ρ : Env} {vals : List Value} (hargs : DenL ρ (ct.args x) vals) (hH : HSat ρ (hget (ct.g0 x)) w)
    (hmut : ∀ l b, hget (ct.g0 x) l = some b → b.mut = false) : Calls P f vals.toArray w fun e w' => e = .returned (.bool true) ∧ Go.RowKit.Below w.heap.size w w' := by
  refine ((hg x hpre).2 ρ w vals hargs hH).mono ?_
  rintro e w' ⟨v, ρ', rfl, hv, _, K, _, _⟩
  rw [hres] at hv
  simp only [Den] at hv
  subst hv
  refine ⟨rfl, K.os, K.tape, K.output, K.size, fun k hk => K.block k hk ?_⟩
  rintro ⟨l, b, pl, h1, h2, _⟩
  rw [hmut l b h1] at h2
  cases h2
/-- Rows read back. -/
def decL {α : Type} (dec : (Nat → D) → α) (n : Nat) (f : Nat → Nat → D) : List α := (List.range n).map fun r => dec (f r)
theorem decL_length {α : Type} (dec : (Nat → D) → α) (n : Nat) (f : Nat → Nat → D) : (decL dec n f).length = n := by simp [decL]
theorem rowsEq_dec {α : Type} [Inhabited α] {ks : List Kd} {e : α → Nat → D} {dec : (Nat → D) → α} (h : ∀ g, rowEq ks g (e (dec g)) 0) (n : Nat) (f : Nat → Nat → D) : RowsEq ks n f (encL e (decL dec n f)) := by
  refine ⟨fun r hr => ?_⟩
  unfold encL
  have : (decL dec n f).getD r default = dec (f r) := by simp [decL, List.getD_eq_getElem?_getD, hr]
  rw [this]
  exact h _
end
end Go.Sym
