/- Appends do to the machine what the engine says. -/
import Derived.Test.YtpggcpinebbjgaaXL8
namespace Go.Sym
set_option linter.unusedVariables false
set_option linter.unusedSimpArgs false

theorem growBy_le (n : Nat) : ∀ (k c : Nat), c ≤ 2 * n + 1000 → Builtin.growBy n k c ≤ 2 * n + 1000
  | 0, c, h => by simpa [Builtin.growBy] using h
  | k + 1, c, h => by
    unfold Builtin.growBy
    split
    · exact h
    · exact growBy_le n k _ (by omega)
theorem nextcap_le {n c : Nat} (h : c < n) : Builtin.nextslicecap n c ≤ 2 * n + 1000 := by
  unfold Builtin.nextslicecap
  split
  · omega
  · split
    · omega
    · exact growBy_le n 4 c (by omega)
theorem zD_den {zf : Nat → Option Obj} {k : Kd} {x : SV} {v : Value} (h : kdOk k x = true) (hz : zOk x v = true) : DenD zf k (zD k) v := by
  have hd := zOk_den (ρ := ⟨fun _ => none, fun _ => none⟩) hz
  unfold kdOk at h
  split at h
  · simp only [Den] at hd
    simp only [DenD, zD, D.toI]
    rw [hd, IntKind.same_iff.1 h]
  · simp only [Den] at hd; simp only [DenD, zD, D.toB]; exact hd
  · rename_i y
    simp only [Den] at hd; simp only [DenD, zD, D.toS]
    rw [hd]
    congr 1
    have h0 := Nat.eq_of_beq_eq_true h
    rw [ByteArray.size_eq_zero_iff.1 h0]
  · simp only [Den] at hd; simp only [DenD, zD, D.toN]; exact .inl ⟨trivial, .inl hd⟩
  · simp only [Den] at hd; simp only [DenD, zD, D.toN]; exact .inl ⟨trivial, hd⟩
  · cases h
theorem zRow_den {zf : Nat → Option Obj} {arr : Array Value} : ∀ {ks : List Kd} {g : Nat → D} {c o : Nat} {xs : List SV} {vs : List Value}, kdsOk ks xs = true → zsOk xs vs = true → (∀ j (h : j < ks.length), g (c + j) = zD (ks[j]'h)) → (∀ j, j < ks.length → arr[o + j]? = vs[j]?) → DenR zf ks g c arr o
  | [], _, _, _, _, _, _, _, _, _ => by simp only [DenR]
  | k :: ks, g, c, o, xs, vs, h1, h2, hg, ha => by
    cases xs with
    | nil => simp [kdsOk] at h1
    | cons x xs =>
      cases vs with
      | nil => simp [zsOk] at h2
      | cons v vs =>
        simp only [kdsOk] at h1
        split at h1
        · rename_i hk
          simp only [zsOk, Bool.and_eq_true] at h2
          simp only [DenR]
          refine ⟨⟨v, by simpa using ha 0 (by simp), ?_⟩, zRow_den h1 h2.2 (fun j hj => ?_) (fun j hj => ?_)⟩
          · have := hg 0 (by simp)
            simp at this
            rw [this]
            exact zD_den hk h2.1
          · have := hg (j + 1) (by simpa using hj)
            simpa [Nat.add_assoc, Nat.add_comm 1 j] using this
          · have := ha (j + 1) (by simpa using hj)
            simpa [Nat.add_assoc, Nat.add_comm 1 j] using this
        · cases h1
theorem zRow_get : ∀ (ks : List Kd) (j : Nat) (h : j < ks.length), zRow ks j = zD (ks[j]'h)
  | [], j, h => by simp at h
  | k :: ks, 0, h => rfl
  | k :: ks, j + 1, h => by simpa [zRow] using zRow_get ks j (by simpa using h)
theorem kdsOk_length : ∀ {ks : List Kd} {xs : List SV}, kdsOk ks xs = true → ks.length = xs.length
  | [], [], _ => rfl
  | [], _ :: _, h => by simp [kdsOk] at h
  | _ :: _, [], h => by simp [kdsOk] at h
  | k :: ks, x :: xs, h => by
    simp only [kdsOk] at h
    split at h
    · simp [kdsOk_length h]
    · cases h
theorem zsOk_length : ∀ {xs : List SV} {vs : List Value}, zsOk xs vs = true → xs.length = vs.length
  | [], [], _ => rfl
  | [], _ :: _, h => by simp [zsOk] at h
  | _ :: _, [], h => by simp [zsOk] at h
  | x :: xs, v :: vs, h => by
    simp only [zsOk, Bool.and_eq_true] at h
    simp [zsOk_length h.2]
/-- A type's kinds fit its zero value. -/
theorem kdsE_spec {P : Program} {T : List (Nat × TI)} {t : Nat} {ti : TI} {ks : List Kd} (h : kdsE T t ti = some ks) (ht : TiOk P t ti) :
    ks.length = ti.size ∧ ∀ (z : Array Value), zsOk ti.zero z.toList = true → ∀ (zf : Nat → Option Obj) (arr : Array Value) (o : Nat), (∀ j, j < ks.length → arr[o + j]? = z[j]?) → DenR zf ks (zRow ks) 0 arr o := by
  unfold kdsE at h
  split at h
  · split at h
    · rename_i ks' _ hk
      cases h
      refine ⟨?_, fun z hz zf arr o ha => zRow_den hk hz (fun j hj => by rw [Nat.zero_add]; exact zRow_get _ j hj) (fun j hj => by rw [ha j hj, Array.getElem?_toList])⟩
      obtain ⟨i, z, _, _, _, _, h1, h2, _⟩ := ht.i
      rw [kdsOk_length hk, zsOk_length h1]
      simpa using h2
    · cases h
  · cases h

section
variable {ρi : Env} {P : Program} {E A : Nat → Prop} {w0 : World} {ρ : Env} {F : Fr} {G : Hp} {a : Act} {w : World} {o : Oper}

/-- The cells of the first rows of a slice, and that they can be read whatever has been drawn. -/
def Reads (P : Program) (z : Nat → Option Obj) (w : World) (ks : List Kd) (m : Nat) (v : Value) (g : Nat → Nat → D) (lo : Nat) (vs : Array Value) : Prop :=
  (∀ w' : World, w'.heap = w.heap → (Builtin.firstCells ks.length m v).run P w' = .ok vs w') ∧ vs.size = m * ks.length ∧
    ∀ r, r < m → DenR z ks (g (lo + r)) 0 vs (r * ks.length)

theorem Reads.none {z : Nat → Option Obj} {ks : List Kd} {g : Nat → Nat → D} {lo : Nat} : Reads P z w ks 0 (.slice none 0 0) g lo #[] :=
  ⟨fun w' _ => by simp [Builtin.firstCells], by simp, fun r hr => by omega⟩
theorem Reads.sl (H : HSat ρ G w) {l lo m n : Nat} {b : Md} {ks : List Kd} {f : Nat → Nat → D} (hG : G l = some (.rows b ks n f)) (hm : lo + m ≤ n) {v : Value} (hd : Den ρ (.sl l lo m) v) :
    ∃ base cap, v = .slice base m cap ∧ ∃ vs, Reads P ρ.z w ks m v f lo vs := by
  simp only [Den] at hd
  rcases hd with ⟨_, rfl, rfl, rfl⟩ | ⟨pl, ad, hpl, rfl, h1, h2⟩
  · exact ⟨_, _, rfl, #[], Reads.none⟩
  · refine ⟨_, _, rfl, ?_⟩
    by_cases hm0 : m = 0
    · subst hm0
      exact ⟨#[], fun w' _ => by simp [Builtin.firstCells, loadCells, loadCellsFrom], by simp, fun r hr => by omega⟩
    rcases H.blk _ _ hG with ⟨h3, rfl⟩ | ⟨pl', e1, e2, _⟩ | ⟨pl', arr, T, fz, e1, e2, e3, _, e4, e5, e6, e7⟩
    · omega
    · omega
    rw [hpl] at e1; cases e1
    have had := h2 (by omega)
    subst had
    have hb : lo * pl.k + m * pl.k ≤ pl.cap * pl.k := by rw [← Nat.add_mul]; exact Nat.mul_le_mul_right _ h1
    have hin : pl.off + lo * pl.k + m * ks.length ≤ arr.size := by rw [← e4]; omega
    refine ⟨((arr.toList.drop (pl.off + lo * pl.k)).take (m * ks.length)).toArray, fun w' hw' => ?_, by simp; omega, fun r hr => ?_⟩
    · have e2' : w'.heap[pl.b]? = some (.cells arr T fz) := by rw [hw']; exact e2
      obtain ⟨vs, g1, g2⟩ := run_loadCells (P := P) e2' (pl.off + lo * pl.k) (m * ks.length) hin
      simp only [Builtin.firstCells, ptr, Nat.add_zero, g1]
      rw [← g2]
    · refine DenR_congr (e7 (lo + r) (by omega)) fun c hc => ?_
      have := row_bound (k := ks.length) hr hc
      simp only [List.getElem?_toArray, List.getElem?_take, if_pos this, List.getElem?_drop]
      rw [e4, Nat.add_mul, ← Array.getElem?_toList]
      congr 1
      omega

/-- The store of what is appended in place. -/
def putNew (P : Program) (w : World) (base : Option Addr) (k : Nat) (vs : List Value) : Result Unit :=
  match base with
  | some ad => (storeCells (ad.add k) vs).run P w
  | none => .ok () w

/-- An append, as it runs. -/
theorem run_append {t t2 e : Nat} {ty : TypeId} {ti : TI} (h1 : P.underlying t = some (.slice e)) (h2 : ∃ e2, P.underlying t2 = some (.slice e2)) (he : TiOk P e ti) (hb : ti.bytes ≤ 1024)
    {base b2 : Option Addr} {n cap m c2 : Nat} (hnm : n + m ≤ maxRows) {old new : Array Value}
    (hold : ∀ w' : World, w'.heap = w.heap → (Builtin.firstCells ti.size n (.slice base n cap)).run P w' = .ok old w')
    (hnew : ∀ w' : World, w'.heap = w.heap → (Builtin.firstCells ti.size m (.slice b2 m c2)).run P w' = .ok new w') :
    (n + m ≤ cap ∧ (Builtin.append_ #[t, t2] ty #[.slice base n cap, .slice b2 m c2]).run P w =
      (putNew P w base (n * ti.size) new.toList).andThen fun _ w' => .ok (.slice base (n + m) cap) w') ∨
    (cap < n + m ∧ ∃ nc rest, n + m ≤ nc ∧ (rest : Array Value).size = (nc - (n + m)) * ti.size ∧ (Builtin.append_ #[t, t2] ty #[.slice base n cap, .slice b2 m c2]).run P w =
      .ok (.slice (some ⟨w.heap.size, 0, none⟩) (n + m) nc) { w.drew with heap := w.heap.push (.cells (old ++ new ++ rest) e) }) := by
  obtain ⟨e2, h2⟩ := h2
  have hz : ∀ w : World, (do pure ((← underlying t2) matches .int _) : Sem Bool).run P w = .ok false w := by
    intro w; simp [run_underlying h2]
  have hm : maxRows = 1073741824 := rfl
  by_cases hc : n + m ≤ cap
  · refine .inl ⟨hc, ?_⟩
    unfold Builtin.append_
    simp only [List.getElem?_toArray, List.getElem?_cons_zero, List.getElem?_cons_succ]
    simp only [Sem.run_bind, run_underlying h1, run_underlying h2, Result.andThen_ok, run_sizeOf he, Sem.run_pure, Bool.false_eq_true, if_false, Builtin.lenOf, if_pos hc]
    simp only [Bool.not_false, if_true, hnew w rfl, Result.andThen_ok]
    cases base with
    | none => rfl
    | some ad => simp only [Sem.run_bind, putNew]; rfl
  · have hc' : cap < n + m := by omega
    obtain ⟨iB, hB1, hB2⟩ : ∃ i, P.info? e = some i ∧ i.bytes = ti.bytes := by
      obtain ⟨i, z, hi, _, _, hbb, _⟩ := he.i
      exact ⟨i, hi, hbb⟩
    obtain ⟨z, hz1, hz2, hz3⟩ := run_zeroValue (w := w.drew) he
    have hsmall : ¬ (Builtin.nextslicecap (n + m) cap * ti.bytes > 2 ^ 48) := by
      have := nextcap_le hc'
      have : Builtin.nextslicecap (n + m) cap * ti.bytes ≤ (2 * (n + m) + 1000) * 1024 := Nat.mul_le_mul this hb
      omega
    have hmax : ¬ (((n + m : Nat) : Int) > IntKind.i64.max ∧ (False ∨ ti.bytes = 0)) := by
      rintro ⟨h, _⟩
      have : IntKind.i64.max = 9223372036854775807 := rfl
      omega
    right
    refine ⟨hc', (n + m) + w.tape w.drawn (.appendCap (n + m) cap e) % (2 ^ 63 - (n + m)), Builtin.zeroCells z.cells ((n + m) + w.tape w.drawn (.appendCap (n + m) cap e) % (2 ^ 63 - (n + m)) - (n + m)), by omega,
      by simp [Builtin.zeroCells, hz3], ?_⟩
    unfold Builtin.append_
    simp only [List.getElem?_toArray, List.getElem?_cons_zero, List.getElem?_cons_succ]
    simp only [Sem.run_bind, run_underlying h1, run_underlying h2, Result.andThen_ok, run_sizeOf he, Sem.run_pure, Bool.false_eq_true, if_false, Builtin.lenOf, if_neg hc, run_typeInfo hB1, hB2]
    rw [if_neg (by simpa using hmax)]
    simp only [Sem.run_bind, run_typeInfo hB1, hB2, Result.andThen_ok, Sem.run_pure]
    rw [if_neg hsmall]
    have hask : ∀ (k : Nat) (w : World), (askRoom k).run P w = .ok () w := by
      intro k w
      unfold askRoom
      split
      · rfl
      · rfl
    simp only [Sem.run_bind, choose, Sem.run, Question.forced, Question.cut, Bool.false_eq_true, if_false, Result.andThen_ok, hask, Sem.run_pure, run_typeInfo hB1]
    have ho := hold w.drew rfl
    have hn := hnew w.drew rfl
    simp only [World.drew_eq, ho, hn, Result.andThen_ok, Bool.not_false, if_true, hz1, newRow, Sem.run_bind, run_newObj, Sem.run_pure]
    rfl
end
end Go.Sym
