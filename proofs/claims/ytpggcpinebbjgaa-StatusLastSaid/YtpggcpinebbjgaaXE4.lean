/- Plain laws on the engine's notions: forcing, reading, renaming, entailment. -/
import Derived.Test.YtpggcpinebbjgaaXE3
namespace Go.Sym
set_option linter.unusedVariables false
set_option linter.unusedSimpArgs false

/-! ### Forcing is the identity -/
theorem fNat_eq (n : Nat) (k : Nat → Prop) : fNat n k = k n := by cases n <;> rfl
mutual
theorem fK1_eq : ∀ (c : Kd) (k : Kd → Prop), fK1 c k = k c
  | .int a, k => by simp only [fK1]
  | .bool, k => by simp only [fK1]
  | .str, k => by simp only [fK1]
  | .sl ks, k => by simp only [fK1]; exact fK_eq ks _
  | .pt n ks, k => by simp only [fK1, fNat_eq]; exact fK_eq ks _
theorem fK_eq : ∀ (ks : List Kd) (k : List Kd → Prop), fK ks k = k ks
  | [], k => by simp only [fK]
  | c :: cs, k => by simp only [fK]; rw [fK1_eq c, fK_eq cs]
end
mutual
theorem fV_eq : ∀ (v : SV) (k : SV → Prop), fV v k = k v
  | .u, k => by simp only [fV]
  | .i _ _, k => by simp only [fV]
  | .b _, k => by simp only [fV]
  | .bt true, k => by simp only [fV]
  | .bt false, k => by simp only [fV]
  | .s _, k => by simp only [fV]
  | .p _ _ _, k => by simp only [fV, fNat_eq]
  | .q _ _, k => by simp only [fV, fNat_eq]
  | .np, k => by simp only [fV]
  | .sl _ _ _, k => by simp only [fV, fNat_eq]
  | .ns, k => by simp only [fV]
  | .mp _, k => by simp only [fV, fNat_eq]
  | .nm, k => by simp only [fV]
  | .nf, k => by simp only [fV]
  | .fn f cs, k => by simp only [fV]; exact fL_eq cs _
  | .agg cs, k => by simp only [fV]; exact fL_eq cs _
  | .tup cs, k => by simp only [fV]; exact fL_eq cs _
  | .arr _ _ _, k => by simp only [fV, fK_eq]
theorem fL_eq : ∀ (cs : List SV) (k : List SV → Prop), fL cs k = k cs
  | [], k => by simp only [fL]
  | c :: cs, k => by simp only [fL]; rw [fV_eq c, fL_eq cs]
end
theorem fM_eq (m : Md) (k : Md → Prop) : fM m k = k m := by cases m <;> rfl
theorem fB_eq (b : Blk) (k : Blk → Prop) : fB b k = k b := by
  cases b with
  | dead => rfl
  | one m cs => simp only [fB, fM_eq, fL_eq]
  | rows m ks n f => simp only [fB, fM_eq, fK_eq]
  | map m kk ks a keys f => cases a <;> simp only [fB, fM_eq, fK_eq]
theorem fH_eq : ∀ (wr hp : List (Nat × Blk)) (k : List (Nat × Blk) → Prop), fH wr hp k = k (wr ++ hp)
  | [], hp, k => rfl
  | (l, b) :: r, hp, k => by simp only [fH, fNat_eq, fB_eq]; rw [fH_eq r hp]; rfl
theorem fF_eq : ∀ (fr : List (Nat × SV)) (k : List (Nat × SV) → Prop), fF fr k = k fr
  | [], k => rfl
  | (t, v) :: r, k => by simp only [fF, fNat_eq, fV_eq]; rw [fF_eq r]

/-! ### The hand-made functions on lists -/
theorem lenL_eq (l : List SV) : lenL l = l.length := by induction l with | nil => rfl | cons x r ih => simp [lenL, ih]
theorem lenK_eq (l : List Kd) : lenK l = l.length := by induction l with | nil => rfl | cons x r ih => simp [lenK, ih]
theorem takeL_eq (n : Nat) (l : List SV) : takeL n l = l.take n := by
  induction n generalizing l with
  | zero => simp [takeL]
  | succ n ih => cases l <;> simp [takeL, ih]
theorem dropL_eq (n : Nat) (l : List SV) : dropL n l = l.drop n := by
  induction n generalizing l with
  | zero => simp [dropL]
  | succ n ih => cases l <;> simp [dropL, ih]
theorem takeK_eq (n : Nat) (l : List Kd) : takeK n l = l.take n := by
  induction n generalizing l with
  | zero => simp [takeK]
  | succ n ih => cases l <;> simp [takeK, ih]
theorem dropK_eq (n : Nat) (l : List Kd) : dropK n l = l.drop n := by
  induction n generalizing l with
  | zero => simp [dropK]
  | succ n ih => cases l <;> simp [dropK, ih]
theorem nthL_eq (l : List SV) (n : Nat) : nthL l n = l[n]? := by
  induction l generalizing n with
  | nil => cases n <;> rfl
  | cons x r ih => cases n <;> simp [nthL, ih]
theorem nthF_eq (l : List (Nat × Nat)) (n : Nat) : nthF l n = l[n]? := by
  induction l generalizing n with
  | nil => cases n <;> rfl
  | cons x r ih => cases n <;> simp [nthF, ih]
theorem nthO_eq (l : List Oper) (n : Nat) : nthO l n = l[n]? := by
  induction l generalizing n with
  | nil => cases n <;> rfl
  | cons x r ih => cases n <;> simp [nthO, ih]
theorem apL_eq (a b : List Nat) : apL a b = a ++ b := by induction a with | nil => rfl | cons x r ih => simp [apL, ih]
theorem mapN_eq (m : Nat → Nat) (l : List Nat) : mapN m l = l.map m := by induction l with | nil => rfl | cons x r ih => simp [mapN, ih]
theorem keys_eq (l : List (Nat × Blk)) : keys l = l.map (·.1) := by induction l with | nil => rfl | cons x r ih => simp [keys, ih]
theorem memN_iff (l : List Nat) (x : Nat) : memN l x = true ↔ x ∈ l := by
  induction l with
  | nil => simp [memN]
  | cons y r ih =>
    unfold memN
    cases h : Nat.beq y x with
    | true => have := Nat.eq_of_beq_eq_true h; simp [this]
    | false => have : y ≠ x := fun e => by subst e; simp at h
               simp [ih, Ne.symm this]
theorem memN_false (l : List Nat) (x : Nat) : memN l x = false ↔ x ∉ l := by
  rw [← memN_iff]; cases memN l x <;> simp
theorem diff_iff (l : List Nat) : diff l = true ↔ l.Nodup := by
  induction l with
  | nil => simp [diff]
  | cons x r ih =>
    unfold diff
    cases h : memN r x with
    | true => have := (memN_iff r x).1 h; simp [this]
    | false => have := (memN_false r x).1 h; simp [ih, this]
theorem IntKind.same_iff {a b : IntKind} : IntKind.same a b = true ↔ a = b := by cases a <;> cases b <;> simp [IntKind.same]
mutual
theorem Kd.same_iff : ∀ {a b : Kd}, Kd.same a b = true ↔ a = b
  | .int k, b => by cases b <;> simp [Kd.same, IntKind.same_iff]
  | .bool, b => by cases b <;> simp [Kd.same]
  | .str, b => by cases b <;> simp [Kd.same]
  | .sl ks, b => by cases b <;> simp [Kd.same, kdsSame_iff (a := ks)]
  | .pt n ks, b => by
    cases b <;> simp [Kd.same]
    rename_i n' ks'
    cases h : Nat.beq n n' with
    | true => have := Nat.eq_of_beq_eq_true h; simp [this, kdsSame_iff (a := ks)]
    | false => have : n ≠ n' := fun e => by subst e; simp at h
               simp [this]
theorem kdsSame_iff : ∀ {a b : List Kd}, kdsSame a b = true ↔ a = b
  | [], b => by cases b <;> simp [kdsSame]
  | x :: r, b => by
    cases b with
    | nil => simp [kdsSame]
    | cons y s =>
      simp only [kdsSame]
      cases h : Kd.same x y with
      | true => have := (Kd.same_iff (a := x)).1 h; simp [kdsSame_iff (a := r), this]
      | false => have : x ≠ y := fun e => by rw [(Kd.same_iff (a := x)).2 e] at h; cases h
                 simp [this]
end
theorem hget_none_iff (hp : List (Nat × Blk)) (l : Nat) : hget hp l = none ↔ l ∉ keys hp := by
  induction hp with
  | nil => simp [hget, keys]
  | cons x r ih =>
    obtain ⟨k, v⟩ := x
    unfold hget keys
    cases h : Nat.beq k l with
    | true => have := Nat.eq_of_beq_eq_true h; simp [this]
    | false => have : k ≠ l := fun e => by subst e; simp at h
               simp [ih, Ne.symm this]
theorem upds_eq (G : Hp) (wr : List (Nat × Blk)) (l : Nat) : upds G wr l = match hget wr l with | some b => some b | none => G l := by
  induction wr with
  | nil => rfl
  | cons x r ih =>
    obtain ⟨k, v⟩ := x
    unfold upds hget
    cases h : Nat.beq k l with
    | true => rfl
    | false => exact ih

/-! ### Data -/
mutual
theorem DenD.mono {z z' : Nat → Option Obj} (hz : ∀ b o, z b = some o → z' b = some o) : ∀ {k : Kd} {d : D} {v : Value}, DenD z k d v → DenD z' k d v
  | .int k, d, v, h => by simpa only [DenD] using h
  | .bool, d, v, h => by simpa only [DenD] using h
  | .str, d, v, h => by simpa only [DenD] using h
  | .sl ks, d, v, h => by
    simp only [DenD] at h ⊢
    rcases h with h | ⟨b, off, cap, arr, T, fz, h1, h2, h3, h4, h5⟩
    · exact .inl h
    · exact .inr ⟨b, off, cap, arr, T, fz, h1, h2, hz _ _ h3, h4, fun r hr => DenR.mono hz (h5 r hr)⟩
  | .pt n ks, d, v, h => by
    simp only [DenD] at h ⊢
    rcases h with h | ⟨b, off, arr, T, fz, h1, h2, h3, h4, h5, h6⟩
    · exact .inl h
    · exact .inr ⟨b, off, arr, T, fz, h1, h2, h3, hz _ _ h4, h5, fun r hr => DenR.mono hz (h6 r hr)⟩
theorem DenR.mono {z z' : Nat → Option Obj} (hz : ∀ b o, z b = some o → z' b = some o) : ∀ {ks : List Kd} {g : Nat → D} {c : Nat} {arr : Array Value} {o : Nat}, DenR z ks g c arr o → DenR z' ks g c arr o
  | [], _, _, _, _, _ => by simp only [DenR]
  | k :: ks, g, c, arr, o, h => by
    simp only [DenR] at h ⊢
    obtain ⟨⟨u, h1, h2⟩, h3⟩ := h
    exact ⟨⟨u, h1, DenD.mono hz h2⟩, DenR.mono hz h3⟩
end
mutual
theorem DenD.eqv {z : Nat → Option Obj} : ∀ {k : Kd} {a b : D} {v : Value}, k.eqv a b → DenD z k a v → DenD z k b v
  | .int k, a, b, v, e, h => by simp only [Kd.eqv] at e; simpa only [DenD, e] using h
  | .bool, a, b, v, e, h => by simp only [Kd.eqv] at e; simpa only [DenD, e] using h
  | .str, a, b, v, e, h => by simp only [Kd.eqv] at e; simpa only [DenD, e] using h
  | .sl ks, a, b, v, e, h => by
    simp only [Kd.eqv] at e
    simp only [DenD] at h ⊢
    obtain ⟨e1, e2⟩ := e
    rw [← e1]
    rcases h with h | ⟨b, off, cap, arr, T, fz, h1, h2, h3, h4, h5⟩
    · exact .inl h
    · exact .inr ⟨b, off, cap, arr, T, fz, h1, h2, h3, h4, fun r hr => DenR.eqv (e2 r hr) (h5 r hr)⟩
  | .pt n ks, a, b, v, e, h => by
    simp only [Kd.eqv] at e
    simp only [DenD] at h ⊢
    obtain ⟨e1, e2⟩ := e
    rw [← e1]
    rcases h with h | ⟨b, off, arr, T, fz, h1, h2, h3, h4, h5, h6⟩
    · exact .inl h
    · exact .inr ⟨b, off, arr, T, fz, h1, h2, h3, h4, h5, fun r hr => DenR.eqv (e2 r (by omega)) (h6 r hr)⟩
theorem DenR.eqv {z : Nat → Option Obj} : ∀ {ks : List Kd} {g g' : Nat → D} {c : Nat} {arr : Array Value} {o : Nat}, rowEq ks g g' c → DenR z ks g c arr o → DenR z ks g' c arr o
  | [], _, _, _, _, _, _, _ => by simp only [DenR]
  | k :: ks, g, g', c, arr, o, e, h => by
    simp only [rowEq] at e
    simp only [DenR] at h ⊢
    obtain ⟨⟨u, h1, h2⟩, h3⟩ := h
    exact ⟨⟨u, h1, DenD.eqv e.1 h2⟩, DenR.eqv e.2 h3⟩
end
/-- A row, cell by cell. -/
theorem DenR_iff {z : Nat → Option Obj} : ∀ {ks : List Kd} {g : Nat → D} {c : Nat} {arr : Array Value} {o : Nat},
    DenR z ks g c arr o ↔ ∀ j (h : j < ks.length), ∃ u, arr[o + j]? = some u ∧ DenD z (ks[j]'h) (g (c + j)) u
  | [], g, c, arr, o => by simp only [DenR, true_iff]; intro j h; simp at h
  | k :: ks, g, c, arr, o => by
    simp only [DenR, DenR_iff (ks := ks)]
    constructor
    · rintro ⟨h1, h2⟩ j hj
      cases j with
      | zero => exact h1
      | succ j =>
        have := h2 j (by simpa using hj)
        simpa [Nat.add_assoc, Nat.add_comm 1 j] using this
    · intro h
      refine ⟨h 0 (by simp), fun j hj => ?_⟩
      have := h (j + 1) (by simpa using hj)
      simpa [Nat.add_assoc, Nat.add_comm 1 j] using this
theorem DenR_congr {z : Nat → Option Obj} {ks : List Kd} {g : Nat → D} {c : Nat} {arr arr' : Array Value} {o o' : Nat} (h : DenR z ks g c arr o) (e : ∀ j, j < ks.length → arr'[o' + j]? = arr[o + j]?) : DenR z ks g c arr' o' := by
  rw [DenR_iff] at h ⊢
  intro j hj
  rw [e j hj]
  exact h j hj
theorem DenR_lt {z : Nat → Option Obj} {ks : List Kd} {g : Nat → D} {c : Nat} {arr : Array Value} {o : Nat} (h : DenR z ks g c arr o) (hk : 0 < ks.length) : o + ks.length ≤ arr.size := by
  rw [DenR_iff] at h
  obtain ⟨u, hu, _⟩ := h (ks.length - 1) (by omega)
  have := (Array.getElem?_eq_some_iff.1 hu).1
  omega

/-! ### Reading hangs on the labels that are named, and on no others -/
def ZLe (ρ ρ' : Env) : Prop := ∀ b o, ρ.z b = some o → ρ'.z b = some o
theorem ZLe.refl (ρ : Env) : ZLe ρ ρ := fun _ _ h => h
theorem ZLe.trans {a b c : Env} (h1 : ZLe a b) (h2 : ZLe b c) : ZLe a c := fun x o h => h2 x o (h1 x o h)
mutual
theorem Den.congr {ρ ρ' : Env} (hz : ZLe ρ ρ') : ∀ (x : SV) (v : Value), (∀ l ∈ x.labs, ρ l = ρ' l) → Den ρ x v → Den ρ' x v
  | .u, v, _, _ => by simp only [Den]
  | .i k n, v, _, h => by simpa only [Den] using h
  | .b _, v, _, h => by simpa only [Den] using h
  | .bt _, v, _, h => by simpa only [Den] using h
  | .s _, v, _, h => by simpa only [Den] using h
  | .p l r c, v, hl, h => by
    have e := hl l (by simp [SV.labs])
    simp only [Den] at h ⊢
    rwa [← e]
  | .q l n, v, hl, h => by
    have e := hl l (by simp [SV.labs])
    simp only [Den] at h ⊢
    rwa [← e]
  | .np, v, _, h => by simpa only [Den] using h
  | .sl l a b, v, hl, h => by
    have e := hl l (by simp [SV.labs])
    simp only [Den] at h ⊢
    rwa [← e]
  | .ns, v, _, h => by simpa only [Den] using h
  | .mp l, v, hl, h => by
    have e := hl l (by simp [SV.labs])
    simp only [Den] at h ⊢
    rwa [← e]
  | .nm, v, _, h => by simpa only [Den] using h
  | .nf, v, _, h => by simpa only [Den] using h
  | .fn f cs, v, hl, h => by
    simp only [Den] at h ⊢
    obtain ⟨vs, e, h⟩ := h
    exact ⟨vs, e, DenL.congr hz cs _ (by simpa [SV.labs] using hl) h⟩
  | .agg cs, v, hl, h => by
    simp only [Den] at h ⊢
    obtain ⟨vs, e, h⟩ := h
    exact ⟨vs, e, DenL.congr hz cs _ (by simpa [SV.labs] using hl) h⟩
  | .tup cs, v, hl, h => by
    simp only [Den] at h ⊢
    obtain ⟨vs, e, h⟩ := h
    exact ⟨vs, e, DenL.congr hz cs _ (by simpa [SV.labs] using hl) h⟩
  | .arr ks n f, v, _, h => by
    simp only [Den] at h ⊢
    obtain ⟨vs, e, h1, h2⟩ := h
    exact ⟨vs, e, h1, fun r hr => DenR.mono hz (h2 r hr)⟩
theorem DenL.congr {ρ ρ' : Env} (hz : ZLe ρ ρ') : ∀ (cs : List SV) (vs : List Value), (∀ l ∈ labsL cs, ρ l = ρ' l) → DenL ρ cs vs → DenL ρ' cs vs
  | [], vs, _, h => by simpa only [DenL] using h
  | c :: cs, vs, hl, h => by
    simp only [DenL] at h ⊢
    obtain ⟨v, r, e, h1, h2⟩ := h
    exact ⟨v, r, e, Den.congr hz c v (fun l hh => hl l (by simp [labsL, hh])) h1, DenL.congr hz cs r (fun l hh => hl l (by simp [labsL, hh])) h2⟩
end

theorem DenL.length {ρ : Env} : ∀ {cs : List SV} {vs : List Value}, DenL ρ cs vs → vs.length = cs.length
  | [], vs, h => by simp only [DenL] at h; simp [h]
  | c :: cs, vs, h => by
    simp only [DenL] at h
    obtain ⟨v, r, rfl, _, h2⟩ := h
    simp [DenL.length h2]
theorem DenL_cons {ρ : Env} {c : SV} {cs : List SV} {v : Value} {vs : List Value} : DenL ρ (c :: cs) (v :: vs) ↔ Den ρ c v ∧ DenL ρ cs vs := by
  simp only [DenL]
  constructor
  · rintro ⟨v', r, e, h1, h2⟩; cases e; exact ⟨h1, h2⟩
  · rintro ⟨h1, h2⟩; exact ⟨_, _, rfl, h1, h2⟩
theorem DenL_nil {ρ : Env} {vs : List Value} : DenL ρ [] vs ↔ vs = [] := by simp only [DenL]
theorem DenL_append {ρ : Env} : ∀ {as bs : List SV} {vs ws : List Value}, DenL ρ as vs → DenL ρ bs ws → DenL ρ (as ++ bs) (vs ++ ws)
  | [], bs, vs, ws, h, k => by rw [DenL_nil] at h; subst h; exact k
  | a :: as, bs, vs, ws, h, k => by
    cases vs with
    | nil => simp [DenL] at h
    | cons v vs => rw [DenL_cons] at h; exact DenL_cons.2 ⟨h.1, DenL_append h.2 k⟩
theorem DenL_take {ρ : Env} (n : Nat) : ∀ {cs : List SV} {vs : List Value}, DenL ρ cs vs → DenL ρ (cs.take n) (vs.take n) := by
  induction n with
  | zero => intro cs vs _; simp [DenL]
  | succ n ih =>
    intro cs vs h
    cases cs with
    | nil => rw [DenL_nil] at h; subst h; simp [DenL]
    | cons c cs => cases vs with
      | nil => simp [DenL] at h
      | cons v vs => rw [DenL_cons] at h; exact DenL_cons.2 ⟨h.1, ih h.2⟩
theorem DenL_drop {ρ : Env} (n : Nat) : ∀ {cs : List SV} {vs : List Value}, DenL ρ cs vs → DenL ρ (cs.drop n) (vs.drop n) := by
  induction n with
  | zero => intro cs vs h; simpa using h
  | succ n ih =>
    intro cs vs h
    cases cs with
    | nil => rw [DenL_nil] at h; subst h; simp [DenL]
    | cons c cs => cases vs with
      | nil => simp [DenL] at h
      | cons v vs => rw [DenL_cons] at h; exact ih h.2
theorem DenL_get {ρ : Env} : ∀ {cs : List SV} {vs : List Value} {i : Nat} {c : SV}, DenL ρ cs vs → cs[i]? = some c → ∃ v, vs[i]? = some v ∧ Den ρ c v
  | [], vs, i, c, h, e => by simp at e
  | c' :: cs, [], i, c, h, e => by simp [DenL] at h
  | c' :: cs, v :: vs, 0, c, h, e => by
    rw [DenL_cons] at h
    simp at e; subst e
    exact ⟨v, rfl, h.1⟩
  | c' :: cs, v :: vs, i + 1, c, h, e => by
    rw [DenL_cons] at h
    simpa using DenL_get (i := i) h.2 (by simpa using e)

theorem splice_length : ∀ (xs : List SV) (n : Nat) (ys : List SV), n + ys.length ≤ xs.length → (splice xs n ys).length = xs.length
  | xs, n, [], _ => by cases xs <;> simp [splice]
  | [], n, y :: ys, h => by simp at h
  | x :: xs, 0, y :: ys, h => by simp [splice, splice_length xs 0 ys (by simp at h ⊢; omega)]
  | x :: xs, n + 1, y :: ys, h => by simp [splice, splice_length xs n (y :: ys) (by simp at h ⊢; omega)]
/-- The same on values. -/
def spliceV (xs : List Value) (n : Nat) (ys : List Value) : List Value := xs.take n ++ ys ++ xs.drop (n + ys.length)
theorem splice_eq : ∀ (xs : List SV) (n : Nat) (ys : List SV), n + ys.length ≤ xs.length → splice xs n ys = xs.take n ++ ys ++ xs.drop (n + ys.length)
  | xs, n, [], _ => by cases xs <;> simp [splice]
  | [], n, y :: ys, h => by simp at h
  | x :: xs, 0, y :: ys, h => by
    rw [splice, splice_eq xs 0 ys (by simp at h ⊢; omega)]
    simp
  | x :: xs, n + 1, y :: ys, h => by
    rw [splice, splice_eq xs n (y :: ys) (by simp at h ⊢; omega)]
    have : n + 1 + (y :: ys).length = (n + (y :: ys).length) + 1 := by omega
    rw [this]; simp
theorem DenL_splice {ρ : Env} {xs ys : List SV} {vs ws : List Value} {n : Nat} (h : DenL ρ xs vs) (k : DenL ρ ys ws) (hn : n + ys.length ≤ xs.length) :
    DenL ρ (splice xs n ys) (spliceV vs n ws) := by
  rw [splice_eq xs n ys hn]
  unfold spliceV
  rw [k.length]
  exact DenL_append (DenL_append (DenL_take n h) k) (DenL_drop _ h)

theorem labsL_append (a b : List SV) : labsL (a ++ b) = labsL a ++ labsL b := by
  induction a with
  | nil => simp [labsL]
  | cons x r ih => simp [labsL, ih]
theorem labsL_mem {cs : List SV} {l : Nat} : l ∈ labsL cs ↔ ∃ c ∈ cs, l ∈ c.labs := by
  induction cs with
  | nil => simp [labsL]
  | cons x r ih => simp [labsL, ih]
theorem labsL_take (n : Nat) {cs : List SV} {l : Nat} (h : l ∈ labsL (cs.take n)) : l ∈ labsL cs := by
  rw [labsL_mem] at h ⊢
  obtain ⟨c, hc, hl⟩ := h
  exact ⟨c, List.mem_of_mem_take hc, hl⟩
theorem labsL_drop (n : Nat) {cs : List SV} {l : Nat} (h : l ∈ labsL (cs.drop n)) : l ∈ labsL cs := by
  rw [labsL_mem] at h ⊢
  obtain ⟨c, hc, hl⟩ := h
  exact ⟨c, List.mem_of_mem_drop hc, hl⟩
theorem labsL_splice {xs ys : List SV} {n l : Nat} (hn : n + ys.length ≤ xs.length) (h : l ∈ labsL (splice xs n ys)) : l ∈ labsL xs ∨ l ∈ labsL ys := by
  rw [splice_eq xs n ys hn, labsL_append, labsL_append] at h
  simp only [List.mem_append] at h
  rcases h with (h | h) | h
  · exact .inl (labsL_take _ h)
  · exact .inr h
  · exact .inl (labsL_drop _ h)

/-! ### Renaming -/
def Env.ren (ρ : Env) (m : Nat → Nat) : Env := ⟨fun l => ρ (m l), ρ.z⟩
mutual
theorem Den_ren {ρ : Env} {m : Nat → Nat} : ∀ (x : SV) (v : Value), Den ρ (ren m x) v ↔ Den (ρ.ren m) x v
  | .u, v => by simp only [ren, Den]
  | .i k n, v => by simp only [ren, Den]
  | .b _, v => by simp only [ren, Den]
  | .bt _, v => by simp only [ren, Den]
  | .s _, v => by simp only [ren, Den]
  | .p l r c, v => by simp only [ren, Den, Env.ren]
  | .q l n, v => by simp only [ren, Den, Env.ren]
  | .np, v => by simp only [ren, Den]
  | .sl l a b, v => by simp only [ren, Den, Env.ren]
  | .ns, v => by simp only [ren, Den]
  | .mp l, v => by simp only [ren, Den, Env.ren]
  | .nm, v => by simp only [ren, Den]
  | .nf, v => by simp only [ren, Den]
  | .fn f cs, v => by simp only [ren, Den, DenL_ren cs]
  | .agg cs, v => by simp only [ren, Den, DenL_ren cs]
  | .tup cs, v => by simp only [ren, Den, DenL_ren cs]
  | .arr k n f, v => by simp only [ren, Den, Env.ren]
theorem DenL_ren {ρ : Env} {m : Nat → Nat} : ∀ (cs : List SV) (vs : List Value), DenL ρ (renL m cs) vs ↔ DenL (ρ.ren m) cs vs
  | [], vs => by simp only [renL, DenL]
  | c :: cs, vs => by simp only [renL, DenL, Den_ren c, DenL_ren cs]
end
mutual
theorem labs_ren {m : Nat → Nat} : ∀ (x : SV), (ren m x).labs = x.labs.map m
  | .u | .i _ _ | .b _ | .bt _ | .s _ | .np | .ns | .nm | .nf | .arr _ _ _ => by simp only [ren, SV.labs, List.map_nil]
  | .p _ _ _ | .q _ _ | .sl _ _ _ | .mp _ => by simp only [ren, SV.labs, List.map_cons, List.map_nil]
  | .fn f cs => by simp only [ren, SV.labs, labsL_ren cs]
  | .agg cs => by simp only [ren, SV.labs, labsL_ren cs]
  | .tup cs => by simp only [ren, SV.labs, labsL_ren cs]
theorem labsL_ren {m : Nat → Nat} : ∀ (cs : List SV), labsL (renL m cs) = (labsL cs).map m
  | [] => by simp only [renL, labsL, List.map_nil]
  | c :: cs => by simp only [renL, labsL, labs_ren c, labsL_ren cs, List.map_append]
end
theorem renL_length (m : Nat → Nat) (cs : List SV) : (renL m cs).length = cs.length := by
  induction cs with
  | nil => rfl
  | cons c cs ih => simp [renL, ih]
theorem Blk.labs_ren (m : Nat → Nat) (b : Blk) : (b.ren m).labs = b.labs.map m := by
  cases b <;> simp [Blk.ren, Blk.labs, labsL_ren]
theorem Blk.mut_ren (m : Nat → Nat) (b : Blk) : (b.ren m).mut = b.mut := by cases b <;> rfl
theorem Blk.live_ren (m : Nat → Nat) (b : Blk) : (b.ren m).live = b.live := by cases b <;> rfl
theorem keys_renH (m : Nat → Nat) (g : List (Nat × Blk)) : keys (renH m g) = mapN m (keys g) := by
  induction g with
  | nil => rfl
  | cons x r ih => obtain ⟨l, b⟩ := x; simp [renH, keys, mapN, ih]

/-! ### Entailment -/
mutual
theorem Ent.den {ρ : Env} {G : Hp} (tight : ∀ l, G l = none → ρ l = none) : ∀ (y x : SV) (v : Value), Ent G x y → Den ρ x v → Den ρ y v
  | .u, x, v, _, _ => by simp only [Den]
  | .i k' n', x, v, h, hd => by
    cases x <;> simp only [Ent] at h <;> try exact h.elim
    rename_i k n
    split at h
    · rename_i hk
      rw [IntKind.same_iff.1 hk, h] at hd; exact hd
    · exact h.elim
  | .b y, x, v, h, hd => by
    cases x <;> simp only [Ent] at h <;> try exact h.elim
    · subst h; exact hd
    · subst h; simpa only [Den] using hd
  | .bt y, x, v, h, hd => by
    cases x <;> simp only [Ent] at h <;> try exact h.elim
    subst h; exact hd
  | .s y, x, v, h, hd => by
    cases x <;> simp only [Ent] at h <;> try exact h.elim
    subst h; exact hd
  | .p l' r' c', x, v, h, hd => by
    cases x <;> simp only [Ent] at h <;> try exact h.elim
    split at h
    · rename_i hl
      obtain ⟨rfl, rfl⟩ := h
      rw [← Nat.eq_of_beq_eq_true hl]; exact hd
    · exact h.elim
  | .q l' n', x, v, h, hd => by
    cases x <;> simp only [Ent] at h <;> try exact h.elim
    · split at h
      · rename_i hl
        obtain ⟨rfl, rfl, hn⟩ := h
        rw [← Nat.eq_of_beq_eq_true hl]
        simp only [Den] at hd ⊢
        obtain ⟨pl, e1, e2⟩ := hd
        exact .inr ⟨pl, hn, e1, e2⟩
      · exact h.elim
    · split at h
      · rename_i hl
        subst h
        rw [← Nat.eq_of_beq_eq_true hl]; exact hd
      · exact h.elim
    · subst h
      simp only [Den] at hd ⊢
      exact .inl ⟨trivial, hd⟩
  | .np, x, v, h, hd => by
    cases x <;> simp only [Ent] at h <;> try exact h.elim
    exact hd
  | .sl l' a' b', x, v, h, hd => by
    cases x <;> simp only [Ent] at h <;> try exact h.elim
    · split at h
      · rename_i hl
        obtain ⟨rfl, rfl⟩ := h
        rw [← Nat.eq_of_beq_eq_true hl]; exact hd
      · exact h.elim
    · obtain ⟨h1, rfl, rfl⟩ := h
      simp only [Den] at hd ⊢
      refine .inl ⟨tight l' ?_, hd, by simp⟩
      unfold none? at h1
      split at h1
      · assumption
      · exact h1.elim
  | .ns, x, v, h, hd => by
    cases x <;> simp only [Ent] at h <;> try exact h.elim
    exact hd
  | .mp l', x, v, h, hd => by
    cases x <;> simp only [Ent] at h <;> try exact h.elim
    split at h
    · rename_i hl
      rw [← Nat.eq_of_beq_eq_true hl]; exact hd
    · exact h.elim
  | .nm, x, v, h, hd => by
    cases x <;> simp only [Ent] at h <;> try exact h.elim
    exact hd
  | .nf, x, v, h, hd => by
    cases x <;> simp only [Ent] at h <;> try exact h.elim
    exact hd
  | .fn f cs, x, v, h, hd => by
    cases x <;> simp only [Ent] at h <;> try exact h.elim
    split at h
    · rename_i hf
      simp only [Den] at hd ⊢
      obtain ⟨vs, e, hd⟩ := hd
      rw [Nat.eq_of_beq_eq_true hf] at e
      exact ⟨vs, e, EntL.den tight cs _ _ h hd⟩
    · exact h.elim
  | .agg cs, x, v, h, hd => by
    cases x <;> simp only [Ent] at h <;> try exact h.elim
    simp only [Den] at hd ⊢
    obtain ⟨vs, e, hd⟩ := hd
    exact ⟨vs, e, EntL.den tight cs _ _ h hd⟩
  | .tup cs, x, v, h, hd => by
    cases x <;> simp only [Ent] at h <;> try exact h.elim
    simp only [Den] at hd ⊢
    obtain ⟨vs, e, hd⟩ := hd
    exact ⟨vs, e, EntL.den tight cs _ _ h hd⟩
  | .arr k n f, x, v, h, hd => by
    cases x <;> simp only [Ent] at h <;> try exact h.elim
    split at h
    · rename_i hk
      obtain ⟨rfl, hj⟩ := h
      have := kdsSame_iff.1 hk
      subst this
      simp only [Den] at hd ⊢
      obtain ⟨vs, e, hs, hc⟩ := hd
      exact ⟨vs, e, hs, fun r hr => DenR.eqv (hj.h r hr) (hc r hr)⟩
    · exact h.elim
theorem EntL.den {ρ : Env} {G : Hp} (tight : ∀ l, G l = none → ρ l = none) : ∀ (ys xs : List SV) (vs : List Value), EntL G xs ys → DenL ρ xs vs → DenL ρ ys vs
  | [], xs, vs, h, hd => by
    cases xs with
    | nil => exact hd
    | cons => simp only [EntL] at h
  | y :: ys, xs, vs, h, hd => by
    cases xs with
    | nil => simp only [EntL] at h
    | cons x xs =>
      simp only [EntL] at h
      cases vs with
      | nil => simp [DenL] at hd
      | cons v vs =>
        rw [DenL_cons] at hd ⊢
        exact ⟨Ent.den tight y x v h.1 hd.1, EntL.den tight ys xs vs h.2 hd.2⟩
end
theorem EntL.length {G : Hp} : ∀ {xs ys : List SV}, EntL G xs ys → xs.length = ys.length
  | [], [], _ => rfl
  | [], _ :: _, h => by simp only [EntL] at h
  | _ :: _, [], h => by simp only [EntL] at h
  | x :: xs, y :: ys, h => by simp only [EntL] at h; simp [EntL.length h.2]

mutual
theorem Kd.eqv_rfl : ∀ (k : Kd) (a : D), k.eqv a a
  | .int _, a => by simp only [Kd.eqv]
  | .bool, a => by simp only [Kd.eqv]
  | .str, a => by simp only [Kd.eqv]
  | .sl ks, a => by simp only [Kd.eqv]; exact ⟨trivial, fun r _ => rowEq_rfl ks _ 0⟩
  | .pt _ ks, a => by simp only [Kd.eqv]; exact ⟨trivial, fun r _ => rowEq_rfl ks _ 0⟩
theorem rowEq_rfl : ∀ (ks : List Kd) (g : Nat → D) (c : Nat), rowEq ks g g c
  | [], _, _ => by simp only [rowEq]
  | k :: ks, g, c => by simp only [rowEq]; exact ⟨Kd.eqv_rfl k _, rowEq_rfl ks g (c + 1)⟩
end
theorem RowsEq.rfl' {ks : List Kd} {n : Nat} {f : Nat → Nat → D} : RowsEq ks n f f := ⟨fun r _ => rowEq_rfl ks _ 0⟩
theorem MapEq.rfl' {ks : List Kd} {keys : List Int} {f : Int → Nat → D} : MapEq ks keys keys f f := ⟨List.Perm.refl _, fun k _ => rowEq_rfl ks _ 0⟩
end Go.Sym
