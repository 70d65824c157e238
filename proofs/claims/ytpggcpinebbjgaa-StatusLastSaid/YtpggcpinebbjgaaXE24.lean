/- For those who write contracts: tables of contracts; lists of structures as rows. -/
import Derived.Test.YtpggcpinebbjgaaXE23
namespace Go.Sym
set_option linter.unusedVariables false
set_option linter.unusedSimpArgs false

def ConL (P : Program) (C : List (Nat × Con)) : Prop := ∀ g con, cget C g = some con → ∀ ct, con.Has ct → Good P g ct ∧ FnOk P g
theorem ConL.nil {P : Program} : ConL P [] := fun g con h => by cases h
theorem ConL.cons {P : Program} {C : List (Nat × Con)} {g : Nat} {con : Con} (h : ∀ ct, con.Has ct → Good P g ct ∧ FnOk P g) (t : ConL P C) : ConL P ((g, con) :: C) := by
  intro g' con' hg
  unfold cget at hg
  split at hg
  · rename_i hb
    cases hg
    rw [← Nat.eq_of_beq_eq_true hb]
    exact h
  · exact t g' con' hg
theorem ConL.one {P : Program} {g : Nat} {c : CT} (h : Good P g c ∧ FnOk P g) : ∀ ct, (Con.one c).Has ct → Good P g ct ∧ FnOk P g := by
  intro ct hc
  cases hc
  exact h
theorem ConL.two {P : Program} {g : Nat} {sel : List SV → Hp → Bool} {a b : Con} (ha : ∀ ct, a.Has ct → Good P g ct ∧ FnOk P g) (hb : ∀ ct, b.Has ct → Good P g ct ∧ FnOk P g) :
    ∀ ct, (Con.two sel a b).Has ct → Good P g ct ∧ FnOk P g := by
  intro ct hc
  rcases hc with h | h
  · exact ha ct h
  · exact hb ct h
theorem ConL.ok {P : Program} {c : Cfg} (h : ConL P c.C) : ConOk P c := fun g ct ⟨con, h1, h2⟩ => h g con h1 ct h2

def fnChk (fn : Func) : Bool := (fn.name != "runtime.NumGoroutine") && (match fn.body with | some code => dstOk fn.ntmps code | none => false) && Nat.ble fn.ntmps 100000
theorem good_of {P : Program} {c : Cfg} {f : Nat} {fn : Func} {ct : CT} {iv : ct.X → Nat → Option Inv} (hT : TOk P c.T) (hC : ConOk P c) (hf : P.funcs[f]? = some fn) (chk : fnChk fn = true)
    (hA : ∀ x, Nat.ble (ct.args x).length 100000 = true) (hk : Keeps c fn ct iv) : Good P f ct ∧ FnOk P f := by
  unfold fnChk at chk
  simp only [Bool.and_eq_true] at chk
  obtain ⟨⟨h1, h2⟩, h3⟩ := chk
  cases hb : fn.body with
  | none => rw [hb] at h2; cases h2
  | some code =>
    rw [hb] at h2
    exact good_of_keeps hT hC hf (by simpa using h1) hb h2 (Nat.le_of_ble_eq_true h3) (fun x _ => Nat.le_of_ble_eq_true (hA x)) hk
def noIv {X : Type} : X → Nat → Option Inv := fun _ _ => none
def noInv : Nat → Option Inv := fun _ => none
/-- The columns of a row. -/
def encN : List D → Nat → D
  | [], _ => .i 0
  | x :: _, 0 => x
  | _ :: r, n + 1 => encN r n
/-- A list of structures, as rows. -/
def encL {α : Type} [Inhabited α] (e : α → Nat → D) (xs : List α) : Nat → Nat → D := fun r c => e (xs.getD r default) c
def encI (n : Int) (_ : Nat) : D := .i n
def encB (b : Bool) (_ : Nat) : D := .b b
def encS (s : ByteArray) (_ : Nat) : D := .s s

mutual
theorem Kd.eqv_trans : ∀ {k : Kd} {a b c : D}, k.eqv a b → k.eqv b c → k.eqv a c
  | .int _, a, b, c, h1, h2 => by simp only [Kd.eqv] at *; exact h1.trans h2
  | .bool, a, b, c, h1, h2 => by simp only [Kd.eqv] at *; exact h1.trans h2
  | .str, a, b, c, h1, h2 => by simp only [Kd.eqv] at *; exact h1.trans h2
  | .sl ks, a, b, c, h1, h2 => by
    simp only [Kd.eqv] at *
    exact ⟨h1.1.trans h2.1, fun r hr => rowEq_trans (h1.2 r hr) (h2.2 r (h1.1 ▸ hr))⟩
  | .pt _ ks, a, b, c, h1, h2 => by
    simp only [Kd.eqv] at *
    exact ⟨h1.1.trans h2.1, fun r hr => rowEq_trans (h1.2 r hr) (h2.2 r (h1.1 ▸ hr))⟩
theorem rowEq_trans : ∀ {ks : List Kd} {f g h : Nat → D} {c : Nat}, rowEq ks f g c → rowEq ks g h c → rowEq ks f h c
  | [], _, _, _, _, _, _ => by simp only [rowEq]
  | k :: ks, _, _, _, _, h1, h2 => by
    simp only [rowEq] at *
    exact ⟨Kd.eqv_trans h1.1 h2.1, rowEq_trans h1.2 h2.2⟩
end
theorem RowsEq.trans {ks : List Kd} {n : Nat} {f g h : Nat → Nat → D} (h1 : RowsEq ks n f g) (h2 : RowsEq ks n g h) : RowsEq ks n f h := ⟨fun r hr => rowEq_trans (h1.h r hr) (h2.h r hr)⟩
theorem rowEq_of_eq {ks : List Kd} {f g : Nat → D} {c : Nat} (h : f = g) : rowEq ks f g c := h ▸ rowEq_rfl _ _ _

theorem getD_set_self {α : Type} {xs : List α} {r : Nat} {v d : α} (h : r < xs.length) : (xs.set r v).getD r d = v := by
  simp [List.getD_eq_getElem?_getD, h]
theorem getD_set_ne {α : Type} {xs : List α} {r i : Nat} {v d : α} (h : r ≠ i) : (xs.set r v).getD i d = xs.getD i d := by
  simp [List.getD_eq_getElem?_getD, h]
/-- A row written over. -/
theorem rowsEq_set {α : Type} [Inhabited α] {ks : List Kd} {e : α → Nat → D} {xs : List α} {n r c : Nat} {ds : List D} {v : α} (hr : r < xs.length) (h : rowEq ks (putD (e (xs.getD r default)) c ds) (e v) 0) :
    RowsEq ks n (setRow (encL e xs) r c ds) (encL e (xs.set r v)) := by
  refine ⟨fun i hi => ?_⟩
  unfold setRow encL
  by_cases e1 : i = r
  · subst e1
    rw [show (xs.set i v).getD i default = v by simp [List.getD_eq_getElem?_getD, hr]]
    simpa using h
  · have : (xs.set r v).getD i default = xs.getD i default := by
      simp [List.getD_eq_getElem?_getD, List.getElem?_set_ne (Ne.symm e1)]
    rw [this]
    simp only [e1, if_false]
    exact rowEq_rfl _ _ _
theorem putD_row : ∀ (ks : List Kd) (c : Nat) (f g : Nat → D) (c0 : Nat) (ds : List D), rowEq ks f g c → rowEq ks (putD f c0 ds) (putD g c0 ds) c
  | [], _, _, _, _, _, _ => by simp only [rowEq]
  | k :: ks, c, f, g, c0, ds, h => by
    simp only [rowEq] at h ⊢
    refine ⟨?_, putD_row ks (c + 1) f g c0 ds h.2⟩
    have : ∀ (ds : List D) (c0 : Nat), k.eqv (putD f c0 ds c) (putD g c0 ds c) := by
      intro ds
      induction ds with
      | nil => intro c0; exact h.1
      | cons d ds ih =>
        intro c0
        unfold putD
        split
        · exact Kd.eqv_rfl _ _
        · exact ih _
    exact this ds c0
theorem rowsEq_setOf {α : Type} [Inhabited α] {ks : List Kd} {e : α → Nat → D} {xs : List α} {n r c : Nat} {f : Nat → Nat → D} {ds : List D} {v : α} (h : RowsEq ks n f (encL e xs)) (hr : r < n) (hx : r < xs.length)
    (h2 : rowEq ks (putD (e (xs.getD r default)) c ds) (e v) 0) : RowsEq ks n (setRow f r c ds) (encL e (xs.set r v)) := by
  refine RowsEq.trans ⟨fun i hi => ?_⟩ (rowsEq_set hx h2)
  unfold setRow
  by_cases e1 : i = r
  · subst e1
    simp only [if_true]
    exact putD_row _ _ _ _ _ _ (h.h i hi)
  · simp only [e1, if_false]
    exact h.h i hi
/-- What is appended. -/
theorem rowsEq_app {α : Type} [Inhabited α] {ks : List Kd} {e : α → Nat → D} {xs ys : List α} {n k lo : Nat} {g : Nat → Nat → D} (hn : n = xs.length) (hk : k ≤ xs.length + ys.length)
    (h : ∀ i, i < ys.length → rowEq ks (g (lo + i)) (e (ys.getD i default)) 0) :
    RowsEq ks k (appRows n (encL e xs) lo g) (encL e (xs ++ ys)) := by
  subst hn
  refine ⟨fun i hi => ?_⟩
  unfold appRows encL
  by_cases e1 : i < xs.length
  · rw [show (xs ++ ys).getD i default = xs.getD i default by simp [List.getD_eq_getElem?_getD, List.getElem?_append_left e1]]
    simp only [e1, if_true]
    exact rowEq_rfl _ _ _
  · rw [show (xs ++ ys).getD i default = ys.getD (i - xs.length) default by simp [List.getD_eq_getElem?_getD, List.getElem?_append_right (Nat.not_lt.1 e1)]]
    simp only [e1, if_false]
    exact h _ (by omega)
theorem rowsEq_appOf {α : Type} [Inhabited α] {ks : List Kd} {e : α → Nat → D} {xs ys : List α} {n k lo : Nat} {f g : Nat → Nat → D} (hf : RowsEq ks n f (encL e xs)) (hn : n = xs.length) (hk : k ≤ xs.length + ys.length)
    (h : ∀ i, i < ys.length → rowEq ks (g (lo + i)) (e (ys.getD i default)) 0) :
    RowsEq ks k (appRows n f lo g) (encL e (xs ++ ys)) := by
  refine RowsEq.trans ⟨fun i hi => ?_⟩ (rowsEq_app (lo := lo) hn hk h)
  unfold appRows
  by_cases e1 : i < n
  · simp only [e1, if_true]
    exact hf.h i e1
  · simp only [e1, if_false]
    exact rowEq_rfl _ _ _
/-- One more. -/
theorem rowsEq_pushOf {α : Type} [Inhabited α] {ks : List Kd} {e : α → Nat → D} {xs : List α} {n k : Nat} {f : Nat → Nat → D} {ds : List D} {v : α} (hf : RowsEq ks n f (encL e xs)) (hn : n = xs.length) (hk : k ≤ xs.length + 1) (h : rowEq ks (fun j => ds.getD j (.i 0)) (e v) 0) :
    RowsEq ks k (appRows n f 0 (litRows [ds])) (encL e (xs ++ [v])) := by
  refine rowsEq_appOf hf hn (by simpa using hk) fun i hi => ?_
  have : i = 0 := by simpa using hi
  subst this
  exact h
/-- One more. -/
theorem rowsEq_push {α : Type} [Inhabited α] {ks : List Kd} {e : α → Nat → D} {xs : List α} {n k : Nat} {ds : List D} {v : α} (hn : n = xs.length) (hk : k ≤ xs.length + 1) (h : rowEq ks (fun j => ds.getD j (.i 0)) (e v) 0) :
    RowsEq ks k (appRows n (encL e xs) 0 (litRows [ds])) (encL e (xs ++ [v])) := by
  refine rowsEq_app hn (by simpa using hk) fun i hi => ?_
  have : i = 0 := by simpa using hi
  subst this
  exact h
/-- Nothing yet, and what is appended to it. -/
theorem rowsEq_nil {α : Type} [Inhabited α] {ks : List Kd} {e : α → Nat → D} {ys : List α} {k lo : Nat} {f g : Nat → Nat → D} (hk : k ≤ ys.length) (h : ∀ i, i < ys.length → rowEq ks (g (lo + i)) (e (ys.getD i default)) 0) :
    RowsEq ks k (appRows 0 f lo g) (encL e ys) := by
  refine ⟨fun i hi => ?_⟩
  unfold appRows encL
  simp only [Nat.not_lt_zero, if_false, Nat.sub_zero]
  exact h _ (by omega)
theorem rowsEq_zero {α : Type} [Inhabited α] {ks : List Kd} {e : α → Nat → D} {n k : Nat} (h : rowEq ks (zRow ks) (e default) 0) : RowsEq ks k (fun _ j => zRow ks j) (encL e (List.replicate n default)) := by
  refine ⟨fun i hi => ?_⟩
  unfold encL
  have : (List.replicate n (default : α)).getD i default = default := by
    rw [List.getD_eq_getElem?_getD, List.getElem?_replicate]
    split <;> rfl
  rw [this]
  exact h
end Go.Sym
