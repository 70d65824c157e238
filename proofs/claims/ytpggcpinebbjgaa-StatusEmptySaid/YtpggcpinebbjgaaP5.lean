/- law30: the plain law: the inbox and the reference say the same. -/
import Derived.Test.YtpggcpinebbjgaaW4
namespace Go.Sym
set_option linter.unusedVariables false
set_option linter.unusedSimpArgs false

def playB (n now : Int) (l : List Came) (k : Nat) : Box := (l.take k).foldl (fun b c => b.add c.sta c.now) (Box.new n now)
def playY (n now : Int) (l : List Came) (k : Nat) : Ref := (l.take k).foldl (fun y c => y.put c.sta c.now) (Ref.new n now)
theorem playB_succ {n now : Int} {l : List Came} {k : Nat} (h : k < l.length) : playB n now l (k + 1) = (playB n now l k).add (l.getD k default).sta (l.getD k default).now := by
  unfold playB; rw [take_succ_getD (d := default) h, List.foldl_append]; rfl
theorem playY_succ {n now : Int} {l : List Came} {k : Nat} (h : k < l.length) : playY n now l (k + 1) = (playY n now l k).put (l.getD k default).sta (l.getD k default).now := by
  unfold playY; rw [take_succ_getD (d := default) h, List.foldl_append]; rfl
theorem add_length (b : Box) (s : Sta) (now : Int) : (b.add s now).length = b.length := by unfold Box.add; split <;> simp

/-- The inbox and the reference agree. -/
structure Same (b : Box) (y : Ref) : Prop where
  units : y.units = b.length
  few : b.length ≤ 256
  sta : ∀ u : Nat, u < b.length → (b.getD u default).sta = (y.all u).1
  heard : ∀ u : Nat, u < b.length → (b.getD u default).heard = (y.all u).2.1
  there : ∀ u : Nat, u < b.length → decide ((b.getD u default).added ≠ 0) = (y.all u).2.2
  added : ∀ u : Nat, u < b.length → (b.getD u default).added = y.count u y.news.length
  none : ∀ u : Nat, u < b.length → (y.all u).2.2 = false → (y.all u).1 = zeroSta
  out : ∀ c ∈ y.news, 0 ≤ c.sta.unit ∧ c.sta.unit < b.length
  ok : b.Ok
  ok1 : ∀ c ∈ y.news, 0 ≤ c.sta.seq ∧ c.sta.seq ≤ lim
  ok2 : y.Ok2

theorem minMax_le (n : Int) : 0 ≤ minMax n ∧ minMax n ≤ lim := by unfold minMax lim; omega
theorem Ref.count_push (y : Ref) (u : Int) (c : Came) : ({ y with news := y.news ++ [c] } : Ref).count u (y.news ++ [c]).length = y.count u y.news.length + if c.sta.unit = u then 1 else 0 := by
  unfold Ref.count
  rw [List.take_length, List.take_length, List.filter_append, List.length_append]
  by_cases e : c.sta.unit = u
  · simp only [List.filter_cons, List.filter_nil, e, decide_true, if_true]; simp
  · simp only [List.filter_cons, List.filter_nil, e, decide_false, if_false]; simp
theorem Ref.all_push (y : Ref) (u : Int) (c : Came) : ({ y with news := y.news ++ [c] } : Ref).all u = Ref.step u (y.all u) c := by
  unfold Ref.all; rw [List.foldl_append]; rfl
theorem Ref.all_out (y : Ref) (u : Int) (h : ∀ c ∈ y.news, c.sta.unit ≠ u) : y.all u = (zeroSta, y.since, false) := by
  unfold Ref.all
  have : ∀ (l : List Came) (a : Sta × Int × Bool), (∀ c ∈ l, c.sta.unit ≠ u) → l.foldl (Ref.step u) a = a := by
    intro l
    induction l with
    | nil => intro a _; rfl
    | cons c l ih =>
      intro a hl
      rw [List.foldl_cons]
      have : Ref.step u a c = a := by unfold Ref.step; rw [if_neg (hl c (by simp))]
      rw [this]
      exact ih a fun c hc => hl c (by simp [hc])
  exact this _ _ h
theorem same_new {n now : Int} (h : 0 ≤ n ∧ n ≤ 256) : Same (Box.new n now) (Ref.new n now) := by
  have hu : unitsOk n = true := by unfold unitsOk; simp; exact h
  have hg : ∀ u : Nat, u < (Box.new n now).length → (Box.new n now).getD u default = ⟨zeroSta, 0, minMax now⟩ := by
    intro u hu
    simp [Box.new] at hu ⊢
    simp [List.getD_eq_getElem?_getD, hu]
  have hy : Ref.new n now = ⟨n, minMax now, []⟩ := by unfold Ref.new; rw [hu]; rfl
  have hm := minMax_le now
  have ha : ∀ u, (Ref.new n now).all u = (zeroSta, minMax now, false) := fun u => by rw [hy]; rfl
  refine ⟨?_, by simp [Box.new]; omega, fun u hu => ?_, fun u hu => ?_, fun u hu => ?_, fun u hu => ?_, fun u hu _ => ?_, ?_, fun u hu => ?_, ?_, ⟨?_, ?_, ?_⟩⟩
  · rw [hy]; simp [Box.new]; omega
  · rw [hg u hu, ha]
  · rw [hg u hu, ha]
  · rw [hg u hu, ha]; rfl
  · rw [hg u hu, hy]; rfl
  · rw [ha]
  · rw [hy]; simp
  · rw [hg u hu]; exact ⟨by simp [zeroSta], by simp [zeroSta, lim], hm⟩
  · rw [hy]; simp
  · rw [hy]; simp
  · rw [hy]; exact hm
  · rw [hy]; exact h.2
theorem Same.at {b : Box} {y : Ref} (h : Same b y) {u : Int} (h1 : 0 ≤ u) (h2 : u < b.length) : (b.at u).sta = (y.all u).1 ∧ (b.at u).heard = (y.all u).2.1 ∧ decide ((b.at u).added ≠ 0) = (y.all u).2.2 ∧ (b.at u).added = y.count u y.news.length ∧ ((y.all u).2.2 = false → (y.all u).1 = zeroSta) := by
  have hu : u.toNat < b.length := by omega
  have e : ((u.toNat : Nat) : Int) = u := by omega
  have q1 := h.sta u.toNat hu
  have q2 := h.heard u.toNat hu
  have q3 := h.there u.toNat hu
  have q4 := h.added u.toNat hu
  have q5 := h.none u.toNat hu
  rw [e] at q1 q2 q3 q4 q5
  exact ⟨q1, q2, q3, q4, q5⟩
theorem Same.allOut {b : Box} {y : Ref} (h : Same b y) {u : Int} (h1 : ¬ (0 ≤ u ∧ u < b.length)) : y.all u = (zeroSta, y.since, false) :=
  y.all_out u fun c hc e => h1 (by rw [← e]; exact h.out c hc)
theorem Same.valid {b : Box} {y : Ref} (h : Same b y) (s : Sta) : b.valid s = y.valid s := by
  unfold Box.valid Ref.valid Box.has
  rw [h.units]
  cases stateOk s.state <;> simp
theorem Same.isNew {b : Box} {y : Ref} (h : Same b y) (s : Sta) : b.isNew s = y.isNew s := by
  unfold Box.isNew Ref.isNew
  rw [h.valid s]
  cases hv : y.valid s with
  | false => rfl
  | true =>
    have hr : 0 ≤ s.unit ∧ s.unit < b.length ∧ 1 ≤ s.seq := by
      have := h.units
      grind [Ref.valid]
    obtain ⟨q1, q2, q3, q4, q5⟩ := h.at hr.1 hr.2.1
    rw [q1]
    unfold Ref.last Ref.there
    cases ht : (y.all s.unit).2.2 with
    | false => rw [q5 ht]; have := hr.2.2; simp only [zeroSta, Bool.true_and, Bool.false_and, Bool.not_false]; exact decide_eq_true (by omega)
    | true => simp only [Bool.true_and, if_true]; grind
theorem Same.err {b : Box} {y : Ref} (h : Same b y) (s : Sta) : b.err s = y.err s := by
  unfold Box.err Ref.err; rw [h.valid s]
theorem Same.step {b : Box} {y : Ref} (h : Same b y) (s : Sta) (now : Int) : Same (b.add s now) (y.put s now) := by
  unfold Box.add Ref.put
  rw [← h.isNew s]
  cases hn : b.isNew s with
  | false => exact h
  | true =>
    simp only [if_true]
    have hv : b.valid s = true := by unfold Box.isNew at hn; simp at hn; exact hn.1
    have hseq : (b.at s.unit).sta.seq < s.seq := by unfold Box.isNew at hn; simp at hn; exact hn.2
    have hr : 0 ≤ s.unit ∧ s.unit < b.length ∧ 1 ≤ s.seq ∧ s.seq ≤ lim := by
      unfold Box.valid Box.has at hv; simp at hv; omega
    obtain ⟨q1, q2, q3, q4, q5⟩ := h.at hr.1 hr.2.1
    have hm := minMax_le now
    have hk : s.unit.toNat < b.length := by omega
    have hO := h.ok s.unit.toNat hk
    have hcount := y.count_le s.unit y.news.length
    have hat : b.getD s.unit.toNat default = b.at s.unit := rfl
    rw [hat] at hO
    have hg : ∀ u : Nat, u < b.length → (b.set s.unit.toNat ⟨s, (b.at s.unit).added + 1, max (b.at s.unit).heard (minMax now)⟩).getD u default = if u = s.unit.toNat then ⟨s, (b.at s.unit).added + 1, max (b.at s.unit).heard (minMax now)⟩ else b.getD u default := by
      intro u hu
      by_cases e : u = s.unit.toNat
      · rw [if_pos e, e, getD_set_self hk]
      · rw [if_neg e, getD_set_ne (Ne.symm e)]
    have hstep : ∀ u : Nat, ({ y with news := y.news ++ [⟨s, minMax now⟩] } : Ref).all u = if u = s.unit.toNat then (s, max (b.at s.unit).heard (minMax now), true) else y.all u := by
      intro u
      rw [Ref.all_push]
      unfold Ref.step
      by_cases e : u = s.unit.toNat
      · have e' : s.unit = (u : Int) := by omega
        rw [if_pos e, if_pos e', ← e', q2]
      · have e' : ¬ s.unit = (u : Int) := by omega
        rw [if_neg e, if_neg e']
    refine ⟨by simpa using h.units, by simpa using h.few, fun u hu => ?_, fun u hu => ?_, fun u hu => ?_, fun u hu => ?_, fun u hu ht => ?_, ?_, fun u hu => ?_, ?_, ⟨?_, h.ok2.since, h.ok2.units⟩⟩
    all_goals try rw [List.length_set] at hu
    · rw [hg u hu, hstep]
      by_cases e : u = s.unit.toNat
      · rw [if_pos e, if_pos e]
      · rw [if_neg e, if_neg e]; exact h.sta u hu
    · rw [hg u hu, hstep]
      by_cases e : u = s.unit.toNat
      · rw [if_pos e, if_pos e]
      · rw [if_neg e, if_neg e]; exact h.heard u hu
    · rw [hg u hu, hstep]
      by_cases e : u = s.unit.toNat
      · rw [if_pos e, if_pos e]
        have : (b.at s.unit).added + 1 ≠ 0 := by omega
        simp [this]
      · rw [if_neg e, if_neg e]; exact h.there u hu
    · rw [hg u hu, Ref.count_push]
      by_cases e : u = s.unit.toNat
      · have e' : s.unit = (u : Int) := by omega
        rw [if_pos e, if_pos e', ← e', q4]
      · have e' : ¬ s.unit = (u : Int) := by omega
        rw [if_neg e, if_neg e', Int.add_zero]; exact h.added u hu
    · rw [hstep] at ht ⊢
      by_cases e : u = s.unit.toNat
      · rw [if_pos e] at ht; cases ht
      · rw [if_neg e] at ht ⊢; exact h.none u hu ht
    · intro c hc
      rw [List.length_set]
      simp at hc
      rcases hc with hc | rfl
      · exact h.out c hc
      · exact ⟨hr.1, hr.2.1⟩
    · rw [hg u hu]
      by_cases e : u = s.unit.toNat
      · rw [if_pos e]
        exact ⟨by have := hO.a; simp only; omega, hr.2.2.2, by have := hO.h; simp only; omega⟩
      · rw [if_neg e]; exact h.ok u hu
    · intro c hc
      simp at hc
      rcases hc with hc | rfl
      · exact h.ok1 c hc
      · exact ⟨by simp only; omega, hr.2.2.2⟩
    · intro c hc
      simp at hc
      rcases hc with hc | rfl
      · exact h.ok2.m c hc
      · exact hm
theorem same_play {n now : Int} (h : 0 ≤ n ∧ n ≤ 256) (l : List Came) : ∀ k : Nat, k ≤ l.length → Same (playB n now l k) (playY n now l k)
  | 0, _ => same_new h
  | k + 1, hk => by rw [playB_succ (by omega), playY_succ (by omega)]; exact (same_play h l k (by omega)).step _ _
theorem put_length (y : Ref) (s : Sta) (now : Int) : (y.put s now).news.length ≤ y.news.length + 1 := by unfold Ref.put; split <;> simp
theorem play_few {n now : Int} (l : List Came) : ∀ k : Nat, k ≤ l.length → (playY n now l k).news.length ≤ k
  | 0, _ => by unfold playY Ref.new; simp; split <;> simp
  | k + 1, hk => by rw [playY_succ (by omega)]; have := put_length (playY n now l k) (l.getD k default).sta (l.getD k default).now; have := play_few (n := n) (now := now) l k (by omega); omega
theorem playB_length {n now : Int} (l : List Came) (h : 0 ≤ n ∧ n ≤ 256) : ∀ k : Nat, k ≤ l.length → (playB n now l k).length = n.toNat
  | 0, _ => by simp [playB, Box.new]
  | k + 1, hk => by rw [playB_succ (by omega), add_length]; exact playB_length l h k (by omega)
theorem Same.last {b : Box} {y : Ref} (h : Same b y) (u : Int) : b.last u = y.last u := by
  unfold Box.last Ref.last Box.there Ref.there
  by_cases hu : 0 ≤ u ∧ u < b.length
  · obtain ⟨q1, q2, q3, q4, q5⟩ := h.at hu.1 hu.2
    have hh : b.has u = true := by unfold Box.has; simp; exact hu
    rw [hh, Bool.true_and, q3, q1]
  · have hh : b.has u = false := by unfold Box.has; simpa using hu
    rw [h.allOut hu, hh]; rfl
theorem Same.thereE {b : Box} {y : Ref} (h : Same b y) (u : Int) : b.there u = y.there u := by
  unfold Box.there Ref.there
  by_cases hu : 0 ≤ u ∧ u < b.length
  · obtain ⟨q1, q2, q3, q4, q5⟩ := h.at hu.1 hu.2
    have hh : b.has u = true := by unfold Box.has; simp; exact hu
    rw [hh, Bool.true_and, q3]
  · have hh : b.has u = false := by unfold Box.has; simpa using hu
    rw [h.allOut hu, hh]; rfl
theorem Same.heardE {b : Box} {y : Ref} (h : Same b y) (u : Int) : b.heard u = y.heard u := by
  unfold Box.heard Ref.heard
  rw [h.thereE]
  by_cases hu : 0 ≤ u ∧ u < b.length
  · obtain ⟨q1, q2, q3, q4, q5⟩ := h.at hu.1 hu.2
    rw [q2]
  · have : y.there u = false := by unfold Ref.there; rw [h.allOut hu]
    rw [this]; rfl
theorem Same.missed {b : Box} {y : Ref} (h : Same b y) (u : Int) : b.missed u = y.missed u := by
  unfold Box.missed Ref.missed Ref.there
  by_cases hu : 0 ≤ u ∧ u < b.length
  · obtain ⟨q1, q2, q3, q4, q5⟩ := h.at hu.1 hu.2
    have hh : b.has u = true := by unfold Box.has; simp; exact hu
    rw [hh, if_pos rfl, q1, q4]
    cases ht : (y.all u).2.2 with
    | true => rw [if_pos rfl]
    | false =>
      rw [ht] at q3
      have : (b.at u).added = 0 := by simpa using q3
      rw [q5 ht, ← q4, this]; rfl
  · have hh : b.has u = false := by unfold Box.has; simpa using hu
    rw [h.allOut hu, hh]; rfl
end Go.Sym
