/- law30: StatusLast: the walk. -/
import Derived.Test.YtpggcpinebbjgaaW8
namespace Go.Sym
set_option linter.unusedVariables false
set_option linter.unusedSimpArgs false
open Go.Proofs
def mostStep (m : List Int) (c : Came) : List Int := if (Box.new 4 0).valid c.sta then m.set c.sta.unit.toNat (max (m.getD c.sta.unit.toNat default) c.sta.seq) else m
def mostAt (l : List Came) (k : Nat) : List Int := (l.take k).foldl mostStep (List.replicate 4 default)
theorem mostAt_succ {l : List Came} {k : Nat} (h : k < l.length) : mostAt l (k + 1) = mostStep (mostAt l k) (l.getD k default) := by
  unfold mostAt; rw [take_succ_getD (d := default) h, List.foldl_append]; rfl
theorem mostStep_length (m : List Int) (c : Came) : (mostStep m c).length = m.length := by unfold mostStep; split <;> simp
theorem mostAt_length {l : List Came} : ∀ {k : Nat}, k ≤ l.length → (mostAt l k).length = 4
  | 0, _ => by simp [mostAt]
  | k + 1, h => by rw [mostAt_succ (by omega), mostStep_length]; exact mostAt_length (by omega)
theorem valid4 (b : Box) (hb : b.length = 4) (s : Sta) : b.valid s = (Box.new 4 0).valid s := by
  unfold Box.valid Box.has; simp [hb, Box.new]
theorem valid4_unit {s : Sta} (h : (Box.new 4 0).valid s = true) : 0 ≤ s.unit ∧ s.unit < 4 ∧ 1 ≤ s.seq ∧ s.seq ≤ lim := by
  unfold Box.valid Box.has at h; simp [Box.new] at h; omega
/-- The greatest of all valid numbers, and the inbox. -/
structure Most (b : Box) (m : List Int) : Prop where
  len : b.length = 4
  mlen : m.length = 4
  seq : ∀ u : Nat, u < 4 → (b.getD u default).sta.seq = m.getD u default
  there : ∀ u : Nat, u < 4 → ((b.getD u default).added ≠ 0 ↔ 0 < m.getD u default)
  ok : b.Ok
theorem most_zero : Most (Box.new 4 0) (List.replicate 4 default) := by
  have h := same_new (n := 4) (now := 0) (by omega)
  refine ⟨by simp [Box.new], by simp, ?_, ?_, h.ok⟩ <;> intro u hu <;> (have : u = 0 ∨ u = 1 ∨ u = 2 ∨ u = 3 := by omega) <;> rcases this with rfl | rfl | rfl | rfl <;> decide
theorem Most.step {b : Box} {m : List Int} (h : Most b m) (c : Came) : Most (b.add c.sta c.now) (mostStep m c) := by
  have hok := Box.ok_add h.ok c.sta c.now
  have hlen : (b.add c.sta c.now).length = 4 := by rw [add_length]; exact h.len
  refine ⟨hlen, by rw [mostStep_length]; exact h.mlen, ?_, ?_, hok⟩
  all_goals
    intro u hu
    unfold mostStep
    unfold Box.add Box.isNew
    rw [valid4 b h.len]
    cases hv : (Box.new 4 0).valid c.sta with
    | false => simp only [Bool.false_and, Bool.false_eq_true, if_false]; first | exact h.seq u hu | exact h.there u hu
    | true =>
      obtain ⟨v1, v2, v3, v4⟩ := valid4_unit hv
      have hk : c.sta.unit.toNat < b.length := by rw [h.len]; omega
      have hm : c.sta.unit.toNat < m.length := by rw [h.mlen]; omega
      have hs := h.seq c.sta.unit.toNat (by omega)
      have ht := h.there c.sta.unit.toNat (by omega)
      have hO := h.ok c.sta.unit.toNat hk
      have ha := hO.a
      have hat : b.at c.sta.unit = b.getD c.sta.unit.toNat default := rfl
      rw [hat]
      by_cases hn : (b.getD c.sta.unit.toNat default).sta.seq < c.sta.seq
      · simp only [hn, decide_true, Bool.and_self, if_true]
        by_cases e : u = c.sta.unit.toNat
        · subst e
          rw [getD_set_self hk, getD_set_self hm]
          simp only
          omega
        · rw [getD_set_ne (Ne.symm e), getD_set_ne (Ne.symm e)]
          first | exact h.seq u hu | exact h.there u hu
      · simp only [hn, decide_false, Bool.and_false, Bool.false_eq_true, if_false, if_true]
        by_cases e : u = c.sta.unit.toNat
        · subst e
          rw [getD_set_self hm]
          have := h.seq _ hu
          have := h.there _ hu
          omega
        · rw [getD_set_ne (Ne.symm e)]
          first | exact h.seq u hu | exact h.there u hu
theorem most_play (l : List Came) : ∀ k : Nat, k ≤ l.length → Most (playB 4 0 l k) (mostAt l k)
  | 0, _ => most_zero
  | k + 1, hk => by rw [playB_succ (by omega), mostAt_succ (by omega)]; exact (most_play l k (by omega)).step _
theorem mostStep_mono (m : List Int) (hm : m.length = 4) (c : Came) (u : Nat) : m.getD u default ≤ (mostStep m c).getD u default := by
  unfold mostStep
  split
  · rename_i hv
    obtain ⟨v1, v2, v3, v4⟩ := valid4_unit hv
    by_cases e : u = c.sta.unit.toNat
    · subst e; rw [getD_set_self (by omega)]; omega
    · rw [getD_set_ne (Ne.symm e)]; omega
  · omega
theorem most_ge {l : List Came} {i : Nat} (hi : i < l.length) (hv : (Box.new 4 0).valid (l.getD i default).sta = true) : ∀ k : Nat, i < k → k ≤ l.length → (l.getD i default).sta.seq ≤ (mostAt l k).getD (l.getD i default).sta.unit.toNat default
  | 0, h, _ => by omega
  | k + 1, h, hk => by
    have hl := mostAt_length (l := l) (k := k) (by omega)
    rw [mostAt_succ (by omega)]
    by_cases e : i = k
    · subst e
      obtain ⟨v1, v2, v3, v4⟩ := valid4_unit hv
      unfold mostStep
      rw [hv]
      simp only [if_true]
      rw [getD_set_self (by omega)]
      omega
    · have h1 := most_ge hi hv k (by omega) (by omega)
      have h2 := mostStep_mono (mostAt l k) hl (l.getD k default) (l.getD i default).sta.unit.toNat
      omega
/-- Adding one of them again: nothing is new. -/
theorem again_isNew {l : List Came} {i : Nat} (hi : i < l.length) : (playB 4 0 l l.length).isNew (l.getD i default).sta = false := by
  have h := most_play l l.length (Nat.le_refl _)
  unfold Box.isNew
  rw [valid4 _ h.len]
  cases hv : (Box.new 4 0).valid (l.getD i default).sta with
  | false => rfl
  | true =>
    obtain ⟨v1, v2, v3, v4⟩ := valid4_unit hv
    have h1 := most_ge hi hv l.length hi (Nat.le_refl _)
    have h2 := h.seq (l.getD i default).sta.unit.toNat (by omega)
    have hat : (playB 4 0 l l.length).at (l.getD i default).sta.unit = (playB 4 0 l l.length).getD (l.getD i default).sta.unit.toNat default := rfl
    rw [hat, Bool.true_and]
    exact decide_eq_false (by omega)
theorem again_add {l : List Came} {i : Nat} (hi : i < l.length) (now : Int) : (playB 4 0 l l.length).add (l.getD i default).sta now = playB 4 0 l l.length := by
  unfold Box.add; rw [again_isNew hi]; rfl
theorem most_last {l : List Came} {u : Nat} (hu : u < 4) : (playB 4 0 l l.length).there u = decide (0 < (mostAt l l.length).getD u default) ∧ ((playB 4 0 l l.length).last u).seq = (mostAt l l.length).getD u default := by
  have h := most_play l l.length (Nat.le_refl _)
  have hh : (playB 4 0 l l.length).has (u : Int) = true := by unfold Box.has; rw [h.len]; simp; omega
  have hat : (playB 4 0 l l.length).at (u : Int) = (playB 4 0 l l.length).getD u default := by unfold Box.at; rw [Int.toNat_natCast]
  have h1 := h.seq u hu
  have h2 := h.there u hu
  have h3 := (h.ok u (by rw [h.len]; exact hu)).a
  have ht : (playB 4 0 l l.length).there u = decide (0 < (mostAt l l.length).getD u default) := by
    unfold Box.there
    rw [hh, hat, Bool.true_and]
    simp only [decide_eq_decide]
    exact h2
  refine ⟨ht, ?_⟩
  unfold Box.last
  rw [ht, hat]
  by_cases e : 0 < (mostAt l l.length).getD u default
  · simp only [e, decide_true, if_true]; exact h1
  · simp only [e, decide_false, Bool.false_eq_true, if_false, zeroSta]; omega
def C10 : List (Nat × Con) := [(9, .two encSelLong (.one playedLong) (.two encSelPlay (.one playedC) (.one playedNo))), (10, .one awakeC), (11, .one lastC), (13, .one missedC), (15, .two encSelNew (.one newC) (.one newNo)), (16, .one addC)]
def cfg10 : Cfg := ⟨T, [], C10, noInv, 31, {}⟩
theorem con10 : ConOk Try.prog cfg10 := ConL.ok (.cons (ConL.two (ConL.one playedLong_good) (ConL.two (ConL.one played_good) (ConL.one playedNo_good))) (.cons (ConL.one awake_good) (.cons (ConL.one last_good) (.cons (ConL.one missed_good) (.cons (ConL.two (ConL.one new_good) (ConL.one newNo_good)) (.cons (ConL.one add_good) .nil))))))
structure LastX where
  l : List Came
  again : Int
  now : Int
def LastX.b (x : LastX) : Box := PlayX.b ⟨4, 0, x.l⟩
def lastLawC : CT where
  X := LastX
  pre := fun x => 0 ≤ x.again ∧ x.again ≤ 255
  args := fun x => [.sl 100000 0 x.l.length, .i .u8 x.again, .i .i64 x.now]
  g0 := fun x => [(100000, .rows .bor k6 x.l.length (encL encCame x.l))]
  res := fun _ => .b true
  g1 := fun _ => []
def lastLawI (x : LastX) (id : Nat) : Option Inv := match id with
  | 0 => some { X := Nat, ok := fun k => k ≤ x.l.length, fr := fun k => [(45, .i .i64 k)], hp := fun k => [(10, .rows .own k1 4 (encL encI (mostAt x.l k)))], me := fun k => x.l.length - k }
  | 2 => some { X := Nat, ok := fun u => u ≤ 4, fr := fun u => [(92, .i .i64 u)], hp := fun _ => [], me := fun u => 4 - u }
  | _ => none
theorem err4 {s : Sta} (h : (Box.new 4 0).err s = 0) : (Box.new 4 0).valid s = true := by
  unfold Box.err at h
  cases hv : (Box.new 4 0).valid s with
  | true => rfl
  | false => rw [hv] at h; simp at h
theorem err4' {s : Sta} (h : ¬ (Box.new 4 0).err s = 0) : (Box.new 4 0).valid s = false := by
  unfold Box.err at h
  cases hv : (Box.new 4 0).valid s with
  | false => rfl
  | true => rw [hv] at h; simp at h
theorem mostAt_yes {l : List Came} {k : Nat} (h : k < l.length) (hv : (Box.new 4 0).valid (l.getD k default).sta = true) :
    RowsEq k1 4 (setRow (encL encI (mostAt l k)) (l.getD k default).sta.unit.toNat 0 [D.i (max ((mostAt l k).getD (l.getD k default).sta.unit.toNat default) (l.getD k default).sta.seq)]) (encL encI (mostAt l (k + 1))) := by
  have hl := mostAt_length (l := l) (k := k) (by omega)
  obtain ⟨v1, v2, v3, v4⟩ := valid4_unit hv
  rw [mostAt_succ h]
  unfold mostStep
  rw [hv]
  simp only [if_true]
  exact rowsEq_set (by omega) (by simp only [rowEq, Kd.eqv, k1]; exact ⟨rfl, trivial⟩)
theorem mostAt_no {l : List Came} {k : Nat} (h : k < l.length) (hv : (Box.new 4 0).valid (l.getD k default).sta = false) : mostAt l (k + 1) = mostAt l k := by
  rw [mostAt_succ h]; unfold mostStep; rw [hv]; rfl
theorem again_lt {a : Int} {n : Nat} (h0 : 0 ≤ a) (h : ¬ (n : Int) = 0) : 0 ≤ a % n ∧ a % n < n ∧ (a % n).toNat < n := by
  have := Int.emod_nonneg a h
  have := Int.emod_lt_of_pos a (show (0 : Int) < n by omega)
  omega
set_option maxRecDepth 100000 in
theorem lastLaw_keeps : Keeps cfg10 Try.f4 lastLawC lastLawI := Eq.mp (show ((∀ x1 : LastX,
 (((0 : Int) ≤ LastX.again x1 ∧ LastX.again x1 ≤ (255 : Int)) →
 (((decide ((60 : Nat) < List.length (LastX.l x1)) = true) →
 (∃ x4 : PlayX,
 (((60 : Nat) < List.length (PlayX.l x4)) ∧
 ((((4 : Int) = PlayX.n x4) ∧
 (((0 : Int) = PlayX.now x4) ∧
 ((((0 : Nat) = (0 : Nat)) ∧
 (List.length (LastX.l x1) = List.length (PlayX.l x4))) ∧
 (True)))) ∧
 ((((RLe (List.length (PlayX.l x4)) (List.length (LastX.l x1))) ∧
 (RowsEq (Kd.int IntKind.i64 :: Kd.int IntKind.i64 :: Kd.int IntKind.i64 :: Kd.int IntKind.i64 :: Kd.int IntKind.i64 :: Kd.int IntKind.i64 :: @List.nil Kd) (List.length (PlayX.l x4)) (encL encCame (LastX.l x1)) (encL encCame (PlayX.l x4)))) ∧
 (True)) ∧
 (((true = true) →
 (∃ x6 : Unit,
 ((True) ∧
 ((True) ∧
 ((True) ∧
 ((true = true) ∧
 (True))))))) ∧
 ((true = false) →
 ((false = true) ∧
 (True))))))))) ∧
 ((decide ((60 : Nat) < List.length (LastX.l x1)) = false) →
 (((decide ((0 : Int) ≤ (4 : Int) ∧ (4 : Int) ≤ (256 : Int)) = true) →
 (∃ x10 : PlayX,
 (((List.length (PlayX.l x10) ≤ (60 : Nat)) ∧
 (((0 : Int) ≤ PlayX.n x10) ∧
 (PlayX.n x10 ≤ (256 : Int)))) ∧
 ((((4 : Int) = PlayX.n x10) ∧
 (((0 : Int) = PlayX.now x10) ∧
 ((((0 : Nat) = (0 : Nat)) ∧
 (List.length (LastX.l x1) = List.length (PlayX.l x10))) ∧
 (True)))) ∧
 ((((RLe (List.length (PlayX.l x10)) (List.length (LastX.l x1))) ∧
 (RowsEq (Kd.int IntKind.i64 :: Kd.int IntKind.i64 :: Kd.int IntKind.i64 :: Kd.int IntKind.i64 :: Kd.int IntKind.i64 :: Kd.int IntKind.i64 :: @List.nil Kd) (List.length (PlayX.l x10)) (encL encCame (LastX.l x1)) (encL encCame (PlayX.l x10)))) ∧
 (True)) ∧
 (∃ x11 : Nat,
 (((x11 ≤ List.length (LastX.l x1)) ∧
 ((((0 : Int) = (↑x11 : Int)) ∧
 (((↑(List.length (LastX.l x1)) : Int) = (↑(List.length (LastX.l x1)) : Int)) ∧
 ((((0 : Nat) = (0 : Nat)) ∧
 (List.length (LastX.l x1) = List.length (LastX.l x1))) ∧
 ((((0 : Nat) = (0 : Nat)) ∧
 ((0 : Nat) = (0 : Nat))) ∧
 ((true = true) ∧
 ((((0 : Nat) = (0 : Nat)) ∧
 ((0 : Nat) = (0 : Nat))) ∧
 ((((0 : Nat) = (0 : Nat)) ∧
 ((0 : Nat) = (0 : Nat))) ∧
 ((((0 : Nat) = (0 : Nat)) ∧
 (List.length (LastX.l x1) = List.length (LastX.l x1))) ∧
 ((LastX.again x1 = LastX.again x1) ∧
 ((LastX.now x1 = LastX.now x1) ∧
 (True))))))))))) ∧
 (((RLe (4 : Nat) (4 : Nat)) ∧
 (RowsEq (Kd.int IntKind.i64 :: @List.nil Kd) (4 : Nat) (fun (x j : Nat) => zRow (Kd.int IntKind.i64 :: @List.nil Kd) j) (encL encI (mostAt (LastX.l x1) x11)))) ∧
 (((Ref.units (PlayX.y x10) = Ref.units (PlayX.y x10)) ∧
 ((Ref.since (PlayX.y x10) = Ref.since (PlayX.y x10)) ∧
 ((((0 : Nat) = (0 : Nat)) ∧
 (List.length (Ref.news (PlayX.y x10)) = List.length (Ref.news (PlayX.y x10)))) ∧
 (True)))) ∧
 (((((0 : Nat) = (0 : Nat)) ∧
 (List.length (PlayX.b x10) = List.length (PlayX.b x10))) ∧
 (True)) ∧
 (((RLe (List.length (PlayX.b x10)) (List.length (PlayX.b x10))) ∧
 (RowsEq (Kd.int IntKind.i64 :: Kd.int IntKind.i64 :: Kd.int IntKind.i64 :: Kd.int IntKind.i64 :: Kd.int IntKind.i64 :: Kd.int IntKind.i64 :: Kd.int IntKind.i64 :: @List.nil Kd) (List.length (PlayX.b x10)) (encL encRec (PlayX.b x10)) (encL encRec (PlayX.b x10)))) ∧
 (((RLe (List.length (Ref.news (PlayX.y x10))) (List.length (Ref.news (PlayX.y x10)))) ∧
 (RowsEq (Kd.int IntKind.i64 :: Kd.int IntKind.i64 :: Kd.int IntKind.i64 :: Kd.int IntKind.i64 :: Kd.int IntKind.i64 :: Kd.int IntKind.i64 :: @List.nil Kd) (List.length (Ref.news (PlayX.y x10))) (encL encCame (Ref.news (PlayX.y x10))) (encL encCame (Ref.news (PlayX.y x10))))) ∧
 (((RLe (List.length (LastX.l x1)) (List.length (LastX.l x1))) ∧
 (RowsEq (Kd.int IntKind.i64 :: Kd.int IntKind.i64 :: Kd.int IntKind.i64 :: Kd.int IntKind.i64 :: Kd.int IntKind.i64 :: Kd.int IntKind.i64 :: @List.nil Kd) (List.length (LastX.l x1)) (encL encCame (LastX.l x1)) (encL encCame (LastX.l x1)))) ∧
 (True))))))))) ∧
 (∀ x12 : Nat,
 ((x12 ≤ List.length (LastX.l x1)) →
 (((decide ((↑x12 : Int) < (↑(List.length (LastX.l x1)) : Int)) = true) →
 ((((0 : Int) ≤ (↑x12 : Int)) ∧
 ((↑x12 : Int) < (↑(List.length (LastX.l x1)) : Int))) ∧
 (((0 : Nat) + Int.toNat (↑x12 : Int) < List.length (LastX.l x1)) ∧
 (((decide ((0 : Int) ≤ (4 : Int) ∧ (4 : Int) ≤ (256 : Int)) = true) →
 (∃ x16 : NewX,
 ((((0 : Int) ≤ NewX.n x16) ∧
 (NewX.n x16 ≤ (256 : Int))) ∧
 ((((4 : Int) = NewX.n x16) ∧
 (((0 : Int) = NewX.now x16) ∧
 (True))) ∧
 ((True) ∧
 (((decide ((0 : Int) ≠ (0 : Int)) = false) →
 (∃ x18 : BoxS,
 ((Box.Ok (BoxS.b x18)) ∧
 (((((0 : Nat) = (0 : Nat)) ∧
 ((0 : Nat) = (0 : Nat))) ∧
 (((Sta.unit (Came.sta (List.getD (LastX.l x1) ((0 : Nat) + Int.toNat (↑x12 : Int)) default)) = Sta.unit (BoxS.s x18)) ∧
 ((Sta.seq (Came.sta (List.getD (LastX.l x1) ((0 : Nat) + Int.toNat (↑x12 : Int)) default)) = Sta.seq (BoxS.s x18)) ∧
 ((Sta.state (Came.sta (List.getD (LastX.l x1) ((0 : Nat) + Int.toNat (↑x12 : Int)) default)) = Sta.state (BoxS.s x18)) ∧
 ((Sta.node (Came.sta (List.getD (LastX.l x1) ((0 : Nat) + Int.toNat (↑x12 : Int)) default)) = Sta.node (BoxS.s x18)) ∧
 ((Sta.epoch (Came.sta (List.getD (LastX.l x1) ((0 : Nat) + Int.toNat (↑x12 : Int)) default)) = Sta.epoch (BoxS.s x18)) ∧
 (True)))))) ∧
 (((0 : Int) = BoxS.now x18) ∧
 (True)))) ∧
 ((((((0 : Nat) = (0 : Nat)) ∧
 (Int.toNat (NewX.n x16) = List.length (BoxS.b x18))) ∧
 (True)) ∧
 (((RLe (List.length (BoxS.b x18)) (Int.toNat (NewX.n x16))) ∧
 (RowsEq (Kd.int IntKind.i64 :: Kd.int IntKind.i64 :: Kd.int IntKind.i64 :: Kd.int IntKind.i64 :: Kd.int IntKind.i64 :: Kd.int IntKind.i64 :: Kd.int IntKind.i64 :: @List.nil Kd) (List.length (BoxS.b x18)) (encL encRec (Box.new (NewX.n x16) (NewX.now x16))) (encL encRec (BoxS.b x18)))) ∧
 (True))) ∧
 (((decide (Box.err (BoxS.b x18) (BoxS.s x18) = (0 : Int)) = true) →
 (((decide (Sta.unit (Came.sta (List.getD (LastX.l x1) ((0 : Nat) + Int.toNat (↑x12 : Int)) default)) < (0 : Int)) = false) →
 (((decide ((4 : Int) ≤ Sta.unit (Came.sta (List.getD (LastX.l x1) ((0 : Nat) + Int.toNat (↑x12 : Int)) default))) = true) →
 ((false = true) ∧
 (True))) ∧
 ((decide ((4 : Int) ≤ Sta.unit (Came.sta (List.getD (LastX.l x1) ((0 : Nat) + Int.toNat (↑x12 : Int)) default))) = false) →
 ((((0 : Int) ≤ Sta.unit (Came.sta (List.getD (LastX.l x1) ((0 : Nat) + Int.toNat (↑x12 : Int)) default))) ∧
 (Sta.unit (Came.sta (List.getD (LastX.l x1) ((0 : Nat) + Int.toNat (↑x12 : Int)) default)) < (↑(4 : Nat) : Int))) ∧
 (((0 : Nat) + Int.toNat (Sta.unit (Came.sta (List.getD (LastX.l x1) ((0 : Nat) + Int.toNat (↑x12 : Int)) default))) < (4 : Nat)) ∧
 ((((0 : Int) ≤ Sta.unit (Came.sta (List.getD (LastX.l x1) ((0 : Nat) + Int.toNat (↑x12 : Int)) default))) ∧
 (Sta.unit (Came.sta (List.getD (LastX.l x1) ((0 : Nat) + Int.toNat (↑x12 : Int)) default)) < (↑(4 : Nat) : Int))) ∧
 ((((0 : Nat) + Int.toNat (Sta.unit (Came.sta (List.getD (LastX.l x1) ((0 : Nat) + Int.toNat (↑x12 : Int)) default))) < (4 : Nat)) ∧
 ((True) ∧
 (True))) ∧
 ((((-9223372036854775808 : Int) ≤ (↑x12 : Int) + (1 : Int)) ∧
 ((↑x12 : Int) + (1 : Int) ≤ (9223372036854775807 : Int))) ∧
 (∃ x23 : Nat,
 ((List.length (LastX.l x1) - x23 < List.length (LastX.l x1) - x12) ∧
 ((x23 ≤ List.length (LastX.l x1)) ∧
 ((((↑x12 : Int) + (1 : Int) = (↑x23 : Int)) ∧
 (((↑(List.length (LastX.l x1)) : Int) = (↑(List.length (LastX.l x1)) : Int)) ∧
 ((((0 : Nat) = (0 : Nat)) ∧
 (List.length (LastX.l x1) = List.length (LastX.l x1))) ∧
 ((((0 : Nat) = (0 : Nat)) ∧
 ((0 : Nat) = (0 : Nat))) ∧
 ((true = true) ∧
 ((((0 : Nat) = (0 : Nat)) ∧
 ((0 : Nat) = (0 : Nat))) ∧
 ((((0 : Nat) = (0 : Nat)) ∧
 ((0 : Nat) = (0 : Nat))) ∧
 ((((0 : Nat) = (0 : Nat)) ∧
 (List.length (LastX.l x1) = List.length (LastX.l x1))) ∧
 ((LastX.again x1 = LastX.again x1) ∧
 ((LastX.now x1 = LastX.now x1) ∧
 (True))))))))))) ∧
 (((RLe (4 : Nat) (4 : Nat)) ∧
 (RowsEq (Kd.int IntKind.i64 :: @List.nil Kd) (4 : Nat) (setRow (encL encI (mostAt (LastX.l x1) x12)) ((0 : Nat) + Int.toNat (Sta.unit (Came.sta (List.getD (LastX.l x1) ((0 : Nat) + Int.toNat (↑x12 : Int)) default)))) (0 : Nat) (D.i (max (List.getD (mostAt (LastX.l x1) x12) ((0 : Nat) + Int.toNat (Sta.unit (Came.sta (List.getD (LastX.l x1) ((0 : Nat) + Int.toNat (↑x12 : Int)) default)))) default) (Sta.seq (Came.sta (List.getD (LastX.l x1) ((0 : Nat) + Int.toNat (↑x12 : Int)) default)))) :: @List.nil D)) (encL encI (mostAt (LastX.l x1) x23)))) ∧
 (((Ref.units (PlayX.y x10) = Ref.units (PlayX.y x10)) ∧
 ((Ref.since (PlayX.y x10) = Ref.since (PlayX.y x10)) ∧
 ((((0 : Nat) = (0 : Nat)) ∧
 (List.length (Ref.news (PlayX.y x10)) = List.length (Ref.news (PlayX.y x10)))) ∧
 (True)))) ∧
 (((((0 : Nat) = (0 : Nat)) ∧
 (List.length (PlayX.b x10) = List.length (PlayX.b x10))) ∧
 (True)) ∧
 (((RLe (List.length (PlayX.b x10)) (List.length (PlayX.b x10))) ∧
 (RowsEq (Kd.int IntKind.i64 :: Kd.int IntKind.i64 :: Kd.int IntKind.i64 :: Kd.int IntKind.i64 :: Kd.int IntKind.i64 :: Kd.int IntKind.i64 :: Kd.int IntKind.i64 :: @List.nil Kd) (List.length (PlayX.b x10)) (encL encRec (PlayX.b x10)) (encL encRec (PlayX.b x10)))) ∧
 (((RLe (List.length (Ref.news (PlayX.y x10))) (List.length (Ref.news (PlayX.y x10)))) ∧
 (RowsEq (Kd.int IntKind.i64 :: Kd.int IntKind.i64 :: Kd.int IntKind.i64 :: Kd.int IntKind.i64 :: Kd.int IntKind.i64 :: Kd.int IntKind.i64 :: @List.nil Kd) (List.length (Ref.news (PlayX.y x10))) (encL encCame (Ref.news (PlayX.y x10))) (encL encCame (Ref.news (PlayX.y x10))))) ∧
 (((RLe (List.length (LastX.l x1)) (List.length (LastX.l x1))) ∧
 (RowsEq (Kd.int IntKind.i64 :: Kd.int IntKind.i64 :: Kd.int IntKind.i64 :: Kd.int IntKind.i64 :: Kd.int IntKind.i64 :: Kd.int IntKind.i64 :: @List.nil Kd) (List.length (LastX.l x1)) (encL encCame (LastX.l x1)) (encL encCame (LastX.l x1)))) ∧
 (True))))))))))))))))))) ∧
 ((decide (Sta.unit (Came.sta (List.getD (LastX.l x1) ((0 : Nat) + Int.toNat (↑x12 : Int)) default)) < (0 : Int)) = true) →
 ((false = true) ∧
 (True))))) ∧
 ((decide (Box.err (BoxS.b x18) (BoxS.s x18) = (0 : Int)) = false) →
 ((((-9223372036854775808 : Int) ≤ (↑x12 : Int) + (1 : Int)) ∧
 ((↑x12 : Int) + (1 : Int) ≤ (9223372036854775807 : Int))) ∧
 (∃ x26 : Nat,
 ((List.length (LastX.l x1) - x26 < List.length (LastX.l x1) - x12) ∧
 ((x26 ≤ List.length (LastX.l x1)) ∧
 ((((↑x12 : Int) + (1 : Int) = (↑x26 : Int)) ∧
 (((↑(List.length (LastX.l x1)) : Int) = (↑(List.length (LastX.l x1)) : Int)) ∧
 ((((0 : Nat) = (0 : Nat)) ∧
 (List.length (LastX.l x1) = List.length (LastX.l x1))) ∧
 ((((0 : Nat) = (0 : Nat)) ∧
 ((0 : Nat) = (0 : Nat))) ∧
 ((true = true) ∧
 ((((0 : Nat) = (0 : Nat)) ∧
 ((0 : Nat) = (0 : Nat))) ∧
 ((((0 : Nat) = (0 : Nat)) ∧
 ((0 : Nat) = (0 : Nat))) ∧
 ((((0 : Nat) = (0 : Nat)) ∧
 (List.length (LastX.l x1) = List.length (LastX.l x1))) ∧
 ((LastX.again x1 = LastX.again x1) ∧
 ((LastX.now x1 = LastX.now x1) ∧
 (True))))))))))) ∧
 (((RLe (4 : Nat) (4 : Nat)) ∧
 (RowsEq (Kd.int IntKind.i64 :: @List.nil Kd) (4 : Nat) (encL encI (mostAt (LastX.l x1) x12)) (encL encI (mostAt (LastX.l x1) x26)))) ∧
 (((Ref.units (PlayX.y x10) = Ref.units (PlayX.y x10)) ∧
 ((Ref.since (PlayX.y x10) = Ref.since (PlayX.y x10)) ∧
 ((((0 : Nat) = (0 : Nat)) ∧
 (List.length (Ref.news (PlayX.y x10)) = List.length (Ref.news (PlayX.y x10)))) ∧
 (True)))) ∧
 (((((0 : Nat) = (0 : Nat)) ∧
 (List.length (PlayX.b x10) = List.length (PlayX.b x10))) ∧
 (True)) ∧
 (((RLe (List.length (PlayX.b x10)) (List.length (PlayX.b x10))) ∧
 (RowsEq (Kd.int IntKind.i64 :: Kd.int IntKind.i64 :: Kd.int IntKind.i64 :: Kd.int IntKind.i64 :: Kd.int IntKind.i64 :: Kd.int IntKind.i64 :: Kd.int IntKind.i64 :: @List.nil Kd) (List.length (PlayX.b x10)) (encL encRec (PlayX.b x10)) (encL encRec (PlayX.b x10)))) ∧
 (((RLe (List.length (Ref.news (PlayX.y x10))) (List.length (Ref.news (PlayX.y x10)))) ∧
 (RowsEq (Kd.int IntKind.i64 :: Kd.int IntKind.i64 :: Kd.int IntKind.i64 :: Kd.int IntKind.i64 :: Kd.int IntKind.i64 :: Kd.int IntKind.i64 :: @List.nil Kd) (List.length (Ref.news (PlayX.y x10))) (encL encCame (Ref.news (PlayX.y x10))) (encL encCame (Ref.news (PlayX.y x10))))) ∧
 (((RLe (List.length (LastX.l x1)) (List.length (LastX.l x1))) ∧
 (RowsEq (Kd.int IntKind.i64 :: Kd.int IntKind.i64 :: Kd.int IntKind.i64 :: Kd.int IntKind.i64 :: Kd.int IntKind.i64 :: Kd.int IntKind.i64 :: @List.nil Kd) (List.length (LastX.l x1)) (encL encCame (LastX.l x1)) (encL encCame (LastX.l x1)))) ∧
 (True))))))))))))))))))) ∧
 ((decide ((0 : Int) ≠ (0 : Int)) = true) →
 ((false = true) ∧
 (True))))))))) ∧
 ((decide ((0 : Int) ≤ (4 : Int) ∧ (4 : Int) ≤ (256 : Int)) = false) →
 (∃ x29 : NewX,
 ((¬((0 : Int) ≤ NewX.n x29 ∧ NewX.n x29 ≤ (256 : Int))) ∧
 ((((4 : Int) = NewX.n x29) ∧
 (((0 : Int) = NewX.now x29) ∧
 (True))) ∧
 ((True) ∧
 (((decide ((1 : Int) ≠ (0 : Int)) = false) →
 ((false = true) ∧
 (True))) ∧
 ((decide ((1 : Int) ≠ (0 : Int)) = true) →
 ((false = true) ∧
 (True))))))))))))) ∧
 ((decide ((↑x12 : Int) < (↑(List.length (LastX.l x1)) : Int)) = false) →
 (∃ x33 : Nat,
 (((x33 ≤ (4 : Nat)) ∧
 ((((0 : Int) = (↑x33 : Int)) ∧
 ((((0 : Nat) = (0 : Nat)) ∧
 ((0 : Nat) = (0 : Nat))) ∧
 ((true = true) ∧
 ((((0 : Nat) = (0 : Nat)) ∧
 ((0 : Nat) = (0 : Nat))) ∧
 ((((0 : Nat) = (0 : Nat)) ∧
 ((0 : Nat) = (0 : Nat))) ∧
 ((((0 : Nat) = (0 : Nat)) ∧
 (List.length (LastX.l x1) = List.length (LastX.l x1))) ∧
 ((LastX.again x1 = LastX.again x1) ∧
 ((LastX.now x1 = LastX.now x1) ∧
 (True))))))))) ∧
 (((RLe (4 : Nat) (4 : Nat)) ∧
 (RowsEq (Kd.int IntKind.i64 :: @List.nil Kd) (4 : Nat) (encL encI (mostAt (LastX.l x1) x12)) (encL encI (mostAt (LastX.l x1) x12)))) ∧
 (((Ref.units (PlayX.y x10) = Ref.units (PlayX.y x10)) ∧
 ((Ref.since (PlayX.y x10) = Ref.since (PlayX.y x10)) ∧
 ((((0 : Nat) = (0 : Nat)) ∧
 (List.length (Ref.news (PlayX.y x10)) = List.length (Ref.news (PlayX.y x10)))) ∧
 (True)))) ∧
 (((((0 : Nat) = (0 : Nat)) ∧
 (List.length (PlayX.b x10) = List.length (PlayX.b x10))) ∧
 (True)) ∧
 (((RLe (List.length (PlayX.b x10)) (List.length (PlayX.b x10))) ∧
 (RowsEq (Kd.int IntKind.i64 :: Kd.int IntKind.i64 :: Kd.int IntKind.i64 :: Kd.int IntKind.i64 :: Kd.int IntKind.i64 :: Kd.int IntKind.i64 :: Kd.int IntKind.i64 :: @List.nil Kd) (List.length (PlayX.b x10)) (encL encRec (PlayX.b x10)) (encL encRec (PlayX.b x10)))) ∧
 (((RLe (List.length (Ref.news (PlayX.y x10))) (List.length (Ref.news (PlayX.y x10)))) ∧
 (RowsEq (Kd.int IntKind.i64 :: Kd.int IntKind.i64 :: Kd.int IntKind.i64 :: Kd.int IntKind.i64 :: Kd.int IntKind.i64 :: Kd.int IntKind.i64 :: @List.nil Kd) (List.length (Ref.news (PlayX.y x10))) (encL encCame (Ref.news (PlayX.y x10))) (encL encCame (Ref.news (PlayX.y x10))))) ∧
 (((RLe (List.length (LastX.l x1)) (List.length (LastX.l x1))) ∧
 (RowsEq (Kd.int IntKind.i64 :: Kd.int IntKind.i64 :: Kd.int IntKind.i64 :: Kd.int IntKind.i64 :: Kd.int IntKind.i64 :: Kd.int IntKind.i64 :: @List.nil Kd) (List.length (LastX.l x1)) (encL encCame (LastX.l x1)) (encL encCame (LastX.l x1)))) ∧
 (True))))))))) ∧
 (∀ x34 : Nat,
 ((x34 ≤ (4 : Nat)) →
 (((decide ((↑x34 : Int) < (4 : Int)) = true) →
 (∃ x37 : BoxI,
 ((True) ∧
 (((((0 : Nat) = (0 : Nat)) ∧
 ((0 : Nat) = (0 : Nat))) ∧
 (((↑x34 : Int) = BoxI.u x37) ∧
 (True))) ∧
 ((((((0 : Nat) = (0 : Nat)) ∧
 (List.length (PlayX.b x10) = List.length (BoxI.b x37))) ∧
 (True)) ∧
 (((RLe (List.length (BoxI.b x37)) (List.length (PlayX.b x10))) ∧
 (RowsEq (Kd.int IntKind.i64 :: Kd.int IntKind.i64 :: Kd.int IntKind.i64 :: Kd.int IntKind.i64 :: Kd.int IntKind.i64 :: Kd.int IntKind.i64 :: Kd.int IntKind.i64 :: @List.nil Kd) (List.length (BoxI.b x37)) (encL encRec (PlayX.b x10)) (encL encRec (BoxI.b x37)))) ∧
 (True))) ∧
 ((((0 : Int) ≤ (↑x34 : Int)) ∧
 ((↑x34 : Int) < (↑(4 : Nat) : Int))) ∧
 (((0 : Nat) + Int.toNat (↑x34 : Int) < (4 : Nat)) ∧
 ((((Box.there (BoxI.b x37) (BoxI.u x37) != decide ((0 : Int) < List.getD (mostAt (LastX.l x1) x12) ((0 : Nat) + Int.toNat (↑x34 : Int)) default)) = false) →
 ((((0 : Int) ≤ (↑x34 : Int)) ∧
 ((↑x34 : Int) < (↑(4 : Nat) : Int))) ∧
 (((0 : Nat) + Int.toNat (↑x34 : Int) < (4 : Nat)) ∧
 (((decide (Sta.seq (Box.last (BoxI.b x37) (BoxI.u x37)) ≠ List.getD (mostAt (LastX.l x1) x12) ((0 : Nat) + Int.toNat (↑x34 : Int)) default) = true) →
 ((false = true) ∧
 (True))) ∧
 ((decide (Sta.seq (Box.last (BoxI.b x37) (BoxI.u x37)) ≠ List.getD (mostAt (LastX.l x1) x12) ((0 : Nat) + Int.toNat (↑x34 : Int)) default) = false) →
 ((((-9223372036854775808 : Int) ≤ (↑x34 : Int) + (1 : Int)) ∧
 ((↑x34 : Int) + (1 : Int) ≤ (9223372036854775807 : Int))) ∧
 (∃ x41 : Nat,
 (((4 : Nat) - x41 < (4 : Nat) - x34) ∧
 ((x41 ≤ (4 : Nat)) ∧
 ((((↑x34 : Int) + (1 : Int) = (↑x41 : Int)) ∧
 ((((0 : Nat) = (0 : Nat)) ∧
 ((0 : Nat) = (0 : Nat))) ∧
 ((true = true) ∧
 ((((0 : Nat) = (0 : Nat)) ∧
 ((0 : Nat) = (0 : Nat))) ∧
 ((((0 : Nat) = (0 : Nat)) ∧
 ((0 : Nat) = (0 : Nat))) ∧
 ((((0 : Nat) = (0 : Nat)) ∧
 (List.length (LastX.l x1) = List.length (LastX.l x1))) ∧
 ((LastX.again x1 = LastX.again x1) ∧
 ((LastX.now x1 = LastX.now x1) ∧
 (True))))))))) ∧
 (((RLe (4 : Nat) (4 : Nat)) ∧
 (RowsEq (Kd.int IntKind.i64 :: @List.nil Kd) (4 : Nat) (encL encI (mostAt (LastX.l x1) x12)) (encL encI (mostAt (LastX.l x1) x12)))) ∧
 (((Ref.units (PlayX.y x10) = Ref.units (PlayX.y x10)) ∧
 ((Ref.since (PlayX.y x10) = Ref.since (PlayX.y x10)) ∧
 ((((0 : Nat) = (0 : Nat)) ∧
 (List.length (Ref.news (PlayX.y x10)) = List.length (Ref.news (PlayX.y x10)))) ∧
 (True)))) ∧
 (((((0 : Nat) = (0 : Nat)) ∧
 (List.length (PlayX.b x10) = List.length (PlayX.b x10))) ∧
 (True)) ∧
 (((RLe (List.length (PlayX.b x10)) (List.length (PlayX.b x10))) ∧
 (RowsEq (Kd.int IntKind.i64 :: Kd.int IntKind.i64 :: Kd.int IntKind.i64 :: Kd.int IntKind.i64 :: Kd.int IntKind.i64 :: Kd.int IntKind.i64 :: Kd.int IntKind.i64 :: @List.nil Kd) (List.length (PlayX.b x10)) (encL encRec (PlayX.b x10)) (encL encRec (PlayX.b x10)))) ∧
 (((RLe (List.length (Ref.news (PlayX.y x10))) (List.length (Ref.news (PlayX.y x10)))) ∧
 (RowsEq (Kd.int IntKind.i64 :: Kd.int IntKind.i64 :: Kd.int IntKind.i64 :: Kd.int IntKind.i64 :: Kd.int IntKind.i64 :: Kd.int IntKind.i64 :: @List.nil Kd) (List.length (Ref.news (PlayX.y x10))) (encL encCame (Ref.news (PlayX.y x10))) (encL encCame (Ref.news (PlayX.y x10))))) ∧
 (((RLe (List.length (LastX.l x1)) (List.length (LastX.l x1))) ∧
 (RowsEq (Kd.int IntKind.i64 :: Kd.int IntKind.i64 :: Kd.int IntKind.i64 :: Kd.int IntKind.i64 :: Kd.int IntKind.i64 :: Kd.int IntKind.i64 :: @List.nil Kd) (List.length (LastX.l x1)) (encL encCame (LastX.l x1)) (encL encCame (LastX.l x1)))) ∧
 (True))))))))))))))))) ∧
 (((Box.there (BoxI.b x37) (BoxI.u x37) != decide ((0 : Int) < List.getD (mostAt (LastX.l x1) x12) ((0 : Nat) + Int.toNat (↑x34 : Int)) default)) = true) →
 ((false = true) ∧
 (True))))))))))) ∧
 ((decide ((↑x34 : Int) < (4 : Int)) = false) →
 (((decide ((↑(List.length (LastX.l x1)) : Int) = (0 : Int)) = true) →
 (∃ x45 : Unit,
 ((True) ∧
 ((True) ∧
 ((True) ∧
 ((true = true) ∧
 (True))))))) ∧
 ((decide ((↑(List.length (LastX.l x1)) : Int) = (0 : Int)) = false) →
 ((((-9223372036854775808 : Int) ≤ LastX.again x1) ∧
 (LastX.again x1 ≤ (9223372036854775807 : Int))) ∧
 ((((0 : Int) ≤ LastX.again x1) ∧
 ((0 : Int) < (↑(List.length (LastX.l x1)) : Int))) ∧
 ((((0 : Int) ≤ LastX.again x1 % (↑(List.length (LastX.l x1)) : Int)) ∧
 (LastX.again x1 % (↑(List.length (LastX.l x1)) : Int) < (↑(List.length (LastX.l x1)) : Int))) ∧
 (((0 : Nat) + Int.toNat (LastX.again x1 % (↑(List.length (LastX.l x1)) : Int)) < List.length (LastX.l x1)) ∧
 (∃ x47 : BoxI,
 ((True) ∧
 (((((0 : Nat) = (0 : Nat)) ∧
 ((0 : Nat) = (0 : Nat))) ∧
 ((Sta.unit (Came.sta (List.getD (LastX.l x1) ((0 : Nat) + Int.toNat (LastX.again x1 % (↑(List.length (LastX.l x1)) : Int))) default)) = BoxI.u x47) ∧
 (True))) ∧
 ((((((0 : Nat) = (0 : Nat)) ∧
 (List.length (PlayX.b x10) = List.length (BoxI.b x47))) ∧
 (True)) ∧
 (((RLe (List.length (BoxI.b x47)) (List.length (PlayX.b x10))) ∧
 (RowsEq (Kd.int IntKind.i64 :: Kd.int IntKind.i64 :: Kd.int IntKind.i64 :: Kd.int IntKind.i64 :: Kd.int IntKind.i64 :: Kd.int IntKind.i64 :: Kd.int IntKind.i64 :: @List.nil Kd) (List.length (BoxI.b x47)) (encL encRec (PlayX.b x10)) (encL encRec (BoxI.b x47)))) ∧
 (True))) ∧
 (∃ x48 : BoxI,
 ((Box.Ok (BoxI.b x48)) ∧
 (((((0 : Nat) = (0 : Nat)) ∧
 ((0 : Nat) = (0 : Nat))) ∧
 ((Sta.unit (Came.sta (List.getD (LastX.l x1) ((0 : Nat) + Int.toNat (LastX.again x1 % (↑(List.length (LastX.l x1)) : Int))) default)) = BoxI.u x48) ∧
 (True))) ∧
 ((((((0 : Nat) = (0 : Nat)) ∧
 (List.length (PlayX.b x10) = List.length (BoxI.b x48))) ∧
 (True)) ∧
 (((RLe (List.length (BoxI.b x48)) (List.length (PlayX.b x10))) ∧
 (RowsEq (Kd.int IntKind.i64 :: Kd.int IntKind.i64 :: Kd.int IntKind.i64 :: Kd.int IntKind.i64 :: Kd.int IntKind.i64 :: Kd.int IntKind.i64 :: Kd.int IntKind.i64 :: @List.nil Kd) (List.length (BoxI.b x48)) (encL encRec (PlayX.b x10)) (encL encRec (BoxI.b x48)))) ∧
 (True))) ∧
 (∃ x49 : BoxS,
 ((Box.Ok (BoxS.b x49)) ∧
 (((((0 : Nat) = (0 : Nat)) ∧
 ((0 : Nat) = (0 : Nat))) ∧
 (((Sta.unit (Came.sta (List.getD (LastX.l x1) ((0 : Nat) + Int.toNat (LastX.again x1 % (↑(List.length (LastX.l x1)) : Int))) default)) = Sta.unit (BoxS.s x49)) ∧
 ((Sta.seq (Came.sta (List.getD (LastX.l x1) ((0 : Nat) + Int.toNat (LastX.again x1 % (↑(List.length (LastX.l x1)) : Int))) default)) = Sta.seq (BoxS.s x49)) ∧
 ((Sta.state (Came.sta (List.getD (LastX.l x1) ((0 : Nat) + Int.toNat (LastX.again x1 % (↑(List.length (LastX.l x1)) : Int))) default)) = Sta.state (BoxS.s x49)) ∧
 ((Sta.node (Came.sta (List.getD (LastX.l x1) ((0 : Nat) + Int.toNat (LastX.again x1 % (↑(List.length (LastX.l x1)) : Int))) default)) = Sta.node (BoxS.s x49)) ∧
 ((Sta.epoch (Came.sta (List.getD (LastX.l x1) ((0 : Nat) + Int.toNat (LastX.again x1 % (↑(List.length (LastX.l x1)) : Int))) default)) = Sta.epoch (BoxS.s x49)) ∧
 (True)))))) ∧
 ((LastX.now x1 = BoxS.now x49) ∧
 (True)))) ∧
 ((((((0 : Nat) = (0 : Nat)) ∧
 (List.length (PlayX.b x10) = List.length (BoxS.b x49))) ∧
 (True)) ∧
 (((RLe (List.length (BoxS.b x49)) (List.length (PlayX.b x10))) ∧
 (RowsEq (Kd.int IntKind.i64 :: Kd.int IntKind.i64 :: Kd.int IntKind.i64 :: Kd.int IntKind.i64 :: Kd.int IntKind.i64 :: Kd.int IntKind.i64 :: Kd.int IntKind.i64 :: @List.nil Kd) (List.length (BoxS.b x49)) (encL encRec (PlayX.b x10)) (encL encRec (BoxS.b x49)))) ∧
 (True))) ∧
 (((Box.isNew (BoxS.b x49) (BoxS.s x49) = true) →
 ((false = true) ∧
 (True))) ∧
 ((Box.isNew (BoxS.b x49) (BoxS.s x49) = false) →
 (∃ x52 : BoxI,
 ((True) ∧
 (((((0 : Nat) = (0 : Nat)) ∧
 ((0 : Nat) = (0 : Nat))) ∧
 ((Sta.unit (Came.sta (List.getD (LastX.l x1) ((0 : Nat) + Int.toNat (LastX.again x1 % (↑(List.length (LastX.l x1)) : Int))) default)) = BoxI.u x52) ∧
 (True))) ∧
 ((((((0 : Nat) = (0 : Nat)) ∧
 (List.length (PlayX.b x10) = List.length (BoxI.b x52))) ∧
 (True)) ∧
 (((RLe (List.length (BoxI.b x52)) (List.length (BoxS.b x49))) ∧
 (RowsEq (Kd.int IntKind.i64 :: Kd.int IntKind.i64 :: Kd.int IntKind.i64 :: Kd.int IntKind.i64 :: Kd.int IntKind.i64 :: Kd.int IntKind.i64 :: Kd.int IntKind.i64 :: @List.nil Kd) (List.length (BoxI.b x52)) (encL encRec (Box.add (BoxS.b x49) (BoxS.s x49) (BoxS.now x49))) (encL encRec (BoxI.b x52)))) ∧
 (True))) ∧
 ((((decide (Sta.unit (Box.last (BoxI.b x47) (BoxI.u x47)) = Sta.unit (Box.last (BoxI.b x52) (BoxI.u x52))) && (decide (Sta.seq (Box.last (BoxI.b x47) (BoxI.u x47)) = Sta.seq (Box.last (BoxI.b x52) (BoxI.u x52))) && (decide (Sta.state (Box.last (BoxI.b x47) (BoxI.u x47)) = Sta.state (Box.last (BoxI.b x52) (BoxI.u x52))) && (decide (Sta.node (Box.last (BoxI.b x47) (BoxI.u x47)) = Sta.node (Box.last (BoxI.b x52) (BoxI.u x52))) && (decide (Sta.epoch (Box.last (BoxI.b x47) (BoxI.u x47)) = Sta.epoch (Box.last (BoxI.b x52) (BoxI.u x52))) && true))))) = true) →
 (((decide (Box.heard (BoxI.b x47) (BoxI.u x47) = Box.heard (BoxI.b x52) (BoxI.u x52)) = true) →
 ((((Box.there (BoxI.b x47) (BoxI.u x47) == Box.there (BoxI.b x52) (BoxI.u x52)) = true) →
 (∃ x56 : BoxI,
 ((Box.Ok (BoxI.b x56)) ∧
 (((((0 : Nat) = (0 : Nat)) ∧
 ((0 : Nat) = (0 : Nat))) ∧
 ((Sta.unit (Came.sta (List.getD (LastX.l x1) ((0 : Nat) + Int.toNat (LastX.again x1 % (↑(List.length (LastX.l x1)) : Int))) default)) = BoxI.u x56) ∧
 (True))) ∧
 ((((((0 : Nat) = (0 : Nat)) ∧
 (List.length (PlayX.b x10) = List.length (BoxI.b x56))) ∧
 (True)) ∧
 (((RLe (List.length (BoxI.b x56)) (List.length (BoxS.b x49))) ∧
 (RowsEq (Kd.int IntKind.i64 :: Kd.int IntKind.i64 :: Kd.int IntKind.i64 :: Kd.int IntKind.i64 :: Kd.int IntKind.i64 :: Kd.int IntKind.i64 :: Kd.int IntKind.i64 :: @List.nil Kd) (List.length (BoxI.b x56)) (encL encRec (Box.add (BoxS.b x49) (BoxS.s x49) (BoxS.now x49))) (encL encRec (BoxI.b x56)))) ∧
 (True))) ∧
 (((decide (Box.missed (BoxI.b x48) (BoxI.u x48) = Box.missed (BoxI.b x56) (BoxI.u x56)) = true) →
 (∃ x58 : Unit,
 ((True) ∧
 ((True) ∧
 ((True) ∧
 ((true = true) ∧
 (True))))))) ∧
 ((decide (Box.missed (BoxI.b x48) (BoxI.u x48) = Box.missed (BoxI.b x56) (BoxI.u x56)) = false) →
 ((false = true) ∧
 (True))))))))) ∧
 (((Box.there (BoxI.b x47) (BoxI.u x47) == Box.there (BoxI.b x52) (BoxI.u x52)) = false) →
 ((false = true) ∧
 (True))))) ∧
 ((decide (Box.heard (BoxI.b x47) (BoxI.u x47) = Box.heard (BoxI.b x52) (BoxI.u x52)) = false) →
 ((false = true) ∧
 (True))))) ∧
 (((decide (Sta.unit (Box.last (BoxI.b x47) (BoxI.u x47)) = Sta.unit (Box.last (BoxI.b x52) (BoxI.u x52))) && (decide (Sta.seq (Box.last (BoxI.b x47) (BoxI.u x47)) = Sta.seq (Box.last (BoxI.b x52) (BoxI.u x52))) && (decide (Sta.state (Box.last (BoxI.b x47) (BoxI.u x47)) = Sta.state (Box.last (BoxI.b x52) (BoxI.u x52))) && (decide (Sta.node (Box.last (BoxI.b x47) (BoxI.u x47)) = Sta.node (Box.last (BoxI.b x52) (BoxI.u x52))) && (decide (Sta.epoch (Box.last (BoxI.b x47) (BoxI.u x47)) = Sta.epoch (Box.last (BoxI.b x52) (BoxI.u x52))) && true))))) = false) →
 ((false = true) ∧
 (True))))))))))))))))))))))))))))))))))))))))))))) ∧
 ((decide ((0 : Int) ≤ (4 : Int) ∧ (4 : Int) ≤ (256 : Int)) = false) →
 (∃ x64 : PlayX,
 (((¬((0 : Int) ≤ PlayX.n x64 ∧ PlayX.n x64 ≤ (256 : Int))) ∧
 (List.length (PlayX.l x64) ≤ (60 : Nat))) ∧
 ((((4 : Int) = PlayX.n x64) ∧
 (((0 : Int) = PlayX.now x64) ∧
 ((((0 : Nat) = (0 : Nat)) ∧
 (List.length (LastX.l x1) = List.length (PlayX.l x64))) ∧
 (True)))) ∧
 ((((RLe (List.length (PlayX.l x64)) (List.length (LastX.l x1))) ∧
 (RowsEq (Kd.int IntKind.i64 :: Kd.int IntKind.i64 :: Kd.int IntKind.i64 :: Kd.int IntKind.i64 :: Kd.int IntKind.i64 :: Kd.int IntKind.i64 :: @List.nil Kd) (List.length (PlayX.l x64)) (encL encCame (LastX.l x1)) (encL encCame (PlayX.l x64)))) ∧
 (True)) ∧
 (((true = true) →
 (∃ x66 : Unit,
 ((True) ∧
 ((True) ∧
 ((True) ∧
 ((true = true) ∧
 (True))))))) ∧
 ((true = false) →
 ((false = true) ∧
 (True))))))))))))))) = Keeps cfg10 Try.f4 lastLawC lastLawI by kernel_rfl) (fun x1 => fun h2 => ⟨fun g3 => have h3 := of_decide_eq_true g3; ⟨({ n := (4 : Int), now := (0 : Int), l := LastX.l x1 : PlayX }),
 (by (try dsimp only at *); omega),
 ⟨rfl,
 rfl,
 ⟨rfl,
 rfl⟩,
 trivial⟩,
 ⟨⟨⟨Nat.le_refl _⟩,
 RowsEq.rfl'⟩,
 trivial⟩,
 fun h5 => ⟨(default),
 trivial,
 trivial,
 trivial,
 rfl,
 trivial⟩,
 fun h7 => ⟨(by (try dsimp only at *); grind),
 trivial⟩⟩,
 fun g8 => have h8 := of_decide_eq_false g8; ⟨fun g9 => have h9 := of_decide_eq_true g9; ⟨({ n := (4 : Int), now := (0 : Int), l := LastX.l x1 : PlayX }),
 ⟨(by (try dsimp only at *); omega),
 (by (try dsimp only at *); omega),
 (by (try dsimp only at *); omega)⟩,
 ⟨rfl,
 rfl,
 ⟨rfl,
 rfl⟩,
 trivial⟩,
 ⟨⟨⟨Nat.le_refl _⟩,
 RowsEq.rfl'⟩,
 trivial⟩,
 ((0 : Nat)),
 ⟨(by (try dsimp only at *); omega),
 ⟨(by (try dsimp only at *); omega),
 rfl,
 ⟨rfl,
 rfl⟩,
 ⟨rfl,
 rfl⟩,
 rfl,
 ⟨rfl,
 rfl⟩,
 ⟨rfl,
 rfl⟩,
 ⟨rfl,
 rfl⟩,
 rfl,
 rfl,
 trivial⟩,
 ⟨⟨Nat.le_refl _⟩,
 (by (try dsimp only at *); exact rowsEq_zero (ks := k1) (e := encI) (n := 4) (by simp only [rowEq, Kd.eqv, k1]; exact ⟨rfl, trivial⟩))⟩,
 ⟨rfl,
 rfl,
 ⟨rfl,
 rfl⟩,
 trivial⟩,
 ⟨⟨rfl,
 rfl⟩,
 trivial⟩,
 ⟨⟨Nat.le_refl _⟩,
 RowsEq.rfl'⟩,
 ⟨⟨Nat.le_refl _⟩,
 RowsEq.rfl'⟩,
 ⟨⟨Nat.le_refl _⟩,
 RowsEq.rfl'⟩,
 trivial⟩,
 fun x12 => fun h13 => ⟨fun g14 => have h14 := of_decide_eq_true g14; ⟨⟨(by (try dsimp only at *); omega),
 (by (try dsimp only at *); omega)⟩,
 (by (try dsimp only at *); omega),
 fun g15 => have h15 := of_decide_eq_true g15; ⟨({ n := (4 : Int), now := (0 : Int) : NewX }),
 ⟨(by (try dsimp only at *); omega),
 (by (try dsimp only at *); omega)⟩,
 ⟨rfl,
 rfl,
 trivial⟩,
 trivial,
 fun g17 => have h17 := of_decide_eq_false g17; ⟨({ b := Box.new (4 : Int) (0 : Int), s := Came.sta (List.getD (LastX.l x1) ((0 : Nat) + Int.toNat (↑x12 : Int)) default), now := (0 : Int) : BoxS }),
 (by (try dsimp only at *); exact Box.ok_new (by decide)),
 ⟨⟨rfl,
 rfl⟩,
 ⟨rfl,
 rfl,
 rfl,
 rfl,
 rfl,
 trivial⟩,
 rfl,
 trivial⟩,
 ⟨⟨⟨rfl,
 (by (try dsimp only at *); (simp [Box.new]; done))⟩,
 trivial⟩,
 ⟨⟨(by (try dsimp only at *); (simp [Box.new]; done))⟩,
 RowsEq.rfl'⟩,
 trivial⟩,
 fun g19 => have h19 := of_decide_eq_true g19; ⟨fun g20 => have h20 := of_decide_eq_false g20; ⟨fun g21 => have h21 := of_decide_eq_true g21; ⟨(by (try dsimp only at *); (have hv := valid4_unit (err4 h19); omega)),
 trivial⟩,
 fun g22 => have h22 := of_decide_eq_false g22; ⟨⟨(by (try dsimp only at *); omega),
 (by (try dsimp only at *); omega)⟩,
 (by (try dsimp only at *); omega),
 ⟨(by (try dsimp only at *); omega),
 (by (try dsimp only at *); omega)⟩,
 ⟨(by (try dsimp only at *); omega),
 trivial,
 trivial⟩,
 ⟨(by (try dsimp only at *); omega),
 (by (try dsimp only at *); omega)⟩,
 (x12 + (1 : Nat)),
 (by (try dsimp only at *); omega),
 (by (try dsimp only at *); omega),
 ⟨(by (try dsimp only at *); omega),
 rfl,
 ⟨rfl,
 rfl⟩,
 ⟨rfl,
 rfl⟩,
 rfl,
 ⟨rfl,
 rfl⟩,
 ⟨rfl,
 rfl⟩,
 ⟨rfl,
 rfl⟩,
 rfl,
 rfl,
 trivial⟩,
 ⟨⟨Nat.le_refl _⟩,
 (by (try dsimp only at *); (simp only [Nat.zero_add, Int.toNat_natCast] at *; exact mostAt_yes (by omega) (err4 h19)))⟩,
 ⟨rfl,
 rfl,
 ⟨rfl,
 rfl⟩,
 trivial⟩,
 ⟨⟨rfl,
 rfl⟩,
 trivial⟩,
 ⟨⟨Nat.le_refl _⟩,
 RowsEq.rfl'⟩,
 ⟨⟨Nat.le_refl _⟩,
 RowsEq.rfl'⟩,
 ⟨⟨Nat.le_refl _⟩,
 RowsEq.rfl'⟩,
 trivial⟩⟩,
 fun g24 => have h24 := of_decide_eq_true g24; ⟨(by (try dsimp only at *); (have hv := valid4_unit (err4 h19); omega)),
 trivial⟩⟩,
 fun g25 => have h25 := of_decide_eq_false g25; ⟨⟨(by (try dsimp only at *); omega),
 (by (try dsimp only at *); omega)⟩,
 (x12 + (1 : Nat)),
 (by (try dsimp only at *); omega),
 (by (try dsimp only at *); omega),
 ⟨(by (try dsimp only at *); omega),
 rfl,
 ⟨rfl,
 rfl⟩,
 ⟨rfl,
 rfl⟩,
 rfl,
 ⟨rfl,
 rfl⟩,
 ⟨rfl,
 rfl⟩,
 ⟨rfl,
 rfl⟩,
 rfl,
 rfl,
 trivial⟩,
 ⟨⟨Nat.le_refl _⟩,
 (by (try dsimp only at *); (simp only [Nat.zero_add, Int.toNat_natCast] at *; rw [mostAt_no (by omega) (err4' h25)]; exact RowsEq.rfl'))⟩,
 ⟨rfl,
 rfl,
 ⟨rfl,
 rfl⟩,
 trivial⟩,
 ⟨⟨rfl,
 rfl⟩,
 trivial⟩,
 ⟨⟨Nat.le_refl _⟩,
 RowsEq.rfl'⟩,
 ⟨⟨Nat.le_refl _⟩,
 RowsEq.rfl'⟩,
 ⟨⟨Nat.le_refl _⟩,
 RowsEq.rfl'⟩,
 trivial⟩⟩,
 fun g27 => have h27 := of_decide_eq_true g27; ⟨(by (try dsimp only at *); omega),
 trivial⟩⟩,
 fun g28 => have h28 := of_decide_eq_false g28; ⟨({ n := (4 : Int), now := (0 : Int) : NewX }),
 (by (try dsimp only at *); omega),
 ⟨rfl,
 rfl,
 trivial⟩,
 trivial,
 fun g30 => have h30 := of_decide_eq_false g30; ⟨(by (try dsimp only at *); omega),
 trivial⟩,
 fun g31 => have h31 := of_decide_eq_true g31; ⟨(by (try dsimp only at *); omega),
 trivial⟩⟩⟩,
 fun g32 => have h32 := of_decide_eq_false g32; ⟨((0 : Nat)),
 ⟨(by (try dsimp only at *); omega),
 ⟨(by (try dsimp only at *); omega),
 ⟨rfl,
 rfl⟩,
 rfl,
 ⟨rfl,
 rfl⟩,
 ⟨rfl,
 rfl⟩,
 ⟨rfl,
 rfl⟩,
 rfl,
 rfl,
 trivial⟩,
 ⟨⟨Nat.le_refl _⟩,
 RowsEq.rfl'⟩,
 ⟨rfl,
 rfl,
 ⟨rfl,
 rfl⟩,
 trivial⟩,
 ⟨⟨rfl,
 rfl⟩,
 trivial⟩,
 ⟨⟨Nat.le_refl _⟩,
 RowsEq.rfl'⟩,
 ⟨⟨Nat.le_refl _⟩,
 RowsEq.rfl'⟩,
 ⟨⟨Nat.le_refl _⟩,
 RowsEq.rfl'⟩,
 trivial⟩,
 fun x34 => fun h35 => ⟨fun g36 => have h36 := of_decide_eq_true g36; ⟨({ b := PlayX.b { n := (4 : Int), now := (0 : Int), l := LastX.l x1 : PlayX }, u := (↑x34 : Int) : BoxI }),
 trivial,
 ⟨⟨rfl,
 rfl⟩,
 rfl,
 trivial⟩,
 ⟨⟨⟨rfl,
 rfl⟩,
 trivial⟩,
 ⟨⟨Nat.le_refl _⟩,
 RowsEq.rfl'⟩,
 trivial⟩,
 ⟨(by (try dsimp only at *); omega),
 (by (try dsimp only at *); omega)⟩,
 (by (try dsimp only at *); omega),
 fun h38 => ⟨⟨(by (try dsimp only at *); omega),
 (by (try dsimp only at *); omega)⟩,
 (by (try dsimp only at *); omega),
 fun g39 => have h39 := of_decide_eq_true g39; ⟨(by (try dsimp only at *); (obtain rfl : x12 = x1.l.length := (by omega); have hm := most_last (l := x1.l) (u := x34) (by omega); simp only [Nat.zero_add, Int.toNat_natCast, PlayX.b] at *; grind)),
 trivial⟩,
 fun g40 => have h40 := of_decide_eq_false g40; ⟨⟨(by (try dsimp only at *); omega),
 (by (try dsimp only at *); omega)⟩,
 (x34 + (1 : Nat)),
 (by (try dsimp only at *); omega),
 (by (try dsimp only at *); omega),
 ⟨(by (try dsimp only at *); omega),
 ⟨rfl,
 rfl⟩,
 rfl,
 ⟨rfl,
 rfl⟩,
 ⟨rfl,
 rfl⟩,
 ⟨rfl,
 rfl⟩,
 rfl,
 rfl,
 trivial⟩,
 ⟨⟨Nat.le_refl _⟩,
 RowsEq.rfl'⟩,
 ⟨rfl,
 rfl,
 ⟨rfl,
 rfl⟩,
 trivial⟩,
 ⟨⟨rfl,
 rfl⟩,
 trivial⟩,
 ⟨⟨Nat.le_refl _⟩,
 RowsEq.rfl'⟩,
 ⟨⟨Nat.le_refl _⟩,
 RowsEq.rfl'⟩,
 ⟨⟨Nat.le_refl _⟩,
 RowsEq.rfl'⟩,
 trivial⟩⟩,
 fun h42 => ⟨(by (try dsimp only at *); (obtain rfl : x12 = x1.l.length := (by omega); have hm := most_last (l := x1.l) (u := x34) (by omega); simp only [Nat.zero_add, Int.toNat_natCast, PlayX.b] at *; grind)),
 trivial⟩⟩,
 fun g43 => have h43 := of_decide_eq_false g43; ⟨fun g44 => have h44 := of_decide_eq_true g44; ⟨(default),
 trivial,
 trivial,
 trivial,
 rfl,
 trivial⟩,
 fun g46 => have h46 := of_decide_eq_false g46; ⟨⟨(by (try dsimp only at *); omega),
 (by (try dsimp only at *); omega)⟩,
 ⟨(by (try dsimp only at *); omega),
 (by (try dsimp only at *); omega)⟩,
 ⟨(by (try dsimp only at *); (have hi := again_lt h2.1 h46; omega)),
 (by (try dsimp only at *); (have hi := again_lt h2.1 h46; omega))⟩,
 (by (try dsimp only at *); (have hi := again_lt h2.1 h46; omega)),
 ({ b := PlayX.b { n := (4 : Int), now := (0 : Int), l := LastX.l x1 : PlayX }, u := Sta.unit (Came.sta (List.getD (LastX.l x1) ((0 : Nat) + Int.toNat (LastX.again x1 % (↑(List.length (LastX.l x1)) : Int))) default)) : BoxI }),
 trivial,
 ⟨⟨rfl,
 rfl⟩,
 rfl,
 trivial⟩,
 ⟨⟨⟨rfl,
 rfl⟩,
 trivial⟩,
 ⟨⟨Nat.le_refl _⟩,
 RowsEq.rfl'⟩,
 trivial⟩,
 ({ b := PlayX.b { n := (4 : Int), now := (0 : Int), l := LastX.l x1 : PlayX }, u := Sta.unit (Came.sta (List.getD (LastX.l x1) ((0 : Nat) + Int.toNat (LastX.again x1 % (↑(List.length (LastX.l x1)) : Int))) default)) : BoxI }),
 (by (try dsimp only at *); exact (PlayX.same ⟨4, 0, x1.l⟩ h9).ok),
 ⟨⟨rfl,
 rfl⟩,
 rfl,
 trivial⟩,
 ⟨⟨⟨rfl,
 rfl⟩,
 trivial⟩,
 ⟨⟨Nat.le_refl _⟩,
 RowsEq.rfl'⟩,
 trivial⟩,
 ({ b := PlayX.b { n := (4 : Int), now := (0 : Int), l := LastX.l x1 : PlayX }, s := Came.sta (List.getD (LastX.l x1) ((0 : Nat) + Int.toNat (LastX.again x1 % (↑(List.length (LastX.l x1)) : Int))) default), now := LastX.now x1 : BoxS }),
 (by (try dsimp only at *); exact (PlayX.same ⟨4, 0, x1.l⟩ h9).ok),
 ⟨⟨rfl,
 rfl⟩,
 ⟨rfl,
 rfl,
 rfl,
 rfl,
 rfl,
 trivial⟩,
 rfl,
 trivial⟩,
 ⟨⟨⟨rfl,
 rfl⟩,
 trivial⟩,
 ⟨⟨Nat.le_refl _⟩,
 RowsEq.rfl'⟩,
 trivial⟩,
 fun h50 => ⟨(by (try dsimp only at *); (have hi := again_lt h2.1 h46; have hn := again_isNew hi.2.2; have ha := again_add hi.2.2 x1.now; simp only [Nat.zero_add, PlayX.b] at *; first | (rw [ha]; done) | (simp only [ha] at *; grind))),
 trivial⟩,
 fun h51 => ⟨({ b := Box.add (PlayX.b { n := (4 : Int), now := (0 : Int), l := LastX.l x1 : PlayX }) (Came.sta (List.getD (LastX.l x1) ((0 : Nat) + Int.toNat (LastX.again x1 % (↑(List.length (LastX.l x1)) : Int))) default)) (LastX.now x1), u := Sta.unit (Came.sta (List.getD (LastX.l x1) ((0 : Nat) + Int.toNat (LastX.again x1 % (↑(List.length (LastX.l x1)) : Int))) default)) : BoxI }),
 trivial,
 ⟨⟨rfl,
 rfl⟩,
 rfl,
 trivial⟩,
 ⟨⟨⟨rfl,
 (by (try dsimp only at *); (have hi := again_lt h2.1 h46; have hn := again_isNew hi.2.2; have ha := again_add hi.2.2 x1.now; simp only [Nat.zero_add, PlayX.b] at *; first | (rw [ha]; done) | (simp only [ha] at *; grind)))⟩,
 trivial⟩,
 ⟨⟨(by (try dsimp only at *); (have hi := again_lt h2.1 h46; have hn := again_isNew hi.2.2; have ha := again_add hi.2.2 x1.now; simp only [Nat.zero_add, PlayX.b] at *; first | (rw [ha]; done) | (simp only [ha] at *; grind)))⟩,
 RowsEq.rfl'⟩,
 trivial⟩,
 fun h53 => ⟨fun g54 => have h54 := of_decide_eq_true g54; ⟨fun h55 => ⟨({ b := Box.add (PlayX.b { n := (4 : Int), now := (0 : Int), l := LastX.l x1 : PlayX }) (Came.sta (List.getD (LastX.l x1) ((0 : Nat) + Int.toNat (LastX.again x1 % (↑(List.length (LastX.l x1)) : Int))) default)) (LastX.now x1), u := Sta.unit (Came.sta (List.getD (LastX.l x1) ((0 : Nat) + Int.toNat (LastX.again x1 % (↑(List.length (LastX.l x1)) : Int))) default)) : BoxI }),
 (by (try dsimp only at *); exact Box.ok_add (PlayX.same ⟨4, 0, x1.l⟩ h9).ok _ _),
 ⟨⟨rfl,
 rfl⟩,
 rfl,
 trivial⟩,
 ⟨⟨⟨rfl,
 (by (try dsimp only at *); (have hi := again_lt h2.1 h46; have hn := again_isNew hi.2.2; have ha := again_add hi.2.2 x1.now; simp only [Nat.zero_add, PlayX.b] at *; first | (rw [ha]; done) | (simp only [ha] at *; grind)))⟩,
 trivial⟩,
 ⟨⟨(by (try dsimp only at *); (have hi := again_lt h2.1 h46; have hn := again_isNew hi.2.2; have ha := again_add hi.2.2 x1.now; simp only [Nat.zero_add, PlayX.b] at *; first | (rw [ha]; done) | (simp only [ha] at *; grind)))⟩,
 RowsEq.rfl'⟩,
 trivial⟩,
 fun g57 => have h57 := of_decide_eq_true g57; ⟨(default),
 trivial,
 trivial,
 trivial,
 rfl,
 trivial⟩,
 fun g59 => have h59 := of_decide_eq_false g59; ⟨(by (try dsimp only at *); (have hi := again_lt h2.1 h46; have hn := again_isNew hi.2.2; have ha := again_add hi.2.2 x1.now; simp only [Nat.zero_add, PlayX.b] at *; first | (rw [ha]; done) | (simp only [ha] at *; grind))),
 trivial⟩⟩,
 fun h60 => ⟨(by (try dsimp only at *); (have hi := again_lt h2.1 h46; have hn := again_isNew hi.2.2; have ha := again_add hi.2.2 x1.now; simp only [Nat.zero_add, PlayX.b] at *; first | (rw [ha]; done) | (simp only [ha] at *; grind))),
 trivial⟩⟩,
 fun g61 => have h61 := of_decide_eq_false g61; ⟨(by (try dsimp only at *); (have hi := again_lt h2.1 h46; have hn := again_isNew hi.2.2; have ha := again_add hi.2.2 x1.now; simp only [Nat.zero_add, PlayX.b] at *; first | (rw [ha]; done) | (simp only [ha] at *; grind))),
 trivial⟩⟩,
 fun h62 => ⟨(by (try dsimp only at *); (have hi := again_lt h2.1 h46; have hn := again_isNew hi.2.2; have ha := again_add hi.2.2 x1.now; simp only [Nat.zero_add, PlayX.b] at *; first | (rw [ha]; done) | (simp only [ha] at *; grind))),
 trivial⟩⟩⟩⟩⟩⟩⟩⟩,
 fun g63 => have h63 := of_decide_eq_false g63; ⟨({ n := (4 : Int), now := (0 : Int), l := LastX.l x1 : PlayX }),
 ⟨(by (try dsimp only at *); omega),
 (by (try dsimp only at *); omega)⟩,
 ⟨rfl,
 rfl,
 ⟨rfl,
 rfl⟩,
 trivial⟩,
 ⟨⟨⟨Nat.le_refl _⟩,
 RowsEq.rfl'⟩,
 trivial⟩,
 fun h65 => ⟨(default),
 trivial,
 trivial,
 trivial,
 rfl,
 trivial⟩,
 fun h67 => ⟨(by (try dsimp only at *); omega),
 trivial⟩⟩⟩⟩)

theorem lastLaw_good : Good Try.prog 4 lastLawC ∧ FnOk Try.prog 4 := good_of tok con10 (fn := Try.f4) rfl (by decide +kernel) (fun _ => rfl) lastLaw_keeps
end Go.Sym
