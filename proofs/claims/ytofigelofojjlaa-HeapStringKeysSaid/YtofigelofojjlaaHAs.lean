/- The heap of numbers with keys of kind s: contracts and walks. Printed by gen/heap.py. -/
import Derived.Test.YtofigelofojjlaaHEi
import Derived.Test.YtofigelofojjlaaXD
namespace Go.Sym
set_option linter.unusedVariables false
set_option linter.unusedSimpArgs false
open Go.Proofs
theorem bytesLess_irr : ∀ a : List UInt8, Op.bytesLess a a = false := by
  intro a
  induction a with
  | nil => rfl
  | cons x r ih => simp [Op.bytesLess, ih]
theorem bytesLess_trans : ∀ a b c : List UInt8, Op.bytesLess a b = true → Op.bytesLess b c = true → Op.bytesLess a c = true := by
  intro a
  induction a with
  | nil =>
    intro b c h1 h2
    cases b with
    | nil => cases h1
    | cons y b => cases c with
      | nil => cases h2
      | cons z c => rfl
  | cons x a ih =>
    intro b c h1 h2
    cases b with
    | nil => cases h1
    | cons y b => cases c with
      | nil => cases h2
      | cons z c =>
        simp only [Op.bytesLess, Bool.or_eq_true, Bool.and_eq_true, decide_eq_true_eq, beq_iff_eq] at *
        rcases h1 with h1 | ⟨rfl, h1⟩
        · rcases h2 with h2 | ⟨rfl, h2⟩
          · exact .inl (UInt8.lt_trans h1 h2)
          · exact .inl h1
        · rcases h2 with h2 | ⟨rfl, h2⟩
          · exact .inl h2
          · exact .inr ⟨rfl, ih _ _ h1 h2⟩
theorem bytesLess_tot : ∀ a b : List UInt8, Op.bytesLess a b = false → Op.bytesLess b a = false → a = b := by
  intro a
  induction a with
  | nil =>
    intro b h1 h2
    cases b with
    | nil => rfl
    | cons y b => cases h1
  | cons x a ih =>
    intro b h1 h2
    cases b with
    | nil => cases h2
    | cons y b =>
      simp only [Op.bytesLess, Bool.or_eq_false_iff, Bool.and_eq_false_iff, decide_eq_false_iff_not, beq_eq_false_iff_ne] at *
      obtain ⟨a1, a2⟩ := h1
      obtain ⟨b1, b2⟩ := h2
      have e : x = y := by
        have h := @UInt8.lt_or_lt_of_ne x y
        exact Classical.byContradiction fun hne => (h hne).elim a1 b1
      subst e
      rcases a2 with a2 | a2
      · exact absurd rfl a2
      · rcases b2 with b2 | b2
        · exact absurd rfl b2
        · rw [ih _ a2 b2]
theorem bytes_ltOk : LtOk (fun a b : ByteArray => Op.bytesLess a.toList b.toList) := by
  refine ⟨fun a => bytesLess_irr _, fun a b c h1 h2 => bytesLess_trans _ _ _ h1 h2, fun a b h1 h2 => ?_⟩
  have h := bytesLess_tot _ _ h1 h2
  rw [ByteArray.toList_eq, ByteArray.toList_eq] at h
  exact ByteArray.ext (Array.ext' h)
def lts : ByteArray → ByteArray → Bool := fun a b => Op.bytesLess a.toList b.toList
theorem lts_ok : LtOk lts := bytes_ltOk
def kEs : List Kd := [.int .i64, .str]
def encEs (x : El ByteArray) (c : Nat) : D := encN [.i x.id, .s x.key] c
def heapHs (m : Md) (l : List (El ByteArray)) : List (Nat × Blk) := [(100000, .one .bor [.sl 100001 0 l.length, .mp 100002]), (100001, .rows m kEs l.length (encL encEs l)), (100002, .map m .i64 kMap false (ids l) (posD l))]
def heapGs (l : List (El ByteArray)) : List (Nat × Blk) := [(100001, .rows .own kEs l.length (encL encEs l)), (100002, .map .own .i64 kMap false (ids l) (posD l))]
theorem swap_rowss {l : List (El ByteArray)} {i j n : Nat} (hi : i < l.length) (hj : j < l.length) :
    RowsEq kEs n (setRow (setRow (encL encEs l) i 0 [D.i (l.getD j default).id, .s (l.getD j default).key]) j 0 [D.i (l.getD i default).id, .s (l.getD i default).key]) (encL encEs (swp l i j)) := by
  unfold swp
  by_cases hjn : j < n
  · exact rowsEq_setOf (rowsEq_set hi (by simp only [rowEq, Kd.eqv, kEs]; exact ⟨rfl, rfl, trivial⟩)) hjn (by simpa using hj) (by simp only [rowEq, Kd.eqv, kEs]; exact ⟨rfl, rfl, trivial⟩)
  · refine RowsEq.trans ⟨fun r hr => ?_⟩ (rowsEq_set (xs := l.set i (l.getD j default)) (r := j) (c := 0) (ds := [D.i (l.getD i default).id, .s (l.getD i default).key]) (v := l.getD i default) (by simpa using hj) (by simp only [rowEq, Kd.eqv, kEs]; exact ⟨rfl, rfl, trivial⟩))
    have : r ≠ j := by omega
    unfold setRow
    simp only [this, if_false]
    exact (rowsEq_set (n := n) (ks := kEs) (e := encEs) hi (by simp only [rowEq, Kd.eqv, kEs]; exact ⟨rfl, rfl, trivial⟩)).h r hr
theorem swap_idss {l : List (El ByteArray)} {i j : Nat} (hi : i < l.length) (hj : j < l.length) (r : Nat) :
    (setRow (setRow (encL encEs l) i 0 [D.i (l.getD j default).id, .s (l.getD j default).key]) j 0 [D.i (l.getD i default).id, .s (l.getD i default).key] r 0).toI = ((swp l i j).getD r default).id := by
  have h := (swap_rowss (n := r + 1) hi hj).h r (by omega)
  simp only [rowEq, Kd.eqv, kEs] at h
  exact h.1
structure LIJs where
  l : List (El ByteArray)
  i : Int
  j : Int
def LIJs.Ok (x : LIJs) : Prop := 0 ≤ x.i ∧ x.i < x.l.length ∧ 0 ≤ x.j ∧ x.j < x.l.length ∧ (ids x.l).Nodup
def lesssC : CT where
  X := LIJs
  pre := fun x => x.Ok
  args := fun x => [.p 100000 0 0, .i .i64 x.i, .i .i64 x.j]
  g0 := fun x => heapHs .bor x.l
  res := fun x => .b (El.less lts (x.l.getD x.i.toNat default) (x.l.getD x.j.toNat default))
  g1 := fun _ => []
set_option maxRecDepth 100000 in
theorem lesss_keeps : Keeps cfg0 Try.f37 lesssC noIv := Eq.mp (show ((∀ x1 : LIJs,
 ((LIJs.Ok x1) →
 ((((0 : Int) ≤ LIJs.i x1) ∧
 (LIJs.i x1 < (↑(List.length (LIJs.l x1)) : Int))) ∧
 (((0 : Nat) + Int.toNat (LIJs.i x1) < List.length (LIJs.l x1)) ∧
 ((((0 : Int) ≤ LIJs.j x1) ∧
 (LIJs.j x1 < (↑(List.length (LIJs.l x1)) : Int))) ∧
 (((0 : Nat) + Int.toNat (LIJs.j x1) < List.length (LIJs.l x1)) ∧
 (((Op.bytesLess (ByteArray.toList (El.key (List.getD (LIJs.l x1) ((0 : Nat) + Int.toNat (LIJs.i x1)) default))) (ByteArray.toList (El.key (List.getD (LIJs.l x1) ((0 : Nat) + Int.toNat (LIJs.j x1)) default))) = true) →
 ((true = El.less lts (List.getD (LIJs.l x1) (Int.toNat (LIJs.i x1)) default) (List.getD (LIJs.l x1) (Int.toNat (LIJs.j x1)) default)) ∧
 (True))) ∧
 ((Op.bytesLess (ByteArray.toList (El.key (List.getD (LIJs.l x1) ((0 : Nat) + Int.toNat (LIJs.i x1)) default))) (ByteArray.toList (El.key (List.getD (LIJs.l x1) ((0 : Nat) + Int.toNat (LIJs.j x1)) default))) = false) →
 (((Op.bytesLess (ByteArray.toList (El.key (List.getD (LIJs.l x1) ((0 : Nat) + Int.toNat (LIJs.j x1)) default))) (ByteArray.toList (El.key (List.getD (LIJs.l x1) ((0 : Nat) + Int.toNat (LIJs.i x1)) default))) = true) →
 ((false = El.less lts (List.getD (LIJs.l x1) (Int.toNat (LIJs.i x1)) default) (List.getD (LIJs.l x1) (Int.toNat (LIJs.j x1)) default)) ∧
 (True))) ∧
 ((Op.bytesLess (ByteArray.toList (El.key (List.getD (LIJs.l x1) ((0 : Nat) + Int.toNat (LIJs.j x1)) default))) (ByteArray.toList (El.key (List.getD (LIJs.l x1) ((0 : Nat) + Int.toNat (LIJs.i x1)) default))) = false) →
 ((decide (El.id (List.getD (LIJs.l x1) ((0 : Nat) + Int.toNat (LIJs.i x1)) default) < El.id (List.getD (LIJs.l x1) ((0 : Nat) + Int.toNat (LIJs.j x1)) default)) = El.less lts (List.getD (LIJs.l x1) (Int.toNat (LIJs.i x1)) default) (List.getD (LIJs.l x1) (Int.toNat (LIJs.j x1)) default)) ∧
 (True))))))))))))) = Keeps cfg0 Try.f37 lesssC noIv by kernel_rfl) (fun x1 => fun h2 => ⟨⟨(by (obtain ⟨p1, p2, p3, p4, p5⟩ := h2; omega)),
 (by (obtain ⟨p1, p2, p3, p4, p5⟩ := h2; omega))⟩,
 (by (obtain ⟨p1, p2, p3, p4, p5⟩ := h2; omega)),
 ⟨(by (obtain ⟨p1, p2, p3, p4, p5⟩ := h2; omega)),
 (by (obtain ⟨p1, p2, p3, p4, p5⟩ := h2; omega))⟩,
 (by (obtain ⟨p1, p2, p3, p4, p5⟩ := h2; omega)),
 fun h3 => ⟨(by (simp only [Nat.zero_add] at *; grind [El.less, lts])),
 trivial⟩,
 fun h4 => ⟨fun h5 => ⟨(by (simp only [Nat.zero_add] at *; grind [El.less, lts])),
 trivial⟩,
 fun h6 => ⟨(by (simp only [Nat.zero_add] at *; grind [El.less, lts])),
 trivial⟩⟩⟩)

theorem lesss_good : Good Try.prog 37 lesssC ∧ FnOk Try.prog 37 := good_of tok con0 (fn := Try.f37) rfl (by decide +kernel) (fun _ => rfl) lesss_keeps
def swapsC : CT where
  X := LIJs
  pre := fun x => x.Ok
  args := fun x => [.p 100000 0 0, .i .i64 x.i, .i .i64 x.j]
  g0 := fun x => heapHs .own x.l
  res := fun x => .tup []
  g1 := fun x => heapGs (swp x.l x.i.toNat x.j.toNat)
set_option maxRecDepth 100000 in
theorem swaps_keeps : Keeps cfg0 Try.f38 swapsC noIv := Eq.mp (show ((∀ x1 : LIJs,
 ((LIJs.Ok x1) →
 ((((0 : Int) ≤ LIJs.j x1) ∧
 (LIJs.j x1 < (↑(List.length (LIJs.l x1)) : Int))) ∧
 (((0 : Nat) + Int.toNat (LIJs.j x1) < List.length (LIJs.l x1)) ∧
 ((((0 : Int) ≤ LIJs.i x1) ∧
 (LIJs.i x1 < (↑(List.length (LIJs.l x1)) : Int))) ∧
 (((0 : Nat) + Int.toNat (LIJs.i x1) < List.length (LIJs.l x1)) ∧
 ((((0 : Int) ≤ LIJs.i x1) ∧
 (LIJs.i x1 < (↑(List.length (LIJs.l x1)) : Int))) ∧
 ((((0 : Nat) + Int.toNat (LIJs.i x1) < List.length (LIJs.l x1)) ∧
 ((True) ∧
 ((True) ∧
 (True)))) ∧
 ((((0 : Int) ≤ LIJs.j x1) ∧
 (LIJs.j x1 < (↑(List.length (LIJs.l x1)) : Int))) ∧
 ((((0 : Nat) + Int.toNat (LIJs.j x1) < List.length (LIJs.l x1)) ∧
 ((True) ∧
 ((True) ∧
 (True)))) ∧
 ((((0 : Int) ≤ LIJs.i x1) ∧
 (LIJs.i x1 < (↑(List.length (LIJs.l x1)) : Int))) ∧
 (((0 : Nat) + Int.toNat (LIJs.i x1) < List.length (LIJs.l x1)) ∧
 (((True) ∧
 (True)) ∧
 ((((0 : Int) ≤ LIJs.j x1) ∧
 (LIJs.j x1 < (↑(List.length (LIJs.l x1)) : Int))) ∧
 (((0 : Nat) + Int.toNat (LIJs.j x1) < List.length (LIJs.l x1)) ∧
 (((True) ∧
 (True)) ∧
 ((True) ∧
 (((RLe (List.length (swp (LIJs.l x1) (Int.toNat (LIJs.i x1)) (Int.toNat (LIJs.j x1)))) (List.length (LIJs.l x1))) ∧
 (RowsEq (Kd.int IntKind.i64 :: Kd.str :: @List.nil Kd) (List.length (swp (LIJs.l x1) (Int.toNat (LIJs.i x1)) (Int.toNat (LIJs.j x1)))) (setRow (setRow (encL encEs (LIJs.l x1)) ((0 : Nat) + Int.toNat (LIJs.i x1)) (0 : Nat) (D.i (El.id (List.getD (LIJs.l x1) ((0 : Nat) + Int.toNat (LIJs.j x1)) default)) :: D.s (El.key (List.getD (LIJs.l x1) ((0 : Nat) + Int.toNat (LIJs.j x1)) default)) :: @List.nil D)) ((0 : Nat) + Int.toNat (LIJs.j x1)) (0 : Nat) (D.i (El.id (List.getD (LIJs.l x1) ((0 : Nat) + Int.toNat (LIJs.i x1)) default)) :: D.s (El.key (List.getD (LIJs.l x1) ((0 : Nat) + Int.toNat (LIJs.i x1)) default)) :: @List.nil D)) (encL encEs (swp (LIJs.l x1) (Int.toNat (LIJs.i x1)) (Int.toNat (LIJs.j x1)))))) ∧
 ((MapEq (Kd.int IntKind.i64 :: @List.nil Kd) (madd1 (madd1 (ids (LIJs.l x1)) (D.toI (if (0 : Nat) + Int.toNat (LIJs.i x1) = (0 : Nat) + Int.toNat (LIJs.j x1) then D.i (El.id (List.getD (LIJs.l x1) ((0 : Nat) + Int.toNat (LIJs.i x1)) default)) else if (0 : Nat) + Int.toNat (LIJs.i x1) = (0 : Nat) + Int.toNat (LIJs.i x1) then D.i (El.id (List.getD (LIJs.l x1) ((0 : Nat) + Int.toNat (LIJs.j x1)) default)) else D.i (El.id (List.getD (LIJs.l x1) ((0 : Nat) + Int.toNat (LIJs.i x1)) default))))) (D.toI (if (0 : Nat) + Int.toNat (LIJs.j x1) = (0 : Nat) + Int.toNat (LIJs.j x1) then D.i (El.id (List.getD (LIJs.l x1) ((0 : Nat) + Int.toNat (LIJs.i x1)) default)) else if (0 : Nat) + Int.toNat (LIJs.j x1) = (0 : Nat) + Int.toNat (LIJs.i x1) then D.i (El.id (List.getD (LIJs.l x1) ((0 : Nat) + Int.toNat (LIJs.j x1)) default)) else D.i (El.id (List.getD (LIJs.l x1) ((0 : Nat) + Int.toNat (LIJs.j x1)) default))))) (ids (swp (LIJs.l x1) (Int.toNat (LIJs.i x1)) (Int.toNat (LIJs.j x1)))) (mset (mset (posD (LIJs.l x1)) (D.toI (if (0 : Nat) + Int.toNat (LIJs.i x1) = (0 : Nat) + Int.toNat (LIJs.j x1) then D.i (El.id (List.getD (LIJs.l x1) ((0 : Nat) + Int.toNat (LIJs.i x1)) default)) else if (0 : Nat) + Int.toNat (LIJs.i x1) = (0 : Nat) + Int.toNat (LIJs.i x1) then D.i (El.id (List.getD (LIJs.l x1) ((0 : Nat) + Int.toNat (LIJs.j x1)) default)) else D.i (El.id (List.getD (LIJs.l x1) ((0 : Nat) + Int.toNat (LIJs.i x1)) default)))) fun (j : Nat) => List.getD (D.i (LIJs.i x1) :: @List.nil D) j (D.i (0 : Int))) (D.toI (if (0 : Nat) + Int.toNat (LIJs.j x1) = (0 : Nat) + Int.toNat (LIJs.j x1) then D.i (El.id (List.getD (LIJs.l x1) ((0 : Nat) + Int.toNat (LIJs.i x1)) default)) else if (0 : Nat) + Int.toNat (LIJs.j x1) = (0 : Nat) + Int.toNat (LIJs.i x1) then D.i (El.id (List.getD (LIJs.l x1) ((0 : Nat) + Int.toNat (LIJs.j x1)) default)) else D.i (El.id (List.getD (LIJs.l x1) ((0 : Nat) + Int.toNat (LIJs.j x1)) default)))) fun (j : Nat) => List.getD (D.i (LIJs.j x1) :: @List.nil D) j (D.i (0 : Int))) (posD (swp (LIJs.l x1) (Int.toNat (LIJs.i x1)) (Int.toNat (LIJs.j x1))))) ∧
 (True))))))))))))))))))))) = Keeps cfg0 Try.f38 swapsC noIv by kernel_rfl) (fun x1 => fun h2 => ⟨⟨(by (obtain ⟨p1, p2, p3, p4, p5⟩ := h2; omega)),
 (by (obtain ⟨p1, p2, p3, p4, p5⟩ := h2; omega))⟩,
 (by (obtain ⟨p1, p2, p3, p4, p5⟩ := h2; omega)),
 ⟨(by (obtain ⟨p1, p2, p3, p4, p5⟩ := h2; omega)),
 (by (obtain ⟨p1, p2, p3, p4, p5⟩ := h2; omega))⟩,
 (by (obtain ⟨p1, p2, p3, p4, p5⟩ := h2; omega)),
 ⟨(by (obtain ⟨p1, p2, p3, p4, p5⟩ := h2; omega)),
 (by (obtain ⟨p1, p2, p3, p4, p5⟩ := h2; omega))⟩,
 ⟨(by (obtain ⟨p1, p2, p3, p4, p5⟩ := h2; omega)),
 trivial,
 trivial,
 trivial⟩,
 ⟨(by (obtain ⟨p1, p2, p3, p4, p5⟩ := h2; omega)),
 (by (obtain ⟨p1, p2, p3, p4, p5⟩ := h2; omega))⟩,
 ⟨(by (obtain ⟨p1, p2, p3, p4, p5⟩ := h2; omega)),
 trivial,
 trivial,
 trivial⟩,
 ⟨(by (obtain ⟨p1, p2, p3, p4, p5⟩ := h2; omega)),
 (by (obtain ⟨p1, p2, p3, p4, p5⟩ := h2; omega))⟩,
 (by (obtain ⟨p1, p2, p3, p4, p5⟩ := h2; omega)),
 ⟨trivial,
 trivial⟩,
 ⟨(by (obtain ⟨p1, p2, p3, p4, p5⟩ := h2; omega)),
 (by (obtain ⟨p1, p2, p3, p4, p5⟩ := h2; omega))⟩,
 (by (obtain ⟨p1, p2, p3, p4, p5⟩ := h2; omega)),
 ⟨trivial,
 trivial⟩,
 trivial,
 ⟨⟨(by (rw [swp_length]; omega))⟩,
 (by (obtain ⟨p1, p2, p3, p4, p5⟩ := h2; simp only [Nat.zero_add]; exact swap_rowss (by omega) (by omega)))⟩,
 (by (obtain ⟨p1, p2, p3, p4, p5⟩ := h2; refine swap_mapI p5 (by omega) (by omega) ?_ ?_ (by omega) (by omega) <;> (rw [swp_get (by omega) (by omega)]; simp only [Nat.zero_add]; grind [D.toI]))),
 trivial⟩)

theorem swaps_good : Good Try.prog 38 swapsC ∧ FnOk Try.prog 38 := good_of tok con0 (fn := Try.f38) rfl (by decide +kernel) (fun _ => rfl) swaps_keeps


structure LIs where
  l : List (El ByteArray)
  i : Int
def LIs.Ok (x : LIs) : Prop := 0 ≤ x.i ∧ x.i < x.l.length ∧ (ids x.l).Nodup ∧ x.l.length ≤ 1000000
def C1s : List (Nat × Con) := [(37, .one lesssC), (38, .one swapsC)]
theorem con1s : ConL Try.prog C1s := .cons (ConL.one lesss_good) (.cons (ConL.one swaps_good) .nil)
def upsC : CT where
  X := LIs
  pre := fun x => x.Ok
  args := fun x => [.p 100000 0 0, .i .i64 x.i]
  g0 := fun x => heapHs .own x.l
  res := fun x => .tup []
  g1 := fun x => heapGs (upF lts x.l x.i.toNat)
def upsI (x : LIs) (id : Nat) : Option Inv := match id with
  | 0 => some { X := List (El ByteArray) × Nat, ok := fun y => y.2 < y.1.length ∧ y.1.length = x.l.length ∧ (ids y.1).Nodup ∧ upF lts y.1 y.2 = upF lts x.l x.i.toNat, fr := fun y => [(1, .i .i64 y.2)], hp := fun y => heapGs y.1, me := fun y => y.2 }
  | _ => none
theorem ups_step {l : List (El ByteArray)} {i : Nat} (h : i ≠ 0) (hs : El.less lts (l.getD i default) (l.getD ((i - 1) / 2) default) = true) : upF lts (swp l i ((i - 1) / 2)) ((i - 1) / 2) = upF lts l i := by
  rw [upF.eq_def lts l i, dif_neg h, if_pos hs]
theorem ups_stop {l : List (El ByteArray)} {i : Nat} (hs : i = 0 ∨ El.less lts (l.getD i default) (l.getD ((i - 1) / 2) default) = false) : upF lts l i = l := by
  rw [upF]
  rcases hs with h | h
  · rw [dif_pos h]
  · rw [h]; simp
theorem swp_nodups {l : List (El ByteArray)} (hn : (ids l).Nodup) {i j : Nat} (hi : i < l.length) (hj : j < l.length) : (ids (swp l i j)).Nodup := (ids_perm (swp_perm hi hj)).nodup_iff.2 hn
set_option maxRecDepth 100000 in
theorem ups_keeps : Keeps ⟨T, [], C1s, noInv, 5⟩ Try.f31 upsC upsI := Eq.mp (show ((∀ x1 : LIs,
 ((LIs.Ok x1) →
 (∃ x3 : List (El ByteArray) × Nat,
 ((((Prod.snd x3 < List.length (Prod.fst x3)) ∧
 ((List.length (Prod.fst x3) = List.length (LIs.l x1)) ∧
 ((List.Nodup (ids (Prod.fst x3))) ∧
 (upF lts (Prod.fst x3) (Prod.snd x3) = upF lts (LIs.l x1) (Int.toNat (LIs.i x1)))))) ∧
 (((LIs.i x1 = (↑(Prod.snd x3) : Int)) ∧
 ((((0 : Nat) = (0 : Nat)) ∧
 ((0 : Nat) = (0 : Nat))) ∧
 (True))) ∧
 (((RLe (List.length (Prod.fst x3)) (List.length (LIs.l x1))) ∧
 (RowsEq (Kd.int IntKind.i64 :: Kd.str :: @List.nil Kd) (List.length (Prod.fst x3)) (encL encEs (LIs.l x1)) (encL encEs (Prod.fst x3)))) ∧
 ((MapEq (Kd.int IntKind.i64 :: @List.nil Kd) (ids (LIs.l x1)) (ids (Prod.fst x3)) (posD (LIs.l x1)) (posD (Prod.fst x3))) ∧
 (((((0 : Nat) = (0 : Nat)) ∧
 (List.length (LIs.l x1) = List.length (LIs.l x1))) ∧
 ((True) ∧
 (True))) ∧
 (True)))))) ∧
 (∀ x4 : List (El ByteArray) × Nat,
 ((Prod.snd x4 < List.length (Prod.fst x4) ∧ List.length (Prod.fst x4) = List.length (LIs.l x1) ∧ List.Nodup (ids (Prod.fst x4)) ∧ upF lts (Prod.fst x4) (Prod.snd x4) = upF lts (LIs.l x1) (Int.toNat (LIs.i x1))) →
 (((decide ((0 : Int) < (↑(Prod.snd x4) : Int)) = true) →
 ((((-9223372036854775808 : Int) ≤ (↑(Prod.snd x4) : Int) - (1 : Int)) ∧
 ((↑(Prod.snd x4) : Int) - (1 : Int) ≤ (9223372036854775807 : Int))) ∧
 ((((0 : Int) ≤ (↑(Prod.snd x4) : Int) - (1 : Int)) ∧
 (((0 : Int) < (2 : Int)) ∧
 (((-9223372036854775808 : Int) ≤ ((↑(Prod.snd x4) : Int) - (1 : Int)) / (2 : Int)) ∧
 (((↑(Prod.snd x4) : Int) - (1 : Int)) / (2 : Int) ≤ (9223372036854775807 : Int))))) ∧
 (∃ x7 : LIJs,
 ((LIJs.Ok x7) ∧
 (((((0 : Nat) = (0 : Nat)) ∧
 ((0 : Nat) = (0 : Nat))) ∧
 (((↑(Prod.snd x4) : Int) = LIJs.i x7) ∧
 ((((↑(Prod.snd x4) : Int) - (1 : Int)) / (2 : Int) = LIJs.j x7) ∧
 (True)))) ∧
 ((((((0 : Nat) = (0 : Nat)) ∧
 (List.length (LIs.l x1) = List.length (LIJs.l x7))) ∧
 ((True) ∧
 (True))) ∧
 (((RLe (List.length (LIJs.l x7)) (List.length (Prod.fst x4))) ∧
 (RowsEq (Kd.int IntKind.i64 :: Kd.str :: @List.nil Kd) (List.length (LIJs.l x7)) (encL encEs (Prod.fst x4)) (encL encEs (LIJs.l x7)))) ∧
 ((MapEq (Kd.int IntKind.i64 :: @List.nil Kd) (ids (Prod.fst x4)) (ids (LIJs.l x7)) (posD (Prod.fst x4)) (posD (LIJs.l x7))) ∧
 (True)))) ∧
 ((((!El.less lts (List.getD (LIJs.l x7) (Int.toNat (LIJs.i x7)) default) (List.getD (LIJs.l x7) (Int.toNat (LIJs.j x7)) default)) = true) →
 ((True) ∧
 (((RLe (List.length (upF lts (LIs.l x1) (Int.toNat (LIs.i x1)))) (List.length (Prod.fst x4))) ∧
 (RowsEq (Kd.int IntKind.i64 :: Kd.str :: @List.nil Kd) (List.length (upF lts (LIs.l x1) (Int.toNat (LIs.i x1)))) (encL encEs (Prod.fst x4)) (encL encEs (upF lts (LIs.l x1) (Int.toNat (LIs.i x1)))))) ∧
 ((MapEq (Kd.int IntKind.i64 :: @List.nil Kd) (ids (Prod.fst x4)) (ids (upF lts (LIs.l x1) (Int.toNat (LIs.i x1)))) (posD (Prod.fst x4)) (posD (upF lts (LIs.l x1) (Int.toNat (LIs.i x1))))) ∧
 (True))))) ∧
 (((!El.less lts (List.getD (LIJs.l x7) (Int.toNat (LIJs.i x7)) default) (List.getD (LIJs.l x7) (Int.toNat (LIJs.j x7)) default)) = false) →
 (∃ x10 : LIJs,
 ((LIJs.Ok x10) ∧
 (((((0 : Nat) = (0 : Nat)) ∧
 ((0 : Nat) = (0 : Nat))) ∧
 (((↑(Prod.snd x4) : Int) = LIJs.i x10) ∧
 ((((↑(Prod.snd x4) : Int) - (1 : Int)) / (2 : Int) = LIJs.j x10) ∧
 (True)))) ∧
 ((((((0 : Nat) = (0 : Nat)) ∧
 (List.length (LIs.l x1) = List.length (LIJs.l x10))) ∧
 ((True) ∧
 (True))) ∧
 (((RLe (List.length (LIJs.l x10)) (List.length (Prod.fst x4))) ∧
 (RowsEq (Kd.int IntKind.i64 :: Kd.str :: @List.nil Kd) (List.length (LIJs.l x10)) (encL encEs (Prod.fst x4)) (encL encEs (LIJs.l x10)))) ∧
 ((MapEq (Kd.int IntKind.i64 :: @List.nil Kd) (ids (Prod.fst x4)) (ids (LIJs.l x10)) (posD (Prod.fst x4)) (posD (LIJs.l x10))) ∧
 (True)))) ∧
 (∃ x11 : List (El ByteArray) × Nat,
 ((Prod.snd x11 < Prod.snd x4) ∧
 (((Prod.snd x11 < List.length (Prod.fst x11)) ∧
 ((List.length (Prod.fst x11) = List.length (LIs.l x1)) ∧
 ((List.Nodup (ids (Prod.fst x11))) ∧
 (upF lts (Prod.fst x11) (Prod.snd x11) = upF lts (LIs.l x1) (Int.toNat (LIs.i x1)))))) ∧
 (((((↑(Prod.snd x4) : Int) - (1 : Int)) / (2 : Int) = (↑(Prod.snd x11) : Int)) ∧
 ((((0 : Nat) = (0 : Nat)) ∧
 ((0 : Nat) = (0 : Nat))) ∧
 (True))) ∧
 (((RLe (List.length (Prod.fst x11)) (List.length (swp (LIJs.l x10) (Int.toNat (LIJs.i x10)) (Int.toNat (LIJs.j x10))))) ∧
 (RowsEq (Kd.int IntKind.i64 :: Kd.str :: @List.nil Kd) (List.length (Prod.fst x11)) (encL encEs (swp (LIJs.l x10) (Int.toNat (LIJs.i x10)) (Int.toNat (LIJs.j x10)))) (encL encEs (Prod.fst x11)))) ∧
 ((MapEq (Kd.int IntKind.i64 :: @List.nil Kd) (ids (swp (LIJs.l x10) (Int.toNat (LIJs.i x10)) (Int.toNat (LIJs.j x10)))) (ids (Prod.fst x11)) (posD (swp (LIJs.l x10) (Int.toNat (LIJs.i x10)) (Int.toNat (LIJs.j x10)))) (posD (Prod.fst x11))) ∧
 (((((0 : Nat) = (0 : Nat)) ∧
 (List.length (LIs.l x1) = List.length (LIs.l x1))) ∧
 ((True) ∧
 (True))) ∧
 (True))))))))))))))))))))) ∧
 ((decide ((0 : Int) < (↑(Prod.snd x4) : Int)) = false) →
 ((True) ∧
 (((RLe (List.length (upF lts (LIs.l x1) (Int.toNat (LIs.i x1)))) (List.length (Prod.fst x4))) ∧
 (RowsEq (Kd.int IntKind.i64 :: Kd.str :: @List.nil Kd) (List.length (upF lts (LIs.l x1) (Int.toNat (LIs.i x1)))) (encL encEs (Prod.fst x4)) (encL encEs (upF lts (LIs.l x1) (Int.toNat (LIs.i x1)))))) ∧
 ((MapEq (Kd.int IntKind.i64 :: @List.nil Kd) (ids (Prod.fst x4)) (ids (upF lts (LIs.l x1) (Int.toNat (LIs.i x1)))) (posD (Prod.fst x4)) (posD (upF lts (LIs.l x1) (Int.toNat (LIs.i x1))))) ∧
 (True))))))))))))) = Keeps ⟨T, [], C1s, noInv, 5⟩ Try.f31 upsC upsI by kernel_rfl) (fun x1 => fun h2 => ⟨((LIs.l x1, Int.toNat (LIs.i x1))),
 ⟨⟨(by (try dsimp only at *); (obtain ⟨p1, p2, p3, p4⟩ := h2; first | omega | exact p3)),
 rfl,
 (by (try dsimp only at *); (obtain ⟨p1, p2, p3, p4⟩ := h2; first | omega | exact p3)),
 rfl⟩,
 ⟨(by (try dsimp only at *); (obtain ⟨p1, p2, p3, p4⟩ := h2; first | omega | exact p3)),
 ⟨rfl,
 rfl⟩,
 trivial⟩,
 ⟨⟨Nat.le_refl _⟩,
 RowsEq.rfl'⟩,
 (by (try dsimp only at *); exact MapEq.rfl'),
 ⟨⟨rfl,
 rfl⟩,
 trivial,
 trivial⟩,
 trivial⟩,
 fun x4 => fun h5 => ⟨fun g6 => have h6 := of_decide_eq_true g6; ⟨⟨(by (try dsimp only at *); omega),
 (by (try dsimp only at *); (obtain ⟨p1, p2, p3, p4⟩ := h2; first | omega | exact p3))⟩,
 ⟨(by (try dsimp only at *); omega),
 (by (try dsimp only at *); omega),
 (by (try dsimp only at *); omega),
 (by (try dsimp only at *); (obtain ⟨p1, p2, p3, p4⟩ := h2; first | omega | exact p3))⟩,
 ({ l := Prod.fst x4, i := (↑(Prod.snd x4) : Int), j := ((↑(Prod.snd x4) : Int) - (1 : Int)) / (2 : Int) : LIJs }),
 (by (try dsimp only at *); (obtain ⟨p1, p2, p3, p4⟩ := h2; obtain ⟨q1, q2, q3, q4⟩ := h5; first | omega | (refine ⟨?_, ?_, ?_, ?_, q3⟩ <;> dsimp only <;> omega) | (simp only [swp_length]; done) | (simp only [swp_length]; omega) | exact swp_nodups q3 (by omega) (by omega))),
 ⟨⟨rfl,
 rfl⟩,
 rfl,
 rfl,
 trivial⟩,
 ⟨⟨⟨rfl,
 (by (try dsimp only at *); omega)⟩,
 trivial,
 trivial⟩,
 ⟨⟨Nat.le_refl _⟩,
 RowsEq.rfl'⟩,
 (by (try dsimp only at *); exact MapEq.rfl'),
 trivial⟩,
 fun h8 => ⟨trivial,
 ⟨⟨(by (try dsimp only at *); (obtain ⟨q1, q2, q3, q4⟩ := h5; have e : (((x4.2 : Int) - 1) / 2).toNat = (x4.2 - 1) / 2 := (by omega); simp only [e, Int.toNat_natCast, Bool.not_eq_true', Bool.not_eq_false'] at *; rw [← q4, ups_stop (by first | exact .inr h8 | exact .inl (by omega))]; first | exact MapEq.rfl' | exact RowsEq.rfl' | exact Nat.le_refl _))⟩,
 (by (try dsimp only at *); (obtain ⟨q1, q2, q3, q4⟩ := h5; have e : (((x4.2 : Int) - 1) / 2).toNat = (x4.2 - 1) / 2 := (by omega); simp only [e, Int.toNat_natCast, Bool.not_eq_true', Bool.not_eq_false'] at *; rw [← q4, ups_stop (by first | exact .inr h8 | exact .inl (by omega))]; first | exact MapEq.rfl' | exact RowsEq.rfl' | exact Nat.le_refl _))⟩,
 (by (try dsimp only at *); (obtain ⟨q1, q2, q3, q4⟩ := h5; have e : (((x4.2 : Int) - 1) / 2).toNat = (x4.2 - 1) / 2 := (by omega); simp only [e, Int.toNat_natCast, Bool.not_eq_true', Bool.not_eq_false'] at *; rw [← q4, ups_stop (by first | exact .inr h8 | exact .inl (by omega))]; first | exact MapEq.rfl' | exact RowsEq.rfl' | exact Nat.le_refl _)),
 trivial⟩,
 fun h9 => ⟨({ l := Prod.fst x4, i := (↑(Prod.snd x4) : Int), j := ((↑(Prod.snd x4) : Int) - (1 : Int)) / (2 : Int) : LIJs }),
 (by (try dsimp only at *); (obtain ⟨p1, p2, p3, p4⟩ := h2; obtain ⟨q1, q2, q3, q4⟩ := h5; first | omega | (refine ⟨?_, ?_, ?_, ?_, q3⟩ <;> dsimp only <;> omega) | (simp only [swp_length]; done) | (simp only [swp_length]; omega) | exact swp_nodups q3 (by omega) (by omega))),
 ⟨⟨rfl,
 rfl⟩,
 rfl,
 rfl,
 trivial⟩,
 ⟨⟨⟨rfl,
 (by (try dsimp only at *); omega)⟩,
 trivial,
 trivial⟩,
 ⟨⟨Nat.le_refl _⟩,
 RowsEq.rfl'⟩,
 (by (try dsimp only at *); exact MapEq.rfl'),
 trivial⟩,
 ((swp (Prod.fst x4) (Prod.snd x4) ((Prod.snd x4 - (1 : Nat)) / (2 : Nat)), (Prod.snd x4 - (1 : Nat)) / (2 : Nat))),
 (by (try dsimp only at *); omega),
 ⟨(by (try dsimp only at *); (obtain ⟨p1, p2, p3, p4⟩ := h2; obtain ⟨q1, q2, q3, q4⟩ := h5; first | omega | (refine ⟨?_, ?_, ?_, ?_, q3⟩ <;> dsimp only <;> omega) | (simp only [swp_length]; done) | (simp only [swp_length]; omega) | exact swp_nodups q3 (by omega) (by omega))),
 (by (try dsimp only at *); (obtain ⟨p1, p2, p3, p4⟩ := h2; obtain ⟨q1, q2, q3, q4⟩ := h5; first | omega | (refine ⟨?_, ?_, ?_, ?_, q3⟩ <;> dsimp only <;> omega) | (simp only [swp_length]; done) | (simp only [swp_length]; omega) | exact swp_nodups q3 (by omega) (by omega))),
 (by (try dsimp only at *); (obtain ⟨p1, p2, p3, p4⟩ := h2; obtain ⟨q1, q2, q3, q4⟩ := h5; first | omega | (refine ⟨?_, ?_, ?_, ?_, q3⟩ <;> dsimp only <;> omega) | (simp only [swp_length]; done) | (simp only [swp_length]; omega) | exact swp_nodups q3 (by omega) (by omega))),
 (by (try dsimp only at *); (obtain ⟨q1, q2, q3, q4⟩ := h5; have e : (((x4.2 : Int) - 1) / 2).toNat = (x4.2 - 1) / 2 := (by omega); simp only [e, Int.toNat_natCast, Bool.not_eq_true', Bool.not_eq_false'] at *; first | exact MapEq.rfl' | exact RowsEq.rfl' | (rw [ups_step (by omega) (by assumption)]; exact q4)))⟩,
 ⟨(by (try dsimp only at *); omega),
 ⟨rfl,
 rfl⟩,
 trivial⟩,
 ⟨⟨(by (try dsimp only at *); (obtain ⟨p1, p2, p3, p4⟩ := h2; obtain ⟨q1, q2, q3, q4⟩ := h5; first | omega | (refine ⟨?_, ?_, ?_, ?_, q3⟩ <;> dsimp only <;> omega) | (simp only [swp_length]; done) | (simp only [swp_length]; omega) | exact swp_nodups q3 (by omega) (by omega)))⟩,
 (by (try dsimp only at *); (obtain ⟨q1, q2, q3, q4⟩ := h5; have e : (((x4.2 : Int) - 1) / 2).toNat = (x4.2 - 1) / 2 := (by omega); simp only [e, Int.toNat_natCast, Bool.not_eq_true', Bool.not_eq_false'] at *; first | exact MapEq.rfl' | exact RowsEq.rfl' | (rw [ups_step (by omega) (by assumption)]; exact q4)))⟩,
 (by (try dsimp only at *); (obtain ⟨q1, q2, q3, q4⟩ := h5; have e : (((x4.2 : Int) - 1) / 2).toNat = (x4.2 - 1) / 2 := (by omega); simp only [e, Int.toNat_natCast, Bool.not_eq_true', Bool.not_eq_false'] at *; first | exact MapEq.rfl' | exact RowsEq.rfl' | (rw [ups_step (by omega) (by assumption)]; exact q4))),
 ⟨⟨rfl,
 rfl⟩,
 trivial,
 trivial⟩,
 trivial⟩⟩,
 fun g12 => have h12 := of_decide_eq_false g12; ⟨trivial,
 ⟨⟨(by (try dsimp only at *); (obtain ⟨q1, q2, q3, q4⟩ := h5; have e : (((x4.2 : Int) - 1) / 2).toNat = (x4.2 - 1) / 2 := (by omega); simp only [e, Int.toNat_natCast, Bool.not_eq_true', Bool.not_eq_false'] at *; rw [← q4, ups_stop (by first | exact .inr h8 | exact .inl (by omega))]; first | exact MapEq.rfl' | exact RowsEq.rfl' | exact Nat.le_refl _))⟩,
 (by (try dsimp only at *); (obtain ⟨q1, q2, q3, q4⟩ := h5; have e : (((x4.2 : Int) - 1) / 2).toNat = (x4.2 - 1) / 2 := (by omega); simp only [e, Int.toNat_natCast, Bool.not_eq_true', Bool.not_eq_false'] at *; rw [← q4, ups_stop (by first | exact .inr h8 | exact .inl (by omega))]; first | exact MapEq.rfl' | exact RowsEq.rfl' | exact Nat.le_refl _))⟩,
 (by (try dsimp only at *); (obtain ⟨q1, q2, q3, q4⟩ := h5; have e : (((x4.2 : Int) - 1) / 2).toNat = (x4.2 - 1) / 2 := (by omega); simp only [e, Int.toNat_natCast, Bool.not_eq_true', Bool.not_eq_false'] at *; rw [← q4, ups_stop (by first | exact .inr h8 | exact .inl (by omega))]; first | exact MapEq.rfl' | exact RowsEq.rfl' | exact Nat.le_refl _)),
 trivial⟩⟩⟩)

theorem ups_good : Good Try.prog 31 upsC ∧ FnOk Try.prog 31 := good_of (c := ⟨T, [], C1s, noInv, 5⟩) tok (ConL.ok con1s) (fn := Try.f31) rfl (by decide +kernel) (fun _ => rfl) ups_keeps

end Go.Sym
