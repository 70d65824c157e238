/- The heap of numbers with keys of kind i: contracts and walks. Printed by gen/heap.py. -/
import Derived.Test.YtofigelofojjlaaA1
import Derived.Test.YtofigelofojjlaaXD
namespace Go.Sym
set_option linter.unusedVariables false
set_option linter.unusedSimpArgs false
open Go.Proofs
def posD {α : Type} (l : List (El α)) : Int → Nat → D := fun id _ => .i (posOf l id)
def kMap : List Kd := [.int .i64]
/-- Places of numbers behind a swap. -/
theorem swap_map {α : Type} [Inhabited α] {l : List (El α)} (hn : (ids l).Nodup) {i j : Nat} (hi : i < l.length) (hj : j < l.length) :
    MapEq kMap (madd1 (madd1 (ids l) (((swp l i j).getD i default).id)) (((swp l i j).getD j default).id)) (ids (swp l i j)) (mset (mset (posD l) (((swp l i j).getD i default).id) (fun c => [D.i i].getD c (.i 0))) (((swp l i j).getD j default).id) (fun c => [D.i j].getD c (.i 0))) (posD (swp l i j)) := by
  have hp := ids_perm (swp_perm hi hj)
  have hi' : i < (swp l i j).length := by rw [swp_length]; exact hi
  have hj' : j < (swp l i j).length := by rw [swp_length]; exact hj
  have hn' : (ids (swp l i j)).Nodup := hp.nodup_iff.2 hn
  have m1 : ((swp l i j).getD i default).id ∈ ids l := hp.mem_iff.1 (mem_ids hi')
  have m2 : ((swp l i j).getD j default).id ∈ ids l := hp.mem_iff.1 (mem_ids hj')
  have e1 : madd1 (madd1 (ids l) (((swp l i j).getD i default).id)) (((swp l i j).getD j default).id) = ids l := by unfold madd1; rw [if_pos m1, if_pos m2]
  rw [e1]
  refine ⟨hp.symm, fun k hk => ?_⟩
  simp only [kMap, rowEq, Kd.eqv, and_true]
  obtain ⟨n, hn2, rfl⟩ : ∃ n, n < (swp l i j).length ∧ k = ((swp l i j).getD n default).id := by
    obtain ⟨h1, h2⟩ := posOf_lt hk
    exact ⟨_, h1, h2.symm⟩
  simp only [posD, posOf_get hn' hn2, mset]
  by_cases h2 : n = j
  · subst h2; simp [D.toI]
  · rw [if_neg (fun e => h2 (ids_inj hn' hn2 hj' e))]
    by_cases h1 : n = i
    · subst h1; simp [D.toI]
    · rw [if_neg (fun e => h1 (ids_inj hn' hn2 hi' e))]
      rw [swp_length] at hn2
      rw [swp_get hi hj, if_neg h2, if_neg h1]
      simp only [posD, posOf_get hn hn2]
theorem swap_mapI {α : Type} [Inhabited α] {l : List (El α)} (hn : (ids l).Nodup) {i j : Nat} (hi : i < l.length) (hj : j < l.length) {a b xi xj : Int} (ha : a = ((swp l i j).getD i default).id) (hb : b = ((swp l i j).getD j default).id) (hxi : xi = i) (hxj : xj = j) :
    MapEq kMap (madd1 (madd1 (ids l) a) b) (ids (swp l i j)) (mset (mset (posD l) a (fun c => [D.i xi].getD c (.i 0))) b (fun c => [D.i xj].getD c (.i 0))) (posD (swp l i j)) := by
  subst ha hb hxi hxj
  exact swap_map hn hi hj
def lti : Int → Int → Bool := fun a b => decide (a < b)
theorem lti_ok : LtOk lti := ⟨fun a => by simp [lti], fun a b c h1 h2 => by simp [lti] at *; omega, fun a b h1 h2 => by simp [lti] at *; omega⟩
def kEi : List Kd := [.int .i64, .int .i64]
def encEi (x : El Int) (c : Nat) : D := encN [.i x.id, .i x.key] c
def heapHi (m : Md) (l : List (El Int)) : List (Nat × Blk) := [(100000, .one .bor [.sl 100001 0 l.length, .mp 100002]), (100001, .rows m kEi l.length (encL encEi l)), (100002, .map m .i64 kMap false (ids l) (posD l))]
def heapGi (l : List (El Int)) : List (Nat × Blk) := [(100001, .rows .own kEi l.length (encL encEi l)), (100002, .map .own .i64 kMap false (ids l) (posD l))]
theorem swap_rowsi {l : List (El Int)} {i j n : Nat} (hi : i < l.length) (hj : j < l.length) :
    RowsEq kEi n (setRow (setRow (encL encEi l) i 0 [D.i (l.getD j default).id, .i (l.getD j default).key]) j 0 [D.i (l.getD i default).id, .i (l.getD i default).key]) (encL encEi (swp l i j)) := by
  unfold swp
  by_cases hjn : j < n
  · exact rowsEq_setOf (rowsEq_set hi (by simp only [rowEq, Kd.eqv, kEi]; exact ⟨rfl, rfl, trivial⟩)) hjn (by simpa using hj) (by simp only [rowEq, Kd.eqv, kEi]; exact ⟨rfl, rfl, trivial⟩)
  · refine RowsEq.trans ⟨fun r hr => ?_⟩ (rowsEq_set (xs := l.set i (l.getD j default)) (r := j) (c := 0) (ds := [D.i (l.getD i default).id, .i (l.getD i default).key]) (v := l.getD i default) (by simpa using hj) (by simp only [rowEq, Kd.eqv, kEi]; exact ⟨rfl, rfl, trivial⟩))
    have : r ≠ j := by omega
    unfold setRow
    simp only [this, if_false]
    exact (rowsEq_set (n := n) (ks := kEi) (e := encEi) hi (by simp only [rowEq, Kd.eqv, kEi]; exact ⟨rfl, rfl, trivial⟩)).h r hr
theorem swap_idsi {l : List (El Int)} {i j : Nat} (hi : i < l.length) (hj : j < l.length) (r : Nat) :
    (setRow (setRow (encL encEi l) i 0 [D.i (l.getD j default).id, .i (l.getD j default).key]) j 0 [D.i (l.getD i default).id, .i (l.getD i default).key] r 0).toI = ((swp l i j).getD r default).id := by
  have h := (swap_rowsi (n := r + 1) hi hj).h r (by omega)
  simp only [rowEq, Kd.eqv, kEi] at h
  exact h.1
structure LIJi where
  l : List (El Int)
  i : Int
  j : Int
def LIJi.Ok (x : LIJi) : Prop := 0 ≤ x.i ∧ x.i < x.l.length ∧ 0 ≤ x.j ∧ x.j < x.l.length ∧ (ids x.l).Nodup
def lessiC : CT where
  X := LIJi
  pre := fun x => x.Ok
  args := fun x => [.p 100000 0 0, .i .i64 x.i, .i .i64 x.j]
  g0 := fun x => heapHi .bor x.l
  res := fun x => .b (El.less lti (x.l.getD x.i.toNat default) (x.l.getD x.j.toNat default))
  g1 := fun _ => []
set_option maxRecDepth 100000 in
theorem lessi_keeps : Keeps cfg0 Try.f36 lessiC noIv := Eq.mp (show ((∀ x1 : LIJi,
 ((LIJi.Ok x1) →
 ((((0 : Int) ≤ LIJi.i x1) ∧
 (LIJi.i x1 < (↑(List.length (LIJi.l x1)) : Int))) ∧
 (((0 : Nat) + Int.toNat (LIJi.i x1) < List.length (LIJi.l x1)) ∧
 ((((0 : Int) ≤ LIJi.j x1) ∧
 (LIJi.j x1 < (↑(List.length (LIJi.l x1)) : Int))) ∧
 (((0 : Nat) + Int.toNat (LIJi.j x1) < List.length (LIJi.l x1)) ∧
 (((decide (El.key (List.getD (LIJi.l x1) ((0 : Nat) + Int.toNat (LIJi.i x1)) default) < El.key (List.getD (LIJi.l x1) ((0 : Nat) + Int.toNat (LIJi.j x1)) default)) = true) →
 ((true = El.less lti (List.getD (LIJi.l x1) (Int.toNat (LIJi.i x1)) default) (List.getD (LIJi.l x1) (Int.toNat (LIJi.j x1)) default)) ∧
 (True))) ∧
 ((decide (El.key (List.getD (LIJi.l x1) ((0 : Nat) + Int.toNat (LIJi.i x1)) default) < El.key (List.getD (LIJi.l x1) ((0 : Nat) + Int.toNat (LIJi.j x1)) default)) = false) →
 (((decide (El.key (List.getD (LIJi.l x1) ((0 : Nat) + Int.toNat (LIJi.j x1)) default) < El.key (List.getD (LIJi.l x1) ((0 : Nat) + Int.toNat (LIJi.i x1)) default)) = true) →
 ((false = El.less lti (List.getD (LIJi.l x1) (Int.toNat (LIJi.i x1)) default) (List.getD (LIJi.l x1) (Int.toNat (LIJi.j x1)) default)) ∧
 (True))) ∧
 ((decide (El.key (List.getD (LIJi.l x1) ((0 : Nat) + Int.toNat (LIJi.j x1)) default) < El.key (List.getD (LIJi.l x1) ((0 : Nat) + Int.toNat (LIJi.i x1)) default)) = false) →
 ((decide (El.id (List.getD (LIJi.l x1) ((0 : Nat) + Int.toNat (LIJi.i x1)) default) < El.id (List.getD (LIJi.l x1) ((0 : Nat) + Int.toNat (LIJi.j x1)) default)) = El.less lti (List.getD (LIJi.l x1) (Int.toNat (LIJi.i x1)) default) (List.getD (LIJi.l x1) (Int.toNat (LIJi.j x1)) default)) ∧
 (True))))))))))))) = Keeps cfg0 Try.f36 lessiC noIv by kernel_rfl) (fun x1 => fun h2 => ⟨⟨(by (obtain ⟨p1, p2, p3, p4, p5⟩ := h2; omega)),
 (by (obtain ⟨p1, p2, p3, p4, p5⟩ := h2; omega))⟩,
 (by (obtain ⟨p1, p2, p3, p4, p5⟩ := h2; omega)),
 ⟨(by (obtain ⟨p1, p2, p3, p4, p5⟩ := h2; omega)),
 (by (obtain ⟨p1, p2, p3, p4, p5⟩ := h2; omega))⟩,
 (by (obtain ⟨p1, p2, p3, p4, p5⟩ := h2; omega)),
 fun g3 => have h3 := of_decide_eq_true g3; ⟨(by (simp only [Nat.zero_add] at *; grind [El.less, lti])),
 trivial⟩,
 fun g4 => have h4 := of_decide_eq_false g4; ⟨fun g5 => have h5 := of_decide_eq_true g5; ⟨(by (simp only [Nat.zero_add] at *; grind [El.less, lti])),
 trivial⟩,
 fun g6 => have h6 := of_decide_eq_false g6; ⟨(by (simp only [Nat.zero_add] at *; grind [El.less, lti])),
 trivial⟩⟩⟩)

theorem lessi_good : Good Try.prog 36 lessiC ∧ FnOk Try.prog 36 := good_of tok con0 (fn := Try.f36) rfl (by decide +kernel) (fun _ => rfl) lessi_keeps
def swapiC : CT where
  X := LIJi
  pre := fun x => x.Ok
  args := fun x => [.p 100000 0 0, .i .i64 x.i, .i .i64 x.j]
  g0 := fun x => heapHi .own x.l
  res := fun x => .tup []
  g1 := fun x => heapGi (swp x.l x.i.toNat x.j.toNat)
set_option maxRecDepth 100000 in
theorem swapi_keeps : Keeps cfg0 Try.f35 swapiC noIv := Eq.mp (show ((∀ x1 : LIJi,
 ((LIJi.Ok x1) →
 ((((0 : Int) ≤ LIJi.j x1) ∧
 (LIJi.j x1 < (↑(List.length (LIJi.l x1)) : Int))) ∧
 (((0 : Nat) + Int.toNat (LIJi.j x1) < List.length (LIJi.l x1)) ∧
 ((((0 : Int) ≤ LIJi.i x1) ∧
 (LIJi.i x1 < (↑(List.length (LIJi.l x1)) : Int))) ∧
 (((0 : Nat) + Int.toNat (LIJi.i x1) < List.length (LIJi.l x1)) ∧
 ((((0 : Int) ≤ LIJi.i x1) ∧
 (LIJi.i x1 < (↑(List.length (LIJi.l x1)) : Int))) ∧
 ((((0 : Nat) + Int.toNat (LIJi.i x1) < List.length (LIJi.l x1)) ∧
 ((True) ∧
 ((True) ∧
 (True)))) ∧
 ((((0 : Int) ≤ LIJi.j x1) ∧
 (LIJi.j x1 < (↑(List.length (LIJi.l x1)) : Int))) ∧
 ((((0 : Nat) + Int.toNat (LIJi.j x1) < List.length (LIJi.l x1)) ∧
 ((True) ∧
 ((True) ∧
 (True)))) ∧
 ((((0 : Int) ≤ LIJi.i x1) ∧
 (LIJi.i x1 < (↑(List.length (LIJi.l x1)) : Int))) ∧
 (((0 : Nat) + Int.toNat (LIJi.i x1) < List.length (LIJi.l x1)) ∧
 (((True) ∧
 (True)) ∧
 ((((0 : Int) ≤ LIJi.j x1) ∧
 (LIJi.j x1 < (↑(List.length (LIJi.l x1)) : Int))) ∧
 (((0 : Nat) + Int.toNat (LIJi.j x1) < List.length (LIJi.l x1)) ∧
 (((True) ∧
 (True)) ∧
 ((True) ∧
 (((RLe (List.length (swp (LIJi.l x1) (Int.toNat (LIJi.i x1)) (Int.toNat (LIJi.j x1)))) (List.length (LIJi.l x1))) ∧
 (RowsEq (Kd.int IntKind.i64 :: Kd.int IntKind.i64 :: @List.nil Kd) (List.length (swp (LIJi.l x1) (Int.toNat (LIJi.i x1)) (Int.toNat (LIJi.j x1)))) (setRow (setRow (encL encEi (LIJi.l x1)) ((0 : Nat) + Int.toNat (LIJi.i x1)) (0 : Nat) (D.i (El.id (List.getD (LIJi.l x1) ((0 : Nat) + Int.toNat (LIJi.j x1)) default)) :: D.i (El.key (List.getD (LIJi.l x1) ((0 : Nat) + Int.toNat (LIJi.j x1)) default)) :: @List.nil D)) ((0 : Nat) + Int.toNat (LIJi.j x1)) (0 : Nat) (D.i (El.id (List.getD (LIJi.l x1) ((0 : Nat) + Int.toNat (LIJi.i x1)) default)) :: D.i (El.key (List.getD (LIJi.l x1) ((0 : Nat) + Int.toNat (LIJi.i x1)) default)) :: @List.nil D)) (encL encEi (swp (LIJi.l x1) (Int.toNat (LIJi.i x1)) (Int.toNat (LIJi.j x1)))))) ∧
 ((MapEq (Kd.int IntKind.i64 :: @List.nil Kd) (madd1 (madd1 (ids (LIJi.l x1)) (D.toI (if (0 : Nat) + Int.toNat (LIJi.i x1) = (0 : Nat) + Int.toNat (LIJi.j x1) then D.i (El.id (List.getD (LIJi.l x1) ((0 : Nat) + Int.toNat (LIJi.i x1)) default)) else if (0 : Nat) + Int.toNat (LIJi.i x1) = (0 : Nat) + Int.toNat (LIJi.i x1) then D.i (El.id (List.getD (LIJi.l x1) ((0 : Nat) + Int.toNat (LIJi.j x1)) default)) else D.i (El.id (List.getD (LIJi.l x1) ((0 : Nat) + Int.toNat (LIJi.i x1)) default))))) (D.toI (if (0 : Nat) + Int.toNat (LIJi.j x1) = (0 : Nat) + Int.toNat (LIJi.j x1) then D.i (El.id (List.getD (LIJi.l x1) ((0 : Nat) + Int.toNat (LIJi.i x1)) default)) else if (0 : Nat) + Int.toNat (LIJi.j x1) = (0 : Nat) + Int.toNat (LIJi.i x1) then D.i (El.id (List.getD (LIJi.l x1) ((0 : Nat) + Int.toNat (LIJi.j x1)) default)) else D.i (El.id (List.getD (LIJi.l x1) ((0 : Nat) + Int.toNat (LIJi.j x1)) default))))) (ids (swp (LIJi.l x1) (Int.toNat (LIJi.i x1)) (Int.toNat (LIJi.j x1)))) (mset (mset (posD (LIJi.l x1)) (D.toI (if (0 : Nat) + Int.toNat (LIJi.i x1) = (0 : Nat) + Int.toNat (LIJi.j x1) then D.i (El.id (List.getD (LIJi.l x1) ((0 : Nat) + Int.toNat (LIJi.i x1)) default)) else if (0 : Nat) + Int.toNat (LIJi.i x1) = (0 : Nat) + Int.toNat (LIJi.i x1) then D.i (El.id (List.getD (LIJi.l x1) ((0 : Nat) + Int.toNat (LIJi.j x1)) default)) else D.i (El.id (List.getD (LIJi.l x1) ((0 : Nat) + Int.toNat (LIJi.i x1)) default)))) fun (j : Nat) => List.getD (D.i (LIJi.i x1) :: @List.nil D) j (D.i (0 : Int))) (D.toI (if (0 : Nat) + Int.toNat (LIJi.j x1) = (0 : Nat) + Int.toNat (LIJi.j x1) then D.i (El.id (List.getD (LIJi.l x1) ((0 : Nat) + Int.toNat (LIJi.i x1)) default)) else if (0 : Nat) + Int.toNat (LIJi.j x1) = (0 : Nat) + Int.toNat (LIJi.i x1) then D.i (El.id (List.getD (LIJi.l x1) ((0 : Nat) + Int.toNat (LIJi.j x1)) default)) else D.i (El.id (List.getD (LIJi.l x1) ((0 : Nat) + Int.toNat (LIJi.j x1)) default)))) fun (j : Nat) => List.getD (D.i (LIJi.j x1) :: @List.nil D) j (D.i (0 : Int))) (posD (swp (LIJi.l x1) (Int.toNat (LIJi.i x1)) (Int.toNat (LIJi.j x1))))) ∧
 (True))))))))))))))))))))) = Keeps cfg0 Try.f35 swapiC noIv by kernel_rfl) (fun x1 => fun h2 => ⟨⟨(by (obtain ⟨p1, p2, p3, p4, p5⟩ := h2; omega)),
 (by (obtain ⟨p1, p2, p3, p4, p5⟩ := h2; omega))⟩,
 (by (obtain ⟨p1, p2, p3, p4, p5⟩ := h2; omega)),
 ⟨(by (obtain ⟨p1, p2, p3, p4, p5⟩ := h2; omega)),
 (by (obtain ⟨p1, p2, p3, p4, p5⟩ := h2; omega))⟩,
 (by (obtain ⟨p1, p2, p3, p4, p5⟩ := h2; omega)),
 ⟨(by (obtain ⟨p1, p2, p3, p4, p5⟩ := h2; omega)),
 (by (obtain ⟨p1, p2, p3, p4, p5⟩ := h2; omega))⟩,
 ⟨(by (obtain ⟨p1, p2, p3, p4, p5⟩ := h2; omega)),
 trivial,
 trivial,
 trivial⟩,
 ⟨(by (obtain ⟨p1, p2, p3, p4, p5⟩ := h2; omega)),
 (by (obtain ⟨p1, p2, p3, p4, p5⟩ := h2; omega))⟩,
 ⟨(by (obtain ⟨p1, p2, p3, p4, p5⟩ := h2; omega)),
 trivial,
 trivial,
 trivial⟩,
 ⟨(by (obtain ⟨p1, p2, p3, p4, p5⟩ := h2; omega)),
 (by (obtain ⟨p1, p2, p3, p4, p5⟩ := h2; omega))⟩,
 (by (obtain ⟨p1, p2, p3, p4, p5⟩ := h2; omega)),
 ⟨trivial,
 trivial⟩,
 ⟨(by (obtain ⟨p1, p2, p3, p4, p5⟩ := h2; omega)),
 (by (obtain ⟨p1, p2, p3, p4, p5⟩ := h2; omega))⟩,
 (by (obtain ⟨p1, p2, p3, p4, p5⟩ := h2; omega)),
 ⟨trivial,
 trivial⟩,
 trivial,
 ⟨⟨(by (rw [swp_length]; omega))⟩,
 (by (obtain ⟨p1, p2, p3, p4, p5⟩ := h2; simp only [Nat.zero_add]; exact swap_rowsi (by omega) (by omega)))⟩,
 (by (obtain ⟨p1, p2, p3, p4, p5⟩ := h2; refine swap_mapI p5 (by omega) (by omega) ?_ ?_ (by omega) (by omega) <;> (rw [swp_get (by omega) (by omega)]; simp only [Nat.zero_add]; grind [D.toI]))),
 trivial⟩)

theorem swapi_good : Good Try.prog 35 swapiC ∧ FnOk Try.prog 35 := good_of tok con0 (fn := Try.f35) rfl (by decide +kernel) (fun _ => rfl) swapi_keeps


structure LIi where
  l : List (El Int)
  i : Int
def LIi.Ok (x : LIi) : Prop := 0 ≤ x.i ∧ x.i < x.l.length ∧ (ids x.l).Nodup ∧ x.l.length ≤ 1000000
def C1i : List (Nat × Con) := [(36, .one lessiC), (35, .one swapiC)]
theorem con1i : ConL Try.prog C1i := .cons (ConL.one lessi_good) (.cons (ConL.one swapi_good) .nil)
def upiC : CT where
  X := LIi
  pre := fun x => x.Ok
  args := fun x => [.p 100000 0 0, .i .i64 x.i]
  g0 := fun x => heapHi .own x.l
  res := fun x => .tup []
  g1 := fun x => heapGi (upF lti x.l x.i.toNat)
def upiI (x : LIi) (id : Nat) : Option Inv := match id with
  | 0 => some { X := List (El Int) × Nat, ok := fun y => y.2 < y.1.length ∧ y.1.length = x.l.length ∧ (ids y.1).Nodup ∧ upF lti y.1 y.2 = upF lti x.l x.i.toNat, fr := fun y => [(1, .i .i64 y.2)], hp := fun y => heapGi y.1, me := fun y => y.2 }
  | _ => none
theorem upi_step {l : List (El Int)} {i : Nat} (h : i ≠ 0) (hs : El.less lti (l.getD i default) (l.getD ((i - 1) / 2) default) = true) : upF lti (swp l i ((i - 1) / 2)) ((i - 1) / 2) = upF lti l i := by
  rw [upF.eq_def lti l i, dif_neg h, if_pos hs]
theorem upi_stop {l : List (El Int)} {i : Nat} (hs : i = 0 ∨ El.less lti (l.getD i default) (l.getD ((i - 1) / 2) default) = false) : upF lti l i = l := by
  rw [upF]
  rcases hs with h | h
  · rw [dif_pos h]
  · rw [h]; simp
theorem swp_nodupi {l : List (El Int)} (hn : (ids l).Nodup) {i j : Nat} (hi : i < l.length) (hj : j < l.length) : (ids (swp l i j)).Nodup := (ids_perm (swp_perm hi hj)).nodup_iff.2 hn
set_option maxRecDepth 100000 in
theorem upi_keeps : Keeps ⟨T, [], C1i, noInv, 5⟩ Try.f29 upiC upiI := Eq.mp (show ((∀ x1 : LIi,
 ((LIi.Ok x1) →
 (∃ x3 : List (El Int) × Nat,
 ((((Prod.snd x3 < List.length (Prod.fst x3)) ∧
 ((List.length (Prod.fst x3) = List.length (LIi.l x1)) ∧
 ((List.Nodup (ids (Prod.fst x3))) ∧
 (upF lti (Prod.fst x3) (Prod.snd x3) = upF lti (LIi.l x1) (Int.toNat (LIi.i x1)))))) ∧
 (((LIi.i x1 = (↑(Prod.snd x3) : Int)) ∧
 ((((0 : Nat) = (0 : Nat)) ∧
 ((0 : Nat) = (0 : Nat))) ∧
 (True))) ∧
 (((RLe (List.length (Prod.fst x3)) (List.length (LIi.l x1))) ∧
 (RowsEq (Kd.int IntKind.i64 :: Kd.int IntKind.i64 :: @List.nil Kd) (List.length (Prod.fst x3)) (encL encEi (LIi.l x1)) (encL encEi (Prod.fst x3)))) ∧
 ((MapEq (Kd.int IntKind.i64 :: @List.nil Kd) (ids (LIi.l x1)) (ids (Prod.fst x3)) (posD (LIi.l x1)) (posD (Prod.fst x3))) ∧
 (((((0 : Nat) = (0 : Nat)) ∧
 (List.length (LIi.l x1) = List.length (LIi.l x1))) ∧
 ((True) ∧
 (True))) ∧
 (True)))))) ∧
 (∀ x4 : List (El Int) × Nat,
 ((Prod.snd x4 < List.length (Prod.fst x4) ∧ List.length (Prod.fst x4) = List.length (LIi.l x1) ∧ List.Nodup (ids (Prod.fst x4)) ∧ upF lti (Prod.fst x4) (Prod.snd x4) = upF lti (LIi.l x1) (Int.toNat (LIi.i x1))) →
 (((decide ((0 : Int) < (↑(Prod.snd x4) : Int)) = true) →
 ((((-9223372036854775808 : Int) ≤ (↑(Prod.snd x4) : Int) - (1 : Int)) ∧
 ((↑(Prod.snd x4) : Int) - (1 : Int) ≤ (9223372036854775807 : Int))) ∧
 ((((0 : Int) ≤ (↑(Prod.snd x4) : Int) - (1 : Int)) ∧
 (((0 : Int) < (2 : Int)) ∧
 (((-9223372036854775808 : Int) ≤ ((↑(Prod.snd x4) : Int) - (1 : Int)) / (2 : Int)) ∧
 (((↑(Prod.snd x4) : Int) - (1 : Int)) / (2 : Int) ≤ (9223372036854775807 : Int))))) ∧
 (∃ x7 : LIJi,
 ((LIJi.Ok x7) ∧
 (((((0 : Nat) = (0 : Nat)) ∧
 ((0 : Nat) = (0 : Nat))) ∧
 (((↑(Prod.snd x4) : Int) = LIJi.i x7) ∧
 ((((↑(Prod.snd x4) : Int) - (1 : Int)) / (2 : Int) = LIJi.j x7) ∧
 (True)))) ∧
 ((((((0 : Nat) = (0 : Nat)) ∧
 (List.length (LIi.l x1) = List.length (LIJi.l x7))) ∧
 ((True) ∧
 (True))) ∧
 (((RLe (List.length (LIJi.l x7)) (List.length (Prod.fst x4))) ∧
 (RowsEq (Kd.int IntKind.i64 :: Kd.int IntKind.i64 :: @List.nil Kd) (List.length (LIJi.l x7)) (encL encEi (Prod.fst x4)) (encL encEi (LIJi.l x7)))) ∧
 ((MapEq (Kd.int IntKind.i64 :: @List.nil Kd) (ids (Prod.fst x4)) (ids (LIJi.l x7)) (posD (Prod.fst x4)) (posD (LIJi.l x7))) ∧
 (True)))) ∧
 ((((!El.less lti (List.getD (LIJi.l x7) (Int.toNat (LIJi.i x7)) default) (List.getD (LIJi.l x7) (Int.toNat (LIJi.j x7)) default)) = true) →
 ((True) ∧
 (((RLe (List.length (upF lti (LIi.l x1) (Int.toNat (LIi.i x1)))) (List.length (Prod.fst x4))) ∧
 (RowsEq (Kd.int IntKind.i64 :: Kd.int IntKind.i64 :: @List.nil Kd) (List.length (upF lti (LIi.l x1) (Int.toNat (LIi.i x1)))) (encL encEi (Prod.fst x4)) (encL encEi (upF lti (LIi.l x1) (Int.toNat (LIi.i x1)))))) ∧
 ((MapEq (Kd.int IntKind.i64 :: @List.nil Kd) (ids (Prod.fst x4)) (ids (upF lti (LIi.l x1) (Int.toNat (LIi.i x1)))) (posD (Prod.fst x4)) (posD (upF lti (LIi.l x1) (Int.toNat (LIi.i x1))))) ∧
 (True))))) ∧
 (((!El.less lti (List.getD (LIJi.l x7) (Int.toNat (LIJi.i x7)) default) (List.getD (LIJi.l x7) (Int.toNat (LIJi.j x7)) default)) = false) →
 (∃ x10 : LIJi,
 ((LIJi.Ok x10) ∧
 (((((0 : Nat) = (0 : Nat)) ∧
 ((0 : Nat) = (0 : Nat))) ∧
 (((↑(Prod.snd x4) : Int) = LIJi.i x10) ∧
 ((((↑(Prod.snd x4) : Int) - (1 : Int)) / (2 : Int) = LIJi.j x10) ∧
 (True)))) ∧
 ((((((0 : Nat) = (0 : Nat)) ∧
 (List.length (LIi.l x1) = List.length (LIJi.l x10))) ∧
 ((True) ∧
 (True))) ∧
 (((RLe (List.length (LIJi.l x10)) (List.length (Prod.fst x4))) ∧
 (RowsEq (Kd.int IntKind.i64 :: Kd.int IntKind.i64 :: @List.nil Kd) (List.length (LIJi.l x10)) (encL encEi (Prod.fst x4)) (encL encEi (LIJi.l x10)))) ∧
 ((MapEq (Kd.int IntKind.i64 :: @List.nil Kd) (ids (Prod.fst x4)) (ids (LIJi.l x10)) (posD (Prod.fst x4)) (posD (LIJi.l x10))) ∧
 (True)))) ∧
 (∃ x11 : List (El Int) × Nat,
 ((Prod.snd x11 < Prod.snd x4) ∧
 (((Prod.snd x11 < List.length (Prod.fst x11)) ∧
 ((List.length (Prod.fst x11) = List.length (LIi.l x1)) ∧
 ((List.Nodup (ids (Prod.fst x11))) ∧
 (upF lti (Prod.fst x11) (Prod.snd x11) = upF lti (LIi.l x1) (Int.toNat (LIi.i x1)))))) ∧
 (((((↑(Prod.snd x4) : Int) - (1 : Int)) / (2 : Int) = (↑(Prod.snd x11) : Int)) ∧
 ((((0 : Nat) = (0 : Nat)) ∧
 ((0 : Nat) = (0 : Nat))) ∧
 (True))) ∧
 (((RLe (List.length (Prod.fst x11)) (List.length (swp (LIJi.l x10) (Int.toNat (LIJi.i x10)) (Int.toNat (LIJi.j x10))))) ∧
 (RowsEq (Kd.int IntKind.i64 :: Kd.int IntKind.i64 :: @List.nil Kd) (List.length (Prod.fst x11)) (encL encEi (swp (LIJi.l x10) (Int.toNat (LIJi.i x10)) (Int.toNat (LIJi.j x10)))) (encL encEi (Prod.fst x11)))) ∧
 ((MapEq (Kd.int IntKind.i64 :: @List.nil Kd) (ids (swp (LIJi.l x10) (Int.toNat (LIJi.i x10)) (Int.toNat (LIJi.j x10)))) (ids (Prod.fst x11)) (posD (swp (LIJi.l x10) (Int.toNat (LIJi.i x10)) (Int.toNat (LIJi.j x10)))) (posD (Prod.fst x11))) ∧
 (((((0 : Nat) = (0 : Nat)) ∧
 (List.length (LIi.l x1) = List.length (LIi.l x1))) ∧
 ((True) ∧
 (True))) ∧
 (True))))))))))))))))))))) ∧
 ((decide ((0 : Int) < (↑(Prod.snd x4) : Int)) = false) →
 ((True) ∧
 (((RLe (List.length (upF lti (LIi.l x1) (Int.toNat (LIi.i x1)))) (List.length (Prod.fst x4))) ∧
 (RowsEq (Kd.int IntKind.i64 :: Kd.int IntKind.i64 :: @List.nil Kd) (List.length (upF lti (LIi.l x1) (Int.toNat (LIi.i x1)))) (encL encEi (Prod.fst x4)) (encL encEi (upF lti (LIi.l x1) (Int.toNat (LIi.i x1)))))) ∧
 ((MapEq (Kd.int IntKind.i64 :: @List.nil Kd) (ids (Prod.fst x4)) (ids (upF lti (LIi.l x1) (Int.toNat (LIi.i x1)))) (posD (Prod.fst x4)) (posD (upF lti (LIi.l x1) (Int.toNat (LIi.i x1))))) ∧
 (True))))))))))))) = Keeps ⟨T, [], C1i, noInv, 5⟩ Try.f29 upiC upiI by kernel_rfl) (fun x1 => fun h2 => ⟨((LIi.l x1, Int.toNat (LIi.i x1))),
 ⟨⟨(by (try dsimp only at *); (obtain ⟨p1, p2, p3, p4⟩ := h2; first | omega | exact p3)),
 rfl,
 (by (try dsimp only at *); (obtain ⟨p1, p2, p3, p4⟩ := h2; first | omega | exact p3)),
 rfl⟩,
 ⟨(by (try dsimp only at *); (obtain ⟨p1, p2, p3, p4⟩ := h2; first | omega | exact p3)),
 ⟨rfl,
 rfl⟩,
 trivial⟩,
 ⟨⟨Nat.le_refl _⟩,
 RowsEq.rfl'⟩,
 (by (try dsimp only at *); exact MapEq.rfl'),
 ⟨⟨rfl,
 rfl⟩,
 trivial,
 trivial⟩,
 trivial⟩,
 fun x4 => fun h5 => ⟨fun g6 => have h6 := of_decide_eq_true g6; ⟨⟨(by (try dsimp only at *); omega),
 (by (try dsimp only at *); (obtain ⟨p1, p2, p3, p4⟩ := h2; first | omega | exact p3))⟩,
 ⟨(by (try dsimp only at *); omega),
 (by (try dsimp only at *); omega),
 (by (try dsimp only at *); omega),
 (by (try dsimp only at *); (obtain ⟨p1, p2, p3, p4⟩ := h2; first | omega | exact p3))⟩,
 ({ l := Prod.fst x4, i := (↑(Prod.snd x4) : Int), j := ((↑(Prod.snd x4) : Int) - (1 : Int)) / (2 : Int) : LIJi }),
 (by (try dsimp only at *); (obtain ⟨p1, p2, p3, p4⟩ := h2; obtain ⟨q1, q2, q3, q4⟩ := h5; first | omega | (refine ⟨?_, ?_, ?_, ?_, q3⟩ <;> dsimp only <;> omega) | (simp only [swp_length]; done) | (simp only [swp_length]; omega) | exact swp_nodupi q3 (by omega) (by omega))),
 ⟨⟨rfl,
 rfl⟩,
 rfl,
 rfl,
 trivial⟩,
 ⟨⟨⟨rfl,
 (by (try dsimp only at *); omega)⟩,
 trivial,
 trivial⟩,
 ⟨⟨Nat.le_refl _⟩,
 RowsEq.rfl'⟩,
 (by (try dsimp only at *); exact MapEq.rfl'),
 trivial⟩,
 fun h8 => ⟨trivial,
 ⟨⟨(by (try dsimp only at *); (obtain ⟨q1, q2, q3, q4⟩ := h5; have e : (((x4.2 : Int) - 1) / 2).toNat = (x4.2 - 1) / 2 := (by omega); simp only [e, Int.toNat_natCast, Bool.not_eq_true', Bool.not_eq_false'] at *; rw [← q4, upi_stop (by first | exact .inr h8 | exact .inl (by omega))]; first | exact MapEq.rfl' | exact RowsEq.rfl' | exact Nat.le_refl _))⟩,
 (by (try dsimp only at *); (obtain ⟨q1, q2, q3, q4⟩ := h5; have e : (((x4.2 : Int) - 1) / 2).toNat = (x4.2 - 1) / 2 := (by omega); simp only [e, Int.toNat_natCast, Bool.not_eq_true', Bool.not_eq_false'] at *; rw [← q4, upi_stop (by first | exact .inr h8 | exact .inl (by omega))]; first | exact MapEq.rfl' | exact RowsEq.rfl' | exact Nat.le_refl _))⟩,
 (by (try dsimp only at *); (obtain ⟨q1, q2, q3, q4⟩ := h5; have e : (((x4.2 : Int) - 1) / 2).toNat = (x4.2 - 1) / 2 := (by omega); simp only [e, Int.toNat_natCast, Bool.not_eq_true', Bool.not_eq_false'] at *; rw [← q4, upi_stop (by first | exact .inr h8 | exact .inl (by omega))]; first | exact MapEq.rfl' | exact RowsEq.rfl' | exact Nat.le_refl _)),
 trivial⟩,
 fun h9 => ⟨({ l := Prod.fst x4, i := (↑(Prod.snd x4) : Int), j := ((↑(Prod.snd x4) : Int) - (1 : Int)) / (2 : Int) : LIJi }),
 (by (try dsimp only at *); (obtain ⟨p1, p2, p3, p4⟩ := h2; obtain ⟨q1, q2, q3, q4⟩ := h5; first | omega | (refine ⟨?_, ?_, ?_, ?_, q3⟩ <;> dsimp only <;> omega) | (simp only [swp_length]; done) | (simp only [swp_length]; omega) | exact swp_nodupi q3 (by omega) (by omega))),
 ⟨⟨rfl,
 rfl⟩,
 rfl,
 rfl,
 trivial⟩,
 ⟨⟨⟨rfl,
 (by (try dsimp only at *); omega)⟩,
 trivial,
 trivial⟩,
 ⟨⟨Nat.le_refl _⟩,
 RowsEq.rfl'⟩,
 (by (try dsimp only at *); exact MapEq.rfl'),
 trivial⟩,
 ((swp (Prod.fst x4) (Prod.snd x4) ((Prod.snd x4 - (1 : Nat)) / (2 : Nat)), (Prod.snd x4 - (1 : Nat)) / (2 : Nat))),
 (by (try dsimp only at *); omega),
 ⟨(by (try dsimp only at *); (obtain ⟨p1, p2, p3, p4⟩ := h2; obtain ⟨q1, q2, q3, q4⟩ := h5; first | omega | (refine ⟨?_, ?_, ?_, ?_, q3⟩ <;> dsimp only <;> omega) | (simp only [swp_length]; done) | (simp only [swp_length]; omega) | exact swp_nodupi q3 (by omega) (by omega))),
 (by (try dsimp only at *); (obtain ⟨p1, p2, p3, p4⟩ := h2; obtain ⟨q1, q2, q3, q4⟩ := h5; first | omega | (refine ⟨?_, ?_, ?_, ?_, q3⟩ <;> dsimp only <;> omega) | (simp only [swp_length]; done) | (simp only [swp_length]; omega) | exact swp_nodupi q3 (by omega) (by omega))),
 (by (try dsimp only at *); (obtain ⟨p1, p2, p3, p4⟩ := h2; obtain ⟨q1, q2, q3, q4⟩ := h5; first | omega | (refine ⟨?_, ?_, ?_, ?_, q3⟩ <;> dsimp only <;> omega) | (simp only [swp_length]; done) | (simp only [swp_length]; omega) | exact swp_nodupi q3 (by omega) (by omega))),
 (by (try dsimp only at *); (obtain ⟨q1, q2, q3, q4⟩ := h5; have e : (((x4.2 : Int) - 1) / 2).toNat = (x4.2 - 1) / 2 := (by omega); simp only [e, Int.toNat_natCast, Bool.not_eq_true', Bool.not_eq_false'] at *; first | exact MapEq.rfl' | exact RowsEq.rfl' | (rw [upi_step (by omega) (by assumption)]; exact q4)))⟩,
 ⟨(by (try dsimp only at *); omega),
 ⟨rfl,
 rfl⟩,
 trivial⟩,
 ⟨⟨(by (try dsimp only at *); (obtain ⟨p1, p2, p3, p4⟩ := h2; obtain ⟨q1, q2, q3, q4⟩ := h5; first | omega | (refine ⟨?_, ?_, ?_, ?_, q3⟩ <;> dsimp only <;> omega) | (simp only [swp_length]; done) | (simp only [swp_length]; omega) | exact swp_nodupi q3 (by omega) (by omega)))⟩,
 (by (try dsimp only at *); (obtain ⟨q1, q2, q3, q4⟩ := h5; have e : (((x4.2 : Int) - 1) / 2).toNat = (x4.2 - 1) / 2 := (by omega); simp only [e, Int.toNat_natCast, Bool.not_eq_true', Bool.not_eq_false'] at *; first | exact MapEq.rfl' | exact RowsEq.rfl' | (rw [upi_step (by omega) (by assumption)]; exact q4)))⟩,
 (by (try dsimp only at *); (obtain ⟨q1, q2, q3, q4⟩ := h5; have e : (((x4.2 : Int) - 1) / 2).toNat = (x4.2 - 1) / 2 := (by omega); simp only [e, Int.toNat_natCast, Bool.not_eq_true', Bool.not_eq_false'] at *; first | exact MapEq.rfl' | exact RowsEq.rfl' | (rw [upi_step (by omega) (by assumption)]; exact q4))),
 ⟨⟨rfl,
 rfl⟩,
 trivial,
 trivial⟩,
 trivial⟩⟩,
 fun g12 => have h12 := of_decide_eq_false g12; ⟨trivial,
 ⟨⟨(by (try dsimp only at *); (obtain ⟨q1, q2, q3, q4⟩ := h5; have e : (((x4.2 : Int) - 1) / 2).toNat = (x4.2 - 1) / 2 := (by omega); simp only [e, Int.toNat_natCast, Bool.not_eq_true', Bool.not_eq_false'] at *; rw [← q4, upi_stop (by first | exact .inr h8 | exact .inl (by omega))]; first | exact MapEq.rfl' | exact RowsEq.rfl' | exact Nat.le_refl _))⟩,
 (by (try dsimp only at *); (obtain ⟨q1, q2, q3, q4⟩ := h5; have e : (((x4.2 : Int) - 1) / 2).toNat = (x4.2 - 1) / 2 := (by omega); simp only [e, Int.toNat_natCast, Bool.not_eq_true', Bool.not_eq_false'] at *; rw [← q4, upi_stop (by first | exact .inr h8 | exact .inl (by omega))]; first | exact MapEq.rfl' | exact RowsEq.rfl' | exact Nat.le_refl _))⟩,
 (by (try dsimp only at *); (obtain ⟨q1, q2, q3, q4⟩ := h5; have e : (((x4.2 : Int) - 1) / 2).toNat = (x4.2 - 1) / 2 := (by omega); simp only [e, Int.toNat_natCast, Bool.not_eq_true', Bool.not_eq_false'] at *; rw [← q4, upi_stop (by first | exact .inr h8 | exact .inl (by omega))]; first | exact MapEq.rfl' | exact RowsEq.rfl' | exact Nat.le_refl _)),
 trivial⟩⟩⟩)

theorem upi_good : Good Try.prog 29 upiC ∧ FnOk Try.prog 29 := good_of (c := ⟨T, [], C1i, noInv, 5⟩) tok (ConL.ok con1i) (fn := Try.f29) rfl (by decide +kernel) (fun _ => rfl) upi_keeps

end Go.Sym
