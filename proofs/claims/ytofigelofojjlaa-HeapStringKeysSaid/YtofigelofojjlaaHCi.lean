/- The heap of numbers with keys of kind i: contracts and walks. Printed by gen/heap.py. -/
import Derived.Test.YtofigelofojjlaaHBi
import Derived.Test.YtofigelofojjlaaXD
namespace Go.Sym
set_option linter.unusedVariables false
set_option linter.unusedSimpArgs false
open Go.Proofs
theorem posOf_putBase {α : Type} [Inhabited α] {l : List (El α)} (hn : (ids l).Nodup) {id : Int} {key : α} {k : Int} (hk : k ∈ ids (putBase l id key)) : posOf (putBase l id key) k = if k = id then putAt l id else posOf l k := by
  obtain ⟨p1, p2⟩ := putAt_lt l id key
  have hn' : (ids (putBase l id key)).Nodup := by rw [ids_putBase]; exact nodup_madd1 hn id
  obtain ⟨n, hn2, rfl⟩ : ∃ n, n < (putBase l id key).length ∧ k = ((putBase l id key).getD n default).id := by
    obtain ⟨h1, h2⟩ := posOf_lt hk
    exact ⟨_, h1, h2.symm⟩
  rw [posOf_get hn' hn2]
  by_cases e : n = putAt l id
  · subst e; rw [p2, if_pos rfl]
  · obtain ⟨g1, g2⟩ := putBase_get e hn2
    rw [g1, posOf_get hn g2, if_neg]
    intro e2
    apply e
    refine ids_inj hn' hn2 p1 ?_
    rw [g1, p2, e2]
theorem put_map {α : Type} [Inhabited α] {l : List (El α)} (hn : (ids l).Nodup) {id : Int} {key : α} {a : Int} (ha : a = putAt l id) (h : id ∉ ids l) :
    MapEq kMap (madd1 (ids l) id) (ids (putBase l id key)) (mset (posD l) id (fun j => [D.i a].getD j (.i 0))) (posD (putBase l id key)) := by
  rw [ids_putBase]
  refine ⟨List.Perm.refl _, fun k hk => ?_⟩
  simp only [kMap, rowEq, Kd.eqv, and_true, posD, mset]
  rw [posOf_putBase hn (by rw [ids_putBase]; exact hk)]
  by_cases e : k = id
  · simp [e, D.toI, ha]
  · simp only [e, if_false]; rfl
theorem put_mapO {α : Type} [Inhabited α] {l : List (El α)} (hn : (ids l).Nodup) {id : Int} {key : α} (h : id ∈ ids l) : MapEq kMap (ids l) (ids (putBase l id key)) (posD l) (posD (putBase l id key)) := by
  have e1 : madd1 (ids l) id = ids l := by unfold madd1; rw [if_pos h]
  rw [ids_putBase, e1]
  refine ⟨List.Perm.refl _, fun k hk => ?_⟩
  simp only [kMap, rowEq, Kd.eqv, and_true, posD]
  rw [posOf_putBase hn (by rw [ids_putBase, e1]; exact hk)]
  by_cases e : k = id
  · subst e; simp [D.toI, putAt, h]
  · simp [e, D.toI]
theorem putBase_length_le {α : Type} [Inhabited α] (l : List (El α)) (id : Int) (key : α) : l.length ≤ (putBase l id key).length ∧ (putBase l id key).length ≤ l.length + 1 := by
  unfold putBase; split <;> simp
theorem put_in {α : Type} [Inhabited α] {lt : α → α → Bool} (l : List (El α)) (id : Int) (key : α) : id ∈ ids (upF lt (putBase l id key) (putAt l id)) := by
  refine (ids_perm (upF_perm _ _ (putAt_lt l id key).1)).symm.mem_iff.1 ?_
  rw [ids_putBase]; unfold madd1; split
  · assumption
  · simp
theorem put_fin {α : Type} [Inhabited α] {lt : α → α → Bool} (l : List (El α)) (id : Int) (key : α) : downF lt (upF lt (putBase l id key) (putAt l id)) (posOf (upF lt (putBase l id key) (putAt l id)) id) = putF lt l id key := by
  unfold putF fixF; rw [(putAt_lt l id key).2]
theorem posD_if {α : Type} {l : List (El α)} {id : Int} (h : id ∈ ids l) : (if id ∈ ids l then posD l id 0 else D.i 0).toI = posOf l id := by rw [if_pos h]; rfl

theorem put_rowsNi {l : List (El Int)} {id : Int} {key : Int} (h : id ∉ ids l) {n : Nat} (hn : n ≤ (putBase l id key).length) :
    RowsEq kEi n (setRow (appRows l.length (encL encEi l) 0 (litRows [[D.i id, .i key]])) l.length 1 [.i key]) (encL encEi (putBase l id key)) := by
  have e : putBase l id key = (l ++ [(⟨id, key⟩ : El Int)]).set l.length (⟨id, key⟩ : El Int) := by unfold putBase; rw [if_neg h]; simp
  have hn' : n ≤ l.length + 1 := by rw [e] at hn; simpa using hn
  rw [e]
  have h1 : RowsEq kEi (l.length + 1) (appRows l.length (encL encEi l) 0 (litRows [[D.i id, .i key]])) (encL encEi (l ++ [⟨id, key⟩])) := rowsEq_push rfl (by omega) (by simp only [rowEq, Kd.eqv, kEi]; exact ⟨rfl, rfl, trivial⟩)
  have h2 := rowsEq_setOf h1 (r := l.length) (c := 1) (ds := [.i key]) (v := ⟨id, key⟩) (by omega) (by simp) (by rw [show (l ++ [(⟨id, key⟩ : El Int)]).getD l.length default = ⟨id, key⟩ by simp [List.getD_eq_getElem?_getD]]; exact (by simp only [rowEq, Kd.eqv, kEi]; exact ⟨rfl, rfl, trivial⟩))
  exact ⟨fun r hr => h2.h r (by omega)⟩
theorem put_rowsOi {l : List (El Int)} {id : Int} {key : Int} (h : id ∈ ids l) {n : Nat} : RowsEq kEi n (setRow (encL encEi l) (posOf l id) 1 [.i key]) (encL encEi (putBase l id key)) := by
  unfold putBase; rw [if_pos h]
  obtain ⟨h1, h2⟩ := posOf_lt h
  exact rowsEq_set h1 (by simp only [rowEq, Kd.eqv, kEi]; exact ⟨congrArg (fun n => n) h2, rfl, trivial⟩)
theorem put_ok1i {l : List (El Int)} (hn : (ids l).Nodup) (hl : l.length ≤ 999999) (id : Int) (key : Int) : LIi.Ok ⟨putBase l id key, putAt l id⟩ := by
  have h1 := (putAt_lt l id key).1
  have h2 := putBase_length_le l id key
  exact ⟨by dsimp only; omega, by dsimp only; omega, by dsimp only; rw [ids_putBase]; exact nodup_madd1 hn id, by dsimp only; omega⟩
theorem put_ok2i {l : List (El Int)} (hn : (ids l).Nodup) (hl : l.length ≤ 999999) (id : Int) (key : Int) : LIi.Ok ⟨upF lti (putBase l id key) (putAt l id), posOf (upF lti (putBase l id key) (putAt l id)) id⟩ := by
  have h2 := putBase_length_le l id key
  have h3 := (posOf_lt (put_in (lt := lti) l id key)).1
  have h4 := upF_perm (lt := lti) (putAt l id) _ (putAt_lt l id key).1
  have h5 := h4.length_eq
  refine ⟨by dsimp only; omega, by dsimp only; omega, ?_, by dsimp only; omega⟩
  rw [(ids_perm h4).nodup_iff, ids_putBase]
  exact nodup_madd1 hn id
theorem put_leni (l : List (El Int)) (id : Int) (key : Int) : (putF lti l id key).length = (putBase l id key).length ∧ (upF lti (putBase l id key) (putAt l id)).length = (putBase l id key).length :=
  ⟨(putF_perm lti l id key).length_eq, upF_length _ _⟩
theorem putBase_leni (l : List (El Int)) (id : Int) (key : Int) : (id ∈ ids l → (putBase l id key).length = l.length ∧ putAt l id = posOf l id) ∧ (id ∉ ids l → (putBase l id key).length = l.length + 1 ∧ putAt l id = l.length) := by
  constructor <;> intro h <;> unfold putBase putAt <;> simp [h]

def C3i : List (Nat × Con) := [(29, .one upiC), (30, .one downiC), (35, .one swapiC)]
theorem con3i : ConL Try.prog C3i := .cons (ConL.one upi_good) (.cons (ConL.one downi_good) (.cons (ConL.one swapi_good) .nil))
def heapPuti (l : List (El Int)) : List (Nat × Blk) := [(100000, .one .own [.sl 1 0 l.length, .mp 100002]), (1, .rows .own kEi l.length (encL encEi l)), (100001, .dead), (100002, .map .own .i64 kMap false (ids l) (posD l))]
def putiC : CT where
  X := LKi
  pre := fun x => (ids x.l).Nodup ∧ x.l.length ≤ 999999
  args := fun x => [.p 100000 0 0, .i .i64 x.id, .i .i64 x.key]
  g0 := fun x => heapOwni x.l
  res := fun x => .tup []
  g1 := fun x => heapPuti (putF lti x.l x.id x.key)
set_option maxRecDepth 100000 in
theorem puti_keeps : Keeps ⟨T, [], C3i, noInv, 8⟩ Try.f17 putiC noIv := Eq.mp (show ((∀ x1 : LKi,
 ((List.Nodup (ids (LKi.l x1)) ∧ List.length (LKi.l x1) ≤ (999999 : Nat)) →
 ((((!decide (LKi.id x1 ∈ ids (LKi.l x1))) = true) →
 ((((True) ∧
 ((True) ∧
 (True))) ∧
 (True)) ∧
 ((((0 : Nat) = (0 : Nat)) ∧
 ((List.length (LKi.l x1) ≤ List.length (LKi.l x1)) ∧
 (((1 : Nat) ≤ (1 : Nat)) ∧
 (List.length (LKi.l x1) + (1 : Nat) ≤ (1073741824 : Nat))))) ∧
 (((True) ∧
 (True)) ∧
 ((((0 : Int) ≤ (↑(List.length (LKi.l x1)) : Int)) ∧
 ((↑(List.length (LKi.l x1)) : Int) < (↑(List.length (LKi.l x1) + (1 : Nat)) : Int))) ∧
 ((((0 : Nat) + Int.toNat (↑(List.length (LKi.l x1)) : Int) < List.length (LKi.l x1) + (1 : Nat)) ∧
 ((True) ∧
 (True))) ∧
 (∃ x4 : LIi,
 ((LIi.Ok x4) ∧
 (((((0 : Nat) = (0 : Nat)) ∧
 ((0 : Nat) = (0 : Nat))) ∧
 (((↑(List.length (LKi.l x1)) : Int) = LIi.i x4) ∧
 (True))) ∧
 ((((((0 : Nat) = (0 : Nat)) ∧
 (List.length (LKi.l x1) + (1 : Nat) = List.length (LIi.l x4))) ∧
 ((True) ∧
 (True))) ∧
 (((RLe (List.length (LIi.l x4)) (List.length (LKi.l x1) + (1 : Nat))) ∧
 (RowsEq (Kd.int IntKind.i64 :: Kd.int IntKind.i64 :: @List.nil Kd) (List.length (LIi.l x4)) (setRow (appRows (List.length (LKi.l x1)) (encL encEi (LKi.l x1)) (0 : Nat) (litRows ((D.i (LKi.id x1) :: D.i (LKi.key x1) :: @List.nil D) :: @List.nil (List D)))) ((0 : Nat) + Int.toNat (↑(List.length (LKi.l x1)) : Int)) (1 : Nat) (D.i (LKi.key x1) :: @List.nil D)) (encL encEi (LIi.l x4)))) ∧
 ((MapEq (Kd.int IntKind.i64 :: @List.nil Kd) (madd1 (ids (LKi.l x1)) (LKi.id x1)) (ids (LIi.l x4)) (mset (posD (LKi.l x1)) (LKi.id x1) fun (j : Nat) => List.getD (D.i (↑(List.length (LKi.l x1)) : Int) :: @List.nil D) j (D.i (0 : Int))) (posD (LIi.l x4))) ∧
 (True)))) ∧
 (∃ x5 : LIi,
 ((LIi.Ok x5) ∧
 (((((0 : Nat) = (0 : Nat)) ∧
 ((0 : Nat) = (0 : Nat))) ∧
 ((D.toI (if LKi.id x1 ∈ ids (upF lti (LIi.l x4) (Int.toNat (LIi.i x4))) then posD (upF lti (LIi.l x4) (Int.toNat (LIi.i x4))) (LKi.id x1) (0 : Nat) else D.i (0 : Int)) = LIi.i x5) ∧
 (True))) ∧
 ((((((0 : Nat) = (0 : Nat)) ∧
 (List.length (LKi.l x1) + (1 : Nat) = List.length (LIi.l x5))) ∧
 ((True) ∧
 (True))) ∧
 (((RLe (List.length (LIi.l x5)) (List.length (upF lti (LIi.l x4) (Int.toNat (LIi.i x4))))) ∧
 (RowsEq (Kd.int IntKind.i64 :: Kd.int IntKind.i64 :: @List.nil Kd) (List.length (LIi.l x5)) (encL encEi (upF lti (LIi.l x4) (Int.toNat (LIi.i x4)))) (encL encEi (LIi.l x5)))) ∧
 ((MapEq (Kd.int IntKind.i64 :: @List.nil Kd) (ids (upF lti (LIi.l x4) (Int.toNat (LIi.i x4)))) (ids (LIi.l x5)) (posD (upF lti (LIi.l x4) (Int.toNat (LIi.i x4)))) (posD (LIi.l x5))) ∧
 (True)))) ∧
 ((True) ∧
 (((((0 : Nat) = (0 : Nat)) ∧
 (List.length (LKi.l x1) + (1 : Nat) = List.length (putF lti (LKi.l x1) (LKi.id x1) (LKi.key x1)))) ∧
 ((True) ∧
 (True))) ∧
 (((RLe (List.length (putF lti (LKi.l x1) (LKi.id x1) (LKi.key x1))) (List.length (downF lti (LIi.l x5) (Int.toNat (LIi.i x5))))) ∧
 (RowsEq (Kd.int IntKind.i64 :: Kd.int IntKind.i64 :: @List.nil Kd) (List.length (putF lti (LKi.l x1) (LKi.id x1) (LKi.key x1))) (encL encEi (downF lti (LIi.l x5) (Int.toNat (LIi.i x5)))) (encL encEi (putF lti (LKi.l x1) (LKi.id x1) (LKi.key x1))))) ∧
 ((True) ∧
 ((MapEq (Kd.int IntKind.i64 :: @List.nil Kd) (ids (downF lti (LIi.l x5) (Int.toNat (LIi.i x5)))) (ids (putF lti (LKi.l x1) (LKi.id x1) (LKi.key x1))) (posD (downF lti (LIi.l x5) (Int.toNat (LIi.i x5)))) (posD (putF lti (LKi.l x1) (LKi.id x1) (LKi.key x1)))) ∧
 (True)))))))))))))))))))) ∧
 (((!decide (LKi.id x1 ∈ ids (LKi.l x1))) = false) →
 ((((0 : Int) ≤ D.toI (if LKi.id x1 ∈ ids (LKi.l x1) then posD (LKi.l x1) (LKi.id x1) (0 : Nat) else D.i (0 : Int))) ∧
 (D.toI (if LKi.id x1 ∈ ids (LKi.l x1) then posD (LKi.l x1) (LKi.id x1) (0 : Nat) else D.i (0 : Int)) < (↑(List.length (LKi.l x1)) : Int))) ∧
 ((((0 : Nat) + Int.toNat (D.toI (if LKi.id x1 ∈ ids (LKi.l x1) then posD (LKi.l x1) (LKi.id x1) (0 : Nat) else D.i (0 : Int))) < List.length (LKi.l x1)) ∧
 ((True) ∧
 (True))) ∧
 (∃ x7 : LIi,
 ((LIi.Ok x7) ∧
 (((((0 : Nat) = (0 : Nat)) ∧
 ((0 : Nat) = (0 : Nat))) ∧
 ((D.toI (if LKi.id x1 ∈ ids (LKi.l x1) then posD (LKi.l x1) (LKi.id x1) (0 : Nat) else D.i (0 : Int)) = LIi.i x7) ∧
 (True))) ∧
 ((((((0 : Nat) = (0 : Nat)) ∧
 (List.length (LKi.l x1) = List.length (LIi.l x7))) ∧
 ((True) ∧
 (True))) ∧
 (((RLe (List.length (LIi.l x7)) (List.length (LKi.l x1))) ∧
 (RowsEq (Kd.int IntKind.i64 :: Kd.int IntKind.i64 :: @List.nil Kd) (List.length (LIi.l x7)) (setRow (encL encEi (LKi.l x1)) ((0 : Nat) + Int.toNat (D.toI (if LKi.id x1 ∈ ids (LKi.l x1) then posD (LKi.l x1) (LKi.id x1) (0 : Nat) else D.i (0 : Int)))) (1 : Nat) (D.i (LKi.key x1) :: @List.nil D)) (encL encEi (LIi.l x7)))) ∧
 ((MapEq (Kd.int IntKind.i64 :: @List.nil Kd) (ids (LKi.l x1)) (ids (LIi.l x7)) (posD (LKi.l x1)) (posD (LIi.l x7))) ∧
 (True)))) ∧
 (∃ x8 : LIi,
 ((LIi.Ok x8) ∧
 (((((0 : Nat) = (0 : Nat)) ∧
 ((0 : Nat) = (0 : Nat))) ∧
 ((D.toI (if LKi.id x1 ∈ ids (upF lti (LIi.l x7) (Int.toNat (LIi.i x7))) then posD (upF lti (LIi.l x7) (Int.toNat (LIi.i x7))) (LKi.id x1) (0 : Nat) else D.i (0 : Int)) = LIi.i x8) ∧
 (True))) ∧
 ((((((0 : Nat) = (0 : Nat)) ∧
 (List.length (LKi.l x1) = List.length (LIi.l x8))) ∧
 ((True) ∧
 (True))) ∧
 (((RLe (List.length (LIi.l x8)) (List.length (upF lti (LIi.l x7) (Int.toNat (LIi.i x7))))) ∧
 (RowsEq (Kd.int IntKind.i64 :: Kd.int IntKind.i64 :: @List.nil Kd) (List.length (LIi.l x8)) (encL encEi (upF lti (LIi.l x7) (Int.toNat (LIi.i x7)))) (encL encEi (LIi.l x8)))) ∧
 ((MapEq (Kd.int IntKind.i64 :: @List.nil Kd) (ids (upF lti (LIi.l x7) (Int.toNat (LIi.i x7)))) (ids (LIi.l x8)) (posD (upF lti (LIi.l x7) (Int.toNat (LIi.i x7)))) (posD (LIi.l x8))) ∧
 (True)))) ∧
 ((True) ∧
 (((((0 : Nat) = (0 : Nat)) ∧
 (List.length (LKi.l x1) = List.length (putF lti (LKi.l x1) (LKi.id x1) (LKi.key x1)))) ∧
 ((True) ∧
 (True))) ∧
 (((RLe (List.length (putF lti (LKi.l x1) (LKi.id x1) (LKi.key x1))) (List.length (downF lti (LIi.l x8) (Int.toNat (LIi.i x8))))) ∧
 (RowsEq (Kd.int IntKind.i64 :: Kd.int IntKind.i64 :: @List.nil Kd) (List.length (putF lti (LKi.l x1) (LKi.id x1) (LKi.key x1))) (encL encEi (downF lti (LIi.l x8) (Int.toNat (LIi.i x8)))) (encL encEi (putF lti (LKi.l x1) (LKi.id x1) (LKi.key x1))))) ∧
 ((True) ∧
 ((MapEq (Kd.int IntKind.i64 :: @List.nil Kd) (ids (downF lti (LIi.l x8) (Int.toNat (LIi.i x8)))) (ids (putF lti (LKi.l x1) (LKi.id x1) (LKi.key x1))) (posD (downF lti (LIi.l x8) (Int.toNat (LIi.i x8)))) (posD (putF lti (LKi.l x1) (LKi.id x1) (LKi.key x1)))) ∧
 (True))))))))))))))))))))) = Keeps ⟨T, [], C3i, noInv, 8⟩ Try.f17 putiC noIv by kernel_rfl) (fun x1 => fun h2 => ⟨fun h3 => ⟨⟨⟨trivial,
 trivial,
 trivial⟩,
 trivial⟩,
 ⟨rfl,
 (by omega),
 (by omega),
 (by omega)⟩,
 ⟨trivial,
 trivial⟩,
 ⟨(by omega),
 (by omega)⟩,
 ⟨(by omega),
 trivial,
 trivial⟩,
 ({ l := putBase (LKi.l x1) (LKi.id x1) (LKi.key x1), i := (↑(putAt (LKi.l x1) (LKi.id x1)) : Int) : LIi }),
 (by (try dsimp only at *); (obtain ⟨p1, p2⟩ := h2; first | omega | exact put_ok1i p1 p2 _ _ | exact put_ok2i p1 p2 _ _)),
 ⟨⟨rfl,
 rfl⟩,
 (by (try dsimp only at *); (have e : x1.id ∉ ids x1.l := (by simp_all); have e3 := putBase_length_le x1.l x1.id x1.key; have e4 := put_leni x1.l x1.id x1.key; have e5 := (putBase_leni x1.l x1.id x1.key).2 e; have e6 := (posOf_lt (put_in (lt := lti) x1.l x1.id x1.key)).1; (try simp only [posD_if (put_in x1.l x1.id x1.key), Int.toNat_natCast, Nat.zero_add, put_fin] at *); first | omega | exact put_rowsNi e (by omega) | exact put_map h2.1 (by omega) e | exact MapEq.rfl' | exact RowsEq.rfl')),
 trivial⟩,
 ⟨⟨⟨rfl,
 (by (try dsimp only at *); (have e : x1.id ∉ ids x1.l := (by simp_all); have e3 := putBase_length_le x1.l x1.id x1.key; have e4 := put_leni x1.l x1.id x1.key; have e5 := (putBase_leni x1.l x1.id x1.key).2 e; have e6 := (posOf_lt (put_in (lt := lti) x1.l x1.id x1.key)).1; (try simp only [posD_if (put_in x1.l x1.id x1.key), Int.toNat_natCast, Nat.zero_add, put_fin] at *); first | omega | exact put_rowsNi e (by omega) | exact put_map h2.1 (by omega) e | exact MapEq.rfl' | exact RowsEq.rfl'))⟩,
 trivial,
 trivial⟩,
 ⟨⟨(by (try dsimp only at *); (have e : x1.id ∉ ids x1.l := (by simp_all); have e3 := putBase_length_le x1.l x1.id x1.key; have e4 := put_leni x1.l x1.id x1.key; have e5 := (putBase_leni x1.l x1.id x1.key).2 e; have e6 := (posOf_lt (put_in (lt := lti) x1.l x1.id x1.key)).1; (try simp only [posD_if (put_in x1.l x1.id x1.key), Int.toNat_natCast, Nat.zero_add, put_fin] at *); first | omega | exact put_rowsNi e (by omega) | exact put_map h2.1 (by omega) e | exact MapEq.rfl' | exact RowsEq.rfl'))⟩,
 (by (try dsimp only at *); (have e : x1.id ∉ ids x1.l := (by simp_all); have e3 := putBase_length_le x1.l x1.id x1.key; have e4 := put_leni x1.l x1.id x1.key; have e5 := (putBase_leni x1.l x1.id x1.key).2 e; have e6 := (posOf_lt (put_in (lt := lti) x1.l x1.id x1.key)).1; (try simp only [posD_if (put_in x1.l x1.id x1.key), Int.toNat_natCast, Nat.zero_add, put_fin] at *); first | omega | exact put_rowsNi e (by omega) | exact put_map h2.1 (by omega) e | exact MapEq.rfl' | exact RowsEq.rfl'))⟩,
 (by (try dsimp only at *); (have e : x1.id ∉ ids x1.l := (by simp_all); have e3 := putBase_length_le x1.l x1.id x1.key; have e4 := put_leni x1.l x1.id x1.key; have e5 := (putBase_leni x1.l x1.id x1.key).2 e; have e6 := (posOf_lt (put_in (lt := lti) x1.l x1.id x1.key)).1; (try simp only [posD_if (put_in x1.l x1.id x1.key), Int.toNat_natCast, Nat.zero_add, put_fin] at *); first | omega | exact put_rowsNi e (by omega) | exact put_map h2.1 (by omega) e | exact MapEq.rfl' | exact RowsEq.rfl')),
 trivial⟩,
 ({ l := upF lti (putBase (LKi.l x1) (LKi.id x1) (LKi.key x1)) (putAt (LKi.l x1) (LKi.id x1)), i := (↑(posOf (upF lti (putBase (LKi.l x1) (LKi.id x1) (LKi.key x1)) (putAt (LKi.l x1) (LKi.id x1))) (LKi.id x1)) : Int) : LIi }),
 (by (try dsimp only at *); (obtain ⟨p1, p2⟩ := h2; first | omega | exact put_ok1i p1 p2 _ _ | exact put_ok2i p1 p2 _ _)),
 ⟨⟨rfl,
 rfl⟩,
 (by (try dsimp only at *); (simp only [Int.toNat_natCast]; exact posD_if (put_in x1.l x1.id x1.key))),
 trivial⟩,
 ⟨⟨⟨rfl,
 (by (try dsimp only at *); (have e : x1.id ∉ ids x1.l := (by simp_all); have e3 := putBase_length_le x1.l x1.id x1.key; have e4 := put_leni x1.l x1.id x1.key; have e5 := (putBase_leni x1.l x1.id x1.key).2 e; have e6 := (posOf_lt (put_in (lt := lti) x1.l x1.id x1.key)).1; (try simp only [posD_if (put_in x1.l x1.id x1.key), Int.toNat_natCast, Nat.zero_add, put_fin] at *); first | omega | exact put_rowsNi e (by omega) | exact put_map h2.1 (by omega) e | exact MapEq.rfl' | exact RowsEq.rfl'))⟩,
 trivial,
 trivial⟩,
 ⟨⟨(by (try dsimp only at *); grind)⟩,
 (by (try dsimp only at *); exact RowsEq.rfl')⟩,
 (by (try dsimp only at *); exact MapEq.rfl'),
 trivial⟩,
 trivial,
 ⟨⟨rfl,
 (by (try dsimp only at *); (have e : x1.id ∉ ids x1.l := (by simp_all); have e3 := putBase_length_le x1.l x1.id x1.key; have e4 := put_leni x1.l x1.id x1.key; have e5 := (putBase_leni x1.l x1.id x1.key).2 e; have e6 := (posOf_lt (put_in (lt := lti) x1.l x1.id x1.key)).1; (try simp only [posD_if (put_in x1.l x1.id x1.key), Int.toNat_natCast, Nat.zero_add, put_fin] at *); first | omega | exact put_rowsNi e (by omega) | exact put_map h2.1 (by omega) e | exact MapEq.rfl' | exact RowsEq.rfl'))⟩,
 trivial,
 trivial⟩,
 ⟨⟨(by (try dsimp only at *); (have e : x1.id ∉ ids x1.l := (by simp_all); have e3 := putBase_length_le x1.l x1.id x1.key; have e4 := put_leni x1.l x1.id x1.key; have e5 := (putBase_leni x1.l x1.id x1.key).2 e; have e6 := (posOf_lt (put_in (lt := lti) x1.l x1.id x1.key)).1; (try simp only [posD_if (put_in x1.l x1.id x1.key), Int.toNat_natCast, Nat.zero_add, put_fin] at *); first | omega | exact put_rowsNi e (by omega) | exact put_map h2.1 (by omega) e | exact MapEq.rfl' | exact RowsEq.rfl'))⟩,
 (by (try dsimp only at *); (have e : x1.id ∉ ids x1.l := (by simp_all); have e3 := putBase_length_le x1.l x1.id x1.key; have e4 := put_leni x1.l x1.id x1.key; have e5 := (putBase_leni x1.l x1.id x1.key).2 e; have e6 := (posOf_lt (put_in (lt := lti) x1.l x1.id x1.key)).1; (try simp only [posD_if (put_in x1.l x1.id x1.key), Int.toNat_natCast, Nat.zero_add, put_fin] at *); first | omega | exact put_rowsNi e (by omega) | exact put_map h2.1 (by omega) e | exact MapEq.rfl' | exact RowsEq.rfl'))⟩,
 trivial,
 (by (try dsimp only at *); (have e : x1.id ∉ ids x1.l := (by simp_all); have e3 := putBase_length_le x1.l x1.id x1.key; have e4 := put_leni x1.l x1.id x1.key; have e5 := (putBase_leni x1.l x1.id x1.key).2 e; have e6 := (posOf_lt (put_in (lt := lti) x1.l x1.id x1.key)).1; (try simp only [posD_if (put_in x1.l x1.id x1.key), Int.toNat_natCast, Nat.zero_add, put_fin] at *); first | omega | exact put_rowsNi e (by omega) | exact put_map h2.1 (by omega) e | exact MapEq.rfl' | exact RowsEq.rfl')),
 trivial⟩,
 fun h6 => ⟨⟨(by (try dsimp only at *); (have e : x1.id ∈ ids x1.l := (by simp_all); have e2 := (posOf_lt e).1; have e3 := putBase_length_le x1.l x1.id x1.key; have e4 := put_leni x1.l x1.id x1.key; have e5 := (putBase_leni x1.l x1.id x1.key).1 e; have e6 := (posOf_lt (put_in (lt := lti) x1.l x1.id x1.key)).1; (try simp only [posD_if e, posD_if (put_in x1.l x1.id x1.key), Int.toNat_natCast, Nat.zero_add, put_fin] at *); first | omega | exact put_rowsOi e | exact put_mapO h2.1 e | exact MapEq.rfl' | exact RowsEq.rfl')),
 (by (try dsimp only at *); (have e : x1.id ∈ ids x1.l := (by simp_all); have e2 := (posOf_lt e).1; have e3 := putBase_length_le x1.l x1.id x1.key; have e4 := put_leni x1.l x1.id x1.key; have e5 := (putBase_leni x1.l x1.id x1.key).1 e; have e6 := (posOf_lt (put_in (lt := lti) x1.l x1.id x1.key)).1; (try simp only [posD_if e, posD_if (put_in x1.l x1.id x1.key), Int.toNat_natCast, Nat.zero_add, put_fin] at *); first | omega | exact put_rowsOi e | exact put_mapO h2.1 e | exact MapEq.rfl' | exact RowsEq.rfl'))⟩,
 ⟨(by (try dsimp only at *); (have e : x1.id ∈ ids x1.l := (by simp_all); have e2 := (posOf_lt e).1; have e3 := putBase_length_le x1.l x1.id x1.key; have e4 := put_leni x1.l x1.id x1.key; have e5 := (putBase_leni x1.l x1.id x1.key).1 e; have e6 := (posOf_lt (put_in (lt := lti) x1.l x1.id x1.key)).1; (try simp only [posD_if e, posD_if (put_in x1.l x1.id x1.key), Int.toNat_natCast, Nat.zero_add, put_fin] at *); first | omega | exact put_rowsOi e | exact put_mapO h2.1 e | exact MapEq.rfl' | exact RowsEq.rfl')),
 trivial,
 trivial⟩,
 ({ l := putBase (LKi.l x1) (LKi.id x1) (LKi.key x1), i := (↑(putAt (LKi.l x1) (LKi.id x1)) : Int) : LIi }),
 (by (try dsimp only at *); (obtain ⟨p1, p2⟩ := h2; first | omega | exact put_ok1i p1 p2 _ _ | exact put_ok2i p1 p2 _ _)),
 ⟨⟨rfl,
 rfl⟩,
 (by (try dsimp only at *); (have e : x1.id ∈ ids x1.l := (by simp_all); have e2 := (posOf_lt e).1; have e3 := putBase_length_le x1.l x1.id x1.key; have e4 := put_leni x1.l x1.id x1.key; have e5 := (putBase_leni x1.l x1.id x1.key).1 e; have e6 := (posOf_lt (put_in (lt := lti) x1.l x1.id x1.key)).1; (try simp only [posD_if e, posD_if (put_in x1.l x1.id x1.key), Int.toNat_natCast, Nat.zero_add, put_fin] at *); first | omega | exact put_rowsOi e | exact put_mapO h2.1 e | exact MapEq.rfl' | exact RowsEq.rfl')),
 trivial⟩,
 ⟨⟨⟨rfl,
 (by (try dsimp only at *); (have e : x1.id ∈ ids x1.l := (by simp_all); have e2 := (posOf_lt e).1; have e3 := putBase_length_le x1.l x1.id x1.key; have e4 := put_leni x1.l x1.id x1.key; have e5 := (putBase_leni x1.l x1.id x1.key).1 e; have e6 := (posOf_lt (put_in (lt := lti) x1.l x1.id x1.key)).1; (try simp only [posD_if e, posD_if (put_in x1.l x1.id x1.key), Int.toNat_natCast, Nat.zero_add, put_fin] at *); first | omega | exact put_rowsOi e | exact put_mapO h2.1 e | exact MapEq.rfl' | exact RowsEq.rfl'))⟩,
 trivial,
 trivial⟩,
 ⟨⟨(by (try dsimp only at *); (have e : x1.id ∈ ids x1.l := (by simp_all); have e2 := (posOf_lt e).1; have e3 := putBase_length_le x1.l x1.id x1.key; have e4 := put_leni x1.l x1.id x1.key; have e5 := (putBase_leni x1.l x1.id x1.key).1 e; have e6 := (posOf_lt (put_in (lt := lti) x1.l x1.id x1.key)).1; (try simp only [posD_if e, posD_if (put_in x1.l x1.id x1.key), Int.toNat_natCast, Nat.zero_add, put_fin] at *); first | omega | exact put_rowsOi e | exact put_mapO h2.1 e | exact MapEq.rfl' | exact RowsEq.rfl'))⟩,
 (by (try dsimp only at *); (have e : x1.id ∈ ids x1.l := (by simp_all); have e2 := (posOf_lt e).1; have e3 := putBase_length_le x1.l x1.id x1.key; have e4 := put_leni x1.l x1.id x1.key; have e5 := (putBase_leni x1.l x1.id x1.key).1 e; have e6 := (posOf_lt (put_in (lt := lti) x1.l x1.id x1.key)).1; (try simp only [posD_if e, posD_if (put_in x1.l x1.id x1.key), Int.toNat_natCast, Nat.zero_add, put_fin] at *); first | omega | exact put_rowsOi e | exact put_mapO h2.1 e | exact MapEq.rfl' | exact RowsEq.rfl'))⟩,
 (by (try dsimp only at *); (have e : x1.id ∈ ids x1.l := (by simp_all); have e2 := (posOf_lt e).1; have e3 := putBase_length_le x1.l x1.id x1.key; have e4 := put_leni x1.l x1.id x1.key; have e5 := (putBase_leni x1.l x1.id x1.key).1 e; have e6 := (posOf_lt (put_in (lt := lti) x1.l x1.id x1.key)).1; (try simp only [posD_if e, posD_if (put_in x1.l x1.id x1.key), Int.toNat_natCast, Nat.zero_add, put_fin] at *); first | omega | exact put_rowsOi e | exact put_mapO h2.1 e | exact MapEq.rfl' | exact RowsEq.rfl')),
 trivial⟩,
 ({ l := upF lti (putBase (LKi.l x1) (LKi.id x1) (LKi.key x1)) (putAt (LKi.l x1) (LKi.id x1)), i := (↑(posOf (upF lti (putBase (LKi.l x1) (LKi.id x1) (LKi.key x1)) (putAt (LKi.l x1) (LKi.id x1))) (LKi.id x1)) : Int) : LIi }),
 (by (try dsimp only at *); (obtain ⟨p1, p2⟩ := h2; first | omega | exact put_ok1i p1 p2 _ _ | exact put_ok2i p1 p2 _ _)),
 ⟨⟨rfl,
 rfl⟩,
 (by (try dsimp only at *); (simp only [Int.toNat_natCast]; exact posD_if (put_in x1.l x1.id x1.key))),
 trivial⟩,
 ⟨⟨⟨rfl,
 (by (try dsimp only at *); (have e : x1.id ∈ ids x1.l := (by simp_all); have e2 := (posOf_lt e).1; have e3 := putBase_length_le x1.l x1.id x1.key; have e4 := put_leni x1.l x1.id x1.key; have e5 := (putBase_leni x1.l x1.id x1.key).1 e; have e6 := (posOf_lt (put_in (lt := lti) x1.l x1.id x1.key)).1; (try simp only [posD_if e, posD_if (put_in x1.l x1.id x1.key), Int.toNat_natCast, Nat.zero_add, put_fin] at *); first | omega | exact put_rowsOi e | exact put_mapO h2.1 e | exact MapEq.rfl' | exact RowsEq.rfl'))⟩,
 trivial,
 trivial⟩,
 ⟨⟨(by (try dsimp only at *); grind)⟩,
 (by (try dsimp only at *); exact RowsEq.rfl')⟩,
 (by (try dsimp only at *); exact MapEq.rfl'),
 trivial⟩,
 trivial,
 ⟨⟨rfl,
 (by (try dsimp only at *); (have e : x1.id ∈ ids x1.l := (by simp_all); have e2 := (posOf_lt e).1; have e3 := putBase_length_le x1.l x1.id x1.key; have e4 := put_leni x1.l x1.id x1.key; have e5 := (putBase_leni x1.l x1.id x1.key).1 e; have e6 := (posOf_lt (put_in (lt := lti) x1.l x1.id x1.key)).1; (try simp only [posD_if e, posD_if (put_in x1.l x1.id x1.key), Int.toNat_natCast, Nat.zero_add, put_fin] at *); first | omega | exact put_rowsOi e | exact put_mapO h2.1 e | exact MapEq.rfl' | exact RowsEq.rfl'))⟩,
 trivial,
 trivial⟩,
 ⟨⟨(by (try dsimp only at *); (have e : x1.id ∈ ids x1.l := (by simp_all); have e2 := (posOf_lt e).1; have e3 := putBase_length_le x1.l x1.id x1.key; have e4 := put_leni x1.l x1.id x1.key; have e5 := (putBase_leni x1.l x1.id x1.key).1 e; have e6 := (posOf_lt (put_in (lt := lti) x1.l x1.id x1.key)).1; (try simp only [posD_if e, posD_if (put_in x1.l x1.id x1.key), Int.toNat_natCast, Nat.zero_add, put_fin] at *); first | omega | exact put_rowsOi e | exact put_mapO h2.1 e | exact MapEq.rfl' | exact RowsEq.rfl'))⟩,
 (by (try dsimp only at *); (have e : x1.id ∈ ids x1.l := (by simp_all); have e2 := (posOf_lt e).1; have e3 := putBase_length_le x1.l x1.id x1.key; have e4 := put_leni x1.l x1.id x1.key; have e5 := (putBase_leni x1.l x1.id x1.key).1 e; have e6 := (posOf_lt (put_in (lt := lti) x1.l x1.id x1.key)).1; (try simp only [posD_if e, posD_if (put_in x1.l x1.id x1.key), Int.toNat_natCast, Nat.zero_add, put_fin] at *); first | omega | exact put_rowsOi e | exact put_mapO h2.1 e | exact MapEq.rfl' | exact RowsEq.rfl'))⟩,
 trivial,
 (by (try dsimp only at *); (have e : x1.id ∈ ids x1.l := (by simp_all); have e2 := (posOf_lt e).1; have e3 := putBase_length_le x1.l x1.id x1.key; have e4 := put_leni x1.l x1.id x1.key; have e5 := (putBase_leni x1.l x1.id x1.key).1 e; have e6 := (posOf_lt (put_in (lt := lti) x1.l x1.id x1.key)).1; (try simp only [posD_if e, posD_if (put_in x1.l x1.id x1.key), Int.toNat_natCast, Nat.zero_add, put_fin] at *); first | omega | exact put_rowsOi e | exact put_mapO h2.1 e | exact MapEq.rfl' | exact RowsEq.rfl')),
 trivial⟩⟩)

theorem puti_good : Good Try.prog 17 putiC ∧ FnOk Try.prog 17 := good_of (c := ⟨T, [], C3i, noInv, 8⟩) tok (ConL.ok con3i) (fn := Try.f17) rfl (by decide +kernel) (fun _ => rfl) puti_keeps

end Go.Sym
