/- The heap of numbers with keys of kind s: contracts and walks. Printed by gen/heap.py. -/
import Derived.Test.YtofigelofojjlaaHBs
import Derived.Test.YtofigelofojjlaaXD
namespace Go.Sym
set_option linter.unusedVariables false
set_option linter.unusedSimpArgs false
open Go.Proofs
theorem put_rowsNs {l : List (El ByteArray)} {id : Int} {key : ByteArray} (h : id ∉ ids l) {n : Nat} (hn : n ≤ (putBase l id key).length) :
    RowsEq kEs n (setRow (appRows l.length (encL encEs l) 0 (litRows [[D.i id, .s key]])) l.length 1 [.s key]) (encL encEs (putBase l id key)) := by
  have e : putBase l id key = (l ++ [(⟨id, key⟩ : El ByteArray)]).set l.length (⟨id, key⟩ : El ByteArray) := by unfold putBase; rw [if_neg h]; simp
  have hn' : n ≤ l.length + 1 := by rw [e] at hn; simpa using hn
  rw [e]
  have h1 : RowsEq kEs (l.length + 1) (appRows l.length (encL encEs l) 0 (litRows [[D.i id, .s key]])) (encL encEs (l ++ [⟨id, key⟩])) := rowsEq_push rfl (by omega) (by simp only [rowEq, Kd.eqv, kEs]; exact ⟨rfl, rfl, trivial⟩)
  have h2 := rowsEq_setOf h1 (r := l.length) (c := 1) (ds := [.s key]) (v := ⟨id, key⟩) (by omega) (by simp) (by rw [show (l ++ [(⟨id, key⟩ : El ByteArray)]).getD l.length default = ⟨id, key⟩ by simp [List.getD_eq_getElem?_getD]]; exact (by simp only [rowEq, Kd.eqv, kEs]; exact ⟨rfl, rfl, trivial⟩))
  exact ⟨fun r hr => h2.h r (by omega)⟩
theorem put_rowsOs {l : List (El ByteArray)} {id : Int} {key : ByteArray} (h : id ∈ ids l) {n : Nat} : RowsEq kEs n (setRow (encL encEs l) (posOf l id) 1 [.s key]) (encL encEs (putBase l id key)) := by
  unfold putBase; rw [if_pos h]
  obtain ⟨h1, h2⟩ := posOf_lt h
  exact rowsEq_set h1 (by simp only [rowEq, Kd.eqv, kEs]; exact ⟨congrArg (fun n => n) h2, rfl, trivial⟩)
theorem put_ok1s {l : List (El ByteArray)} (hn : (ids l).Nodup) (hl : l.length ≤ 999999) (id : Int) (key : ByteArray) : LIs.Ok ⟨putBase l id key, putAt l id⟩ := by
  have h1 := (putAt_lt l id key).1
  have h2 := putBase_length_le l id key
  exact ⟨by dsimp only; omega, by dsimp only; omega, by dsimp only; rw [ids_putBase]; exact nodup_madd1 hn id, by dsimp only; omega⟩
theorem put_ok2s {l : List (El ByteArray)} (hn : (ids l).Nodup) (hl : l.length ≤ 999999) (id : Int) (key : ByteArray) : LIs.Ok ⟨upF lts (putBase l id key) (putAt l id), posOf (upF lts (putBase l id key) (putAt l id)) id⟩ := by
  have h2 := putBase_length_le l id key
  have h3 := (posOf_lt (put_in (lt := lts) l id key)).1
  have h4 := upF_perm (lt := lts) (putAt l id) _ (putAt_lt l id key).1
  have h5 := h4.length_eq
  refine ⟨by dsimp only; omega, by dsimp only; omega, ?_, by dsimp only; omega⟩
  rw [(ids_perm h4).nodup_iff, ids_putBase]
  exact nodup_madd1 hn id
theorem put_lens (l : List (El ByteArray)) (id : Int) (key : ByteArray) : (putF lts l id key).length = (putBase l id key).length ∧ (upF lts (putBase l id key) (putAt l id)).length = (putBase l id key).length :=
  ⟨(putF_perm lts l id key).length_eq, upF_length _ _⟩
theorem putBase_lens (l : List (El ByteArray)) (id : Int) (key : ByteArray) : (id ∈ ids l → (putBase l id key).length = l.length ∧ putAt l id = posOf l id) ∧ (id ∉ ids l → (putBase l id key).length = l.length + 1 ∧ putAt l id = l.length) := by
  constructor <;> intro h <;> unfold putBase putAt <;> simp [h]

def C3s : List (Nat × Con) := [(31, .one upsC), (32, .one downsC), (38, .one swapsC)]
theorem con3s : ConL Try.prog C3s := .cons (ConL.one ups_good) (.cons (ConL.one downs_good) (.cons (ConL.one swaps_good) .nil))
def heapPuts (l : List (El ByteArray)) : List (Nat × Blk) := [(100000, .one .own [.sl 1 0 l.length, .mp 100002]), (1, .rows .own kEs l.length (encL encEs l)), (100001, .dead), (100002, .map .own .i64 kMap false (ids l) (posD l))]
def putsC : CT where
  X := LKs
  pre := fun x => (ids x.l).Nodup ∧ x.l.length ≤ 999999
  args := fun x => [.p 100000 0 0, .i .i64 x.id, .s x.key]
  g0 := fun x => heapOwns x.l
  res := fun x => .tup []
  g1 := fun x => heapPuts (putF lts x.l x.id x.key)
set_option maxRecDepth 100000 in
theorem puts_keeps : Keeps ⟨T, [], C3s, noInv, 8⟩ Try.f19 putsC noIv := Eq.mp (show ((∀ x1 : LKs,
 ((List.Nodup (ids (LKs.l x1)) ∧ List.length (LKs.l x1) ≤ (999999 : Nat)) →
 ((((!decide (LKs.id x1 ∈ ids (LKs.l x1))) = true) →
 ((((True) ∧
 ((True) ∧
 (True))) ∧
 (True)) ∧
 ((((0 : Nat) = (0 : Nat)) ∧
 ((List.length (LKs.l x1) ≤ List.length (LKs.l x1)) ∧
 (((1 : Nat) ≤ (1 : Nat)) ∧
 (List.length (LKs.l x1) + (1 : Nat) ≤ (1073741824 : Nat))))) ∧
 (((True) ∧
 (True)) ∧
 ((((0 : Int) ≤ (↑(List.length (LKs.l x1)) : Int)) ∧
 ((↑(List.length (LKs.l x1)) : Int) < (↑(List.length (LKs.l x1) + (1 : Nat)) : Int))) ∧
 ((((0 : Nat) + Int.toNat (↑(List.length (LKs.l x1)) : Int) < List.length (LKs.l x1) + (1 : Nat)) ∧
 ((True) ∧
 (True))) ∧
 (∃ x4 : LIs,
 ((LIs.Ok x4) ∧
 (((((0 : Nat) = (0 : Nat)) ∧
 ((0 : Nat) = (0 : Nat))) ∧
 (((↑(List.length (LKs.l x1)) : Int) = LIs.i x4) ∧
 (True))) ∧
 ((((((0 : Nat) = (0 : Nat)) ∧
 (List.length (LKs.l x1) + (1 : Nat) = List.length (LIs.l x4))) ∧
 ((True) ∧
 (True))) ∧
 (((RLe (List.length (LIs.l x4)) (List.length (LKs.l x1) + (1 : Nat))) ∧
 (RowsEq (Kd.int IntKind.i64 :: Kd.str :: @List.nil Kd) (List.length (LIs.l x4)) (setRow (appRows (List.length (LKs.l x1)) (encL encEs (LKs.l x1)) (0 : Nat) (litRows ((D.i (LKs.id x1) :: D.s (LKs.key x1) :: @List.nil D) :: @List.nil (List D)))) ((0 : Nat) + Int.toNat (↑(List.length (LKs.l x1)) : Int)) (1 : Nat) (D.s (LKs.key x1) :: @List.nil D)) (encL encEs (LIs.l x4)))) ∧
 ((MapEq (Kd.int IntKind.i64 :: @List.nil Kd) (madd1 (ids (LKs.l x1)) (LKs.id x1)) (ids (LIs.l x4)) (mset (posD (LKs.l x1)) (LKs.id x1) fun (j : Nat) => List.getD (D.i (↑(List.length (LKs.l x1)) : Int) :: @List.nil D) j (D.i (0 : Int))) (posD (LIs.l x4))) ∧
 (True)))) ∧
 (∃ x5 : LIs,
 ((LIs.Ok x5) ∧
 (((((0 : Nat) = (0 : Nat)) ∧
 ((0 : Nat) = (0 : Nat))) ∧
 ((D.toI (if LKs.id x1 ∈ ids (upF lts (LIs.l x4) (Int.toNat (LIs.i x4))) then posD (upF lts (LIs.l x4) (Int.toNat (LIs.i x4))) (LKs.id x1) (0 : Nat) else D.i (0 : Int)) = LIs.i x5) ∧
 (True))) ∧
 ((((((0 : Nat) = (0 : Nat)) ∧
 (List.length (LKs.l x1) + (1 : Nat) = List.length (LIs.l x5))) ∧
 ((True) ∧
 (True))) ∧
 (((RLe (List.length (LIs.l x5)) (List.length (upF lts (LIs.l x4) (Int.toNat (LIs.i x4))))) ∧
 (RowsEq (Kd.int IntKind.i64 :: Kd.str :: @List.nil Kd) (List.length (LIs.l x5)) (encL encEs (upF lts (LIs.l x4) (Int.toNat (LIs.i x4)))) (encL encEs (LIs.l x5)))) ∧
 ((MapEq (Kd.int IntKind.i64 :: @List.nil Kd) (ids (upF lts (LIs.l x4) (Int.toNat (LIs.i x4)))) (ids (LIs.l x5)) (posD (upF lts (LIs.l x4) (Int.toNat (LIs.i x4)))) (posD (LIs.l x5))) ∧
 (True)))) ∧
 ((True) ∧
 (((((0 : Nat) = (0 : Nat)) ∧
 (List.length (LKs.l x1) + (1 : Nat) = List.length (putF lts (LKs.l x1) (LKs.id x1) (LKs.key x1)))) ∧
 ((True) ∧
 (True))) ∧
 (((RLe (List.length (putF lts (LKs.l x1) (LKs.id x1) (LKs.key x1))) (List.length (downF lts (LIs.l x5) (Int.toNat (LIs.i x5))))) ∧
 (RowsEq (Kd.int IntKind.i64 :: Kd.str :: @List.nil Kd) (List.length (putF lts (LKs.l x1) (LKs.id x1) (LKs.key x1))) (encL encEs (downF lts (LIs.l x5) (Int.toNat (LIs.i x5)))) (encL encEs (putF lts (LKs.l x1) (LKs.id x1) (LKs.key x1))))) ∧
 ((True) ∧
 ((MapEq (Kd.int IntKind.i64 :: @List.nil Kd) (ids (downF lts (LIs.l x5) (Int.toNat (LIs.i x5)))) (ids (putF lts (LKs.l x1) (LKs.id x1) (LKs.key x1))) (posD (downF lts (LIs.l x5) (Int.toNat (LIs.i x5)))) (posD (putF lts (LKs.l x1) (LKs.id x1) (LKs.key x1)))) ∧
 (True)))))))))))))))))))) ∧
 (((!decide (LKs.id x1 ∈ ids (LKs.l x1))) = false) →
 ((((0 : Int) ≤ D.toI (if LKs.id x1 ∈ ids (LKs.l x1) then posD (LKs.l x1) (LKs.id x1) (0 : Nat) else D.i (0 : Int))) ∧
 (D.toI (if LKs.id x1 ∈ ids (LKs.l x1) then posD (LKs.l x1) (LKs.id x1) (0 : Nat) else D.i (0 : Int)) < (↑(List.length (LKs.l x1)) : Int))) ∧
 ((((0 : Nat) + Int.toNat (D.toI (if LKs.id x1 ∈ ids (LKs.l x1) then posD (LKs.l x1) (LKs.id x1) (0 : Nat) else D.i (0 : Int))) < List.length (LKs.l x1)) ∧
 ((True) ∧
 (True))) ∧
 (∃ x7 : LIs,
 ((LIs.Ok x7) ∧
 (((((0 : Nat) = (0 : Nat)) ∧
 ((0 : Nat) = (0 : Nat))) ∧
 ((D.toI (if LKs.id x1 ∈ ids (LKs.l x1) then posD (LKs.l x1) (LKs.id x1) (0 : Nat) else D.i (0 : Int)) = LIs.i x7) ∧
 (True))) ∧
 ((((((0 : Nat) = (0 : Nat)) ∧
 (List.length (LKs.l x1) = List.length (LIs.l x7))) ∧
 ((True) ∧
 (True))) ∧
 (((RLe (List.length (LIs.l x7)) (List.length (LKs.l x1))) ∧
 (RowsEq (Kd.int IntKind.i64 :: Kd.str :: @List.nil Kd) (List.length (LIs.l x7)) (setRow (encL encEs (LKs.l x1)) ((0 : Nat) + Int.toNat (D.toI (if LKs.id x1 ∈ ids (LKs.l x1) then posD (LKs.l x1) (LKs.id x1) (0 : Nat) else D.i (0 : Int)))) (1 : Nat) (D.s (LKs.key x1) :: @List.nil D)) (encL encEs (LIs.l x7)))) ∧
 ((MapEq (Kd.int IntKind.i64 :: @List.nil Kd) (ids (LKs.l x1)) (ids (LIs.l x7)) (posD (LKs.l x1)) (posD (LIs.l x7))) ∧
 (True)))) ∧
 (∃ x8 : LIs,
 ((LIs.Ok x8) ∧
 (((((0 : Nat) = (0 : Nat)) ∧
 ((0 : Nat) = (0 : Nat))) ∧
 ((D.toI (if LKs.id x1 ∈ ids (upF lts (LIs.l x7) (Int.toNat (LIs.i x7))) then posD (upF lts (LIs.l x7) (Int.toNat (LIs.i x7))) (LKs.id x1) (0 : Nat) else D.i (0 : Int)) = LIs.i x8) ∧
 (True))) ∧
 ((((((0 : Nat) = (0 : Nat)) ∧
 (List.length (LKs.l x1) = List.length (LIs.l x8))) ∧
 ((True) ∧
 (True))) ∧
 (((RLe (List.length (LIs.l x8)) (List.length (upF lts (LIs.l x7) (Int.toNat (LIs.i x7))))) ∧
 (RowsEq (Kd.int IntKind.i64 :: Kd.str :: @List.nil Kd) (List.length (LIs.l x8)) (encL encEs (upF lts (LIs.l x7) (Int.toNat (LIs.i x7)))) (encL encEs (LIs.l x8)))) ∧
 ((MapEq (Kd.int IntKind.i64 :: @List.nil Kd) (ids (upF lts (LIs.l x7) (Int.toNat (LIs.i x7)))) (ids (LIs.l x8)) (posD (upF lts (LIs.l x7) (Int.toNat (LIs.i x7)))) (posD (LIs.l x8))) ∧
 (True)))) ∧
 ((True) ∧
 (((((0 : Nat) = (0 : Nat)) ∧
 (List.length (LKs.l x1) = List.length (putF lts (LKs.l x1) (LKs.id x1) (LKs.key x1)))) ∧
 ((True) ∧
 (True))) ∧
 (((RLe (List.length (putF lts (LKs.l x1) (LKs.id x1) (LKs.key x1))) (List.length (downF lts (LIs.l x8) (Int.toNat (LIs.i x8))))) ∧
 (RowsEq (Kd.int IntKind.i64 :: Kd.str :: @List.nil Kd) (List.length (putF lts (LKs.l x1) (LKs.id x1) (LKs.key x1))) (encL encEs (downF lts (LIs.l x8) (Int.toNat (LIs.i x8)))) (encL encEs (putF lts (LKs.l x1) (LKs.id x1) (LKs.key x1))))) ∧
 ((True) ∧
 ((MapEq (Kd.int IntKind.i64 :: @List.nil Kd) (ids (downF lts (LIs.l x8) (Int.toNat (LIs.i x8)))) (ids (putF lts (LKs.l x1) (LKs.id x1) (LKs.key x1))) (posD (downF lts (LIs.l x8) (Int.toNat (LIs.i x8)))) (posD (putF lts (LKs.l x1) (LKs.id x1) (LKs.key x1)))) ∧
 (True))))))))))))))))))))) = Keeps ⟨T, [], C3s, noInv, 8⟩ Try.f19 putsC noIv by kernel_rfl) (fun x1 => fun h2 => ⟨fun h3 => ⟨⟨⟨trivial,
 trivial,
 trivial⟩,
 trivial⟩,
 ⟨rfl,
 (by omega),
 (by omega),
 (by omega)⟩,
 ⟨trivial,
 trivial⟩,
 ⟨(by omega),
 (by omega)⟩,
 ⟨(by omega),
 trivial,
 trivial⟩,
 ({ l := putBase (LKs.l x1) (LKs.id x1) (LKs.key x1), i := (↑(putAt (LKs.l x1) (LKs.id x1)) : Int) : LIs }),
 (by (try dsimp only at *); (obtain ⟨p1, p2⟩ := h2; first | omega | exact put_ok1s p1 p2 _ _ | exact put_ok2s p1 p2 _ _)),
 ⟨⟨rfl,
 rfl⟩,
 (by (try dsimp only at *); (have e : x1.id ∉ ids x1.l := (by simp_all); have e3 := putBase_length_le x1.l x1.id x1.key; have e4 := put_lens x1.l x1.id x1.key; have e5 := (putBase_lens x1.l x1.id x1.key).2 e; have e6 := (posOf_lt (put_in (lt := lts) x1.l x1.id x1.key)).1; (try simp only [posD_if (put_in x1.l x1.id x1.key), Int.toNat_natCast, Nat.zero_add, put_fin] at *); first | omega | exact put_rowsNs e (by omega) | exact put_map h2.1 (by omega) e | exact MapEq.rfl' | exact RowsEq.rfl')),
 trivial⟩,
 ⟨⟨⟨rfl,
 (by (try dsimp only at *); (have e : x1.id ∉ ids x1.l := (by simp_all); have e3 := putBase_length_le x1.l x1.id x1.key; have e4 := put_lens x1.l x1.id x1.key; have e5 := (putBase_lens x1.l x1.id x1.key).2 e; have e6 := (posOf_lt (put_in (lt := lts) x1.l x1.id x1.key)).1; (try simp only [posD_if (put_in x1.l x1.id x1.key), Int.toNat_natCast, Nat.zero_add, put_fin] at *); first | omega | exact put_rowsNs e (by omega) | exact put_map h2.1 (by omega) e | exact MapEq.rfl' | exact RowsEq.rfl'))⟩,
 trivial,
 trivial⟩,
 ⟨⟨(by (try dsimp only at *); (have e : x1.id ∉ ids x1.l := (by simp_all); have e3 := putBase_length_le x1.l x1.id x1.key; have e4 := put_lens x1.l x1.id x1.key; have e5 := (putBase_lens x1.l x1.id x1.key).2 e; have e6 := (posOf_lt (put_in (lt := lts) x1.l x1.id x1.key)).1; (try simp only [posD_if (put_in x1.l x1.id x1.key), Int.toNat_natCast, Nat.zero_add, put_fin] at *); first | omega | exact put_rowsNs e (by omega) | exact put_map h2.1 (by omega) e | exact MapEq.rfl' | exact RowsEq.rfl'))⟩,
 (by (try dsimp only at *); (have e : x1.id ∉ ids x1.l := (by simp_all); have e3 := putBase_length_le x1.l x1.id x1.key; have e4 := put_lens x1.l x1.id x1.key; have e5 := (putBase_lens x1.l x1.id x1.key).2 e; have e6 := (posOf_lt (put_in (lt := lts) x1.l x1.id x1.key)).1; (try simp only [posD_if (put_in x1.l x1.id x1.key), Int.toNat_natCast, Nat.zero_add, put_fin] at *); first | omega | exact put_rowsNs e (by omega) | exact put_map h2.1 (by omega) e | exact MapEq.rfl' | exact RowsEq.rfl'))⟩,
 (by (try dsimp only at *); (have e : x1.id ∉ ids x1.l := (by simp_all); have e3 := putBase_length_le x1.l x1.id x1.key; have e4 := put_lens x1.l x1.id x1.key; have e5 := (putBase_lens x1.l x1.id x1.key).2 e; have e6 := (posOf_lt (put_in (lt := lts) x1.l x1.id x1.key)).1; (try simp only [posD_if (put_in x1.l x1.id x1.key), Int.toNat_natCast, Nat.zero_add, put_fin] at *); first | omega | exact put_rowsNs e (by omega) | exact put_map h2.1 (by omega) e | exact MapEq.rfl' | exact RowsEq.rfl')),
 trivial⟩,
 ({ l := upF lts (putBase (LKs.l x1) (LKs.id x1) (LKs.key x1)) (putAt (LKs.l x1) (LKs.id x1)), i := (↑(posOf (upF lts (putBase (LKs.l x1) (LKs.id x1) (LKs.key x1)) (putAt (LKs.l x1) (LKs.id x1))) (LKs.id x1)) : Int) : LIs }),
 (by (try dsimp only at *); (obtain ⟨p1, p2⟩ := h2; first | omega | exact put_ok1s p1 p2 _ _ | exact put_ok2s p1 p2 _ _)),
 ⟨⟨rfl,
 rfl⟩,
 (by (try dsimp only at *); (simp only [Int.toNat_natCast]; exact posD_if (put_in x1.l x1.id x1.key))),
 trivial⟩,
 ⟨⟨⟨rfl,
 (by (try dsimp only at *); (have e : x1.id ∉ ids x1.l := (by simp_all); have e3 := putBase_length_le x1.l x1.id x1.key; have e4 := put_lens x1.l x1.id x1.key; have e5 := (putBase_lens x1.l x1.id x1.key).2 e; have e6 := (posOf_lt (put_in (lt := lts) x1.l x1.id x1.key)).1; (try simp only [posD_if (put_in x1.l x1.id x1.key), Int.toNat_natCast, Nat.zero_add, put_fin] at *); first | omega | exact put_rowsNs e (by omega) | exact put_map h2.1 (by omega) e | exact MapEq.rfl' | exact RowsEq.rfl'))⟩,
 trivial,
 trivial⟩,
 ⟨⟨(by (try dsimp only at *); grind)⟩,
 (by (try dsimp only at *); exact RowsEq.rfl')⟩,
 (by (try dsimp only at *); exact MapEq.rfl'),
 trivial⟩,
 trivial,
 ⟨⟨rfl,
 (by (try dsimp only at *); (have e : x1.id ∉ ids x1.l := (by simp_all); have e3 := putBase_length_le x1.l x1.id x1.key; have e4 := put_lens x1.l x1.id x1.key; have e5 := (putBase_lens x1.l x1.id x1.key).2 e; have e6 := (posOf_lt (put_in (lt := lts) x1.l x1.id x1.key)).1; (try simp only [posD_if (put_in x1.l x1.id x1.key), Int.toNat_natCast, Nat.zero_add, put_fin] at *); first | omega | exact put_rowsNs e (by omega) | exact put_map h2.1 (by omega) e | exact MapEq.rfl' | exact RowsEq.rfl'))⟩,
 trivial,
 trivial⟩,
 ⟨⟨(by (try dsimp only at *); (have e : x1.id ∉ ids x1.l := (by simp_all); have e3 := putBase_length_le x1.l x1.id x1.key; have e4 := put_lens x1.l x1.id x1.key; have e5 := (putBase_lens x1.l x1.id x1.key).2 e; have e6 := (posOf_lt (put_in (lt := lts) x1.l x1.id x1.key)).1; (try simp only [posD_if (put_in x1.l x1.id x1.key), Int.toNat_natCast, Nat.zero_add, put_fin] at *); first | omega | exact put_rowsNs e (by omega) | exact put_map h2.1 (by omega) e | exact MapEq.rfl' | exact RowsEq.rfl'))⟩,
 (by (try dsimp only at *); (have e : x1.id ∉ ids x1.l := (by simp_all); have e3 := putBase_length_le x1.l x1.id x1.key; have e4 := put_lens x1.l x1.id x1.key; have e5 := (putBase_lens x1.l x1.id x1.key).2 e; have e6 := (posOf_lt (put_in (lt := lts) x1.l x1.id x1.key)).1; (try simp only [posD_if (put_in x1.l x1.id x1.key), Int.toNat_natCast, Nat.zero_add, put_fin] at *); first | omega | exact put_rowsNs e (by omega) | exact put_map h2.1 (by omega) e | exact MapEq.rfl' | exact RowsEq.rfl'))⟩,
 trivial,
 (by (try dsimp only at *); (have e : x1.id ∉ ids x1.l := (by simp_all); have e3 := putBase_length_le x1.l x1.id x1.key; have e4 := put_lens x1.l x1.id x1.key; have e5 := (putBase_lens x1.l x1.id x1.key).2 e; have e6 := (posOf_lt (put_in (lt := lts) x1.l x1.id x1.key)).1; (try simp only [posD_if (put_in x1.l x1.id x1.key), Int.toNat_natCast, Nat.zero_add, put_fin] at *); first | omega | exact put_rowsNs e (by omega) | exact put_map h2.1 (by omega) e | exact MapEq.rfl' | exact RowsEq.rfl')),
 trivial⟩,
 fun h6 => ⟨⟨(by (try dsimp only at *); (have e : x1.id ∈ ids x1.l := (by simp_all); have e2 := (posOf_lt e).1; have e3 := putBase_length_le x1.l x1.id x1.key; have e4 := put_lens x1.l x1.id x1.key; have e5 := (putBase_lens x1.l x1.id x1.key).1 e; have e6 := (posOf_lt (put_in (lt := lts) x1.l x1.id x1.key)).1; (try simp only [posD_if e, posD_if (put_in x1.l x1.id x1.key), Int.toNat_natCast, Nat.zero_add, put_fin] at *); first | omega | exact put_rowsOs e | exact put_mapO h2.1 e | exact MapEq.rfl' | exact RowsEq.rfl')),
 (by (try dsimp only at *); (have e : x1.id ∈ ids x1.l := (by simp_all); have e2 := (posOf_lt e).1; have e3 := putBase_length_le x1.l x1.id x1.key; have e4 := put_lens x1.l x1.id x1.key; have e5 := (putBase_lens x1.l x1.id x1.key).1 e; have e6 := (posOf_lt (put_in (lt := lts) x1.l x1.id x1.key)).1; (try simp only [posD_if e, posD_if (put_in x1.l x1.id x1.key), Int.toNat_natCast, Nat.zero_add, put_fin] at *); first | omega | exact put_rowsOs e | exact put_mapO h2.1 e | exact MapEq.rfl' | exact RowsEq.rfl'))⟩,
 ⟨(by (try dsimp only at *); (have e : x1.id ∈ ids x1.l := (by simp_all); have e2 := (posOf_lt e).1; have e3 := putBase_length_le x1.l x1.id x1.key; have e4 := put_lens x1.l x1.id x1.key; have e5 := (putBase_lens x1.l x1.id x1.key).1 e; have e6 := (posOf_lt (put_in (lt := lts) x1.l x1.id x1.key)).1; (try simp only [posD_if e, posD_if (put_in x1.l x1.id x1.key), Int.toNat_natCast, Nat.zero_add, put_fin] at *); first | omega | exact put_rowsOs e | exact put_mapO h2.1 e | exact MapEq.rfl' | exact RowsEq.rfl')),
 trivial,
 trivial⟩,
 ({ l := putBase (LKs.l x1) (LKs.id x1) (LKs.key x1), i := (↑(putAt (LKs.l x1) (LKs.id x1)) : Int) : LIs }),
 (by (try dsimp only at *); (obtain ⟨p1, p2⟩ := h2; first | omega | exact put_ok1s p1 p2 _ _ | exact put_ok2s p1 p2 _ _)),
 ⟨⟨rfl,
 rfl⟩,
 (by (try dsimp only at *); (have e : x1.id ∈ ids x1.l := (by simp_all); have e2 := (posOf_lt e).1; have e3 := putBase_length_le x1.l x1.id x1.key; have e4 := put_lens x1.l x1.id x1.key; have e5 := (putBase_lens x1.l x1.id x1.key).1 e; have e6 := (posOf_lt (put_in (lt := lts) x1.l x1.id x1.key)).1; (try simp only [posD_if e, posD_if (put_in x1.l x1.id x1.key), Int.toNat_natCast, Nat.zero_add, put_fin] at *); first | omega | exact put_rowsOs e | exact put_mapO h2.1 e | exact MapEq.rfl' | exact RowsEq.rfl')),
 trivial⟩,
 ⟨⟨⟨rfl,
 (by (try dsimp only at *); (have e : x1.id ∈ ids x1.l := (by simp_all); have e2 := (posOf_lt e).1; have e3 := putBase_length_le x1.l x1.id x1.key; have e4 := put_lens x1.l x1.id x1.key; have e5 := (putBase_lens x1.l x1.id x1.key).1 e; have e6 := (posOf_lt (put_in (lt := lts) x1.l x1.id x1.key)).1; (try simp only [posD_if e, posD_if (put_in x1.l x1.id x1.key), Int.toNat_natCast, Nat.zero_add, put_fin] at *); first | omega | exact put_rowsOs e | exact put_mapO h2.1 e | exact MapEq.rfl' | exact RowsEq.rfl'))⟩,
 trivial,
 trivial⟩,
 ⟨⟨(by (try dsimp only at *); (have e : x1.id ∈ ids x1.l := (by simp_all); have e2 := (posOf_lt e).1; have e3 := putBase_length_le x1.l x1.id x1.key; have e4 := put_lens x1.l x1.id x1.key; have e5 := (putBase_lens x1.l x1.id x1.key).1 e; have e6 := (posOf_lt (put_in (lt := lts) x1.l x1.id x1.key)).1; (try simp only [posD_if e, posD_if (put_in x1.l x1.id x1.key), Int.toNat_natCast, Nat.zero_add, put_fin] at *); first | omega | exact put_rowsOs e | exact put_mapO h2.1 e | exact MapEq.rfl' | exact RowsEq.rfl'))⟩,
 (by (try dsimp only at *); (have e : x1.id ∈ ids x1.l := (by simp_all); have e2 := (posOf_lt e).1; have e3 := putBase_length_le x1.l x1.id x1.key; have e4 := put_lens x1.l x1.id x1.key; have e5 := (putBase_lens x1.l x1.id x1.key).1 e; have e6 := (posOf_lt (put_in (lt := lts) x1.l x1.id x1.key)).1; (try simp only [posD_if e, posD_if (put_in x1.l x1.id x1.key), Int.toNat_natCast, Nat.zero_add, put_fin] at *); first | omega | exact put_rowsOs e | exact put_mapO h2.1 e | exact MapEq.rfl' | exact RowsEq.rfl'))⟩,
 (by (try dsimp only at *); (have e : x1.id ∈ ids x1.l := (by simp_all); have e2 := (posOf_lt e).1; have e3 := putBase_length_le x1.l x1.id x1.key; have e4 := put_lens x1.l x1.id x1.key; have e5 := (putBase_lens x1.l x1.id x1.key).1 e; have e6 := (posOf_lt (put_in (lt := lts) x1.l x1.id x1.key)).1; (try simp only [posD_if e, posD_if (put_in x1.l x1.id x1.key), Int.toNat_natCast, Nat.zero_add, put_fin] at *); first | omega | exact put_rowsOs e | exact put_mapO h2.1 e | exact MapEq.rfl' | exact RowsEq.rfl')),
 trivial⟩,
 ({ l := upF lts (putBase (LKs.l x1) (LKs.id x1) (LKs.key x1)) (putAt (LKs.l x1) (LKs.id x1)), i := (↑(posOf (upF lts (putBase (LKs.l x1) (LKs.id x1) (LKs.key x1)) (putAt (LKs.l x1) (LKs.id x1))) (LKs.id x1)) : Int) : LIs }),
 (by (try dsimp only at *); (obtain ⟨p1, p2⟩ := h2; first | omega | exact put_ok1s p1 p2 _ _ | exact put_ok2s p1 p2 _ _)),
 ⟨⟨rfl,
 rfl⟩,
 (by (try dsimp only at *); (simp only [Int.toNat_natCast]; exact posD_if (put_in x1.l x1.id x1.key))),
 trivial⟩,
 ⟨⟨⟨rfl,
 (by (try dsimp only at *); (have e : x1.id ∈ ids x1.l := (by simp_all); have e2 := (posOf_lt e).1; have e3 := putBase_length_le x1.l x1.id x1.key; have e4 := put_lens x1.l x1.id x1.key; have e5 := (putBase_lens x1.l x1.id x1.key).1 e; have e6 := (posOf_lt (put_in (lt := lts) x1.l x1.id x1.key)).1; (try simp only [posD_if e, posD_if (put_in x1.l x1.id x1.key), Int.toNat_natCast, Nat.zero_add, put_fin] at *); first | omega | exact put_rowsOs e | exact put_mapO h2.1 e | exact MapEq.rfl' | exact RowsEq.rfl'))⟩,
 trivial,
 trivial⟩,
 ⟨⟨(by (try dsimp only at *); grind)⟩,
 (by (try dsimp only at *); exact RowsEq.rfl')⟩,
 (by (try dsimp only at *); exact MapEq.rfl'),
 trivial⟩,
 trivial,
 ⟨⟨rfl,
 (by (try dsimp only at *); (have e : x1.id ∈ ids x1.l := (by simp_all); have e2 := (posOf_lt e).1; have e3 := putBase_length_le x1.l x1.id x1.key; have e4 := put_lens x1.l x1.id x1.key; have e5 := (putBase_lens x1.l x1.id x1.key).1 e; have e6 := (posOf_lt (put_in (lt := lts) x1.l x1.id x1.key)).1; (try simp only [posD_if e, posD_if (put_in x1.l x1.id x1.key), Int.toNat_natCast, Nat.zero_add, put_fin] at *); first | omega | exact put_rowsOs e | exact put_mapO h2.1 e | exact MapEq.rfl' | exact RowsEq.rfl'))⟩,
 trivial,
 trivial⟩,
 ⟨⟨(by (try dsimp only at *); (have e : x1.id ∈ ids x1.l := (by simp_all); have e2 := (posOf_lt e).1; have e3 := putBase_length_le x1.l x1.id x1.key; have e4 := put_lens x1.l x1.id x1.key; have e5 := (putBase_lens x1.l x1.id x1.key).1 e; have e6 := (posOf_lt (put_in (lt := lts) x1.l x1.id x1.key)).1; (try simp only [posD_if e, posD_if (put_in x1.l x1.id x1.key), Int.toNat_natCast, Nat.zero_add, put_fin] at *); first | omega | exact put_rowsOs e | exact put_mapO h2.1 e | exact MapEq.rfl' | exact RowsEq.rfl'))⟩,
 (by (try dsimp only at *); (have e : x1.id ∈ ids x1.l := (by simp_all); have e2 := (posOf_lt e).1; have e3 := putBase_length_le x1.l x1.id x1.key; have e4 := put_lens x1.l x1.id x1.key; have e5 := (putBase_lens x1.l x1.id x1.key).1 e; have e6 := (posOf_lt (put_in (lt := lts) x1.l x1.id x1.key)).1; (try simp only [posD_if e, posD_if (put_in x1.l x1.id x1.key), Int.toNat_natCast, Nat.zero_add, put_fin] at *); first | omega | exact put_rowsOs e | exact put_mapO h2.1 e | exact MapEq.rfl' | exact RowsEq.rfl'))⟩,
 trivial,
 (by (try dsimp only at *); (have e : x1.id ∈ ids x1.l := (by simp_all); have e2 := (posOf_lt e).1; have e3 := putBase_length_le x1.l x1.id x1.key; have e4 := put_lens x1.l x1.id x1.key; have e5 := (putBase_lens x1.l x1.id x1.key).1 e; have e6 := (posOf_lt (put_in (lt := lts) x1.l x1.id x1.key)).1; (try simp only [posD_if e, posD_if (put_in x1.l x1.id x1.key), Int.toNat_natCast, Nat.zero_add, put_fin] at *); first | omega | exact put_rowsOs e | exact put_mapO h2.1 e | exact MapEq.rfl' | exact RowsEq.rfl')),
 trivial⟩⟩)

theorem puts_good : Good Try.prog 19 putsC ∧ FnOk Try.prog 19 := good_of (c := ⟨T, [], C3s, noInv, 8⟩) tok (ConL.ok con3s) (fn := Try.f19) rfl (by decide +kernel) (fun _ => rfl) puts_keeps

end Go.Sym
