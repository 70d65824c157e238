/- law03: HeapKeyLookup, HeapMatchesModel: the walks. -/
import Derived.Test.YtofigelofojjlaaW1
import Derived.Test.YtofigelofojjlaaXD
namespace Go.Sym
set_option linter.unusedVariables false
set_option linter.unusedSimpArgs false
open Go.Proofs
def k1 : List Kd := [.int .i64]
def Cl : List (Nat × Con) := [(9, .one wakesC), (10, .one madeC), (24, .one keyiC), (12, .one rkeyC), (15, .one leniC), (16, .one newiC), (17, .one putiC), (20, .one rputC), (11, .one popiC), (21, .one topC), (14, .one rdropC), (25, .one remiC), (26, .one sameC), (13, .one aheadC)]
theorem conl : ConL Try.prog Cl := .cons (ConL.one wakes_good) (.cons (ConL.one made_good) (.cons (ConL.one keyi_good) (.cons (ConL.one rkey_good) (.cons (ConL.one leni_good) (.cons (ConL.one newi_good) (.cons (ConL.one puti_good) (.cons (ConL.one rput_good) (.cons (ConL.one popi_good) (.cons (ConL.one top_good) (.cons (ConL.one rdrop_good) (.cons (ConL.one remi_good) (.cons (ConL.one same_good) (.cons (ConL.one ahead_good) .nil)))))))))))))
structure LookX where
  l : List Act
  n : List Int
def lookC : CT where
  X := LookX
  pre := fun _ => True
  args := fun x => [.sl 100000 0 x.l.length, .sl 100001 0 x.n.length]
  g0 := fun x => [(100000, .rows .bor kA x.l.length (encL encAct x.l)), (100001, .rows .bor k1 x.n.length (encL encI x.n))]
  res := fun _ => .b true
  g1 := fun _ => []
def lookI (x : LookX) (id : Nat) : Option Inv := match id with
  | 0 => some { X := Nat, ok := fun k => k ≤ x.n.length, fr := fun k => [(30, .i .i64 k)], hp := fun k => [], me := fun k => x.n.length - k }
  | _ => none
set_option maxRecDepth 100000 in
theorem look_keeps : Keeps ⟨T, [], Cl, noInv, 13⟩ Try.f6 lookC lookI := Eq.mp (show ((∀ x1 : LookX,
 ((True) →
 (∃ x3 : Unit,
 ((True) ∧
 ((True) ∧
 ((True) ∧
 (((false = true) →
 ((false = true) ∧
 (True))) ∧
 ((false = false) →
 (((decide ((100 : Int) < (↑(List.length (LookX.l x1)) : Int)) = false) →
 (((decide ((50 : Int) < (↑(List.length (LookX.n x1)) : Int)) = true) →
 ((true = true) ∧
 (True))) ∧
 ((decide ((50 : Int) < (↑(List.length (LookX.n x1)) : Int)) = false) →
 (∃ x9 : List Act,
 ((List.length x9 ≤ (100 : Nat)) ∧
 (((((0 : Nat) = (0 : Nat)) ∧
 (List.length (LookX.l x1) = List.length x9)) ∧
 (True)) ∧
 ((((RLe (List.length x9) (List.length (LookX.l x1))) ∧
 (RowsEq (Kd.int IntKind.u8 :: Kd.int IntKind.i64 :: Kd.int IntKind.i64 :: @List.nil Kd) (List.length x9) (encL encAct (LookX.l x1)) (encL encAct x9))) ∧
 (True)) ∧
 (∃ x10 : Nat,
 (((x10 ≤ List.length (LookX.n x1)) ∧
 ((((0 : Int) = (↑x10 : Int)) ∧
 (((↑(List.length (LookX.n x1)) : Int) = (↑(List.length (LookX.n x1)) : Int)) ∧
 ((((0 : Nat) = (0 : Nat)) ∧
 (List.length (LookX.n x1) = List.length (LookX.n x1))) ∧
 ((((0 : Nat) = (0 : Nat)) ∧
 (List.length (xK x9 (List.length x9)) = List.length (xK x9 (List.length x9)))) ∧
 ((((0 : Nat) = (0 : Nat)) ∧
 ((0 : Nat) = (0 : Nat))) ∧
 ((((0 : Nat) = (0 : Nat)) ∧
 (List.length (LookX.l x1) = List.length (LookX.l x1))) ∧
 ((((0 : Nat) = (0 : Nat)) ∧
 (List.length (LookX.n x1) = List.length (LookX.n x1))) ∧
 (True)))))))) ∧
 (((((0 : Nat) = (0 : Nat)) ∧
 (List.length (hK x9 (List.length x9)) = List.length (hK x9 (List.length x9)))) ∧
 ((True) ∧
 (True))) ∧
 (((RLe (List.length (hK x9 (List.length x9))) (List.length (hK x9 (List.length x9)))) ∧
 (RowsEq (Kd.int IntKind.i64 :: Kd.int IntKind.i64 :: @List.nil Kd) (List.length (hK x9 (List.length x9))) (encL encEi (hK x9 (List.length x9))) (encL encEi (hK x9 (List.length x9))))) ∧
 ((MapEq (Kd.int IntKind.i64 :: @List.nil Kd) (ids (hK x9 (List.length x9))) (ids (hK x9 (List.length x9))) (posD (hK x9 (List.length x9))) (posD (hK x9 (List.length x9)))) ∧
 (((RLe (List.length (xK x9 (List.length x9))) (List.length (xK x9 (List.length x9)))) ∧
 (RowsEq (Kd.int IntKind.i64 :: Kd.int IntKind.i64 :: @List.nil Kd) (List.length (xK x9 (List.length x9))) (encL encEi (xK x9 (List.length x9))) (encL encEi (xK x9 (List.length x9))))) ∧
 (((RLe (List.length (LookX.l x1)) (List.length (LookX.l x1))) ∧
 (RowsEq (Kd.int IntKind.u8 :: Kd.int IntKind.i64 :: Kd.int IntKind.i64 :: @List.nil Kd) (List.length (LookX.l x1)) (encL encAct (LookX.l x1)) (encL encAct (LookX.l x1)))) ∧
 (((RLe (List.length (LookX.n x1)) (List.length (LookX.n x1))) ∧
 (RowsEq (Kd.int IntKind.i64 :: @List.nil Kd) (List.length (LookX.n x1)) (encL encI (LookX.n x1)) (encL encI (LookX.n x1)))) ∧
 (True))))))))) ∧
 (∀ x11 : Nat,
 ((x11 ≤ List.length (LookX.n x1)) →
 (((decide ((↑x11 : Int) < (↑(List.length (LookX.n x1)) : Int)) = true) →
 ((((0 : Int) ≤ (↑x11 : Int)) ∧
 ((↑x11 : Int) < (↑(List.length (LookX.n x1)) : Int))) ∧
 (((0 : Nat) + Int.toNat (↑x11 : Int) < List.length (LookX.n x1)) ∧
 (∃ x14 : LKi,
 ((True) ∧
 (((((0 : Nat) = (0 : Nat)) ∧
 ((0 : Nat) = (0 : Nat))) ∧
 ((List.getD (LookX.n x1) ((0 : Nat) + Int.toNat (↑x11 : Int)) default = LKi.id x14) ∧
 (True))) ∧
 ((((((0 : Nat) = (0 : Nat)) ∧
 (List.length (hK x9 (List.length x9)) = List.length (LKi.l x14))) ∧
 ((True) ∧
 (True))) ∧
 (((RLe (List.length (LKi.l x14)) (List.length (hK x9 (List.length x9)))) ∧
 (RowsEq (Kd.int IntKind.i64 :: Kd.int IntKind.i64 :: @List.nil Kd) (List.length (LKi.l x14)) (encL encEi (hK x9 (List.length x9))) (encL encEi (LKi.l x14)))) ∧
 ((MapEq (Kd.int IntKind.i64 :: @List.nil Kd) (ids (hK x9 (List.length x9))) (ids (LKi.l x14)) (posD (hK x9 (List.length x9))) (posD (LKi.l x14))) ∧
 (True)))) ∧
 (∃ x15 : LKi,
 ((List.length (LKi.l x15) ≤ (1000000 : Nat)) ∧
 (((((0 : Nat) = (0 : Nat)) ∧
 (List.length (xK x9 (List.length x9)) = List.length (LKi.l x15))) ∧
 ((List.getD (LookX.n x1) ((0 : Nat) + Int.toNat (↑x11 : Int)) default = LKi.id x15) ∧
 (True))) ∧
 ((((RLe (List.length (LKi.l x15)) (List.length (xK x9 (List.length x9)))) ∧
 (RowsEq (Kd.int IntKind.i64 :: Kd.int IntKind.i64 :: @List.nil Kd) (List.length (LKi.l x15)) (encL encEi (xK x9 (List.length x9))) (encL encEi (LKi.l x15)))) ∧
 (True)) ∧
 (((decide (keyOfi (LKi.l x14) (LKi.id x14) ≠ keyOfi (LKi.l x15) (LKi.id x15)) = false) →
 ((((decide (LKi.id x14 ∈ ids (LKi.l x14)) != decide (LKi.id x15 ∈ ids (LKi.l x15))) = true) →
 ((false = true) ∧
 (True))) ∧
 (((decide (LKi.id x14 ∈ ids (LKi.l x14)) != decide (LKi.id x15 ∈ ids (LKi.l x15))) = false) →
 ((((-9223372036854775808 : Int) ≤ (↑x11 : Int) + (1 : Int)) ∧
 ((↑x11 : Int) + (1 : Int) ≤ (9223372036854775807 : Int))) ∧
 (∃ x19 : Nat,
 ((List.length (LookX.n x1) - x19 < List.length (LookX.n x1) - x11) ∧
 ((x19 ≤ List.length (LookX.n x1)) ∧
 ((((↑x11 : Int) + (1 : Int) = (↑x19 : Int)) ∧
 (((↑(List.length (LookX.n x1)) : Int) = (↑(List.length (LookX.n x1)) : Int)) ∧
 ((((0 : Nat) = (0 : Nat)) ∧
 (List.length (LookX.n x1) = List.length (LookX.n x1))) ∧
 ((((0 : Nat) = (0 : Nat)) ∧
 (List.length (xK x9 (List.length x9)) = List.length (xK x9 (List.length x9)))) ∧
 ((((0 : Nat) = (0 : Nat)) ∧
 ((0 : Nat) = (0 : Nat))) ∧
 ((((0 : Nat) = (0 : Nat)) ∧
 (List.length (LookX.l x1) = List.length (LookX.l x1))) ∧
 ((((0 : Nat) = (0 : Nat)) ∧
 (List.length (LookX.n x1) = List.length (LookX.n x1))) ∧
 (True)))))))) ∧
 (((((0 : Nat) = (0 : Nat)) ∧
 (List.length (hK x9 (List.length x9)) = List.length (hK x9 (List.length x9)))) ∧
 ((True) ∧
 (True))) ∧
 (((RLe (List.length (hK x9 (List.length x9))) (List.length (hK x9 (List.length x9)))) ∧
 (RowsEq (Kd.int IntKind.i64 :: Kd.int IntKind.i64 :: @List.nil Kd) (List.length (hK x9 (List.length x9))) (encL encEi (hK x9 (List.length x9))) (encL encEi (hK x9 (List.length x9))))) ∧
 ((MapEq (Kd.int IntKind.i64 :: @List.nil Kd) (ids (hK x9 (List.length x9))) (ids (hK x9 (List.length x9))) (posD (hK x9 (List.length x9))) (posD (hK x9 (List.length x9)))) ∧
 (((RLe (List.length (xK x9 (List.length x9))) (List.length (xK x9 (List.length x9)))) ∧
 (RowsEq (Kd.int IntKind.i64 :: Kd.int IntKind.i64 :: @List.nil Kd) (List.length (xK x9 (List.length x9))) (encL encEi (xK x9 (List.length x9))) (encL encEi (xK x9 (List.length x9))))) ∧
 (((RLe (List.length (LookX.l x1)) (List.length (LookX.l x1))) ∧
 (RowsEq (Kd.int IntKind.u8 :: Kd.int IntKind.i64 :: Kd.int IntKind.i64 :: @List.nil Kd) (List.length (LookX.l x1)) (encL encAct (LookX.l x1)) (encL encAct (LookX.l x1)))) ∧
 (((RLe (List.length (LookX.n x1)) (List.length (LookX.n x1))) ∧
 (RowsEq (Kd.int IntKind.i64 :: @List.nil Kd) (List.length (LookX.n x1)) (encL encI (LookX.n x1)) (encL encI (LookX.n x1)))) ∧
 (True))))))))))))))) ∧
 ((decide (keyOfi (LKi.l x14) (LKi.id x14) ≠ keyOfi (LKi.l x15) (LKi.id x15)) = true) →
 ((false = true) ∧
 (True))))))))))))))) ∧
 ((decide ((↑x11 : Int) < (↑(List.length (LookX.n x1)) : Int)) = false) →
 (∃ x22 : List (El Int),
 ((True) ∧
 (((((0 : Nat) = (0 : Nat)) ∧
 ((0 : Nat) = (0 : Nat))) ∧
 (True)) ∧
 ((((((0 : Nat) = (0 : Nat)) ∧
 (List.length (hK x9 (List.length x9)) = List.length x22)) ∧
 ((True) ∧
 (True))) ∧
 (((RLe (List.length x22) (List.length (hK x9 (List.length x9)))) ∧
 (RowsEq (Kd.int IntKind.i64 :: Kd.int IntKind.i64 :: @List.nil Kd) (List.length x22) (encL encEi (hK x9 (List.length x9))) (encL encEi x22))) ∧
 ((MapEq (Kd.int IntKind.i64 :: @List.nil Kd) (ids (hK x9 (List.length x9))) (ids x22) (posD (hK x9 (List.length x9))) (posD x22)) ∧
 (True)))) ∧
 ((decide ((↑(List.length x22) : Int) = (↑(List.length (xK x9 (List.length x9))) : Int)) = true) ∧
 (True))))))))))))))))))) ∧
 ((decide ((100 : Int) < (↑(List.length (LookX.l x1)) : Int)) = true) →
 ((true = true) ∧
 (True))))))))))))) = Keeps ⟨T, [], Cl, noInv, 13⟩ Try.f6 lookC lookI by kernel_rfl) (fun x1 => fun h2 => ⟨(default),
 trivial,
 trivial,
 trivial,
 fun h4 => ⟨(by (try dsimp only at *); omega),
 trivial⟩,
 fun h5 => ⟨fun g6 => have h6 := of_decide_eq_false g6; ⟨fun g7 => have h7 := of_decide_eq_true g7; ⟨rfl,
 trivial⟩,
 fun g8 => have h8 := of_decide_eq_false g8; ⟨(LookX.l x1),
 (by (try dsimp only at *); omega),
 ⟨⟨rfl,
 rfl⟩,
 trivial⟩,
 ⟨⟨⟨Nat.le_refl _⟩,
 RowsEq.rfl'⟩,
 trivial⟩,
 ((0 : Nat)),
 ⟨(by (try dsimp only at *); omega),
 ⟨(by (try dsimp only at *); omega),
 rfl,
 ⟨rfl,
 rfl⟩,
 ⟨rfl,
 rfl⟩,
 ⟨rfl,
 rfl⟩,
 ⟨rfl,
 rfl⟩,
 ⟨rfl,
 rfl⟩,
 trivial⟩,
 ⟨⟨rfl,
 rfl⟩,
 trivial,
 trivial⟩,
 ⟨⟨Nat.le_refl _⟩,
 RowsEq.rfl'⟩,
 MapEq.rfl',
 ⟨⟨Nat.le_refl _⟩,
 RowsEq.rfl'⟩,
 ⟨⟨Nat.le_refl _⟩,
 RowsEq.rfl'⟩,
 ⟨⟨Nat.le_refl _⟩,
 RowsEq.rfl'⟩,
 trivial⟩,
 fun x11 => fun h12 => ⟨fun g13 => have h13 := of_decide_eq_true g13; ⟨⟨(by (try dsimp only at *); omega),
 (by (try dsimp only at *); omega)⟩,
 (by (try dsimp only at *); omega),
 ({ l := hK (LookX.l x1) (List.length (LookX.l x1)), id := List.getD (LookX.n x1) ((0 : Nat) + Int.toNat (↑x11 : Int)) default, key := default : LKi }),
 trivial,
 ⟨⟨rfl,
 rfl⟩,
 rfl,
 trivial⟩,
 ⟨⟨⟨rfl,
 rfl⟩,
 trivial,
 trivial⟩,
 ⟨⟨Nat.le_refl _⟩,
 RowsEq.rfl'⟩,
 (by (try dsimp only at *); exact MapEq.rfl'),
 trivial⟩,
 ({ l := xK (LookX.l x1) (List.length (LookX.l x1)), id := List.getD (LookX.n x1) ((0 : Nat) + Int.toNat (↑x11 : Int)) default, key := default : LKi }),
 (by (try dsimp only at *); (have ht := twinK x1.l x1.l.length (Nat.le_refl _); have a1 := ht.1.len; have a3 := ht.1.mem; have a4 := ht.1.key; first | omega | (simp_all; done) | (exfalso; simp_all; done))),
 ⟨⟨rfl,
 rfl⟩,
 rfl,
 trivial⟩,
 ⟨⟨⟨Nat.le_refl _⟩,
 RowsEq.rfl'⟩,
 trivial⟩,
 fun g16 => have h16 := of_decide_eq_false g16; ⟨fun h17 => ⟨(by (try dsimp only at *); (have ht := twinK x1.l x1.l.length (Nat.le_refl _); have a1 := ht.1.len; have a3 := ht.1.mem; have a4 := ht.1.key; first | omega | (simp_all; done) | (exfalso; simp_all; done))),
 trivial⟩,
 fun h18 => ⟨⟨(by (try dsimp only at *); omega),
 (by (try dsimp only at *); omega)⟩,
 (x11 + (1 : Nat)),
 (by (try dsimp only at *); omega),
 (by (try dsimp only at *); omega),
 ⟨(by (try dsimp only at *); omega),
 rfl,
 ⟨rfl,
 rfl⟩,
 ⟨rfl,
 rfl⟩,
 ⟨rfl,
 rfl⟩,
 ⟨rfl,
 rfl⟩,
 ⟨rfl,
 rfl⟩,
 trivial⟩,
 ⟨⟨rfl,
 rfl⟩,
 trivial,
 trivial⟩,
 ⟨⟨Nat.le_refl _⟩,
 RowsEq.rfl'⟩,
 MapEq.rfl',
 ⟨⟨Nat.le_refl _⟩,
 RowsEq.rfl'⟩,
 ⟨⟨Nat.le_refl _⟩,
 RowsEq.rfl'⟩,
 ⟨⟨Nat.le_refl _⟩,
 RowsEq.rfl'⟩,
 trivial⟩⟩,
 fun g20 => have h20 := of_decide_eq_true g20; ⟨(by (try dsimp only at *); (have ht := twinK x1.l x1.l.length (Nat.le_refl _); have a1 := ht.1.len; have a3 := ht.1.mem; have a4 := ht.1.key; first | omega | (simp_all; done) | (exfalso; simp_all; done))),
 trivial⟩⟩,
 fun g21 => have h21 := of_decide_eq_false g21; ⟨(hK (LookX.l x1) (List.length (LookX.l x1))),
 trivial,
 ⟨⟨rfl,
 rfl⟩,
 trivial⟩,
 ⟨⟨⟨rfl,
 rfl⟩,
 trivial,
 trivial⟩,
 ⟨⟨Nat.le_refl _⟩,
 RowsEq.rfl'⟩,
 MapEq.rfl',
 trivial⟩,
 (by (try dsimp only at *); (have ht := twinK x1.l x1.l.length (Nat.le_refl _); have a1 := ht.1.len; have a3 := ht.1.mem; have a4 := ht.1.key; first | omega | (simp_all; done) | (exfalso; simp_all; done))),
 trivial⟩⟩⟩⟩,
 fun g23 => have h23 := of_decide_eq_true g23; ⟨rfl,
 trivial⟩⟩⟩)

theorem look_good : Good Try.prog 6 lookC ∧ FnOk Try.prog 6 := good_of (c := ⟨T, [], Cl, noInv, 13⟩) tok (ConL.ok conl) (fn := Try.f6) rfl (by decide +kernel) (fun _ => rfl) look_keeps
/-! Any sequence of operations. -/
def stepM (s : List Line × List Line) (a : Act) : List Line × List Line :=
  if a.kind % 3 = 0 then (putF lti s.1 a.id a.key, putBase s.2 a.id a.key)
  else if a.kind % 3 = 1 then (popF lti s.1, dropI s.2 (topK s.2 s.2.length).id)
  else (delFi s.1 a.id, dropI s.2 a.id)
def playM (l : List Act) (k : Nat) : List Line × List Line := (l.take k).foldl stepM ([], [])
theorem playM_succ {l : List Act} {k : Nat} (h : k < l.length) : playM l (k + 1) = stepM (playM l k) (l.getD k default) := by
  unfold playM; rw [take_succ_getD (d := default) h, List.foldl_append]; rfl
theorem dropI_nil (id : Int) : dropI [] id = [] := by unfold dropI; split <;> simp
theorem twinM_step {s : List Line × List Line} (t : Twin s.1 s.2) (a : Act) : Twin (stepM s a).1 (stepM s a).2 ∧ (stepM s a).1.length ≤ s.1.length + 1 := by
  unfold stepM
  split
  · have h := t.put a.id a.key
    refine ⟨h, ?_⟩
    have e1 := (putF_perm lti s.1 a.id a.key).length_eq
    have e2 := putBase_length_le s.1 a.id a.key
    dsimp only
    omega
  · split
    · dsimp only
      rw [popF_len]
      refine ⟨?_, by omega⟩
      by_cases h0 : s.1.length = 0
      · have e1 := List.length_eq_zero_iff.1 h0
        have e2 := List.length_eq_zero_iff.1 (t.len.symm.trans h0)
        rw [e2, dropI_nil]
        rw [e1]
        have : popF lti ([] : List Line) = [] := popF_nili rfl
        rw [this]
        exact Twin.nil
      · have := t.pop h0
        rw [t.top] at this
        exact this
    · have h := t.del a.id
      refine ⟨h, ?_⟩
      have e := (delF_wo t.n a.id).length_eq
      have e2 : (wo s.1 a.id).length ≤ s.1.length := List.length_filter_le _ _
      dsimp only
      omega
theorem twinM (l : List Act) : ∀ k : Nat, k ≤ l.length → Twin (playM l k).1 (playM l k).2 ∧ (playM l k).1.length ≤ k
  | 0, _ => ⟨Twin.nil, Nat.le_refl _⟩
  | k + 1, hk => by
    obtain ⟨h1, h2⟩ := twinM l k (by omega)
    rw [playM_succ (by omega)]
    obtain ⟨h3, h4⟩ := twinM_step h1 (l.getD k default)
    exact ⟨h3, by omega⟩
def modelC : CT where
  X := List Act
  pre := fun l => ∀ k, k < l.length → 0 ≤ (l.getD k default).kind
  args := fun l => [.sl 100000 0 l.length]
  g0 := fun l => [(100000, .rows .bor kA l.length (encL encAct l))]
  res := fun _ => .b true
  g1 := fun _ => []
def modelI (l : List Act) (id : Nat) : Option Inv := match id with
  | 0 => some { X := Nat, ok := fun k => k ≤ l.length, fr := fun k => [(22, .i .i64 k), (3, .p 1 0 0), (4, .sl 4 0 (playM l k).2.length)], hp := fun k => heapL 1 2 3 (playM l k).1 ++ [refB 4 (playM l k).2], me := fun k => l.length - k }
  | _ => none
theorem stepM_put {s : List Line × List Line} {a : Act} (h : a.kind % 3 = 0) : stepM s a = (putF lti s.1 a.id a.key, putBase s.2 a.id a.key) := by unfold stepM; rw [if_pos h]
theorem stepM_pop {s : List Line × List Line} {a : Act} (h0 : ¬ a.kind % 3 = 0) (h : a.kind % 3 = 1) : stepM s a = (popF lti s.1, dropI s.2 (topK s.2 s.2.length).id) := by unfold stepM; rw [if_neg h0, if_pos h]
theorem stepM_del {s : List Line × List Line} {a : Act} (h0 : ¬ a.kind % 3 = 0) (h : ¬ a.kind % 3 = 1) : stepM s a = (delFi s.1 a.id, dropI s.2 a.id) := by unfold stepM; rw [if_neg h0, if_neg h]
set_option maxHeartbeats 1000000 in
set_option maxRecDepth 100000 in
theorem model_keeps : Keeps ⟨T, [], Cl, noInv, 14⟩ Try.f7 modelC modelI := Eq.mp (show ((∀ x1 : List Act,
 ((∀ (k : Nat), k < List.length x1 → (0 : Int) ≤ Act.kind (List.getD x1 k default)) →
 (∃ x3 : Unit,
 ((True) ∧
 ((True) ∧
 ((True) ∧
 (((false = true) →
 ((false = true) ∧
 (True))) ∧
 ((false = false) →
 (((decide ((100 : Int) < (↑(List.length x1) : Int)) = true) →
 ((true = true) ∧
 (True))) ∧
 ((decide ((100 : Int) < (↑(List.length x1) : Int)) = false) →
 (∃ x8 : Unit,
 ((True) ∧
 ((True) ∧
 ((True) ∧
 (∃ x9 : Nat,
 (((x9 ≤ List.length x1) ∧
 ((((0 : Int) = (↑x9 : Int)) ∧
 ((((0 : Nat) = (0 : Nat)) ∧
 ((0 : Nat) = (0 : Nat))) ∧
 (((True) ∧
 (((0 : Nat) = (0 : Nat)) ∧
 (List.length (Prod.snd (playM x1 x9)) = (0 : Nat)))) ∧
 (((↑(List.length x1) : Int) = (↑(List.length x1) : Int)) ∧
 ((((0 : Nat) = (0 : Nat)) ∧
 (List.length x1 = List.length x1)) ∧
 ((((0 : Nat) = (0 : Nat)) ∧
 (List.length x1 = List.length x1)) ∧
 (True))))))) ∧
 (((((0 : Nat) = (0 : Nat)) ∧
 ((0 : Nat) = List.length (Prod.fst (playM x1 x9)))) ∧
 ((True) ∧
 (True))) ∧
 (((RLe (List.length (Prod.fst (playM x1 x9))) (0 : Nat)) ∧
 (RowsEq (Kd.int IntKind.i64 :: Kd.int IntKind.i64 :: @List.nil Kd) (List.length (Prod.fst (playM x1 x9))) (encL encEi (@List.nil (El Int))) (encL encEi (Prod.fst (playM x1 x9))))) ∧
 ((MapEq (Kd.int IntKind.i64 :: @List.nil Kd) (@List.nil Int) (ids (Prod.fst (playM x1 x9))) (posD (@List.nil (El Int))) (posD (Prod.fst (playM x1 x9)))) ∧
 ((List.length (Prod.snd (playM x1 x9)) = (0 : Nat)) ∧
 (((RLe (List.length x1) (List.length x1)) ∧
 (RowsEq (Kd.int IntKind.u8 :: Kd.int IntKind.i64 :: Kd.int IntKind.i64 :: @List.nil Kd) (List.length x1) (encL encAct x1) (encL encAct x1))) ∧
 (True)))))))) ∧
 (∀ x10 : Nat,
 ((x10 ≤ List.length x1) →
 (((decide ((↑x10 : Int) < (↑(List.length x1) : Int)) = true) →
 ((((0 : Int) ≤ (↑x10 : Int)) ∧
 ((↑x10 : Int) < (↑(List.length x1) : Int))) ∧
 (((0 : Nat) + Int.toNat (↑x10 : Int) < List.length x1) ∧
 ((((0 : Int) ≤ Act.kind (List.getD x1 ((0 : Nat) + Int.toNat (↑x10 : Int)) default)) ∧
 ((0 : Int) < (3 : Int))) ∧
 (((decide (Act.kind (List.getD x1 ((0 : Nat) + Int.toNat (↑x10 : Int)) default) % (3 : Int) = (0 : Int)) = true) →
 (∃ x14 : LKi,
 (((List.Nodup (ids (LKi.l x14))) ∧
 (List.length (LKi.l x14) ≤ (999999 : Nat))) ∧
 (((((0 : Nat) = (0 : Nat)) ∧
 ((0 : Nat) = (0 : Nat))) ∧
 ((Act.id (List.getD x1 ((0 : Nat) + Int.toNat (↑x10 : Int)) default) = LKi.id x14) ∧
 ((Act.key (List.getD x1 ((0 : Nat) + Int.toNat (↑x10 : Int)) default) = LKi.key x14) ∧
 (True)))) ∧
 ((((((0 : Nat) = (0 : Nat)) ∧
 (List.length (Prod.fst (playM x1 x10)) = List.length (LKi.l x14))) ∧
 ((True) ∧
 (True))) ∧
 (((RLe (List.length (LKi.l x14)) (List.length (Prod.fst (playM x1 x10)))) ∧
 (RowsEq (Kd.int IntKind.i64 :: Kd.int IntKind.i64 :: @List.nil Kd) (List.length (LKi.l x14)) (encL encEi (Prod.fst (playM x1 x10))) (encL encEi (LKi.l x14)))) ∧
 ((MapEq (Kd.int IntKind.i64 :: @List.nil Kd) (ids (Prod.fst (playM x1 x10))) (ids (LKi.l x14)) (posD (Prod.fst (playM x1 x10))) (posD (LKi.l x14))) ∧
 (True)))) ∧
 (∃ x15 : LKi,
 ((List.length (LKi.l x15) ≤ (999999 : Nat)) ∧
 (((((0 : Nat) = (0 : Nat)) ∧
 (List.length (Prod.snd (playM x1 x10)) = List.length (LKi.l x15))) ∧
 ((Act.id (List.getD x1 ((0 : Nat) + Int.toNat (↑x10 : Int)) default) = LKi.id x15) ∧
 ((Act.key (List.getD x1 ((0 : Nat) + Int.toNat (↑x10 : Int)) default) = LKi.key x15) ∧
 (True)))) ∧
 ((((RLe (List.length (LKi.l x15)) (List.length (Prod.snd (playM x1 x10)))) ∧
 (RowsEq (Kd.int IntKind.i64 :: Kd.int IntKind.i64 :: @List.nil Kd) (List.length (LKi.l x15)) (encL encEi (Prod.snd (playM x1 x10))) (encL encEi (LKi.l x15)))) ∧
 (True)) ∧
 (∃ x16 : SameX,
 (((Twin (SameX.h x16) (SameX.x x16)) ∧
 (List.length (SameX.x x16) ≤ (1000000 : Nat))) ∧
 (((((0 : Nat) = (0 : Nat)) ∧
 ((0 : Nat) = (0 : Nat))) ∧
 ((((0 : Nat) = (0 : Nat)) ∧
 (List.length (putBase (LKi.l x15) (LKi.id x15) (LKi.key x15)) = List.length (SameX.x x16))) ∧
 ((Act.id (List.getD x1 ((0 : Nat) + Int.toNat (↑x10 : Int)) default) = SameX.id x16) ∧
 (True)))) ∧
 ((((((0 : Nat) = (0 : Nat)) ∧
 (List.length (putF lti (LKi.l x14) (LKi.id x14) (LKi.key x14)) = List.length (SameX.h x16))) ∧
 ((True) ∧
 (True))) ∧
 (((RLe (List.length (SameX.h x16)) (List.length (putF lti (LKi.l x14) (LKi.id x14) (LKi.key x14)))) ∧
 (RowsEq (Kd.int IntKind.i64 :: Kd.int IntKind.i64 :: @List.nil Kd) (List.length (SameX.h x16)) (encL encEi (putF lti (LKi.l x14) (LKi.id x14) (LKi.key x14))) (encL encEi (SameX.h x16)))) ∧
 ((MapEq (Kd.int IntKind.i64 :: @List.nil Kd) (ids (putF lti (LKi.l x14) (LKi.id x14) (LKi.key x14))) (ids (SameX.h x16)) (posD (putF lti (LKi.l x14) (LKi.id x14) (LKi.key x14))) (posD (SameX.h x16))) ∧
 (((RLe (List.length (SameX.x x16)) (List.length (putBase (LKi.l x15) (LKi.id x15) (LKi.key x15)))) ∧
 (RowsEq (Kd.int IntKind.i64 :: Kd.int IntKind.i64 :: @List.nil Kd) (List.length (SameX.x x16)) (encL encEi (putBase (LKi.l x15) (LKi.id x15) (LKi.key x15))) (encL encEi (SameX.x x16)))) ∧
 (True))))) ∧
 (((false = true) →
 ((false = true) ∧
 (True))) ∧
 ((false = false) →
 ((((-9223372036854775808 : Int) ≤ (↑x10 : Int) + (1 : Int)) ∧
 ((↑x10 : Int) + (1 : Int) ≤ (9223372036854775807 : Int))) ∧
 (∃ x19 : Nat,
 ((List.length x1 - x19 < List.length x1 - x10) ∧
 ((x19 ≤ List.length x1) ∧
 ((((↑x10 : Int) + (1 : Int) = (↑x19 : Int)) ∧
 ((((0 : Nat) = (0 : Nat)) ∧
 ((0 : Nat) = (0 : Nat))) ∧
 ((((0 : Nat) = (0 : Nat)) ∧
 (List.length (putBase (LKi.l x15) (LKi.id x15) (LKi.key x15)) = List.length (Prod.snd (playM x1 x19)))) ∧
 (((↑(List.length x1) : Int) = (↑(List.length x1) : Int)) ∧
 ((((0 : Nat) = (0 : Nat)) ∧
 (List.length x1 = List.length x1)) ∧
 ((((0 : Nat) = (0 : Nat)) ∧
 (List.length x1 = List.length x1)) ∧
 (True))))))) ∧
 (((((0 : Nat) = (0 : Nat)) ∧
 (List.length (putF lti (LKi.l x14) (LKi.id x14) (LKi.key x14)) = List.length (Prod.fst (playM x1 x19)))) ∧
 ((True) ∧
 (True))) ∧
 (((RLe (List.length (Prod.fst (playM x1 x19))) (List.length (putF lti (LKi.l x14) (LKi.id x14) (LKi.key x14)))) ∧
 (RowsEq (Kd.int IntKind.i64 :: Kd.int IntKind.i64 :: @List.nil Kd) (List.length (Prod.fst (playM x1 x19))) (encL encEi (putF lti (LKi.l x14) (LKi.id x14) (LKi.key x14))) (encL encEi (Prod.fst (playM x1 x19))))) ∧
 ((MapEq (Kd.int IntKind.i64 :: @List.nil Kd) (ids (putF lti (LKi.l x14) (LKi.id x14) (LKi.key x14))) (ids (Prod.fst (playM x1 x19))) (posD (putF lti (LKi.l x14) (LKi.id x14) (LKi.key x14))) (posD (Prod.fst (playM x1 x19)))) ∧
 (((RLe (List.length (Prod.snd (playM x1 x19))) (List.length (putBase (LKi.l x15) (LKi.id x15) (LKi.key x15)))) ∧
 (RowsEq (Kd.int IntKind.i64 :: Kd.int IntKind.i64 :: @List.nil Kd) (List.length (Prod.snd (playM x1 x19))) (encL encEi (putBase (LKi.l x15) (LKi.id x15) (LKi.key x15))) (encL encEi (Prod.snd (playM x1 x19))))) ∧
 (((RLe (List.length x1) (List.length x1)) ∧
 (RowsEq (Kd.int IntKind.u8 :: Kd.int IntKind.i64 :: Kd.int IntKind.i64 :: @List.nil Kd) (List.length x1) (encL encAct x1) (encL encAct x1))) ∧
 (True)))))))))))))))))))))))))) ∧
 ((decide (Act.kind (List.getD x1 ((0 : Nat) + Int.toNat (↑x10 : Int)) default) % (3 : Int) = (0 : Int)) = false) →
 (((decide (Act.kind (List.getD x1 ((0 : Nat) + Int.toNat (↑x10 : Int)) default) % (3 : Int) = (1 : Int)) = true) →
 (∃ x22 : List (El Int),
 (((List.Nodup (ids x22)) ∧
 (List.length x22 ≤ (1000000 : Nat))) ∧
 (((((0 : Nat) = (0 : Nat)) ∧
 ((0 : Nat) = (0 : Nat))) ∧
 (True)) ∧
 ((((((0 : Nat) = (0 : Nat)) ∧
 (List.length (Prod.fst (playM x1 x10)) = List.length x22)) ∧
 ((True) ∧
 (True))) ∧
 (((RLe (List.length x22) (List.length (Prod.fst (playM x1 x10)))) ∧
 (RowsEq (Kd.int IntKind.i64 :: Kd.int IntKind.i64 :: @List.nil Kd) (List.length x22) (encL encEi (Prod.fst (playM x1 x10))) (encL encEi x22))) ∧
 ((MapEq (Kd.int IntKind.i64 :: @List.nil Kd) (ids (Prod.fst (playM x1 x10))) (ids x22) (posD (Prod.fst (playM x1 x10))) (posD x22)) ∧
 (True)))) ∧
 (∃ x23 : List Line,
 ((List.length x23 ≤ (1000000 : Nat)) ∧
 (((((0 : Nat) = (0 : Nat)) ∧
 (List.length (Prod.snd (playM x1 x10)) = List.length x23)) ∧
 (True)) ∧
 ((((RLe (List.length x23) (List.length (Prod.snd (playM x1 x10)))) ∧
 (RowsEq (Kd.int IntKind.i64 :: Kd.int IntKind.i64 :: @List.nil Kd) (List.length x23) (encL encEi (Prod.snd (playM x1 x10))) (encL encEi x23))) ∧
 (True)) ∧
 (∃ x24 : LKi,
 ((List.length (LKi.l x24) ≤ (1000000 : Nat)) ∧
 (((((0 : Nat) = (0 : Nat)) ∧
 (List.length (Prod.snd (playM x1 x10)) = List.length (LKi.l x24))) ∧
 ((El.id (topK x23 (List.length x23)) = LKi.id x24) ∧
 (True))) ∧
 ((((RLe (List.length (LKi.l x24)) (List.length (Prod.snd (playM x1 x10)))) ∧
 (RowsEq (Kd.int IntKind.i64 :: Kd.int IntKind.i64 :: @List.nil Kd) (List.length (LKi.l x24)) (encL encEi (Prod.snd (playM x1 x10))) (encL encEi (LKi.l x24)))) ∧
 (True)) ∧
 (((decide (El.id (List.getD x22 (0 : Nat) default) ≠ El.id (topK x23 (List.length x23))) = false) →
 (((decide (El.key (List.getD x22 (0 : Nat) default) ≠ El.key (topK x23 (List.length x23))) = false) →
 ((((decide (List.length x22 ≠ (0 : Nat)) != decide (List.length x23 ≠ (0 : Nat))) = true) →
 ((false = true) ∧
 (True))) ∧
 (((decide (List.length x22 ≠ (0 : Nat)) != decide (List.length x23 ≠ (0 : Nat))) = false) →
 (∃ x29 : SameX,
 (((Twin (SameX.h x29) (SameX.x x29)) ∧
 (List.length (SameX.x x29) ≤ (1000000 : Nat))) ∧
 (((((0 : Nat) = (0 : Nat)) ∧
 ((0 : Nat) = (0 : Nat))) ∧
 ((((0 : Nat) = (0 : Nat)) ∧
 (List.length (dropI (LKi.l x24) (LKi.id x24)) = List.length (SameX.x x29))) ∧
 ((Act.id (List.getD x1 ((0 : Nat) + Int.toNat (↑x10 : Int)) default) = SameX.id x29) ∧
 (True)))) ∧
 ((((((0 : Nat) = (0 : Nat)) ∧
 (List.length (popF lti x22) = List.length (SameX.h x29))) ∧
 ((True) ∧
 (True))) ∧
 (((RLe (List.length (SameX.h x29)) (List.length (popF lti x22))) ∧
 (RowsEq (Kd.int IntKind.i64 :: Kd.int IntKind.i64 :: @List.nil Kd) (List.length (SameX.h x29)) (encL encEi (popF lti x22)) (encL encEi (SameX.h x29)))) ∧
 ((MapEq (Kd.int IntKind.i64 :: @List.nil Kd) (ids (popF lti x22)) (ids (SameX.h x29)) (posD (popF lti x22)) (posD (SameX.h x29))) ∧
 (((RLe (List.length (SameX.x x29)) (List.length (dropI (LKi.l x24) (LKi.id x24)))) ∧
 (RowsEq (Kd.int IntKind.i64 :: Kd.int IntKind.i64 :: @List.nil Kd) (List.length (SameX.x x29)) (encL encEi (dropI (LKi.l x24) (LKi.id x24))) (encL encEi (SameX.x x29)))) ∧
 (True))))) ∧
 (((false = true) →
 ((false = true) ∧
 (True))) ∧
 ((false = false) →
 ((((-9223372036854775808 : Int) ≤ (↑x10 : Int) + (1 : Int)) ∧
 ((↑x10 : Int) + (1 : Int) ≤ (9223372036854775807 : Int))) ∧
 (∃ x32 : Nat,
 ((List.length x1 - x32 < List.length x1 - x10) ∧
 ((x32 ≤ List.length x1) ∧
 ((((↑x10 : Int) + (1 : Int) = (↑x32 : Int)) ∧
 ((((0 : Nat) = (0 : Nat)) ∧
 ((0 : Nat) = (0 : Nat))) ∧
 ((((0 : Nat) = (0 : Nat)) ∧
 (List.length (dropI (LKi.l x24) (LKi.id x24)) = List.length (Prod.snd (playM x1 x32)))) ∧
 (((↑(List.length x1) : Int) = (↑(List.length x1) : Int)) ∧
 ((((0 : Nat) = (0 : Nat)) ∧
 (List.length x1 = List.length x1)) ∧
 ((((0 : Nat) = (0 : Nat)) ∧
 (List.length x1 = List.length x1)) ∧
 (True))))))) ∧
 (((((0 : Nat) = (0 : Nat)) ∧
 (List.length (popF lti x22) = List.length (Prod.fst (playM x1 x32)))) ∧
 ((True) ∧
 (True))) ∧
 (((RLe (List.length (Prod.fst (playM x1 x32))) (List.length (popF lti x22))) ∧
 (RowsEq (Kd.int IntKind.i64 :: Kd.int IntKind.i64 :: @List.nil Kd) (List.length (Prod.fst (playM x1 x32))) (encL encEi (popF lti x22)) (encL encEi (Prod.fst (playM x1 x32))))) ∧
 ((MapEq (Kd.int IntKind.i64 :: @List.nil Kd) (ids (popF lti x22)) (ids (Prod.fst (playM x1 x32))) (posD (popF lti x22)) (posD (Prod.fst (playM x1 x32)))) ∧
 (((RLe (List.length (Prod.snd (playM x1 x32))) (List.length (dropI (LKi.l x24) (LKi.id x24)))) ∧
 (RowsEq (Kd.int IntKind.i64 :: Kd.int IntKind.i64 :: @List.nil Kd) (List.length (Prod.snd (playM x1 x32))) (encL encEi (dropI (LKi.l x24) (LKi.id x24))) (encL encEi (Prod.snd (playM x1 x32))))) ∧
 (((RLe (List.length x1) (List.length x1)) ∧
 (RowsEq (Kd.int IntKind.u8 :: Kd.int IntKind.i64 :: Kd.int IntKind.i64 :: @List.nil Kd) (List.length x1) (encL encAct x1) (encL encAct x1))) ∧
 (True)))))))))))))))))))) ∧
 ((decide (El.key (List.getD x22 (0 : Nat) default) ≠ El.key (topK x23 (List.length x23))) = true) →
 ((false = true) ∧
 (True))))) ∧
 ((decide (El.id (List.getD x22 (0 : Nat) default) ≠ El.id (topK x23 (List.length x23))) = true) →
 ((false = true) ∧
 (True))))))))))))))))) ∧
 ((decide (Act.kind (List.getD x1 ((0 : Nat) + Int.toNat (↑x10 : Int)) default) % (3 : Int) = (1 : Int)) = false) →
 (∃ x36 : LKi,
 ((List.length (LKi.l x36) ≤ (1000000 : Nat)) ∧
 (((((0 : Nat) = (0 : Nat)) ∧
 (List.length (Prod.snd (playM x1 x10)) = List.length (LKi.l x36))) ∧
 ((Act.id (List.getD x1 ((0 : Nat) + Int.toNat (↑x10 : Int)) default) = LKi.id x36) ∧
 (True))) ∧
 ((((RLe (List.length (LKi.l x36)) (List.length (Prod.snd (playM x1 x10)))) ∧
 (RowsEq (Kd.int IntKind.i64 :: Kd.int IntKind.i64 :: @List.nil Kd) (List.length (LKi.l x36)) (encL encEi (Prod.snd (playM x1 x10))) (encL encEi (LKi.l x36)))) ∧
 (True)) ∧
 (∃ x37 : LKi,
 (((List.Nodup (ids (LKi.l x37))) ∧
 (List.length (LKi.l x37) ≤ (1000000 : Nat))) ∧
 (((((0 : Nat) = (0 : Nat)) ∧
 ((0 : Nat) = (0 : Nat))) ∧
 ((Act.id (List.getD x1 ((0 : Nat) + Int.toNat (↑x10 : Int)) default) = LKi.id x37) ∧
 (True))) ∧
 ((((((0 : Nat) = (0 : Nat)) ∧
 (List.length (Prod.fst (playM x1 x10)) = List.length (LKi.l x37))) ∧
 ((True) ∧
 (True))) ∧
 (((RLe (List.length (LKi.l x37)) (List.length (Prod.fst (playM x1 x10)))) ∧
 (RowsEq (Kd.int IntKind.i64 :: Kd.int IntKind.i64 :: @List.nil Kd) (List.length (LKi.l x37)) (encL encEi (Prod.fst (playM x1 x10))) (encL encEi (LKi.l x37)))) ∧
 ((MapEq (Kd.int IntKind.i64 :: @List.nil Kd) (ids (Prod.fst (playM x1 x10))) (ids (LKi.l x37)) (posD (Prod.fst (playM x1 x10))) (posD (LKi.l x37))) ∧
 (True)))) ∧
 ((((decide (LKi.id x37 ∈ ids (LKi.l x37)) != decide (LKi.id x36 ∈ ids (LKi.l x36))) = true) →
 ((false = true) ∧
 (True))) ∧
 (((decide (LKi.id x37 ∈ ids (LKi.l x37)) != decide (LKi.id x36 ∈ ids (LKi.l x36))) = false) →
 (∃ x40 : SameX,
 (((Twin (SameX.h x40) (SameX.x x40)) ∧
 (List.length (SameX.x x40) ≤ (1000000 : Nat))) ∧
 (((((0 : Nat) = (0 : Nat)) ∧
 ((0 : Nat) = (0 : Nat))) ∧
 ((((0 : Nat) = (0 : Nat)) ∧
 (List.length (dropI (LKi.l x36) (LKi.id x36)) = List.length (SameX.x x40))) ∧
 ((Act.id (List.getD x1 ((0 : Nat) + Int.toNat (↑x10 : Int)) default) = SameX.id x40) ∧
 (True)))) ∧
 ((((((0 : Nat) = (0 : Nat)) ∧
 (List.length (delFi (LKi.l x37) (LKi.id x37)) = List.length (SameX.h x40))) ∧
 ((True) ∧
 (True))) ∧
 (((RLe (List.length (SameX.h x40)) (List.length (delFi (LKi.l x37) (LKi.id x37)))) ∧
 (RowsEq (Kd.int IntKind.i64 :: Kd.int IntKind.i64 :: @List.nil Kd) (List.length (SameX.h x40)) (encL encEi (delFi (LKi.l x37) (LKi.id x37))) (encL encEi (SameX.h x40)))) ∧
 ((MapEq (Kd.int IntKind.i64 :: @List.nil Kd) (ids (delFi (LKi.l x37) (LKi.id x37))) (ids (SameX.h x40)) (posD (delFi (LKi.l x37) (LKi.id x37))) (posD (SameX.h x40))) ∧
 (((RLe (List.length (SameX.x x40)) (List.length (dropI (LKi.l x36) (LKi.id x36)))) ∧
 (RowsEq (Kd.int IntKind.i64 :: Kd.int IntKind.i64 :: @List.nil Kd) (List.length (SameX.x x40)) (encL encEi (dropI (LKi.l x36) (LKi.id x36))) (encL encEi (SameX.x x40)))) ∧
 (True))))) ∧
 (((false = true) →
 ((false = true) ∧
 (True))) ∧
 ((false = false) →
 ((((-9223372036854775808 : Int) ≤ (↑x10 : Int) + (1 : Int)) ∧
 ((↑x10 : Int) + (1 : Int) ≤ (9223372036854775807 : Int))) ∧
 (∃ x43 : Nat,
 ((List.length x1 - x43 < List.length x1 - x10) ∧
 ((x43 ≤ List.length x1) ∧
 ((((↑x10 : Int) + (1 : Int) = (↑x43 : Int)) ∧
 ((((0 : Nat) = (0 : Nat)) ∧
 ((0 : Nat) = (0 : Nat))) ∧
 ((((0 : Nat) = (0 : Nat)) ∧
 (List.length (dropI (LKi.l x36) (LKi.id x36)) = List.length (Prod.snd (playM x1 x43)))) ∧
 (((↑(List.length x1) : Int) = (↑(List.length x1) : Int)) ∧
 ((((0 : Nat) = (0 : Nat)) ∧
 (List.length x1 = List.length x1)) ∧
 ((((0 : Nat) = (0 : Nat)) ∧
 (List.length x1 = List.length x1)) ∧
 (True))))))) ∧
 (((((0 : Nat) = (0 : Nat)) ∧
 (List.length (delFi (LKi.l x37) (LKi.id x37)) = List.length (Prod.fst (playM x1 x43)))) ∧
 ((True) ∧
 (True))) ∧
 (((RLe (List.length (Prod.fst (playM x1 x43))) (List.length (delFi (LKi.l x37) (LKi.id x37)))) ∧
 (RowsEq (Kd.int IntKind.i64 :: Kd.int IntKind.i64 :: @List.nil Kd) (List.length (Prod.fst (playM x1 x43))) (encL encEi (delFi (LKi.l x37) (LKi.id x37))) (encL encEi (Prod.fst (playM x1 x43))))) ∧
 ((MapEq (Kd.int IntKind.i64 :: @List.nil Kd) (ids (delFi (LKi.l x37) (LKi.id x37))) (ids (Prod.fst (playM x1 x43))) (posD (delFi (LKi.l x37) (LKi.id x37))) (posD (Prod.fst (playM x1 x43)))) ∧
 (((RLe (List.length (Prod.snd (playM x1 x43))) (List.length (dropI (LKi.l x36) (LKi.id x36)))) ∧
 (RowsEq (Kd.int IntKind.i64 :: Kd.int IntKind.i64 :: @List.nil Kd) (List.length (Prod.snd (playM x1 x43))) (encL encEi (dropI (LKi.l x36) (LKi.id x36))) (encL encEi (Prod.snd (playM x1 x43))))) ∧
 (((RLe (List.length x1) (List.length x1)) ∧
 (RowsEq (Kd.int IntKind.u8 :: Kd.int IntKind.i64 :: Kd.int IntKind.i64 :: @List.nil Kd) (List.length x1) (encL encAct x1) (encL encAct x1))) ∧
 (True))))))))))))))))))))))))))))))))))) ∧
 ((decide ((↑x10 : Int) < (↑(List.length x1) : Int)) = false) →
 ((true = true) ∧
 (True))))))))))))))))))))))) = Keeps ⟨T, [], Cl, noInv, 14⟩ Try.f7 modelC modelI by kernel_rfl) (fun x1 => fun h2 => ⟨(default),
 trivial,
 trivial,
 trivial,
 fun h4 => ⟨(by (try dsimp only at *); omega),
 trivial⟩,
 fun h5 => ⟨fun g6 => have h6 := of_decide_eq_true g6; ⟨rfl,
 trivial⟩,
 fun g7 => have h7 := of_decide_eq_false g7; ⟨(default),
 trivial,
 trivial,
 trivial,
 ((0 : Nat)),
 ⟨(by (try dsimp only at *); omega),
 ⟨(by (try dsimp only at *); omega),
 ⟨rfl,
 rfl⟩,
 ⟨trivial,
 rfl,
 (by (try dsimp only at *); rfl)⟩,
 rfl,
 ⟨rfl,
 rfl⟩,
 ⟨rfl,
 rfl⟩,
 trivial⟩,
 ⟨⟨rfl,
 (by (try dsimp only at *); rfl)⟩,
 trivial,
 trivial⟩,
 ⟨⟨(by (try dsimp only at *); exact Nat.le_refl _)⟩,
 (by (try dsimp only at *); exact RowsEq.rfl')⟩,
 (by (try dsimp only at *); exact MapEq.rfl'),
 (by (try dsimp only at *); rfl),
 ⟨⟨Nat.le_refl _⟩,
 RowsEq.rfl'⟩,
 trivial⟩,
 fun x10 => fun h11 => ⟨fun g12 => have h12 := of_decide_eq_true g12; ⟨⟨(by (try dsimp only at *); omega),
 (by (try dsimp only at *); omega)⟩,
 (by (try dsimp only at *); omega),
 ⟨(by (try dsimp only at *); grind),
 (by (try dsimp only at *); omega)⟩,
 fun g13 => have h13 := of_decide_eq_true g13; ⟨({ l := Prod.fst (playM x1 x10), id := Act.id (List.getD x1 ((0 : Nat) + Int.toNat (↑x10 : Int)) default), key := Act.key (List.getD x1 ((0 : Nat) + Int.toNat (↑x10 : Int)) default) : LKi }),
 ⟨(by (try dsimp only at *); (have ht := twinM x1 x10 (by omega); have a1 := ht.1.len; first | omega | exact ht.1.n)),
 (by (try dsimp only at *); (have ht := twinM x1 x10 (by omega); have a1 := ht.1.len; first | omega | exact ht.1.n))⟩,
 ⟨⟨rfl,
 rfl⟩,
 rfl,
 rfl,
 trivial⟩,
 ⟨⟨⟨rfl,
 rfl⟩,
 trivial,
 trivial⟩,
 ⟨⟨Nat.le_refl _⟩,
 RowsEq.rfl'⟩,
 (by (try dsimp only at *); exact MapEq.rfl'),
 trivial⟩,
 ({ l := Prod.snd (playM x1 x10), id := Act.id (List.getD x1 ((0 : Nat) + Int.toNat (↑x10 : Int)) default), key := Act.key (List.getD x1 ((0 : Nat) + Int.toNat (↑x10 : Int)) default) : LKi }),
 (by (try dsimp only at *); (have ht := twinM x1 x10 (by omega); have a1 := ht.1.len; first | omega | exact ht.1.n)),
 ⟨⟨rfl,
 rfl⟩,
 rfl,
 rfl,
 trivial⟩,
 ⟨⟨⟨Nat.le_refl _⟩,
 RowsEq.rfl'⟩,
 trivial⟩,
 ({ h := putF lti (Prod.fst (playM x1 x10)) (Act.id (List.getD x1 ((0 : Nat) + Int.toNat (↑x10 : Int)) default)) (Act.key (List.getD x1 ((0 : Nat) + Int.toNat (↑x10 : Int)) default)), x := putBase (Prod.snd (playM x1 x10)) (Act.id (List.getD x1 ((0 : Nat) + Int.toNat (↑x10 : Int)) default)) (Act.key (List.getD x1 ((0 : Nat) + Int.toNat (↑x10 : Int)) default)), id := Act.id (List.getD x1 ((0 : Nat) + Int.toNat (↑x10 : Int)) default) : SameX }),
 ⟨(by (try dsimp only at *); (have hk : x10 < x1.length := (by omega); simp only [Nat.zero_add, Int.toNat_natCast] at *; have ht := twinM x1 x10 (by omega); have hs := (twinM_step ht.1 (x1.getD x10 default)); (first | rw [stepM_put (by assumption)] at hs | rw [stepM_pop (by assumption) (by assumption)] at hs | rw [stepM_del (by assumption) (by assumption)] at hs); have a2 := hs.1.len; dsimp only at *; first | exact hs.1 | omega)),
 (by (try dsimp only at *); (have hk : x10 < x1.length := (by omega); simp only [Nat.zero_add, Int.toNat_natCast] at *; have ht := twinM x1 x10 (by omega); have hs := (twinM_step ht.1 (x1.getD x10 default)); (first | rw [stepM_put (by assumption)] at hs | rw [stepM_pop (by assumption) (by assumption)] at hs | rw [stepM_del (by assumption) (by assumption)] at hs); have a2 := hs.1.len; dsimp only at *; first | exact hs.1 | omega))⟩,
 ⟨⟨rfl,
 rfl⟩,
 ⟨rfl,
 rfl⟩,
 rfl,
 trivial⟩,
 ⟨⟨⟨rfl,
 rfl⟩,
 trivial,
 trivial⟩,
 ⟨⟨Nat.le_refl _⟩,
 RowsEq.rfl'⟩,
 (by (try dsimp only at *); exact MapEq.rfl'),
 ⟨⟨Nat.le_refl _⟩,
 RowsEq.rfl'⟩,
 trivial⟩,
 fun h17 => ⟨(by (try dsimp only at *); omega),
 trivial⟩,
 fun h18 => ⟨⟨(by (try dsimp only at *); omega),
 (by (try dsimp only at *); omega)⟩,
 (x10 + (1 : Nat)),
 (by (try dsimp only at *); omega),
 (by (try dsimp only at *); omega),
 ⟨(by (try dsimp only at *); omega),
 ⟨rfl,
 rfl⟩,
 ⟨rfl,
 (by (try dsimp only at *); (have hk : x10 < x1.length := (by omega); simp only [Nat.zero_add, Int.toNat_natCast] at *; rw [playM_succ hk]; (first | rw [stepM_put (by assumption)] | rw [stepM_pop (by assumption) (by assumption)] | rw [stepM_del (by assumption) (by assumption)]); first | done | rfl | exact Nat.le_refl _ | exact MapEq.rfl' | exact RowsEq.rfl'))⟩,
 rfl,
 ⟨rfl,
 rfl⟩,
 ⟨rfl,
 rfl⟩,
 trivial⟩,
 ⟨⟨rfl,
 (by (try dsimp only at *); (have hk : x10 < x1.length := (by omega); simp only [Nat.zero_add, Int.toNat_natCast] at *; rw [playM_succ hk]; (first | rw [stepM_put (by assumption)] | rw [stepM_pop (by assumption) (by assumption)] | rw [stepM_del (by assumption) (by assumption)]); first | done | rfl | exact Nat.le_refl _ | exact MapEq.rfl' | exact RowsEq.rfl'))⟩,
 trivial,
 trivial⟩,
 ⟨⟨(by (try dsimp only at *); (have hk : x10 < x1.length := (by omega); simp only [Nat.zero_add, Int.toNat_natCast] at *; rw [playM_succ hk]; (first | rw [stepM_put (by assumption)] | rw [stepM_pop (by assumption) (by assumption)] | rw [stepM_del (by assumption) (by assumption)]); first | done | rfl | exact Nat.le_refl _ | exact MapEq.rfl' | exact RowsEq.rfl'))⟩,
 (by (try dsimp only at *); (have hk : x10 < x1.length := (by omega); simp only [Nat.zero_add, Int.toNat_natCast] at *; rw [playM_succ hk]; (first | rw [stepM_put (by assumption)] | rw [stepM_pop (by assumption) (by assumption)] | rw [stepM_del (by assumption) (by assumption)]); first | done | rfl | exact Nat.le_refl _ | exact MapEq.rfl' | exact RowsEq.rfl'))⟩,
 (by (try dsimp only at *); (have hk : x10 < x1.length := (by omega); simp only [Nat.zero_add, Int.toNat_natCast] at *; rw [playM_succ hk]; (first | rw [stepM_put (by assumption)] | rw [stepM_pop (by assumption) (by assumption)] | rw [stepM_del (by assumption) (by assumption)]); first | done | rfl | exact Nat.le_refl _ | exact MapEq.rfl' | exact RowsEq.rfl')),
 ⟨⟨(by (try dsimp only at *); (have hk : x10 < x1.length := (by omega); simp only [Nat.zero_add, Int.toNat_natCast] at *; rw [playM_succ hk]; (first | rw [stepM_put (by assumption)] | rw [stepM_pop (by assumption) (by assumption)] | rw [stepM_del (by assumption) (by assumption)]); first | done | rfl | exact Nat.le_refl _ | exact MapEq.rfl' | exact RowsEq.rfl'))⟩,
 (by (try dsimp only at *); (have hk : x10 < x1.length := (by omega); simp only [Nat.zero_add, Int.toNat_natCast] at *; rw [playM_succ hk]; (first | rw [stepM_put (by assumption)] | rw [stepM_pop (by assumption) (by assumption)] | rw [stepM_del (by assumption) (by assumption)]); first | done | rfl | exact Nat.le_refl _ | exact MapEq.rfl' | exact RowsEq.rfl'))⟩,
 ⟨⟨Nat.le_refl _⟩,
 RowsEq.rfl'⟩,
 trivial⟩⟩,
 fun g20 => have h20 := of_decide_eq_false g20; ⟨fun g21 => have h21 := of_decide_eq_true g21; ⟨(Prod.fst (playM x1 x10)),
 ⟨(by (try dsimp only at *); (have ht := twinM x1 x10 (by omega); have a1 := ht.1.len; first | omega | exact ht.1.n)),
 (by (try dsimp only at *); (have ht := twinM x1 x10 (by omega); have a1 := ht.1.len; first | omega | exact ht.1.n))⟩,
 ⟨⟨rfl,
 rfl⟩,
 trivial⟩,
 ⟨⟨⟨rfl,
 rfl⟩,
 trivial,
 trivial⟩,
 ⟨⟨Nat.le_refl _⟩,
 RowsEq.rfl'⟩,
 MapEq.rfl',
 trivial⟩,
 (Prod.snd (playM x1 x10)),
 (by (try dsimp only at *); (have ht := twinM x1 x10 (by omega); have a1 := ht.1.len; first | omega | exact ht.1.n)),
 ⟨⟨rfl,
 rfl⟩,
 trivial⟩,
 ⟨⟨⟨Nat.le_refl _⟩,
 RowsEq.rfl'⟩,
 trivial⟩,
 ({ l := Prod.snd (playM x1 x10), id := El.id (topK (Prod.snd (playM x1 x10)) (List.length (Prod.snd (playM x1 x10)))), key := default : LKi }),
 (by (try dsimp only at *); (have ht := twinM x1 x10 (by omega); have a1 := ht.1.len; first | omega | exact ht.1.n)),
 ⟨⟨rfl,
 rfl⟩,
 rfl,
 trivial⟩,
 ⟨⟨⟨Nat.le_refl _⟩,
 RowsEq.rfl'⟩,
 trivial⟩,
 fun g25 => have h25 := of_decide_eq_false g25; ⟨fun g26 => have h26 := of_decide_eq_false g26; ⟨fun h27 => ⟨(by (try dsimp only at *); (exfalso; simp only [Nat.zero_add, Int.toNat_natCast] at *; have ht := twinM x1 x10 (by omega); have a1 := ht.1.len; have a2 := ht.1.top; have a3 := ht.1.mem; simp_all; done)),
 trivial⟩,
 fun h28 => ⟨({ h := popF lti (Prod.fst (playM x1 x10)), x := dropI (Prod.snd (playM x1 x10)) (El.id (topK (Prod.snd (playM x1 x10)) (List.length (Prod.snd (playM x1 x10))))), id := Act.id (List.getD x1 ((0 : Nat) + Int.toNat (↑x10 : Int)) default) : SameX }),
 ⟨(by (try dsimp only at *); (have hk : x10 < x1.length := (by omega); simp only [Nat.zero_add, Int.toNat_natCast] at *; have ht := twinM x1 x10 (by omega); have hs := (twinM_step ht.1 (x1.getD x10 default)); (first | rw [stepM_put (by assumption)] at hs | rw [stepM_pop (by assumption) (by assumption)] at hs | rw [stepM_del (by assumption) (by assumption)] at hs); have a2 := hs.1.len; dsimp only at *; first | exact hs.1 | omega)),
 (by (try dsimp only at *); (have hk : x10 < x1.length := (by omega); simp only [Nat.zero_add, Int.toNat_natCast] at *; have ht := twinM x1 x10 (by omega); have hs := (twinM_step ht.1 (x1.getD x10 default)); (first | rw [stepM_put (by assumption)] at hs | rw [stepM_pop (by assumption) (by assumption)] at hs | rw [stepM_del (by assumption) (by assumption)] at hs); have a2 := hs.1.len; dsimp only at *; first | exact hs.1 | omega))⟩,
 ⟨⟨rfl,
 rfl⟩,
 ⟨rfl,
 rfl⟩,
 rfl,
 trivial⟩,
 ⟨⟨⟨rfl,
 rfl⟩,
 trivial,
 trivial⟩,
 ⟨⟨Nat.le_refl _⟩,
 RowsEq.rfl'⟩,
 (by (try dsimp only at *); exact MapEq.rfl'),
 ⟨⟨Nat.le_refl _⟩,
 RowsEq.rfl'⟩,
 trivial⟩,
 fun h30 => ⟨(by (try dsimp only at *); omega),
 trivial⟩,
 fun h31 => ⟨⟨(by (try dsimp only at *); omega),
 (by (try dsimp only at *); omega)⟩,
 (x10 + (1 : Nat)),
 (by (try dsimp only at *); omega),
 (by (try dsimp only at *); omega),
 ⟨(by (try dsimp only at *); omega),
 ⟨rfl,
 rfl⟩,
 ⟨rfl,
 (by (try dsimp only at *); (have hk : x10 < x1.length := (by omega); simp only [Nat.zero_add, Int.toNat_natCast] at *; rw [playM_succ hk]; (first | rw [stepM_put (by assumption)] | rw [stepM_pop (by assumption) (by assumption)] | rw [stepM_del (by assumption) (by assumption)]); first | done | rfl | exact Nat.le_refl _ | exact MapEq.rfl' | exact RowsEq.rfl'))⟩,
 rfl,
 ⟨rfl,
 rfl⟩,
 ⟨rfl,
 rfl⟩,
 trivial⟩,
 ⟨⟨rfl,
 (by (try dsimp only at *); (have hk : x10 < x1.length := (by omega); simp only [Nat.zero_add, Int.toNat_natCast] at *; rw [playM_succ hk]; (first | rw [stepM_put (by assumption)] | rw [stepM_pop (by assumption) (by assumption)] | rw [stepM_del (by assumption) (by assumption)]); first | done | rfl | exact Nat.le_refl _ | exact MapEq.rfl' | exact RowsEq.rfl'))⟩,
 trivial,
 trivial⟩,
 ⟨⟨(by (try dsimp only at *); (have hk : x10 < x1.length := (by omega); simp only [Nat.zero_add, Int.toNat_natCast] at *; rw [playM_succ hk]; (first | rw [stepM_put (by assumption)] | rw [stepM_pop (by assumption) (by assumption)] | rw [stepM_del (by assumption) (by assumption)]); first | done | rfl | exact Nat.le_refl _ | exact MapEq.rfl' | exact RowsEq.rfl'))⟩,
 (by (try dsimp only at *); (have hk : x10 < x1.length := (by omega); simp only [Nat.zero_add, Int.toNat_natCast] at *; rw [playM_succ hk]; (first | rw [stepM_put (by assumption)] | rw [stepM_pop (by assumption) (by assumption)] | rw [stepM_del (by assumption) (by assumption)]); first | done | rfl | exact Nat.le_refl _ | exact MapEq.rfl' | exact RowsEq.rfl'))⟩,
 (by (try dsimp only at *); (have hk : x10 < x1.length := (by omega); simp only [Nat.zero_add, Int.toNat_natCast] at *; rw [playM_succ hk]; (first | rw [stepM_put (by assumption)] | rw [stepM_pop (by assumption) (by assumption)] | rw [stepM_del (by assumption) (by assumption)]); first | done | rfl | exact Nat.le_refl _ | exact MapEq.rfl' | exact RowsEq.rfl')),
 ⟨⟨(by (try dsimp only at *); (have hk : x10 < x1.length := (by omega); simp only [Nat.zero_add, Int.toNat_natCast] at *; rw [playM_succ hk]; (first | rw [stepM_put (by assumption)] | rw [stepM_pop (by assumption) (by assumption)] | rw [stepM_del (by assumption) (by assumption)]); first | done | rfl | exact Nat.le_refl _ | exact MapEq.rfl' | exact RowsEq.rfl'))⟩,
 (by (try dsimp only at *); (have hk : x10 < x1.length := (by omega); simp only [Nat.zero_add, Int.toNat_natCast] at *; rw [playM_succ hk]; (first | rw [stepM_put (by assumption)] | rw [stepM_pop (by assumption) (by assumption)] | rw [stepM_del (by assumption) (by assumption)]); first | done | rfl | exact Nat.le_refl _ | exact MapEq.rfl' | exact RowsEq.rfl'))⟩,
 ⟨⟨Nat.le_refl _⟩,
 RowsEq.rfl'⟩,
 trivial⟩⟩⟩,
 fun g33 => have h33 := of_decide_eq_true g33; ⟨(by (try dsimp only at *); (exfalso; simp only [Nat.zero_add, Int.toNat_natCast] at *; have ht := twinM x1 x10 (by omega); have a1 := ht.1.len; have a2 := ht.1.top; have a3 := ht.1.mem; simp_all; done)),
 trivial⟩⟩,
 fun g34 => have h34 := of_decide_eq_true g34; ⟨(by (try dsimp only at *); (exfalso; simp only [Nat.zero_add, Int.toNat_natCast] at *; have ht := twinM x1 x10 (by omega); have a1 := ht.1.len; have a2 := ht.1.top; have a3 := ht.1.mem; simp_all; done)),
 trivial⟩⟩,
 fun g35 => have h35 := of_decide_eq_false g35; ⟨({ l := Prod.snd (playM x1 x10), id := Act.id (List.getD x1 ((0 : Nat) + Int.toNat (↑x10 : Int)) default), key := default : LKi }),
 (by (try dsimp only at *); (have ht := twinM x1 x10 (by omega); have a1 := ht.1.len; first | omega | exact ht.1.n)),
 ⟨⟨rfl,
 rfl⟩,
 rfl,
 trivial⟩,
 ⟨⟨⟨Nat.le_refl _⟩,
 RowsEq.rfl'⟩,
 trivial⟩,
 ({ l := Prod.fst (playM x1 x10), id := Act.id (List.getD x1 ((0 : Nat) + Int.toNat (↑x10 : Int)) default), key := default : LKi }),
 ⟨(by (try dsimp only at *); (have ht := twinM x1 x10 (by omega); have a1 := ht.1.len; first | omega | exact ht.1.n)),
 (by (try dsimp only at *); (have ht := twinM x1 x10 (by omega); have a1 := ht.1.len; first | omega | exact ht.1.n))⟩,
 ⟨⟨rfl,
 rfl⟩,
 rfl,
 trivial⟩,
 ⟨⟨⟨rfl,
 rfl⟩,
 trivial,
 trivial⟩,
 ⟨⟨Nat.le_refl _⟩,
 RowsEq.rfl'⟩,
 (by (try dsimp only at *); exact MapEq.rfl'),
 trivial⟩,
 fun h38 => ⟨(by (try dsimp only at *); (exfalso; simp only [Nat.zero_add, Int.toNat_natCast] at *; have ht := twinM x1 x10 (by omega); have a1 := ht.1.len; have a2 := ht.1.top; have a3 := ht.1.mem; simp_all; done)),
 trivial⟩,
 fun h39 => ⟨({ h := delFi (Prod.fst (playM x1 x10)) (Act.id (List.getD x1 ((0 : Nat) + Int.toNat (↑x10 : Int)) default)), x := dropI (Prod.snd (playM x1 x10)) (Act.id (List.getD x1 ((0 : Nat) + Int.toNat (↑x10 : Int)) default)), id := Act.id (List.getD x1 ((0 : Nat) + Int.toNat (↑x10 : Int)) default) : SameX }),
 ⟨(by (try dsimp only at *); (have hk : x10 < x1.length := (by omega); simp only [Nat.zero_add, Int.toNat_natCast] at *; have ht := twinM x1 x10 (by omega); have hs := (twinM_step ht.1 (x1.getD x10 default)); (first | rw [stepM_put (by assumption)] at hs | rw [stepM_pop (by assumption) (by assumption)] at hs | rw [stepM_del (by assumption) (by assumption)] at hs); have a2 := hs.1.len; dsimp only at *; first | exact hs.1 | omega)),
 (by (try dsimp only at *); (have hk : x10 < x1.length := (by omega); simp only [Nat.zero_add, Int.toNat_natCast] at *; have ht := twinM x1 x10 (by omega); have hs := (twinM_step ht.1 (x1.getD x10 default)); (first | rw [stepM_put (by assumption)] at hs | rw [stepM_pop (by assumption) (by assumption)] at hs | rw [stepM_del (by assumption) (by assumption)] at hs); have a2 := hs.1.len; dsimp only at *; first | exact hs.1 | omega))⟩,
 ⟨⟨rfl,
 rfl⟩,
 ⟨rfl,
 rfl⟩,
 rfl,
 trivial⟩,
 ⟨⟨⟨rfl,
 rfl⟩,
 trivial,
 trivial⟩,
 ⟨⟨Nat.le_refl _⟩,
 RowsEq.rfl'⟩,
 (by (try dsimp only at *); exact MapEq.rfl'),
 ⟨⟨Nat.le_refl _⟩,
 RowsEq.rfl'⟩,
 trivial⟩,
 fun h41 => ⟨(by (try dsimp only at *); omega),
 trivial⟩,
 fun h42 => ⟨⟨(by (try dsimp only at *); omega),
 (by (try dsimp only at *); omega)⟩,
 (x10 + (1 : Nat)),
 (by (try dsimp only at *); omega),
 (by (try dsimp only at *); omega),
 ⟨(by (try dsimp only at *); omega),
 ⟨rfl,
 rfl⟩,
 ⟨rfl,
 (by (try dsimp only at *); (have hk : x10 < x1.length := (by omega); simp only [Nat.zero_add, Int.toNat_natCast] at *; rw [playM_succ hk]; (first | rw [stepM_put (by assumption)] | rw [stepM_pop (by assumption) (by assumption)] | rw [stepM_del (by assumption) (by assumption)]); first | done | rfl | exact Nat.le_refl _ | exact MapEq.rfl' | exact RowsEq.rfl'))⟩,
 rfl,
 ⟨rfl,
 rfl⟩,
 ⟨rfl,
 rfl⟩,
 trivial⟩,
 ⟨⟨rfl,
 (by (try dsimp only at *); (have hk : x10 < x1.length := (by omega); simp only [Nat.zero_add, Int.toNat_natCast] at *; rw [playM_succ hk]; (first | rw [stepM_put (by assumption)] | rw [stepM_pop (by assumption) (by assumption)] | rw [stepM_del (by assumption) (by assumption)]); first | done | rfl | exact Nat.le_refl _ | exact MapEq.rfl' | exact RowsEq.rfl'))⟩,
 trivial,
 trivial⟩,
 ⟨⟨(by (try dsimp only at *); (have hk : x10 < x1.length := (by omega); simp only [Nat.zero_add, Int.toNat_natCast] at *; rw [playM_succ hk]; (first | rw [stepM_put (by assumption)] | rw [stepM_pop (by assumption) (by assumption)] | rw [stepM_del (by assumption) (by assumption)]); first | done | rfl | exact Nat.le_refl _ | exact MapEq.rfl' | exact RowsEq.rfl'))⟩,
 (by (try dsimp only at *); (have hk : x10 < x1.length := (by omega); simp only [Nat.zero_add, Int.toNat_natCast] at *; rw [playM_succ hk]; (first | rw [stepM_put (by assumption)] | rw [stepM_pop (by assumption) (by assumption)] | rw [stepM_del (by assumption) (by assumption)]); first | done | rfl | exact Nat.le_refl _ | exact MapEq.rfl' | exact RowsEq.rfl'))⟩,
 (by (try dsimp only at *); (have hk : x10 < x1.length := (by omega); simp only [Nat.zero_add, Int.toNat_natCast] at *; rw [playM_succ hk]; (first | rw [stepM_put (by assumption)] | rw [stepM_pop (by assumption) (by assumption)] | rw [stepM_del (by assumption) (by assumption)]); first | done | rfl | exact Nat.le_refl _ | exact MapEq.rfl' | exact RowsEq.rfl')),
 ⟨⟨(by (try dsimp only at *); (have hk : x10 < x1.length := (by omega); simp only [Nat.zero_add, Int.toNat_natCast] at *; rw [playM_succ hk]; (first | rw [stepM_put (by assumption)] | rw [stepM_pop (by assumption) (by assumption)] | rw [stepM_del (by assumption) (by assumption)]); first | done | rfl | exact Nat.le_refl _ | exact MapEq.rfl' | exact RowsEq.rfl'))⟩,
 (by (try dsimp only at *); (have hk : x10 < x1.length := (by omega); simp only [Nat.zero_add, Int.toNat_natCast] at *; rw [playM_succ hk]; (first | rw [stepM_put (by assumption)] | rw [stepM_pop (by assumption) (by assumption)] | rw [stepM_del (by assumption) (by assumption)]); first | done | rfl | exact Nat.le_refl _ | exact MapEq.rfl' | exact RowsEq.rfl'))⟩,
 ⟨⟨Nat.le_refl _⟩,
 RowsEq.rfl'⟩,
 trivial⟩⟩⟩⟩⟩,
 fun g44 => have h44 := of_decide_eq_false g44; ⟨rfl,
 trivial⟩⟩⟩⟩⟩)

theorem model_good : Good Try.prog 7 modelC ∧ FnOk Try.prog 7 := good_of (c := ⟨T, [], Cl, noInv, 14⟩) tok (ConL.ok conl) (fn := Try.f7) rfl (by decide +kernel) (fun _ => rfl) model_keeps
end Go.Sym
