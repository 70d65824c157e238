/- law03: what the laws share. -/
import Derived.Test.YtofigelofojjlaaP1
import Derived.Test.YtofigelofojjlaaXD
namespace Go.Sym
set_option linter.unusedVariables false
set_option linter.unusedSimpArgs false
open Go.Proofs
structure Act where
  kind : Int
  id : Int
  key : Int
deriving Inhabited
def encAct (x : Act) (c : Nat) : D := encN [.i x.kind, .i x.id, .i x.key] c
def kA : List Kd := [.int .u8, .int .i64, .int .i64]
def heapL (a b c : Nat) (l : List Line) : List (Nat × Blk) := [(a, .one .own [.sl b 0 l.length, .mp c]), (b, .rows .own kEi l.length (encL encEi l)), (c, .map .own .i64 kMap false (ids l) (posD l))]
def hK (l : List Act) (k : Nat) : List Line := (l.take k).foldl (fun h a => putF lti h a.id a.key) []
def xK (l : List Act) (k : Nat) : List Line := (l.take k).foldl (fun h a => putBase h a.id a.key) []
theorem hK_succ {l : List Act} {k : Nat} (h : k < l.length) : hK l (k + 1) = putF lti (hK l k) (l.getD k default).id (l.getD k default).key := by
  unfold hK; rw [take_succ_getD (d := default) h, List.foldl_append]; rfl
theorem xK_succ {l : List Act} {k : Nat} (h : k < l.length) : xK l (k + 1) = putBase (xK l k) (l.getD k default).id (l.getD k default).key := by
  unfold xK; rw [take_succ_getD (d := default) h, List.foldl_append]; rfl
theorem twinK (l : List Act) : ∀ k : Nat, k ≤ l.length → Twin (hK l k) (xK l k) ∧ (hK l k).length ≤ k
  | 0, _ => ⟨Twin.nil, by simp [hK]⟩
  | k + 1, hk => by
    obtain ⟨h1, h2⟩ := twinK l k (by omega)
    rw [hK_succ (by omega), xK_succ (by omega)]
    refine ⟨h1.put _ _, ?_⟩
    have e1 := (putF_perm lti (hK l k) (l.getD k default).id (l.getD k default).key).length_eq
    have e2 := putBase_length_le (hK l k) (l.getD k default).id (l.getD k default).key
    omega
def Cw : List (Nat × Con) := [(16, .one newiC), (17, .one putiC), (11, .one popiC), (15, .one leniC), (20, .one rputC)]
theorem conw : ConL Try.prog Cw := .cons (ConL.one newi_good) (.cons (ConL.one puti_good) (.cons (ConL.one popi_good) (.cons (ConL.one leni_good) (.cons (ConL.one rput_good) .nil))))
/-! The example of the document. -/
def wk : List Line := putF lti (putF lti (putF lti (putF lti [] 5 2) 9 1) 7 1) 5 0
def wkX : List Line := [⟨5, 0⟩, ⟨9, 1⟩, ⟨7, 1⟩]
theorem wk_twin : Twin wk wkX := by
  have h := (((Twin.nil.put 5 2).put 9 1).put 7 1).put 5 0
  have e : putBase (putBase (putBase (putBase [] 5 2) 9 1) 7 1) 5 0 = wkX := by decide +kernel
  rw [e] at h; exact h
theorem wk_0 : wk.getD 0 default = ⟨5, 0⟩ := by rw [wk_twin.top]; decide +kernel
theorem wk_1t : Twin (popF lti wk) [⟨9, 1⟩, ⟨7, 1⟩] := by
  have h := wk_twin.pop (by rw [wk_twin.len]; decide)
  rw [wk_0] at h
  have e : dropI wkX 5 = [⟨9, 1⟩, ⟨7, 1⟩] := by decide +kernel
  rw [e] at h; exact h
theorem wk_1 : (popF lti wk).getD 0 default = ⟨7, 1⟩ := by rw [wk_1t.top]; decide +kernel
theorem wk_2t : Twin (popF lti (popF lti wk)) [⟨9, 1⟩] := by
  have h := wk_1t.pop (by rw [wk_1t.len]; decide)
  rw [wk_1] at h
  have e : dropI [⟨9, 1⟩, ⟨7, 1⟩] 7 = [⟨9, 1⟩] := by decide +kernel
  rw [e] at h; exact h
theorem wk_2 : (popF lti (popF lti wk)).getD 0 default = ⟨9, 1⟩ := by rw [wk_2t.top]; decide +kernel
theorem wk_3t : Twin (popF lti (popF lti (popF lti wk))) [] := by
  have h := wk_2t.pop (by rw [wk_2t.len]; decide)
  rw [wk_2] at h
  have e : dropI [⟨9, 1⟩] 9 = [] := by decide +kernel
  rw [e] at h; exact h
theorem wk_a : (ids (putF lti [] 5 2)).Nodup ∧ (putF lti [] 5 2).length ≤ 10 ∧ (ids (putF lti (putF lti [] 5 2) 9 1)).Nodup ∧ (putF lti (putF lti [] 5 2) 9 1).length ≤ 10 ∧ (ids (putF lti (putF lti (putF lti [] 5 2) 9 1) 7 1)).Nodup ∧ (putF lti (putF lti (putF lti [] 5 2) 9 1) 7 1).length ≤ 10 := by
  have h1 := Twin.nil.put 5 2
  have h2 := h1.put 9 1
  have h3 := h2.put 7 1
  refine ⟨h1.n, ?_, h2.n, ?_, h3.n, ?_⟩
  · rw [h1.len]; decide +kernel
  · rw [h2.len]; decide +kernel
  · rw [h3.len]; decide +kernel
def wakesC : CT where
  X := Unit
  pre := fun _ => True
  args := fun _ => []
  g0 := fun _ => []
  res := fun _ => .b true
  g1 := fun _ => []
set_option maxRecDepth 100000 in
theorem wakes_keeps : Keeps ⟨T, [], Cw, noInv, 11⟩ Try.f9 wakesC noIv := Eq.mp (show ((∀ x1 : Unit,
 ((True) →
 (∃ x3 : Unit,
 ((True) ∧
 ((True) ∧
 ((True) ∧
 (∃ x4 : LKi,
 (((List.Nodup (ids (LKi.l x4))) ∧
 (List.length (LKi.l x4) ≤ (999999 : Nat))) ∧
 (((((0 : Nat) = (0 : Nat)) ∧
 ((0 : Nat) = (0 : Nat))) ∧
 (((5 : Int) = LKi.id x4) ∧
 (((2 : Int) = LKi.key x4) ∧
 (True)))) ∧
 ((((((0 : Nat) = (0 : Nat)) ∧
 ((0 : Nat) = List.length (LKi.l x4))) ∧
 ((True) ∧
 (True))) ∧
 (((RLe (List.length (LKi.l x4)) (0 : Nat)) ∧
 (RowsEq (Kd.int IntKind.i64 :: Kd.int IntKind.i64 :: @List.nil Kd) (List.length (LKi.l x4)) (encL encEi (@List.nil (El Int))) (encL encEi (LKi.l x4)))) ∧
 ((MapEq (Kd.int IntKind.i64 :: @List.nil Kd) (@List.nil Int) (ids (LKi.l x4)) (posD (@List.nil (El Int))) (posD (LKi.l x4))) ∧
 (True)))) ∧
 (∃ x5 : LKi,
 (((List.Nodup (ids (LKi.l x5))) ∧
 (List.length (LKi.l x5) ≤ (999999 : Nat))) ∧
 (((((0 : Nat) = (0 : Nat)) ∧
 ((0 : Nat) = (0 : Nat))) ∧
 (((9 : Int) = LKi.id x5) ∧
 (((1 : Int) = LKi.key x5) ∧
 (True)))) ∧
 ((((((0 : Nat) = (0 : Nat)) ∧
 (List.length (putF lti (LKi.l x4) (LKi.id x4) (LKi.key x4)) = List.length (LKi.l x5))) ∧
 ((True) ∧
 (True))) ∧
 (((RLe (List.length (LKi.l x5)) (List.length (putF lti (LKi.l x4) (LKi.id x4) (LKi.key x4)))) ∧
 (RowsEq (Kd.int IntKind.i64 :: Kd.int IntKind.i64 :: @List.nil Kd) (List.length (LKi.l x5)) (encL encEi (putF lti (LKi.l x4) (LKi.id x4) (LKi.key x4))) (encL encEi (LKi.l x5)))) ∧
 ((MapEq (Kd.int IntKind.i64 :: @List.nil Kd) (ids (putF lti (LKi.l x4) (LKi.id x4) (LKi.key x4))) (ids (LKi.l x5)) (posD (putF lti (LKi.l x4) (LKi.id x4) (LKi.key x4))) (posD (LKi.l x5))) ∧
 (True)))) ∧
 (∃ x6 : LKi,
 (((List.Nodup (ids (LKi.l x6))) ∧
 (List.length (LKi.l x6) ≤ (999999 : Nat))) ∧
 (((((0 : Nat) = (0 : Nat)) ∧
 ((0 : Nat) = (0 : Nat))) ∧
 (((7 : Int) = LKi.id x6) ∧
 (((1 : Int) = LKi.key x6) ∧
 (True)))) ∧
 ((((((0 : Nat) = (0 : Nat)) ∧
 (List.length (putF lti (LKi.l x5) (LKi.id x5) (LKi.key x5)) = List.length (LKi.l x6))) ∧
 ((True) ∧
 (True))) ∧
 (((RLe (List.length (LKi.l x6)) (List.length (putF lti (LKi.l x5) (LKi.id x5) (LKi.key x5)))) ∧
 (RowsEq (Kd.int IntKind.i64 :: Kd.int IntKind.i64 :: @List.nil Kd) (List.length (LKi.l x6)) (encL encEi (putF lti (LKi.l x5) (LKi.id x5) (LKi.key x5))) (encL encEi (LKi.l x6)))) ∧
 ((MapEq (Kd.int IntKind.i64 :: @List.nil Kd) (ids (putF lti (LKi.l x5) (LKi.id x5) (LKi.key x5))) (ids (LKi.l x6)) (posD (putF lti (LKi.l x5) (LKi.id x5) (LKi.key x5))) (posD (LKi.l x6))) ∧
 (True)))) ∧
 (∃ x7 : LKi,
 (((List.Nodup (ids (LKi.l x7))) ∧
 (List.length (LKi.l x7) ≤ (999999 : Nat))) ∧
 (((((0 : Nat) = (0 : Nat)) ∧
 ((0 : Nat) = (0 : Nat))) ∧
 (((5 : Int) = LKi.id x7) ∧
 (((0 : Int) = LKi.key x7) ∧
 (True)))) ∧
 ((((((0 : Nat) = (0 : Nat)) ∧
 (List.length (putF lti (LKi.l x6) (LKi.id x6) (LKi.key x6)) = List.length (LKi.l x7))) ∧
 ((True) ∧
 (True))) ∧
 (((RLe (List.length (LKi.l x7)) (List.length (putF lti (LKi.l x6) (LKi.id x6) (LKi.key x6)))) ∧
 (RowsEq (Kd.int IntKind.i64 :: Kd.int IntKind.i64 :: @List.nil Kd) (List.length (LKi.l x7)) (encL encEi (putF lti (LKi.l x6) (LKi.id x6) (LKi.key x6))) (encL encEi (LKi.l x7)))) ∧
 ((MapEq (Kd.int IntKind.i64 :: @List.nil Kd) (ids (putF lti (LKi.l x6) (LKi.id x6) (LKi.key x6))) (ids (LKi.l x7)) (posD (putF lti (LKi.l x6) (LKi.id x6) (LKi.key x6))) (posD (LKi.l x7))) ∧
 (True)))) ∧
 (∃ x8 : List (El Int),
 (((List.Nodup (ids x8)) ∧
 (List.length x8 ≤ (1000000 : Nat))) ∧
 (((((0 : Nat) = (0 : Nat)) ∧
 ((0 : Nat) = (0 : Nat))) ∧
 (True)) ∧
 ((((((0 : Nat) = (0 : Nat)) ∧
 (List.length (putF lti (LKi.l x7) (LKi.id x7) (LKi.key x7)) = List.length x8)) ∧
 ((True) ∧
 (True))) ∧
 (((RLe (List.length x8) (List.length (putF lti (LKi.l x7) (LKi.id x7) (LKi.key x7)))) ∧
 (RowsEq (Kd.int IntKind.i64 :: Kd.int IntKind.i64 :: @List.nil Kd) (List.length x8) (encL encEi (putF lti (LKi.l x7) (LKi.id x7) (LKi.key x7))) (encL encEi x8))) ∧
 ((MapEq (Kd.int IntKind.i64 :: @List.nil Kd) (ids (putF lti (LKi.l x7) (LKi.id x7) (LKi.key x7))) (ids x8) (posD (putF lti (LKi.l x7) (LKi.id x7) (LKi.key x7))) (posD x8)) ∧
 (True)))) ∧
 (∃ x9 : List (El Int),
 (((List.Nodup (ids x9)) ∧
 (List.length x9 ≤ (1000000 : Nat))) ∧
 (((((0 : Nat) = (0 : Nat)) ∧
 ((0 : Nat) = (0 : Nat))) ∧
 (True)) ∧
 ((((((0 : Nat) = (0 : Nat)) ∧
 (List.length (popF lti x8) = List.length x9)) ∧
 ((True) ∧
 (True))) ∧
 (((RLe (List.length x9) (List.length (popF lti x8))) ∧
 (RowsEq (Kd.int IntKind.i64 :: Kd.int IntKind.i64 :: @List.nil Kd) (List.length x9) (encL encEi (popF lti x8)) (encL encEi x9))) ∧
 ((MapEq (Kd.int IntKind.i64 :: @List.nil Kd) (ids (popF lti x8)) (ids x9) (posD (popF lti x8)) (posD x9)) ∧
 (True)))) ∧
 (∃ x10 : List (El Int),
 (((List.Nodup (ids x10)) ∧
 (List.length x10 ≤ (1000000 : Nat))) ∧
 (((((0 : Nat) = (0 : Nat)) ∧
 ((0 : Nat) = (0 : Nat))) ∧
 (True)) ∧
 ((((((0 : Nat) = (0 : Nat)) ∧
 (List.length (popF lti x9) = List.length x10)) ∧
 ((True) ∧
 (True))) ∧
 (((RLe (List.length x10) (List.length (popF lti x9))) ∧
 (RowsEq (Kd.int IntKind.i64 :: Kd.int IntKind.i64 :: @List.nil Kd) (List.length x10) (encL encEi (popF lti x9)) (encL encEi x10))) ∧
 ((MapEq (Kd.int IntKind.i64 :: @List.nil Kd) (ids (popF lti x9)) (ids x10) (posD (popF lti x9)) (posD x10)) ∧
 (True)))) ∧
 (((decide (El.id (List.getD x8 (0 : Nat) default) = (5 : Int)) = true) →
 (((decide (El.id (List.getD x9 (0 : Nat) default) = (7 : Int)) = true) →
 (((decide (El.id (List.getD x10 (0 : Nat) default) = (9 : Int)) = true) →
 (((decide (El.key (List.getD x8 (0 : Nat) default) = (0 : Int)) = true) →
 (((decide (El.key (List.getD x10 (0 : Nat) default) = (1 : Int)) = true) →
 (((decide (List.length x8 ≠ (0 : Nat)) = true) →
 (((decide (List.length x9 ≠ (0 : Nat)) = true) →
 (((decide (List.length x10 ≠ (0 : Nat)) = true) →
 (∃ x19 : List (El Int),
 ((True) ∧
 (((((0 : Nat) = (0 : Nat)) ∧
 ((0 : Nat) = (0 : Nat))) ∧
 (True)) ∧
 ((((((0 : Nat) = (0 : Nat)) ∧
 (List.length (popF lti x10) = List.length x19)) ∧
 ((True) ∧
 (True))) ∧
 (((RLe (List.length x19) (List.length (popF lti x10))) ∧
 (RowsEq (Kd.int IntKind.i64 :: Kd.int IntKind.i64 :: @List.nil Kd) (List.length x19) (encL encEi (popF lti x10)) (encL encEi x19))) ∧
 ((MapEq (Kd.int IntKind.i64 :: @List.nil Kd) (ids (popF lti x10)) (ids x19) (posD (popF lti x10)) (posD x19)) ∧
 (True)))) ∧
 ((decide ((↑(List.length x19) : Int) = (0 : Int)) = true) ∧
 (True))))))) ∧
 ((decide (List.length x10 ≠ (0 : Nat)) = false) →
 ((false = true) ∧
 (True))))) ∧
 ((decide (List.length x9 ≠ (0 : Nat)) = false) →
 ((false = true) ∧
 (True))))) ∧
 ((decide (List.length x8 ≠ (0 : Nat)) = false) →
 ((false = true) ∧
 (True))))) ∧
 ((decide (El.key (List.getD x10 (0 : Nat) default) = (1 : Int)) = false) →
 ((false = true) ∧
 (True))))) ∧
 ((decide (El.key (List.getD x8 (0 : Nat) default) = (0 : Int)) = false) →
 ((false = true) ∧
 (True))))) ∧
 ((decide (El.id (List.getD x10 (0 : Nat) default) = (9 : Int)) = false) →
 ((false = true) ∧
 (True))))) ∧
 ((decide (El.id (List.getD x9 (0 : Nat) default) = (7 : Int)) = false) →
 ((false = true) ∧
 (True))))) ∧
 ((decide (El.id (List.getD x8 (0 : Nat) default) = (5 : Int)) = false) →
 ((false = true) ∧
 (True))))))))))))))))))))))))))))))))))))))) = Keeps ⟨T, [], Cw, noInv, 11⟩ Try.f9 wakesC noIv by kernel_rfl) (fun x1 => fun h2 => ⟨(default),
 trivial,
 trivial,
 trivial,
 ({ l := @List.nil (El Int), id := (5 : Int), key := (2 : Int) : LKi }),
 ⟨(by (try dsimp only at *); (obtain ⟨a1, a2, a3, a4, a5, a6⟩ := wk_a; first | omega | exact a1 | exact a3 | exact a5 | exact List.nodup_nil | exact wk_twin.n | exact wk_1t.n | exact wk_2t.n)),
 (by (try dsimp only at *); grind)⟩,
 ⟨⟨rfl,
 rfl⟩,
 rfl,
 rfl,
 trivial⟩,
 ⟨⟨⟨rfl,
 (by (try dsimp only at *); grind)⟩,
 trivial,
 trivial⟩,
 ⟨⟨(by (try dsimp only at *); grind)⟩,
 RowsEq.rfl'⟩,
 (by (try dsimp only at *); exact MapEq.rfl'),
 trivial⟩,
 ({ l := putF lti (@List.nil (El Int)) (5 : Int) (2 : Int), id := (9 : Int), key := (1 : Int) : LKi }),
 ⟨(by (try dsimp only at *); (obtain ⟨a1, a2, a3, a4, a5, a6⟩ := wk_a; first | omega | exact a1 | exact a3 | exact a5 | exact List.nodup_nil | exact wk_twin.n | exact wk_1t.n | exact wk_2t.n)),
 (by (try dsimp only at *); (obtain ⟨a1, a2, a3, a4, a5, a6⟩ := wk_a; first | omega | exact a1 | exact a3 | exact a5 | exact List.nodup_nil | exact wk_twin.n | exact wk_1t.n | exact wk_2t.n))⟩,
 ⟨⟨rfl,
 rfl⟩,
 rfl,
 rfl,
 trivial⟩,
 ⟨⟨⟨rfl,
 rfl⟩,
 trivial,
 trivial⟩,
 ⟨⟨Nat.le_refl _⟩,
 RowsEq.rfl'⟩,
 (by (try dsimp only at *); exact MapEq.rfl'),
 trivial⟩,
 ({ l := putF lti (putF lti (@List.nil (El Int)) (5 : Int) (2 : Int)) (9 : Int) (1 : Int), id := (7 : Int), key := (1 : Int) : LKi }),
 ⟨(by (try dsimp only at *); (obtain ⟨a1, a2, a3, a4, a5, a6⟩ := wk_a; first | omega | exact a1 | exact a3 | exact a5 | exact List.nodup_nil | exact wk_twin.n | exact wk_1t.n | exact wk_2t.n)),
 (by (try dsimp only at *); (obtain ⟨a1, a2, a3, a4, a5, a6⟩ := wk_a; first | omega | exact a1 | exact a3 | exact a5 | exact List.nodup_nil | exact wk_twin.n | exact wk_1t.n | exact wk_2t.n))⟩,
 ⟨⟨rfl,
 rfl⟩,
 rfl,
 rfl,
 trivial⟩,
 ⟨⟨⟨rfl,
 rfl⟩,
 trivial,
 trivial⟩,
 ⟨⟨Nat.le_refl _⟩,
 RowsEq.rfl'⟩,
 (by (try dsimp only at *); exact MapEq.rfl'),
 trivial⟩,
 ({ l := putF lti (putF lti (putF lti (@List.nil (El Int)) (5 : Int) (2 : Int)) (9 : Int) (1 : Int)) (7 : Int) (1 : Int), id := (5 : Int), key := (0 : Int) : LKi }),
 ⟨(by (try dsimp only at *); (obtain ⟨a1, a2, a3, a4, a5, a6⟩ := wk_a; first | omega | exact a1 | exact a3 | exact a5 | exact List.nodup_nil | exact wk_twin.n | exact wk_1t.n | exact wk_2t.n)),
 (by (try dsimp only at *); (obtain ⟨a1, a2, a3, a4, a5, a6⟩ := wk_a; first | omega | exact a1 | exact a3 | exact a5 | exact List.nodup_nil | exact wk_twin.n | exact wk_1t.n | exact wk_2t.n))⟩,
 ⟨⟨rfl,
 rfl⟩,
 rfl,
 rfl,
 trivial⟩,
 ⟨⟨⟨rfl,
 rfl⟩,
 trivial,
 trivial⟩,
 ⟨⟨Nat.le_refl _⟩,
 RowsEq.rfl'⟩,
 (by (try dsimp only at *); exact MapEq.rfl'),
 trivial⟩,
 (putF lti (putF lti (putF lti (putF lti (@List.nil (El Int)) (5 : Int) (2 : Int)) (9 : Int) (1 : Int)) (7 : Int) (1 : Int)) (5 : Int) (0 : Int)),
 ⟨(by (try dsimp only at *); (obtain ⟨a1, a2, a3, a4, a5, a6⟩ := wk_a; first | omega | exact a1 | exact a3 | exact a5 | exact List.nodup_nil | exact wk_twin.n | exact wk_1t.n | exact wk_2t.n)),
 (by (try dsimp only at *); (have l0 := wk_twin.len; have l1 := wk_1t.len; have l2 := wk_2t.len; have l3 := wk_3t.len; have e0 := wk_0; have e1 := wk_1; have e2 := wk_2; simp only [wkX, wk, List.length_cons, List.length_nil] at *; simp_all; done))⟩,
 ⟨⟨rfl,
 rfl⟩,
 trivial⟩,
 ⟨⟨⟨rfl,
 rfl⟩,
 trivial,
 trivial⟩,
 ⟨⟨Nat.le_refl _⟩,
 RowsEq.rfl'⟩,
 (by (try dsimp only at *); exact MapEq.rfl'),
 trivial⟩,
 (popF lti (putF lti (putF lti (putF lti (putF lti (@List.nil (El Int)) (5 : Int) (2 : Int)) (9 : Int) (1 : Int)) (7 : Int) (1 : Int)) (5 : Int) (0 : Int))),
 ⟨(by (try dsimp only at *); (obtain ⟨a1, a2, a3, a4, a5, a6⟩ := wk_a; first | omega | exact a1 | exact a3 | exact a5 | exact List.nodup_nil | exact wk_twin.n | exact wk_1t.n | exact wk_2t.n)),
 (by (try dsimp only at *); (have l0 := wk_twin.len; have l1 := wk_1t.len; have l2 := wk_2t.len; have l3 := wk_3t.len; have e0 := wk_0; have e1 := wk_1; have e2 := wk_2; simp only [wkX, wk, List.length_cons, List.length_nil] at *; simp_all; done))⟩,
 ⟨⟨rfl,
 rfl⟩,
 trivial⟩,
 ⟨⟨⟨rfl,
 rfl⟩,
 trivial,
 trivial⟩,
 ⟨⟨Nat.le_refl _⟩,
 RowsEq.rfl'⟩,
 MapEq.rfl',
 trivial⟩,
 (popF lti (popF lti (putF lti (putF lti (putF lti (putF lti (@List.nil (El Int)) (5 : Int) (2 : Int)) (9 : Int) (1 : Int)) (7 : Int) (1 : Int)) (5 : Int) (0 : Int)))),
 ⟨(by (try dsimp only at *); (obtain ⟨a1, a2, a3, a4, a5, a6⟩ := wk_a; first | omega | exact a1 | exact a3 | exact a5 | exact List.nodup_nil | exact wk_twin.n | exact wk_1t.n | exact wk_2t.n)),
 (by (try dsimp only at *); (have l0 := wk_twin.len; have l1 := wk_1t.len; have l2 := wk_2t.len; have l3 := wk_3t.len; have e0 := wk_0; have e1 := wk_1; have e2 := wk_2; simp only [wkX, wk, List.length_cons, List.length_nil] at *; simp_all; done))⟩,
 ⟨⟨rfl,
 rfl⟩,
 trivial⟩,
 ⟨⟨⟨rfl,
 rfl⟩,
 trivial,
 trivial⟩,
 ⟨⟨Nat.le_refl _⟩,
 RowsEq.rfl'⟩,
 MapEq.rfl',
 trivial⟩,
 fun g11 => have h11 := of_decide_eq_true g11; ⟨fun g12 => have h12 := of_decide_eq_true g12; ⟨fun g13 => have h13 := of_decide_eq_true g13; ⟨fun g14 => have h14 := of_decide_eq_true g14; ⟨fun g15 => have h15 := of_decide_eq_true g15; ⟨fun g16 => have h16 := of_decide_eq_true g16; ⟨fun g17 => have h17 := of_decide_eq_true g17; ⟨fun g18 => have h18 := of_decide_eq_true g18; ⟨(popF lti (popF lti (popF lti (putF lti (putF lti (putF lti (putF lti (@List.nil (El Int)) (5 : Int) (2 : Int)) (9 : Int) (1 : Int)) (7 : Int) (1 : Int)) (5 : Int) (0 : Int))))),
 trivial,
 ⟨⟨rfl,
 rfl⟩,
 trivial⟩,
 ⟨⟨⟨rfl,
 rfl⟩,
 trivial,
 trivial⟩,
 ⟨⟨Nat.le_refl _⟩,
 RowsEq.rfl'⟩,
 MapEq.rfl',
 trivial⟩,
 (by (try dsimp only at *); (have l0 := wk_twin.len; have l1 := wk_1t.len; have l2 := wk_2t.len; have l3 := wk_3t.len; have e0 := wk_0; have e1 := wk_1; have e2 := wk_2; simp only [wkX, wk, List.length_cons, List.length_nil] at *; simp_all; done)),
 trivial⟩,
 fun g20 => have h20 := of_decide_eq_false g20; ⟨(by (try dsimp only at *); (have l0 := wk_twin.len; have l1 := wk_1t.len; have l2 := wk_2t.len; have l3 := wk_3t.len; have e0 := wk_0; have e1 := wk_1; have e2 := wk_2; simp only [wkX, wk, List.length_cons, List.length_nil] at *; simp_all; done)),
 trivial⟩⟩,
 fun g21 => have h21 := of_decide_eq_false g21; ⟨(by (try dsimp only at *); (have l0 := wk_twin.len; have l1 := wk_1t.len; have l2 := wk_2t.len; have l3 := wk_3t.len; have e0 := wk_0; have e1 := wk_1; have e2 := wk_2; simp only [wkX, wk, List.length_cons, List.length_nil] at *; simp_all; done)),
 trivial⟩⟩,
 fun g22 => have h22 := of_decide_eq_false g22; ⟨(by (try dsimp only at *); (have l0 := wk_twin.len; have l1 := wk_1t.len; have l2 := wk_2t.len; have l3 := wk_3t.len; have e0 := wk_0; have e1 := wk_1; have e2 := wk_2; simp only [wkX, wk, List.length_cons, List.length_nil] at *; simp_all; done)),
 trivial⟩⟩,
 fun g23 => have h23 := of_decide_eq_false g23; ⟨(by (try dsimp only at *); (have l0 := wk_twin.len; have l1 := wk_1t.len; have l2 := wk_2t.len; have l3 := wk_3t.len; have e0 := wk_0; have e1 := wk_1; have e2 := wk_2; simp only [wkX, wk, List.length_cons, List.length_nil] at *; simp_all; done)),
 trivial⟩⟩,
 fun g24 => have h24 := of_decide_eq_false g24; ⟨(by (try dsimp only at *); (have l0 := wk_twin.len; have l1 := wk_1t.len; have l2 := wk_2t.len; have l3 := wk_3t.len; have e0 := wk_0; have e1 := wk_1; have e2 := wk_2; simp only [wkX, wk, List.length_cons, List.length_nil] at *; simp_all; done)),
 trivial⟩⟩,
 fun g25 => have h25 := of_decide_eq_false g25; ⟨(by (try dsimp only at *); (have l0 := wk_twin.len; have l1 := wk_1t.len; have l2 := wk_2t.len; have l3 := wk_3t.len; have e0 := wk_0; have e1 := wk_1; have e2 := wk_2; simp only [wkX, wk, List.length_cons, List.length_nil] at *; simp_all; done)),
 trivial⟩⟩,
 fun g26 => have h26 := of_decide_eq_false g26; ⟨(by (try dsimp only at *); (have l0 := wk_twin.len; have l1 := wk_1t.len; have l2 := wk_2t.len; have l3 := wk_3t.len; have e0 := wk_0; have e1 := wk_1; have e2 := wk_2; simp only [wkX, wk, List.length_cons, List.length_nil] at *; simp_all; done)),
 trivial⟩⟩,
 fun g27 => have h27 := of_decide_eq_false g27; ⟨(by (try dsimp only at *); (have l0 := wk_twin.len; have l1 := wk_1t.len; have l2 := wk_2t.len; have l3 := wk_3t.len; have e0 := wk_0; have e1 := wk_1; have e2 := wk_2; simp only [wkX, wk, List.length_cons, List.length_nil] at *; simp_all; done)),
 trivial⟩⟩)

theorem wakes_good : Good Try.prog 9 wakesC ∧ FnOk Try.prog 9 := good_of (c := ⟨T, [], Cw, noInv, 11⟩) tok (ConL.ok conw) (fn := Try.f9) rfl (by decide +kernel) (fun _ => rfl) wakes_keeps
def madeC : CT where
  X := List Act
  pre := fun l => l.length ≤ 100
  args := fun l => [.sl 100000 0 l.length]
  g0 := fun l => [(100000, .rows .bor kA l.length (encL encAct l))]
  res := fun l => .tup [.p 1 0 0, .sl 4 0 (xK l l.length).length]
  g1 := fun l => heapL 1 2 3 (hK l l.length) ++ [refB 4 (xK l l.length)]
def madeI (l : List Act) (id : Nat) : Option Inv := match id with
  | 0 => some { X := Nat, ok := fun k => k ≤ l.length, fr := fun k => [(11, .i .i64 k), (4, .p 1 0 0), (5, .sl 4 0 (xK l k).length)], hp := fun k => heapL 1 2 3 (hK l k) ++ [refB 4 (xK l k)], me := fun k => l.length - k }
  | _ => none
set_option maxRecDepth 100000 in
theorem made_keeps : Keeps ⟨T, [], Cw, noInv, 8⟩ Try.f10 madeC madeI := Eq.mp (show ((∀ x1 : List Act,
 ((List.length x1 ≤ (100 : Nat)) →
 (∃ x3 : Unit,
 ((True) ∧
 ((True) ∧
 ((True) ∧
 (∃ x4 : Nat,
 (((x4 ≤ List.length x1) ∧
 ((((0 : Int) = (↑x4 : Int)) ∧
 ((((0 : Nat) = (0 : Nat)) ∧
 ((0 : Nat) = (0 : Nat))) ∧
 (((True) ∧
 (((0 : Nat) = (0 : Nat)) ∧
 (List.length (xK x1 x4) = (0 : Nat)))) ∧
 (((↑(List.length x1) : Int) = (↑(List.length x1) : Int)) ∧
 ((((0 : Nat) = (0 : Nat)) ∧
 (List.length x1 = List.length x1)) ∧
 ((True) ∧
 ((True) ∧
 ((((0 : Nat) = (0 : Nat)) ∧
 (List.length x1 = List.length x1)) ∧
 (True))))))))) ∧
 (((((0 : Nat) = (0 : Nat)) ∧
 ((0 : Nat) = List.length (hK x1 x4))) ∧
 ((True) ∧
 (True))) ∧
 (((RLe (List.length (hK x1 x4)) (0 : Nat)) ∧
 (RowsEq (Kd.int IntKind.i64 :: Kd.int IntKind.i64 :: @List.nil Kd) (List.length (hK x1 x4)) (encL encEi (@List.nil (El Int))) (encL encEi (hK x1 x4)))) ∧
 ((MapEq (Kd.int IntKind.i64 :: @List.nil Kd) (@List.nil Int) (ids (hK x1 x4)) (posD (@List.nil (El Int))) (posD (hK x1 x4))) ∧
 ((List.length (xK x1 x4) = (0 : Nat)) ∧
 (((RLe (List.length x1) (List.length x1)) ∧
 (RowsEq (Kd.int IntKind.u8 :: Kd.int IntKind.i64 :: Kd.int IntKind.i64 :: @List.nil Kd) (List.length x1) (encL encAct x1) (encL encAct x1))) ∧
 (True)))))))) ∧
 (∀ x5 : Nat,
 ((x5 ≤ List.length x1) →
 (((decide ((↑x5 : Int) < (↑(List.length x1) : Int)) = true) →
 ((((0 : Int) ≤ (↑x5 : Int)) ∧
 ((↑x5 : Int) < (↑(List.length x1) : Int))) ∧
 (((0 : Nat) + Int.toNat (↑x5 : Int) < List.length x1) ∧
 (∃ x8 : LKi,
 (((List.Nodup (ids (LKi.l x8))) ∧
 (List.length (LKi.l x8) ≤ (999999 : Nat))) ∧
 (((((0 : Nat) = (0 : Nat)) ∧
 ((0 : Nat) = (0 : Nat))) ∧
 ((Act.id (List.getD x1 ((0 : Nat) + Int.toNat (↑x5 : Int)) default) = LKi.id x8) ∧
 ((Act.key (List.getD x1 ((0 : Nat) + Int.toNat (↑x5 : Int)) default) = LKi.key x8) ∧
 (True)))) ∧
 ((((((0 : Nat) = (0 : Nat)) ∧
 (List.length (hK x1 x5) = List.length (LKi.l x8))) ∧
 ((True) ∧
 (True))) ∧
 (((RLe (List.length (LKi.l x8)) (List.length (hK x1 x5))) ∧
 (RowsEq (Kd.int IntKind.i64 :: Kd.int IntKind.i64 :: @List.nil Kd) (List.length (LKi.l x8)) (encL encEi (hK x1 x5)) (encL encEi (LKi.l x8)))) ∧
 ((MapEq (Kd.int IntKind.i64 :: @List.nil Kd) (ids (hK x1 x5)) (ids (LKi.l x8)) (posD (hK x1 x5)) (posD (LKi.l x8))) ∧
 (True)))) ∧
 (∃ x9 : LKi,
 ((List.length (LKi.l x9) ≤ (999999 : Nat)) ∧
 (((((0 : Nat) = (0 : Nat)) ∧
 (List.length (xK x1 x5) = List.length (LKi.l x9))) ∧
 ((Act.id (List.getD x1 ((0 : Nat) + Int.toNat (↑x5 : Int)) default) = LKi.id x9) ∧
 ((Act.key (List.getD x1 ((0 : Nat) + Int.toNat (↑x5 : Int)) default) = LKi.key x9) ∧
 (True)))) ∧
 ((((RLe (List.length (LKi.l x9)) (List.length (xK x1 x5))) ∧
 (RowsEq (Kd.int IntKind.i64 :: Kd.int IntKind.i64 :: @List.nil Kd) (List.length (LKi.l x9)) (encL encEi (xK x1 x5)) (encL encEi (LKi.l x9)))) ∧
 (True)) ∧
 ((((-9223372036854775808 : Int) ≤ (↑x5 : Int) + (1 : Int)) ∧
 ((↑x5 : Int) + (1 : Int) ≤ (9223372036854775807 : Int))) ∧
 (∃ x10 : Nat,
 ((List.length x1 - x10 < List.length x1 - x5) ∧
 ((x10 ≤ List.length x1) ∧
 ((((↑x5 : Int) + (1 : Int) = (↑x10 : Int)) ∧
 ((((0 : Nat) = (0 : Nat)) ∧
 ((0 : Nat) = (0 : Nat))) ∧
 ((((0 : Nat) = (0 : Nat)) ∧
 (List.length (putBase (LKi.l x9) (LKi.id x9) (LKi.key x9)) = List.length (xK x1 x10))) ∧
 (((↑(List.length x1) : Int) = (↑(List.length x1) : Int)) ∧
 ((((0 : Nat) = (0 : Nat)) ∧
 (List.length x1 = List.length x1)) ∧
 ((True) ∧
 ((True) ∧
 ((((0 : Nat) = (0 : Nat)) ∧
 (List.length x1 = List.length x1)) ∧
 (True))))))))) ∧
 (((((0 : Nat) = (0 : Nat)) ∧
 (List.length (putF lti (LKi.l x8) (LKi.id x8) (LKi.key x8)) = List.length (hK x1 x10))) ∧
 ((True) ∧
 (True))) ∧
 (((RLe (List.length (hK x1 x10)) (List.length (putF lti (LKi.l x8) (LKi.id x8) (LKi.key x8)))) ∧
 (RowsEq (Kd.int IntKind.i64 :: Kd.int IntKind.i64 :: @List.nil Kd) (List.length (hK x1 x10)) (encL encEi (putF lti (LKi.l x8) (LKi.id x8) (LKi.key x8))) (encL encEi (hK x1 x10)))) ∧
 ((MapEq (Kd.int IntKind.i64 :: @List.nil Kd) (ids (putF lti (LKi.l x8) (LKi.id x8) (LKi.key x8))) (ids (hK x1 x10)) (posD (putF lti (LKi.l x8) (LKi.id x8) (LKi.key x8))) (posD (hK x1 x10))) ∧
 (((RLe (List.length (xK x1 x10)) (List.length (putBase (LKi.l x9) (LKi.id x9) (LKi.key x9)))) ∧
 (RowsEq (Kd.int IntKind.i64 :: Kd.int IntKind.i64 :: @List.nil Kd) (List.length (xK x1 x10)) (encL encEi (putBase (LKi.l x9) (LKi.id x9) (LKi.key x9))) (encL encEi (xK x1 x10)))) ∧
 (((RLe (List.length x1) (List.length x1)) ∧
 (RowsEq (Kd.int IntKind.u8 :: Kd.int IntKind.i64 :: Kd.int IntKind.i64 :: @List.nil Kd) (List.length x1) (encL encAct x1) (encL encAct x1))) ∧
 (True)))))))))))))))))))))) ∧
 ((decide ((↑x5 : Int) < (↑(List.length x1) : Int)) = false) →
 (((((0 : Nat) = (0 : Nat)) ∧
 ((0 : Nat) = (0 : Nat))) ∧
 ((((0 : Nat) = (0 : Nat)) ∧
 (List.length (xK x1 x5) = List.length (xK x1 (List.length x1)))) ∧
 (True))) ∧
 (((((0 : Nat) = (0 : Nat)) ∧
 (List.length (hK x1 x5) = List.length (hK x1 (List.length x1)))) ∧
 ((True) ∧
 (True))) ∧
 (((RLe (List.length (hK x1 (List.length x1))) (List.length (hK x1 x5))) ∧
 (RowsEq (Kd.int IntKind.i64 :: Kd.int IntKind.i64 :: @List.nil Kd) (List.length (hK x1 (List.length x1))) (encL encEi (hK x1 x5)) (encL encEi (hK x1 (List.length x1))))) ∧
 ((MapEq (Kd.int IntKind.i64 :: @List.nil Kd) (ids (hK x1 x5)) (ids (hK x1 (List.length x1))) (posD (hK x1 x5)) (posD (hK x1 (List.length x1)))) ∧
 (((RLe (List.length (xK x1 (List.length x1))) (List.length (xK x1 x5))) ∧
 (RowsEq (Kd.int IntKind.i64 :: Kd.int IntKind.i64 :: @List.nil Kd) (List.length (xK x1 (List.length x1))) (encL encEi (xK x1 x5)) (encL encEi (xK x1 (List.length x1))))) ∧
 (True))))))))))))))))))) = Keeps ⟨T, [], Cw, noInv, 8⟩ Try.f10 madeC madeI by kernel_rfl) (fun x1 => fun h2 => ⟨(default),
 trivial,
 trivial,
 trivial,
 ((0 : Nat)),
 ⟨(by (try dsimp only at *); omega),
 ⟨(by (try dsimp only at *); omega),
 ⟨rfl,
 rfl⟩,
 ⟨trivial,
 rfl,
 (by (try dsimp only at *); rfl)⟩,
 rfl,
 ⟨rfl,
 rfl⟩,
 trivial,
 trivial,
 ⟨rfl,
 rfl⟩,
 trivial⟩,
 ⟨⟨rfl,
 (by (try dsimp only at *); rfl)⟩,
 trivial,
 trivial⟩,
 ⟨⟨(by (try dsimp only at *); exact Nat.le_refl _)⟩,
 (by (try dsimp only at *); exact RowsEq.rfl')⟩,
 (by (try dsimp only at *); exact MapEq.rfl'),
 (by (try dsimp only at *); rfl),
 ⟨⟨Nat.le_refl _⟩,
 RowsEq.rfl'⟩,
 trivial⟩,
 fun x5 => fun h6 => ⟨fun g7 => have h7 := of_decide_eq_true g7; ⟨⟨(by (try dsimp only at *); omega),
 (by (try dsimp only at *); omega)⟩,
 (by (try dsimp only at *); omega),
 ({ l := hK x1 x5, id := Act.id (List.getD x1 ((0 : Nat) + Int.toNat (↑x5 : Int)) default), key := Act.key (List.getD x1 ((0 : Nat) + Int.toNat (↑x5 : Int)) default) : LKi }),
 ⟨(by (try dsimp only at *); (have ht := twinK x1 x5 (by omega); have := ht.1.len; first | omega | exact ht.1.n)),
 (by (try dsimp only at *); (have ht := twinK x1 x5 (by omega); have := ht.1.len; first | omega | exact ht.1.n))⟩,
 ⟨⟨rfl,
 rfl⟩,
 rfl,
 rfl,
 trivial⟩,
 ⟨⟨⟨rfl,
 rfl⟩,
 trivial,
 trivial⟩,
 ⟨⟨Nat.le_refl _⟩,
 RowsEq.rfl'⟩,
 (by (try dsimp only at *); exact MapEq.rfl'),
 trivial⟩,
 ({ l := xK x1 x5, id := Act.id (List.getD x1 ((0 : Nat) + Int.toNat (↑x5 : Int)) default), key := Act.key (List.getD x1 ((0 : Nat) + Int.toNat (↑x5 : Int)) default) : LKi }),
 (by (try dsimp only at *); (have ht := twinK x1 x5 (by omega); have := ht.1.len; first | omega | exact ht.1.n)),
 ⟨⟨rfl,
 rfl⟩,
 rfl,
 rfl,
 trivial⟩,
 ⟨⟨⟨Nat.le_refl _⟩,
 RowsEq.rfl'⟩,
 trivial⟩,
 ⟨(by (try dsimp only at *); omega),
 (by (try dsimp only at *); omega)⟩,
 (x5 + (1 : Nat)),
 (by (try dsimp only at *); omega),
 (by (try dsimp only at *); omega),
 ⟨(by (try dsimp only at *); omega),
 ⟨rfl,
 rfl⟩,
 ⟨rfl,
 (by (try dsimp only at *); (have hk : x5 < x1.length := (by omega); simp only [Nat.zero_add, Int.toNat_natCast] at *; first | ((first | (rw [hK_succ hk]; done) | rw [hK_succ hk]); first | done | rfl | exact Nat.le_refl _ | exact MapEq.rfl' | exact RowsEq.rfl') | ((first | (rw [xK_succ hk]; done) | rw [xK_succ hk]); first | done | rfl | exact Nat.le_refl _ | exact MapEq.rfl' | exact RowsEq.rfl')))⟩,
 rfl,
 ⟨rfl,
 rfl⟩,
 trivial,
 trivial,
 ⟨rfl,
 rfl⟩,
 trivial⟩,
 ⟨⟨rfl,
 (by (try dsimp only at *); (have hk : x5 < x1.length := (by omega); simp only [Nat.zero_add, Int.toNat_natCast] at *; first | ((first | (rw [hK_succ hk]; done) | rw [hK_succ hk]); first | done | rfl | exact Nat.le_refl _ | exact MapEq.rfl' | exact RowsEq.rfl') | ((first | (rw [xK_succ hk]; done) | rw [xK_succ hk]); first | done | rfl | exact Nat.le_refl _ | exact MapEq.rfl' | exact RowsEq.rfl')))⟩,
 trivial,
 trivial⟩,
 ⟨⟨(by (try dsimp only at *); (have hk : x5 < x1.length := (by omega); simp only [Nat.zero_add, Int.toNat_natCast] at *; first | ((first | (rw [hK_succ hk]; done) | rw [hK_succ hk]); first | done | rfl | exact Nat.le_refl _ | exact MapEq.rfl' | exact RowsEq.rfl') | ((first | (rw [xK_succ hk]; done) | rw [xK_succ hk]); first | done | rfl | exact Nat.le_refl _ | exact MapEq.rfl' | exact RowsEq.rfl')))⟩,
 (by (try dsimp only at *); (have hk : x5 < x1.length := (by omega); simp only [Nat.zero_add, Int.toNat_natCast] at *; first | ((first | (rw [hK_succ hk]; done) | rw [hK_succ hk]); first | done | rfl | exact Nat.le_refl _ | exact MapEq.rfl' | exact RowsEq.rfl') | ((first | (rw [xK_succ hk]; done) | rw [xK_succ hk]); first | done | rfl | exact Nat.le_refl _ | exact MapEq.rfl' | exact RowsEq.rfl')))⟩,
 (by (try dsimp only at *); (have hk : x5 < x1.length := (by omega); simp only [Nat.zero_add, Int.toNat_natCast] at *; first | ((first | (rw [hK_succ hk]; done) | rw [hK_succ hk]); first | done | rfl | exact Nat.le_refl _ | exact MapEq.rfl' | exact RowsEq.rfl') | ((first | (rw [xK_succ hk]; done) | rw [xK_succ hk]); first | done | rfl | exact Nat.le_refl _ | exact MapEq.rfl' | exact RowsEq.rfl'))),
 ⟨⟨(by (try dsimp only at *); (have hk : x5 < x1.length := (by omega); simp only [Nat.zero_add, Int.toNat_natCast] at *; first | ((first | (rw [hK_succ hk]; done) | rw [hK_succ hk]); first | done | rfl | exact Nat.le_refl _ | exact MapEq.rfl' | exact RowsEq.rfl') | ((first | (rw [xK_succ hk]; done) | rw [xK_succ hk]); first | done | rfl | exact Nat.le_refl _ | exact MapEq.rfl' | exact RowsEq.rfl')))⟩,
 (by (try dsimp only at *); (have hk : x5 < x1.length := (by omega); simp only [Nat.zero_add, Int.toNat_natCast] at *; first | ((first | (rw [hK_succ hk]; done) | rw [hK_succ hk]); first | done | rfl | exact Nat.le_refl _ | exact MapEq.rfl' | exact RowsEq.rfl') | ((first | (rw [xK_succ hk]; done) | rw [xK_succ hk]); first | done | rfl | exact Nat.le_refl _ | exact MapEq.rfl' | exact RowsEq.rfl')))⟩,
 ⟨⟨Nat.le_refl _⟩,
 RowsEq.rfl'⟩,
 trivial⟩,
 fun g11 => have h11 := of_decide_eq_false g11; ⟨⟨⟨rfl,
 rfl⟩,
 ⟨rfl,
 (by (try dsimp only at *); grind)⟩,
 trivial⟩,
 ⟨⟨rfl,
 (by (try dsimp only at *); grind)⟩,
 trivial,
 trivial⟩,
 ⟨⟨(by (try dsimp only at *); grind)⟩,
 (by (try dsimp only at *); (obtain rfl : x5 = x1.length := (by omega); first | exact MapEq.rfl' | exact RowsEq.rfl'))⟩,
 (by (try dsimp only at *); (obtain rfl : x5 = x1.length := (by omega); first | exact MapEq.rfl' | exact RowsEq.rfl')),
 ⟨⟨(by (try dsimp only at *); grind)⟩,
 (by (try dsimp only at *); (obtain rfl : x5 = x1.length := (by omega); first | exact MapEq.rfl' | exact RowsEq.rfl'))⟩,
 trivial⟩⟩⟩)

theorem made_good : Good Try.prog 10 madeC ∧ FnOk Try.prog 10 := good_of (c := ⟨T, [], Cw, noInv, 8⟩) tok (ConL.ok conw) (fn := Try.f10) rfl (by decide +kernel) (fun _ => rfl) made_keeps
structure SameX where
  h : List Line
  x : List Line
  id : Int
def sameC : CT where
  X := SameX
  pre := fun z => Twin z.h z.x ∧ z.x.length ≤ 1000000
  args := fun z => [.p 100000 0 0, .sl 100003 0 z.x.length, .i .i64 z.id]
  g0 := fun z => heapHi .bor z.h ++ [refB 100003 z.x]
  res := fun _ => .b true
  g1 := fun _ => []
def Cs : List (Nat × Con) := [(27, .one miniC), (21, .one topC), (24, .one keyiC), (12, .one rkeyC), (15, .one leniC)]
theorem cons' : ConL Try.prog Cs := .cons (ConL.one mini_good) (.cons (ConL.one top_good) (.cons (ConL.one keyi_good) (.cons (ConL.one rkey_good) (.cons (ConL.one leni_good) .nil))))
set_option maxRecDepth 100000 in
theorem same_keeps : Keeps ⟨T, [], Cs, noInv, 16⟩ Try.f26 sameC noIv := Eq.mp (show ((∀ x1 : SameX,
 ((Twin (SameX.h x1) (SameX.x x1) ∧ List.length (SameX.x x1) ≤ (1000000 : Nat)) →
 (∃ x3 : List (El Int),
 ((True) ∧
 (((((0 : Nat) = (0 : Nat)) ∧
 ((0 : Nat) = (0 : Nat))) ∧
 (True)) ∧
 ((((((0 : Nat) = (0 : Nat)) ∧
 (List.length (SameX.h x1) = List.length x3)) ∧
 ((True) ∧
 (True))) ∧
 (((RLe (List.length x3) (List.length (SameX.h x1))) ∧
 (RowsEq (Kd.int IntKind.i64 :: Kd.int IntKind.i64 :: @List.nil Kd) (List.length x3) (encL encEi (SameX.h x1)) (encL encEi x3))) ∧
 ((MapEq (Kd.int IntKind.i64 :: @List.nil Kd) (ids (SameX.h x1)) (ids x3) (posD (SameX.h x1)) (posD x3)) ∧
 (True)))) ∧
 (∃ x4 : List Line,
 ((List.length x4 ≤ (1000000 : Nat)) ∧
 (((((0 : Nat) = (0 : Nat)) ∧
 (List.length (SameX.x x1) = List.length x4)) ∧
 (True)) ∧
 ((((RLe (List.length x4) (List.length (SameX.x x1))) ∧
 (RowsEq (Kd.int IntKind.i64 :: Kd.int IntKind.i64 :: @List.nil Kd) (List.length x4) (encL encEi (SameX.x x1)) (encL encEi x4))) ∧
 (True)) ∧
 (∃ x5 : LKi,
 ((True) ∧
 (((((0 : Nat) = (0 : Nat)) ∧
 ((0 : Nat) = (0 : Nat))) ∧
 ((SameX.id x1 = LKi.id x5) ∧
 (True))) ∧
 ((((((0 : Nat) = (0 : Nat)) ∧
 (List.length (SameX.h x1) = List.length (LKi.l x5))) ∧
 ((True) ∧
 (True))) ∧
 (((RLe (List.length (LKi.l x5)) (List.length (SameX.h x1))) ∧
 (RowsEq (Kd.int IntKind.i64 :: Kd.int IntKind.i64 :: @List.nil Kd) (List.length (LKi.l x5)) (encL encEi (SameX.h x1)) (encL encEi (LKi.l x5)))) ∧
 ((MapEq (Kd.int IntKind.i64 :: @List.nil Kd) (ids (SameX.h x1)) (ids (LKi.l x5)) (posD (SameX.h x1)) (posD (LKi.l x5))) ∧
 (True)))) ∧
 (∃ x6 : LKi,
 ((List.length (LKi.l x6) ≤ (1000000 : Nat)) ∧
 (((((0 : Nat) = (0 : Nat)) ∧
 (List.length (SameX.x x1) = List.length (LKi.l x6))) ∧
 ((SameX.id x1 = LKi.id x6) ∧
 (True))) ∧
 ((((RLe (List.length (LKi.l x6)) (List.length (SameX.x x1))) ∧
 (RowsEq (Kd.int IntKind.i64 :: Kd.int IntKind.i64 :: @List.nil Kd) (List.length (LKi.l x6)) (encL encEi (SameX.x x1)) (encL encEi (LKi.l x6)))) ∧
 (True)) ∧
 (∃ x7 : List (El Int),
 ((True) ∧
 (((((0 : Nat) = (0 : Nat)) ∧
 ((0 : Nat) = (0 : Nat))) ∧
 (True)) ∧
 ((((((0 : Nat) = (0 : Nat)) ∧
 (List.length (SameX.h x1) = List.length x7)) ∧
 ((True) ∧
 (True))) ∧
 (((RLe (List.length x7) (List.length (SameX.h x1))) ∧
 (RowsEq (Kd.int IntKind.i64 :: Kd.int IntKind.i64 :: @List.nil Kd) (List.length x7) (encL encEi (SameX.h x1)) (encL encEi x7))) ∧
 ((MapEq (Kd.int IntKind.i64 :: @List.nil Kd) (ids (SameX.h x1)) (ids x7) (posD (SameX.h x1)) (posD x7)) ∧
 (True)))) ∧
 (((decide ((↑(List.length x7) : Int) = (↑(List.length (SameX.x x1)) : Int)) = true) →
 (((decide (El.id (List.getD x3 (0 : Nat) default) = El.id (topK x4 (List.length x4))) = true) →
 (((decide (El.key (List.getD x3 (0 : Nat) default) = El.key (topK x4 (List.length x4))) = true) →
 ((((decide (List.length x3 ≠ (0 : Nat)) == decide (List.length x4 ≠ (0 : Nat))) = true) →
 (((decide (keyOfi (LKi.l x5) (LKi.id x5) = keyOfi (LKi.l x6) (LKi.id x6)) = true) →
 (((decide (LKi.id x5 ∈ ids (LKi.l x5)) == decide (LKi.id x6 ∈ ids (LKi.l x6))) = true) ∧
 (True))) ∧
 ((decide (keyOfi (LKi.l x5) (LKi.id x5) = keyOfi (LKi.l x6) (LKi.id x6)) = false) →
 ((false = true) ∧
 (True))))) ∧
 (((decide (List.length x3 ≠ (0 : Nat)) == decide (List.length x4 ≠ (0 : Nat))) = false) →
 ((false = true) ∧
 (True))))) ∧
 ((decide (El.key (List.getD x3 (0 : Nat) default) = El.key (topK x4 (List.length x4))) = false) →
 ((false = true) ∧
 (True))))) ∧
 ((decide (El.id (List.getD x3 (0 : Nat) default) = El.id (topK x4 (List.length x4))) = false) →
 ((false = true) ∧
 (True))))) ∧
 ((decide ((↑(List.length x7) : Int) = (↑(List.length (SameX.x x1)) : Int)) = false) →
 ((false = true) ∧
 (True))))))))))))))))))))))))))) = Keeps ⟨T, [], Cs, noInv, 16⟩ Try.f26 sameC noIv by kernel_rfl) (fun x1 => fun h2 => ⟨(SameX.h x1),
 trivial,
 ⟨⟨rfl,
 rfl⟩,
 trivial⟩,
 ⟨⟨⟨rfl,
 rfl⟩,
 trivial,
 trivial⟩,
 ⟨⟨Nat.le_refl _⟩,
 RowsEq.rfl'⟩,
 MapEq.rfl',
 trivial⟩,
 (SameX.x x1),
 (by (try dsimp only at *); omega),
 ⟨⟨rfl,
 rfl⟩,
 trivial⟩,
 ⟨⟨⟨Nat.le_refl _⟩,
 RowsEq.rfl'⟩,
 trivial⟩,
 ({ l := SameX.h x1, id := SameX.id x1, key := default : LKi }),
 trivial,
 ⟨⟨rfl,
 rfl⟩,
 rfl,
 trivial⟩,
 ⟨⟨⟨rfl,
 rfl⟩,
 trivial,
 trivial⟩,
 ⟨⟨Nat.le_refl _⟩,
 RowsEq.rfl'⟩,
 (by (try dsimp only at *); exact MapEq.rfl'),
 trivial⟩,
 ({ l := SameX.x x1, id := SameX.id x1, key := default : LKi }),
 (by (try dsimp only at *); omega),
 ⟨⟨rfl,
 rfl⟩,
 rfl,
 trivial⟩,
 ⟨⟨⟨Nat.le_refl _⟩,
 RowsEq.rfl'⟩,
 trivial⟩,
 (SameX.h x1),
 trivial,
 ⟨⟨rfl,
 rfl⟩,
 trivial⟩,
 ⟨⟨⟨rfl,
 rfl⟩,
 trivial,
 trivial⟩,
 ⟨⟨Nat.le_refl _⟩,
 RowsEq.rfl'⟩,
 MapEq.rfl',
 trivial⟩,
 fun g8 => have h8 := of_decide_eq_true g8; ⟨fun g9 => have h9 := of_decide_eq_true g9; ⟨fun g10 => have h10 := of_decide_eq_true g10; ⟨fun h11 => ⟨fun g12 => have h12 := of_decide_eq_true g12; ⟨(by (try dsimp only at *); (obtain ⟨t, hl⟩ := h2; have a1 := t.len; have a2 := t.top; have a3 := t.mem x1.id; have a4 := t.key x1.id; have a5 := t.len; first | omega | (simp_all; done) | (exfalso; simp_all; done))),
 trivial⟩,
 fun g13 => have h13 := of_decide_eq_false g13; ⟨(by (try dsimp only at *); (obtain ⟨t, hl⟩ := h2; have a1 := t.len; have a2 := t.top; have a3 := t.mem x1.id; have a4 := t.key x1.id; have a5 := t.len; first | omega | (simp_all; done) | (exfalso; simp_all; done))),
 trivial⟩⟩,
 fun h14 => ⟨(by (try dsimp only at *); grind),
 trivial⟩⟩,
 fun g15 => have h15 := of_decide_eq_false g15; ⟨(by (try dsimp only at *); (obtain ⟨t, hl⟩ := h2; have a1 := t.len; have a2 := t.top; have a3 := t.mem x1.id; have a4 := t.key x1.id; have a5 := t.len; first | omega | (simp_all; done) | (exfalso; simp_all; done))),
 trivial⟩⟩,
 fun g16 => have h16 := of_decide_eq_false g16; ⟨(by (try dsimp only at *); (obtain ⟨t, hl⟩ := h2; have a1 := t.len; have a2 := t.top; have a3 := t.mem x1.id; have a4 := t.key x1.id; have a5 := t.len; first | omega | (simp_all; done) | (exfalso; simp_all; done))),
 trivial⟩⟩,
 fun g17 => have h17 := of_decide_eq_false g17; ⟨(by (try dsimp only at *); (obtain ⟨t, hl⟩ := h2; have a1 := t.len; have a2 := t.top; have a3 := t.mem x1.id; have a4 := t.key x1.id; have a5 := t.len; first | omega | (simp_all; done) | (exfalso; simp_all; done))),
 trivial⟩⟩)

theorem same_good : Good Try.prog 26 sameC ∧ FnOk Try.prog 26 := good_of (c := ⟨T, [], Cs, noInv, 16⟩) tok (ConL.ok cons') (fn := Try.f26) rfl (by decide +kernel) (fun _ => rfl) same_keeps
end Go.Sym
