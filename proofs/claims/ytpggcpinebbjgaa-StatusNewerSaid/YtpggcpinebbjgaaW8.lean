/- law30: StatusSilent, StatusOutOfOrder: the walks. -/
import Derived.Test.YtpggcpinebbjgaaW7
namespace Go.Sym
set_option linter.unusedVariables false
set_option linter.unusedSimpArgs false
open Go.Proofs
theorem Ref.all_not (y : Ref) (u : Int) (h : (y.all u).2.2 = false) : (y.all u).2.1 = y.since := by
  have : ∀ (l : List Came) (a : Sta × Int × Bool), (l.foldl (Ref.step u) a).2.2 = false → (l.foldl (Ref.step u) a).2.1 = a.2.1 ∧ a.2.2 = false := by
    intro l
    induction l with
    | nil => intro a h; exact ⟨rfl, h⟩
    | cons c l ih =>
      intro a h
      rw [List.foldl_cons] at h ⊢
      obtain ⟨h1, h2⟩ := ih _ h
      unfold Ref.step at h2
      split at h2
      · cases h2
      · rename_i hc
        refine ⟨?_, h2⟩
        rw [h1]
        unfold Ref.step
        rw [if_neg hc]
  exact (this _ _ h).1
theorem Same.quiet {b : Box} {y : Ref} (h : Same b y) (now s : Int) : y.quiet now s y.units.toNat = b.silent now s b.length := by
  unfold Ref.quiet Box.silent
  rw [h.units, Int.toNat_natCast]
  congr 1
  apply List.filter_congr
  intro u hu
  have hu := List.mem_range.1 hu
  unfold Ref.quietAt Ref.there Ref.heard Ref.there
  rw [h.heard u hu]
  cases ht : (y.all (u : Int)).2.2 with
  | true => simp
  | false => rw [Ref.all_not y u ht]; simp
def C8 : List (Nat × Con) := [(9, .two encSelLong (.one playedLong) (.two encSelPlay (.one playedC) (.one playedNo))), (10, .one awakeC), (17, .one numbersC), (18, .one silentC), (19, .one quietC)]
def cfg8 : Cfg := ⟨T, [], C8, noInv, 10, {}⟩
theorem con8 : ConOk Try.prog cfg8 := ConL.ok (.cons (ConL.two (ConL.one playedLong_good) (ConL.two (ConL.one played_good) (ConL.one playedNo_good))) (.cons (ConL.one awake_good) (.cons (ConL.one numbers_good) (.cons (ConL.one silent_good) (.cons (ConL.one quiet_good) .nil)))))
structure SilLawX where
  l : List Came
  now : Int
  silence : Int
def silLawC : CT where
  X := SilLawX
  pre := fun _ => True
  args := fun x => [.sl 100000 0 x.l.length, .i .i64 x.now, .i .i64 x.silence]
  g0 := fun x => [(100000, .rows .bor k6 x.l.length (encL encCame x.l))]
  res := fun _ => .b true
  g1 := fun _ => []
set_option maxRecDepth 100000 in
theorem silLaw_keeps : Keeps cfg8 Try.f6 silLawC noIv := Eq.mp (show ((∀ x1 : SilLawX,
 ((True) →
 (((decide ((60 : Nat) < List.length (SilLawX.l x1)) = true) →
 (∃ x4 : PlayX,
 (((60 : Nat) < List.length (PlayX.l x4)) ∧
 ((((5 : Int) = PlayX.n x4) ∧
 (((3 : Int) = PlayX.now x4) ∧
 ((((0 : Nat) = (0 : Nat)) ∧
 (List.length (SilLawX.l x1) = List.length (PlayX.l x4))) ∧
 (True)))) ∧
 ((((RLe (List.length (PlayX.l x4)) (List.length (SilLawX.l x1))) ∧
 (RowsEq (Kd.int IntKind.i64 :: Kd.int IntKind.i64 :: Kd.int IntKind.i64 :: Kd.int IntKind.i64 :: Kd.int IntKind.i64 :: Kd.int IntKind.i64 :: @List.nil Kd) (List.length (PlayX.l x4)) (encL encCame (SilLawX.l x1)) (encL encCame (PlayX.l x4)))) ∧
 (True)) ∧
 (((true = true) →
 (∃ x6 : Unit,
 ((True) ∧
 ((True) ∧
 ((True) ∧
 ((true = true) ∧
 (True))))))) ∧
 ((true = false) →
 ((false = true) ∧
 (True))))))))) ∧
 ((decide ((60 : Nat) < List.length (SilLawX.l x1)) = false) →
 (((decide ((0 : Int) ≤ (5 : Int) ∧ (5 : Int) ≤ (256 : Int)) = true) →
 (∃ x10 : PlayX,
 (((List.length (PlayX.l x10) ≤ (60 : Nat)) ∧
 (((0 : Int) ≤ PlayX.n x10) ∧
 (PlayX.n x10 ≤ (256 : Int)))) ∧
 ((((5 : Int) = PlayX.n x10) ∧
 (((3 : Int) = PlayX.now x10) ∧
 ((((0 : Nat) = (0 : Nat)) ∧
 (List.length (SilLawX.l x1) = List.length (PlayX.l x10))) ∧
 (True)))) ∧
 ((((RLe (List.length (PlayX.l x10)) (List.length (SilLawX.l x1))) ∧
 (RowsEq (Kd.int IntKind.i64 :: Kd.int IntKind.i64 :: Kd.int IntKind.i64 :: Kd.int IntKind.i64 :: Kd.int IntKind.i64 :: Kd.int IntKind.i64 :: @List.nil Kd) (List.length (PlayX.l x10)) (encL encCame (SilLawX.l x1)) (encL encCame (PlayX.l x10)))) ∧
 (True)) ∧
 (((true = true) →
 (∃ x12 : SilX,
 (((Box.Ok (SilX.b x12)) ∧
 (List.length (SilX.b x12) ≤ (256 : Nat))) ∧
 (((((0 : Nat) = (0 : Nat)) ∧
 ((0 : Nat) = (0 : Nat))) ∧
 ((SilLawX.now x1 = SilX.now x12) ∧
 ((SilLawX.silence x1 = SilX.silence x12) ∧
 (True)))) ∧
 ((((((0 : Nat) = (0 : Nat)) ∧
 (List.length (PlayX.b x10) = List.length (SilX.b x12))) ∧
 (True)) ∧
 (((RLe (List.length (SilX.b x12)) (List.length (PlayX.b x10))) ∧
 (RowsEq (Kd.int IntKind.i64 :: Kd.int IntKind.i64 :: Kd.int IntKind.i64 :: Kd.int IntKind.i64 :: Kd.int IntKind.i64 :: Kd.int IntKind.i64 :: Kd.int IntKind.i64 :: @List.nil Kd) (List.length (SilX.b x12)) (encL encRec (PlayX.b x10)) (encL encRec (SilX.b x12)))) ∧
 (True))) ∧
 (∃ x13 : QuiX,
 (((Ref.Ok (QuiX.y x13)) ∧
 (Ref.Ok2 (QuiX.y x13))) ∧
 ((((Ref.units (PlayX.y x10) = Ref.units (QuiX.y x13)) ∧
 ((Ref.since (PlayX.y x10) = Ref.since (QuiX.y x13)) ∧
 ((((0 : Nat) = (0 : Nat)) ∧
 (List.length (Ref.news (PlayX.y x10)) = List.length (Ref.news (QuiX.y x13)))) ∧
 (True)))) ∧
 ((SilLawX.now x1 = QuiX.now x13) ∧
 ((SilLawX.silence x1 = QuiX.silence x13) ∧
 (True)))) ∧
 ((((RLe (List.length (Ref.news (QuiX.y x13))) (List.length (Ref.news (PlayX.y x10)))) ∧
 (RowsEq (Kd.int IntKind.i64 :: Kd.int IntKind.i64 :: Kd.int IntKind.i64 :: Kd.int IntKind.i64 :: Kd.int IntKind.i64 :: Kd.int IntKind.i64 :: @List.nil Kd) (List.length (Ref.news (QuiX.y x13))) (encL encCame (Ref.news (PlayX.y x10))) (encL encCame (Ref.news (QuiX.y x13))))) ∧
 (True)) ∧
 (∃ x14 : NumX,
 ((List.length (NumX.a x14) ≤ (1048576 : Nat)) ∧
 (((((0 : Nat) = (0 : Nat)) ∧
 (List.length (Box.silent (SilX.b x12) (SilX.now x12) (SilX.silence x12) (List.length (SilX.b x12))) = List.length (NumX.a x14))) ∧
 ((((0 : Nat) = (0 : Nat)) ∧
 (List.length (Ref.quiet (QuiX.y x13) (QuiX.now x13) (QuiX.silence x13) (Int.toNat (Ref.units (QuiX.y x13)))) = List.length (NumX.b x14))) ∧
 (True))) ∧
 ((((RLe (List.length (NumX.a x14)) (List.length (Box.silent (SilX.b x12) (SilX.now x12) (SilX.silence x12) (List.length (SilX.b x12))))) ∧
 (RowsEq (Kd.int IntKind.i64 :: @List.nil Kd) (List.length (NumX.a x14)) (encL encI (Box.silent (SilX.b x12) (SilX.now x12) (SilX.silence x12) (List.length (SilX.b x12)))) (encL encI (NumX.a x14)))) ∧
 (((RLe (List.length (NumX.b x14)) (List.length (Ref.quiet (QuiX.y x13) (QuiX.now x13) (QuiX.silence x13) (Int.toNat (Ref.units (QuiX.y x13)))))) ∧
 (RowsEq (Kd.int IntKind.i64 :: @List.nil Kd) (List.length (NumX.b x14)) (encL encI (Ref.quiet (QuiX.y x13) (QuiX.now x13) (QuiX.silence x13) (Int.toNat (Ref.units (QuiX.y x13))))) (encL encI (NumX.b x14)))) ∧
 (True))) ∧
 (((decide (NumX.a x14 = NumX.b x14) = true) →
 (∃ x16 : Unit,
 ((True) ∧
 ((True) ∧
 ((True) ∧
 ((true = true) ∧
 (True))))))) ∧
 ((decide (NumX.a x14 = NumX.b x14) = false) →
 ((false = true) ∧
 (True))))))))))))))))) ∧
 ((true = false) →
 ((false = true) ∧
 (True))))))))) ∧
 ((decide ((0 : Int) ≤ (5 : Int) ∧ (5 : Int) ≤ (256 : Int)) = false) →
 (∃ x20 : PlayX,
 (((¬((0 : Int) ≤ PlayX.n x20 ∧ PlayX.n x20 ≤ (256 : Int))) ∧
 (List.length (PlayX.l x20) ≤ (60 : Nat))) ∧
 ((((5 : Int) = PlayX.n x20) ∧
 (((3 : Int) = PlayX.now x20) ∧
 ((((0 : Nat) = (0 : Nat)) ∧
 (List.length (SilLawX.l x1) = List.length (PlayX.l x20))) ∧
 (True)))) ∧
 ((((RLe (List.length (PlayX.l x20)) (List.length (SilLawX.l x1))) ∧
 (RowsEq (Kd.int IntKind.i64 :: Kd.int IntKind.i64 :: Kd.int IntKind.i64 :: Kd.int IntKind.i64 :: Kd.int IntKind.i64 :: Kd.int IntKind.i64 :: @List.nil Kd) (List.length (PlayX.l x20)) (encL encCame (SilLawX.l x1)) (encL encCame (PlayX.l x20)))) ∧
 (True)) ∧
 (((true = true) →
 (∃ x22 : Unit,
 ((True) ∧
 ((True) ∧
 ((True) ∧
 ((true = true) ∧
 (True))))))) ∧
 ((true = false) →
 ((false = true) ∧
 (True))))))))))))))) = Keeps cfg8 Try.f6 silLawC noIv by kernel_rfl) (fun x1 => fun h2 => ⟨fun g3 => have h3 := of_decide_eq_true g3; ⟨({ n := (5 : Int), now := (3 : Int), l := SilLawX.l x1 : PlayX }),
 (by (try dsimp only at *); omega),
 ⟨rfl,
 rfl,
 ⟨rfl,
 rfl⟩,
 trivial⟩,
 ⟨⟨⟨Nat.le_refl _⟩,
 RowsEq.rfl'⟩,
 trivial⟩,
 fun h5 => ⟨(default),
 trivial,
 trivial,
 trivial,
 rfl,
 trivial⟩,
 fun h7 => ⟨(by (try dsimp only at *); grind),
 trivial⟩⟩,
 fun g8 => have h8 := of_decide_eq_false g8; ⟨fun g9 => have h9 := of_decide_eq_true g9; ⟨({ n := (5 : Int), now := (3 : Int), l := SilLawX.l x1 : PlayX }),
 ⟨(by (try dsimp only at *); omega),
 (by (try dsimp only at *); omega),
 (by (try dsimp only at *); omega)⟩,
 ⟨rfl,
 rfl,
 ⟨rfl,
 rfl⟩,
 trivial⟩,
 ⟨⟨⟨Nat.le_refl _⟩,
 RowsEq.rfl'⟩,
 trivial⟩,
 fun h11 => ⟨({ b := PlayX.b { n := (5 : Int), now := (3 : Int), l := SilLawX.l x1 : PlayX }, now := SilLawX.now x1, silence := SilLawX.silence x1 : SilX }),
 ⟨(by (try dsimp only at *); exact (PlayX.same ⟨5, 3, x1.l⟩ h9).ok),
 (by (try dsimp only at *); exact (PlayX.same ⟨5, 3, x1.l⟩ h9).few)⟩,
 ⟨⟨rfl,
 rfl⟩,
 rfl,
 rfl,
 trivial⟩,
 ⟨⟨⟨rfl,
 rfl⟩,
 trivial⟩,
 ⟨⟨Nat.le_refl _⟩,
 RowsEq.rfl'⟩,
 trivial⟩,
 ({ y := PlayX.y { n := (5 : Int), now := (3 : Int), l := SilLawX.l x1 : PlayX }, now := SilLawX.now x1, silence := SilLawX.silence x1 : QuiX }),
 ⟨(by (try dsimp only at *); exact (PlayX.ok ⟨5, 3, x1.l⟩ h9 (show x1.l.length ≤ 60 by omega))),
 (by (try dsimp only at *); exact (PlayX.same ⟨5, 3, x1.l⟩ h9).ok2)⟩,
 ⟨⟨rfl,
 rfl,
 ⟨rfl,
 rfl⟩,
 trivial⟩,
 rfl,
 rfl,
 trivial⟩,
 ⟨⟨⟨Nat.le_refl _⟩,
 RowsEq.rfl'⟩,
 trivial⟩,
 ({ a := Box.silent (PlayX.b { n := (5 : Int), now := (3 : Int), l := SilLawX.l x1 : PlayX }) (SilLawX.now x1) (SilLawX.silence x1) (List.length (PlayX.b { n := (5 : Int), now := (3 : Int), l := SilLawX.l x1 : PlayX })), b := Ref.quiet (PlayX.y { n := (5 : Int), now := (3 : Int), l := SilLawX.l x1 : PlayX }) (SilLawX.now x1) (SilLawX.silence x1) (Int.toNat (Ref.units (PlayX.y { n := (5 : Int), now := (3 : Int), l := SilLawX.l x1 : PlayX }))) : NumX }),
 (by (try dsimp only at *); (have e := (PlayX.same ⟨5, 3, x1.l⟩ h9).few; have e2 := silent_len (PlayX.b ⟨5, 3, x1.l⟩) x1.now x1.silence (PlayX.b ⟨5, 3, x1.l⟩).length; omega)),
 ⟨⟨rfl,
 rfl⟩,
 ⟨rfl,
 rfl⟩,
 trivial⟩,
 ⟨⟨⟨Nat.le_refl _⟩,
 RowsEq.rfl'⟩,
 ⟨⟨Nat.le_refl _⟩,
 RowsEq.rfl'⟩,
 trivial⟩,
 fun g15 => have h15 := of_decide_eq_true g15; ⟨(default),
 trivial,
 trivial,
 trivial,
 rfl,
 trivial⟩,
 fun g17 => have h17 := of_decide_eq_false g17; ⟨(by (try dsimp only at *); (have e := (PlayX.same ⟨5, 3, x1.l⟩ h9).quiet x1.now x1.silence; grind)),
 trivial⟩⟩,
 fun h18 => ⟨(by (try dsimp only at *); grind),
 trivial⟩⟩,
 fun g19 => have h19 := of_decide_eq_false g19; ⟨({ n := (5 : Int), now := (3 : Int), l := SilLawX.l x1 : PlayX }),
 ⟨(by (try dsimp only at *); omega),
 (by (try dsimp only at *); omega)⟩,
 ⟨rfl,
 rfl,
 ⟨rfl,
 rfl⟩,
 trivial⟩,
 ⟨⟨⟨Nat.le_refl _⟩,
 RowsEq.rfl'⟩,
 trivial⟩,
 fun h21 => ⟨(default),
 trivial,
 trivial,
 trivial,
 rfl,
 trivial⟩,
 fun h23 => ⟨(by (try dsimp only at *); omega),
 trivial⟩⟩⟩⟩)

theorem silLaw_good : Good Try.prog 6 silLawC ∧ FnOk Try.prog 6 := good_of tok con8 (fn := Try.f6) rfl (by decide +kernel) (fun _ => rfl) silLaw_keeps
end Go.Sym
