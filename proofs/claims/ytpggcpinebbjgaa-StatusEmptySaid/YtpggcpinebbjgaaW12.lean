/- law30: StatusNewer, StatusEmpty: the laws' walks. -/
import Derived.Test.YtpggcpinebbjgaaW11
import Derived.Test.YtpggcpinebbjgaaXD
namespace Go.Sym
set_option linter.unusedVariables false
set_option linter.unusedSimpArgs false
open Go.Proofs
def encSel21 (a : List SV) (G : Hp) : Bool := match a with | [_, .fn f _] => Nat.beq f 21 | _ => false
def C13 : List (Nat × Con) := [(9, .two encSelLong (.one playedLong) (.two encSelPlay (.one playedC) (.one playedNo))), (10, .one awakeC), (20, .two encSel21 (.one newer1C) (.one newer2C)), (23, .one sameC), (24, .one rnewerC)]
def cfg13 : Cfg := ⟨T, [], C13, noInv, 12, {}⟩
theorem con13 : ConOk Try.prog cfg13 := ConL.ok (.cons (ConL.two (ConL.one playedLong_good) (ConL.two (ConL.one played_good) (ConL.one playedNo_good))) (.cons (ConL.one awake_good) (.cons (ConL.two (ConL.one newer1_good) (ConL.one newer2_good)) (.cons (ConL.one sames_good) (.cons (ConL.one rnewer_good) .nil)))))
structure NLawX where
  l : List Came
  ks : List Int
def newLawC : CT where
  X := NLawX
  pre := fun _ => True
  args := fun x => [.sl 100000 0 x.l.length, .sl 100001 0 x.ks.length]
  g0 := fun x => [(100000, .rows .bor k6 x.l.length (encL encCame x.l)), (100001, .rows .bor k1 x.ks.length (encL encI x.ks))]
  res := fun _ => .b true
  g1 := fun _ => []
theorem Same.units0 {b : Box} {y : Ref} (h : Same b y) : 0 ≤ y.units ∧ y.units ≤ 256 ∧ y.units.toNat = b.length := by
  have := h.units; have := h.few; omega
theorem newer2_none {b : Box} : newerB b (fun u => (b.last u).seq) b.length = [] := by
  refine newerB_none b _ (fun u hu ha => ?_) _ (Nat.le_refl _)
  have e : b.there (u : Int) = true := by
    unfold Box.there Box.has Box.at
    simp only [Bool.and_eq_true, decide_eq_true_eq, Int.toNat_natCast]
    exact ⟨by omega, ha⟩
  unfold Box.last Box.at
  rw [e, if_pos rfl, Int.toNat_natCast]
  exact Int.le_refl _
theorem NLawX.eq (l : List Came) (ks : List Int) (h : 0 ≤ (5 : Int) ∧ (5 : Int) ≤ 256) : newerB (PlayX.b ⟨5, 0, l⟩) (knAt ks) (PlayX.b ⟨5, 0, l⟩).length = newerY (PlayX.y ⟨5, 0, l⟩) (knAt ks) (PlayX.y ⟨5, 0, l⟩).units.toNat := by
  have e := PlayX.same ⟨5, 0, l⟩ h
  rw [e.units0.2.2, e.newer _ _ (Nat.le_refl _)]
theorem NLawX.few (l : List Came) (h : ¬ 60 < l.length) : (PlayX.y ⟨5, 0, l⟩).news.length ≤ 1000 := by
  have a := PlayX.few ⟨5, 0, l⟩
  dsimp only at a; omega
theorem NLawX.len (l : List Came) (ks : List Int) (h : 0 ≤ (5 : Int) ∧ (5 : Int) ≤ 256) : (newerB (PlayX.b ⟨5, 0, l⟩) (knAt ks) (PlayX.b ⟨5, 0, l⟩).length).length ≤ 1048576 := by
  have e := (PlayX.same ⟨5, 0, l⟩ h).few
  have := newerB_len (PlayX.b ⟨5, 0, l⟩) (knAt ks) (PlayX.b ⟨5, 0, l⟩).length
  omega
set_option maxRecDepth 100000 in
theorem newLaw_keeps : Keeps cfg13 Try.f7 newLawC noIv := Eq.mp (show ((∀ x1 : NLawX,
 ((True) →
 (((decide ((60 : Nat) < List.length (NLawX.l x1)) = true) →
 (∃ x4 : PlayX,
 (((60 : Nat) < List.length (PlayX.l x4)) ∧
 ((((5 : Int) = PlayX.n x4) ∧
 (((0 : Int) = PlayX.now x4) ∧
 ((((0 : Nat) = (0 : Nat)) ∧
 (List.length (NLawX.l x1) = List.length (PlayX.l x4))) ∧
 (True)))) ∧
 ((((RLe (List.length (PlayX.l x4)) (List.length (NLawX.l x1))) ∧
 (RowsEq (Kd.int IntKind.i64 :: Kd.int IntKind.i64 :: Kd.int IntKind.i64 :: Kd.int IntKind.i64 :: Kd.int IntKind.i64 :: Kd.int IntKind.i64 :: @List.nil Kd) (List.length (PlayX.l x4)) (encL encCame (NLawX.l x1)) (encL encCame (PlayX.l x4)))) ∧
 (True)) ∧
 (((true = true) →
 (∃ x6 : Unit,
 ((True) ∧
 ((True) ∧
 ((True) ∧
 ((true = true) ∧
 (True))))))) ∧
 ((true = false) →
 ((false = true) ∧
 (True))))))))) ∧
 ((decide ((60 : Nat) < List.length (NLawX.l x1)) = false) →
 (((decide ((0 : Int) ≤ (5 : Int) ∧ (5 : Int) ≤ (256 : Int)) = true) →
 (∃ x10 : PlayX,
 (((List.length (PlayX.l x10) ≤ (60 : Nat)) ∧
 (((0 : Int) ≤ PlayX.n x10) ∧
 (PlayX.n x10 ≤ (256 : Int)))) ∧
 ((((5 : Int) = PlayX.n x10) ∧
 (((0 : Int) = PlayX.now x10) ∧
 ((((0 : Nat) = (0 : Nat)) ∧
 (List.length (NLawX.l x1) = List.length (PlayX.l x10))) ∧
 (True)))) ∧
 ((((RLe (List.length (PlayX.l x10)) (List.length (NLawX.l x1))) ∧
 (RowsEq (Kd.int IntKind.i64 :: Kd.int IntKind.i64 :: Kd.int IntKind.i64 :: Kd.int IntKind.i64 :: Kd.int IntKind.i64 :: Kd.int IntKind.i64 :: @List.nil Kd) (List.length (PlayX.l x10)) (encL encCame (NLawX.l x1)) (encL encCame (PlayX.l x10)))) ∧
 (True)) ∧
 (((decide ((20 : Int) < (↑(List.length (NLawX.ks x1)) : Int)) = true) →
 (((true = true) →
 (∃ x13 : Unit,
 ((True) ∧
 ((True) ∧
 ((True) ∧
 ((true = true) ∧
 (True))))))) ∧
 ((true = false) →
 ((false = true) ∧
 (True))))) ∧
 ((decide ((20 : Int) < (↑(List.length (NLawX.ks x1)) : Int)) = false) →
 (((Nat.beq (21 : Nat) (21 : Nat) = true) →
 (∃ x17 : NewrX,
 (((Same (NewrX.b x17) (NewrX.y x17)) ∧
 (List.length (Ref.news (NewrX.y x17)) ≤ (1000 : Nat))) ∧
 (((((0 : Nat) = (0 : Nat)) ∧
 ((0 : Nat) = (0 : Nat))) ∧
 (((((0 : Nat) = (0 : Nat)) ∧
 ((0 : Nat) = (0 : Nat))) ∧
 ((((0 : Nat) = (0 : Nat)) ∧
 ((0 : Nat) = (0 : Nat))) ∧
 ((((0 : Nat) = (0 : Nat)) ∧
 ((0 : Nat) = (0 : Nat))) ∧
 (True)))) ∧
 (True))) ∧
 ((((((0 : Nat) = (0 : Nat)) ∧
 (List.length (PlayX.b x10) = List.length (NewrX.b x17))) ∧
 (True)) ∧
 (((RLe (List.length (NewrX.b x17)) (List.length (PlayX.b x10))) ∧
 (RowsEq (Kd.int IntKind.i64 :: Kd.int IntKind.i64 :: Kd.int IntKind.i64 :: Kd.int IntKind.i64 :: Kd.int IntKind.i64 :: Kd.int IntKind.i64 :: Kd.int IntKind.i64 :: @List.nil Kd) (List.length (NewrX.b x17)) (encL encRec (PlayX.b x10)) (encL encRec (NewrX.b x17)))) ∧
 (((Ref.units (PlayX.y x10) = Ref.units (NewrX.y x17)) ∧
 ((Ref.since (PlayX.y x10) = Ref.since (NewrX.y x17)) ∧
 ((((0 : Nat) = (0 : Nat)) ∧
 (List.length (Ref.news (PlayX.y x10)) = List.length (Ref.news (NewrX.y x17)))) ∧
 (True)))) ∧
 (((RLe (List.length (Ref.news (NewrX.y x17))) (List.length (Ref.news (PlayX.y x10)))) ∧
 (RowsEq (Kd.int IntKind.i64 :: Kd.int IntKind.i64 :: Kd.int IntKind.i64 :: Kd.int IntKind.i64 :: Kd.int IntKind.i64 :: Kd.int IntKind.i64 :: @List.nil Kd) (List.length (Ref.news (NewrX.y x17))) (encL encCame (Ref.news (PlayX.y x10))) (encL encCame (Ref.news (NewrX.y x17))))) ∧
 (((true = true) ∧
 (True)) ∧
 (((((0 : Nat) = (0 : Nat)) ∧
 (List.length (NLawX.ks x1) = List.length (NewrX.ks x17))) ∧
 (True)) ∧
 (((RLe (List.length (NewrX.ks x17)) (List.length (NLawX.ks x1))) ∧
 (RowsEq (Kd.int IntKind.i64 :: @List.nil Kd) (List.length (NewrX.ks x17)) (encL encI (NLawX.ks x1)) (encL encI (NewrX.ks x17)))) ∧
 (True)))))))) ∧
 (((Nat.beq (22 : Nat) (21 : Nat) = true) →
 (∃ x19 : NewrX,
 (Stuck (1 : Nat) (0 : Nat)))) ∧
 ((Nat.beq (22 : Nat) (21 : Nat) = false) →
 (∃ x21 : BoxI,
 ((List.length (BoxI.b x21) ≤ (256 : Nat)) ∧
 (((((0 : Nat) = (0 : Nat)) ∧
 ((0 : Nat) = (0 : Nat))) ∧
 (((((0 : Nat) = (0 : Nat)) ∧
 ((0 : Nat) = (0 : Nat))) ∧
 (True)) ∧
 (True))) ∧
 ((((((0 : Nat) = (0 : Nat)) ∧
 (List.length (PlayX.b x10) = List.length (BoxI.b x21))) ∧
 (True)) ∧
 (((RLe (List.length (BoxI.b x21)) (List.length (PlayX.b x10))) ∧
 (RowsEq (Kd.int IntKind.i64 :: Kd.int IntKind.i64 :: Kd.int IntKind.i64 :: Kd.int IntKind.i64 :: Kd.int IntKind.i64 :: Kd.int IntKind.i64 :: Kd.int IntKind.i64 :: @List.nil Kd) (List.length (BoxI.b x21)) (encL encRec (PlayX.b x10)) (encL encRec (BoxI.b x21)))) ∧
 (((((0 : Nat) = (0 : Nat)) ∧
 ((0 : Nat) = (0 : Nat))) ∧
 (True)) ∧
 (True)))) ∧
 (((true = true) →
 (((true = true) →
 (((decide ((↑(List.length (newerB (BoxI.b x21) (fun (u : Int) => Sta.seq (Box.last (BoxI.b x21) u)) (List.length (BoxI.b x21)))) : Int) = (0 : Int)) = true) →
 (∃ x25 : NewyX,
 (((List.length (Ref.news (NewyX.y x25)) ≤ (1000 : Nat)) ∧
 (((0 : Int) ≤ Ref.units (NewyX.y x25)) ∧
 (Ref.units (NewyX.y x25) ≤ (256 : Int)))) ∧
 ((((Ref.units (PlayX.y x10) = Ref.units (NewyX.y x25)) ∧
 ((Ref.since (PlayX.y x10) = Ref.since (NewyX.y x25)) ∧
 ((((0 : Nat) = (0 : Nat)) ∧
 (List.length (Ref.news (PlayX.y x10)) = List.length (Ref.news (NewyX.y x25)))) ∧
 (True)))) ∧
 ((((0 : Nat) = (0 : Nat)) ∧
 (List.length (NLawX.ks x1) = List.length (NewyX.ks x25))) ∧
 (True))) ∧
 ((((RLe (List.length (Ref.news (NewyX.y x25))) (List.length (Ref.news (PlayX.y x10)))) ∧
 (RowsEq (Kd.int IntKind.i64 :: Kd.int IntKind.i64 :: Kd.int IntKind.i64 :: Kd.int IntKind.i64 :: Kd.int IntKind.i64 :: Kd.int IntKind.i64 :: @List.nil Kd) (List.length (Ref.news (NewyX.y x25))) (encL encCame (Ref.news (PlayX.y x10))) (encL encCame (Ref.news (NewyX.y x25))))) ∧
 (((RLe (List.length (NewyX.ks x25)) (List.length (NLawX.ks x1))) ∧
 (RowsEq (Kd.int IntKind.i64 :: @List.nil Kd) (List.length (NewyX.ks x25)) (encL encI (NLawX.ks x1)) (encL encI (NewyX.ks x25)))) ∧
 (True))) ∧
 (∃ x26 : StaX,
 ((List.length (StaX.a x26) ≤ (1048576 : Nat)) ∧
 (((((0 : Nat) = (0 : Nat)) ∧
 (List.length (newerB (NewrX.b x17) (knAt (NewrX.ks x17)) (List.length (NewrX.b x17))) = List.length (StaX.a x26))) ∧
 ((((0 : Nat) = (0 : Nat)) ∧
 (List.length (newerY (NewyX.y x25) (knAt (NewyX.ks x25)) (Int.toNat (Ref.units (NewyX.y x25)))) = List.length (StaX.b x26))) ∧
 (True))) ∧
 ((((RLe (List.length (StaX.a x26)) (List.length (newerB (NewrX.b x17) (knAt (NewrX.ks x17)) (List.length (NewrX.b x17))))) ∧
 (RowsEq (Kd.int IntKind.i64 :: Kd.int IntKind.i64 :: Kd.int IntKind.i64 :: Kd.int IntKind.i64 :: Kd.int IntKind.i64 :: @List.nil Kd) (List.length (StaX.a x26)) (encL encStaD (newerB (NewrX.b x17) (knAt (NewrX.ks x17)) (List.length (NewrX.b x17)))) (encL encStaD (StaX.a x26)))) ∧
 (((RLe (List.length (StaX.b x26)) (List.length (newerY (NewyX.y x25) (knAt (NewyX.ks x25)) (Int.toNat (Ref.units (NewyX.y x25)))))) ∧
 (RowsEq (Kd.int IntKind.i64 :: Kd.int IntKind.i64 :: Kd.int IntKind.i64 :: Kd.int IntKind.i64 :: Kd.int IntKind.i64 :: @List.nil Kd) (List.length (StaX.b x26)) (encL encStaD (newerY (NewyX.y x25) (knAt (NewyX.ks x25)) (Int.toNat (Ref.units (NewyX.y x25))))) (encL encStaD (StaX.b x26)))) ∧
 (True))) ∧
 (((decide (StaX.a x26 = StaX.b x26) = true) →
 (∃ x28 : Unit,
 ((True) ∧
 ((True) ∧
 ((True) ∧
 ((true = true) ∧
 (True))))))) ∧
 ((decide (StaX.a x26 = StaX.b x26) = false) →
 ((false = true) ∧
 (True))))))))))))) ∧
 ((decide ((↑(List.length (newerB (BoxI.b x21) (fun (u : Int) => Sta.seq (Box.last (BoxI.b x21) u)) (List.length (BoxI.b x21)))) : Int) = (0 : Int)) = false) →
 ((false = true) ∧
 (True))))) ∧
 ((true = false) →
 ((false = true) ∧
 (True))))) ∧
 ((true = false) →
 ((false = true) ∧
 (True))))))))))))))) ∧
 ((Nat.beq (21 : Nat) (21 : Nat) = false) →
 (∃ x34 : BoxI,
 ((List.length (BoxI.b x34) ≤ (256 : Nat)) ∧
 (((((0 : Nat) = (0 : Nat)) ∧
 ((0 : Nat) = (0 : Nat))) ∧
 ((False) ∧
 (True))) ∧
 ((((((0 : Nat) = (0 : Nat)) ∧
 (List.length (PlayX.b x10) = List.length (BoxI.b x34))) ∧
 (True)) ∧
 (((RLe (List.length (BoxI.b x34)) (List.length (PlayX.b x10))) ∧
 (RowsEq (Kd.int IntKind.i64 :: Kd.int IntKind.i64 :: Kd.int IntKind.i64 :: Kd.int IntKind.i64 :: Kd.int IntKind.i64 :: Kd.int IntKind.i64 :: Kd.int IntKind.i64 :: @List.nil Kd) (List.length (BoxI.b x34)) (encL encRec (PlayX.b x10)) (encL encRec (BoxI.b x34)))) ∧
 ((False) ∧
 (True)))) ∧
 (((Nat.beq (22 : Nat) (21 : Nat) = true) →
 (∃ x36 : NewrX,
 (Stuck (1 : Nat) (0 : Nat)))) ∧
 ((Nat.beq (22 : Nat) (21 : Nat) = false) →
 (∃ x38 : BoxI,
 ((List.length (BoxI.b x38) ≤ (256 : Nat)) ∧
 (((((0 : Nat) = (0 : Nat)) ∧
 ((0 : Nat) = (0 : Nat))) ∧
 (((((0 : Nat) = (0 : Nat)) ∧
 ((0 : Nat) = (0 : Nat))) ∧
 (True)) ∧
 (True))) ∧
 ((((((0 : Nat) = (0 : Nat)) ∧
 (List.length (PlayX.b x10) = List.length (BoxI.b x38))) ∧
 (True)) ∧
 (((RLe (List.length (BoxI.b x38)) (List.length (PlayX.b x10))) ∧
 (RowsEq (Kd.int IntKind.i64 :: Kd.int IntKind.i64 :: Kd.int IntKind.i64 :: Kd.int IntKind.i64 :: Kd.int IntKind.i64 :: Kd.int IntKind.i64 :: Kd.int IntKind.i64 :: @List.nil Kd) (List.length (BoxI.b x38)) (encL encRec (PlayX.b x10)) (encL encRec (BoxI.b x38)))) ∧
 (((((0 : Nat) = (0 : Nat)) ∧
 ((0 : Nat) = (0 : Nat))) ∧
 (True)) ∧
 (True)))) ∧
 (((true = true) →
 (((decide ((↑(List.length (newerB (BoxI.b x38) (fun (u : Int) => Sta.seq (Box.last (BoxI.b x38) u)) (List.length (BoxI.b x38)))) : Int) = (0 : Int)) = true) →
 (∃ x41 : NewyX,
 (((List.length (Ref.news (NewyX.y x41)) ≤ (1000 : Nat)) ∧
 (((0 : Int) ≤ Ref.units (NewyX.y x41)) ∧
 (Ref.units (NewyX.y x41) ≤ (256 : Int)))) ∧
 ((((Ref.units (PlayX.y x10) = Ref.units (NewyX.y x41)) ∧
 ((Ref.since (PlayX.y x10) = Ref.since (NewyX.y x41)) ∧
 ((((0 : Nat) = (0 : Nat)) ∧
 (List.length (Ref.news (PlayX.y x10)) = List.length (Ref.news (NewyX.y x41)))) ∧
 (True)))) ∧
 ((((0 : Nat) = (0 : Nat)) ∧
 (List.length (NLawX.ks x1) = List.length (NewyX.ks x41))) ∧
 (True))) ∧
 ((((RLe (List.length (Ref.news (NewyX.y x41))) (List.length (Ref.news (PlayX.y x10)))) ∧
 (RowsEq (Kd.int IntKind.i64 :: Kd.int IntKind.i64 :: Kd.int IntKind.i64 :: Kd.int IntKind.i64 :: Kd.int IntKind.i64 :: Kd.int IntKind.i64 :: @List.nil Kd) (List.length (Ref.news (NewyX.y x41))) (encL encCame (Ref.news (PlayX.y x10))) (encL encCame (Ref.news (NewyX.y x41))))) ∧
 (((RLe (List.length (NewyX.ks x41)) (List.length (NLawX.ks x1))) ∧
 (RowsEq (Kd.int IntKind.i64 :: @List.nil Kd) (List.length (NewyX.ks x41)) (encL encI (NLawX.ks x1)) (encL encI (NewyX.ks x41)))) ∧
 (True))) ∧
 (∃ x42 : StaX,
 ((List.length (StaX.a x42) ≤ (1048576 : Nat)) ∧
 (((((0 : Nat) = (0 : Nat)) ∧
 (List.length (newerB (BoxI.b x34) (fun (u : Int) => Sta.seq (Box.last (BoxI.b x34) u)) (List.length (BoxI.b x34))) = List.length (StaX.a x42))) ∧
 ((((0 : Nat) = (0 : Nat)) ∧
 (List.length (newerY (NewyX.y x41) (knAt (NewyX.ks x41)) (Int.toNat (Ref.units (NewyX.y x41)))) = List.length (StaX.b x42))) ∧
 (True))) ∧
 ((((RLe (List.length (StaX.a x42)) (List.length (newerB (BoxI.b x34) (fun (u : Int) => Sta.seq (Box.last (BoxI.b x34) u)) (List.length (BoxI.b x34))))) ∧
 (RowsEq (Kd.int IntKind.i64 :: Kd.int IntKind.i64 :: Kd.int IntKind.i64 :: Kd.int IntKind.i64 :: Kd.int IntKind.i64 :: @List.nil Kd) (List.length (StaX.a x42)) (encL encStaD (newerB (BoxI.b x34) (fun (u : Int) => Sta.seq (Box.last (BoxI.b x34) u)) (List.length (BoxI.b x34)))) (encL encStaD (StaX.a x42)))) ∧
 (((RLe (List.length (StaX.b x42)) (List.length (newerY (NewyX.y x41) (knAt (NewyX.ks x41)) (Int.toNat (Ref.units (NewyX.y x41)))))) ∧
 (RowsEq (Kd.int IntKind.i64 :: Kd.int IntKind.i64 :: Kd.int IntKind.i64 :: Kd.int IntKind.i64 :: Kd.int IntKind.i64 :: @List.nil Kd) (List.length (StaX.b x42)) (encL encStaD (newerY (NewyX.y x41) (knAt (NewyX.ks x41)) (Int.toNat (Ref.units (NewyX.y x41))))) (encL encStaD (StaX.b x42)))) ∧
 (True))) ∧
 (((decide (StaX.a x42 = StaX.b x42) = true) →
 (∃ x44 : Unit,
 ((True) ∧
 ((True) ∧
 ((True) ∧
 ((true = true) ∧
 (True))))))) ∧
 ((decide (StaX.a x42 = StaX.b x42) = false) →
 ((false = true) ∧
 (True))))))))))))) ∧
 ((decide ((↑(List.length (newerB (BoxI.b x38) (fun (u : Int) => Sta.seq (Box.last (BoxI.b x38) u)) (List.length (BoxI.b x38)))) : Int) = (0 : Int)) = false) →
 ((false = true) ∧
 (True))))) ∧
 ((true = false) →
 ((false = true) ∧
 (True))))))))))))))))))))))) ∧
 ((decide ((0 : Int) ≤ (5 : Int) ∧ (5 : Int) ≤ (256 : Int)) = false) →
 (∃ x49 : PlayX,
 (((¬((0 : Int) ≤ PlayX.n x49 ∧ PlayX.n x49 ≤ (256 : Int))) ∧
 (List.length (PlayX.l x49) ≤ (60 : Nat))) ∧
 ((((5 : Int) = PlayX.n x49) ∧
 (((0 : Int) = PlayX.now x49) ∧
 ((((0 : Nat) = (0 : Nat)) ∧
 (List.length (NLawX.l x1) = List.length (PlayX.l x49))) ∧
 (True)))) ∧
 ((((RLe (List.length (PlayX.l x49)) (List.length (NLawX.l x1))) ∧
 (RowsEq (Kd.int IntKind.i64 :: Kd.int IntKind.i64 :: Kd.int IntKind.i64 :: Kd.int IntKind.i64 :: Kd.int IntKind.i64 :: Kd.int IntKind.i64 :: @List.nil Kd) (List.length (PlayX.l x49)) (encL encCame (NLawX.l x1)) (encL encCame (PlayX.l x49)))) ∧
 (True)) ∧
 (((true = true) →
 (∃ x51 : Unit,
 ((True) ∧
 ((True) ∧
 ((True) ∧
 ((true = true) ∧
 (True))))))) ∧
 ((true = false) →
 ((false = true) ∧
 (True))))))))))))))) = Keeps cfg13 Try.f7 newLawC noIv by kernel_rfl) (fun x1 => fun h2 => ⟨fun g3 => have h3 := of_decide_eq_true g3; ⟨({ n := (5 : Int), now := (0 : Int), l := NLawX.l x1 : PlayX }),
 (by (try dsimp only at *); omega),
 ⟨rfl,
 rfl,
 ⟨rfl,
 rfl⟩,
 trivial⟩,
 ⟨⟨⟨Nat.le_refl _⟩,
 RowsEq.rfl'⟩,
 trivial⟩,
 fun h5 => ⟨(default),
 trivial,
 trivial,
 trivial,
 rfl,
 trivial⟩,
 fun h7 => ⟨(by (try dsimp only at *); grind),
 trivial⟩⟩,
 fun g8 => have h8 := of_decide_eq_false g8; ⟨fun g9 => have h9 := of_decide_eq_true g9; ⟨({ n := (5 : Int), now := (0 : Int), l := NLawX.l x1 : PlayX }),
 ⟨(by (try dsimp only at *); omega),
 (by (try dsimp only at *); omega),
 (by (try dsimp only at *); omega)⟩,
 ⟨rfl,
 rfl,
 ⟨rfl,
 rfl⟩,
 trivial⟩,
 ⟨⟨⟨Nat.le_refl _⟩,
 RowsEq.rfl'⟩,
 trivial⟩,
 fun g11 => have h11 := of_decide_eq_true g11; ⟨fun h12 => ⟨(default),
 trivial,
 trivial,
 trivial,
 rfl,
 trivial⟩,
 fun h14 => ⟨(by (try dsimp only at *); grind),
 trivial⟩⟩,
 fun g15 => have h15 := of_decide_eq_false g15; ⟨fun h16 => ⟨({ b := PlayX.b { n := (5 : Int), now := (0 : Int), l := NLawX.l x1 : PlayX }, y := PlayX.y { n := (5 : Int), now := (0 : Int), l := NLawX.l x1 : PlayX }, ks := NLawX.ks x1 : NewrX }),
 ⟨(by (try dsimp only at *); exact PlayX.same ⟨5, 0, x1.l⟩ h9),
 (by (try dsimp only at *); exact NLawX.few x1.l h8)⟩,
 ⟨⟨rfl,
 rfl⟩,
 ⟨⟨rfl,
 rfl⟩,
 ⟨rfl,
 rfl⟩,
 ⟨rfl,
 rfl⟩,
 trivial⟩,
 trivial⟩,
 ⟨⟨⟨rfl,
 rfl⟩,
 trivial⟩,
 ⟨⟨Nat.le_refl _⟩,
 RowsEq.rfl'⟩,
 ⟨rfl,
 rfl,
 ⟨rfl,
 rfl⟩,
 trivial⟩,
 ⟨⟨Nat.le_refl _⟩,
 RowsEq.rfl'⟩,
 ⟨rfl,
 trivial⟩,
 ⟨⟨rfl,
 rfl⟩,
 trivial⟩,
 ⟨⟨Nat.le_refl _⟩,
 RowsEq.rfl'⟩,
 trivial⟩,
 fun h18 => ⟨({ b := default, y := { units := default, since := default, news := default : Ref }, ks := default : NewrX }),
 (by (try dsimp only at *); exact absurd ‹Nat.beq 22 21 = true› (by decide))⟩,
 fun h20 => ⟨({ b := PlayX.b { n := (5 : Int), now := (0 : Int), l := NLawX.l x1 : PlayX }, u := default : BoxI }),
 (by (try dsimp only at *); exact (PlayX.same ⟨5, 0, x1.l⟩ h9).few),
 ⟨⟨rfl,
 rfl⟩,
 ⟨⟨rfl,
 rfl⟩,
 trivial⟩,
 trivial⟩,
 ⟨⟨⟨rfl,
 rfl⟩,
 trivial⟩,
 ⟨⟨Nat.le_refl _⟩,
 RowsEq.rfl'⟩,
 ⟨⟨rfl,
 rfl⟩,
 trivial⟩,
 trivial⟩,
 fun h22 => ⟨fun h23 => ⟨fun g24 => have h24 := of_decide_eq_true g24; ⟨({ y := PlayX.y { n := (5 : Int), now := (0 : Int), l := NLawX.l x1 : PlayX }, ks := NLawX.ks x1 : NewyX }),
 ⟨(by (try dsimp only at *); exact NLawX.few x1.l h8),
 (by (try dsimp only at *); exact (PlayX.same ⟨5, 0, x1.l⟩ h9).units0.1),
 (by (try dsimp only at *); exact (PlayX.same ⟨5, 0, x1.l⟩ h9).units0.2.1)⟩,
 ⟨⟨rfl,
 rfl,
 ⟨rfl,
 rfl⟩,
 trivial⟩,
 ⟨rfl,
 rfl⟩,
 trivial⟩,
 ⟨⟨⟨Nat.le_refl _⟩,
 RowsEq.rfl'⟩,
 ⟨⟨Nat.le_refl _⟩,
 RowsEq.rfl'⟩,
 trivial⟩,
 ({ a := newerB (PlayX.b { n := (5 : Int), now := (0 : Int), l := NLawX.l x1 : PlayX }) (knAt (NLawX.ks x1)) (List.length (PlayX.b { n := (5 : Int), now := (0 : Int), l := NLawX.l x1 : PlayX })), b := newerY (PlayX.y { n := (5 : Int), now := (0 : Int), l := NLawX.l x1 : PlayX }) (knAt (NLawX.ks x1)) (Int.toNat (Ref.units (PlayX.y { n := (5 : Int), now := (0 : Int), l := NLawX.l x1 : PlayX }))) : StaX }),
 (by (try dsimp only at *); exact NLawX.len x1.l x1.ks h9),
 ⟨⟨rfl,
 rfl⟩,
 ⟨rfl,
 rfl⟩,
 trivial⟩,
 ⟨⟨⟨Nat.le_refl _⟩,
 RowsEq.rfl'⟩,
 ⟨⟨Nat.le_refl _⟩,
 RowsEq.rfl'⟩,
 trivial⟩,
 fun g27 => have h27 := of_decide_eq_true g27; ⟨(default),
 trivial,
 trivial,
 trivial,
 rfl,
 trivial⟩,
 fun g29 => have h29 := of_decide_eq_false g29; ⟨(by (try dsimp only at *); exact absurd (NLawX.eq x1.l x1.ks h9) ‹_›),
 trivial⟩⟩,
 fun g30 => have h30 := of_decide_eq_false g30; ⟨(by (try dsimp only at *); exact absurd (congrArg (fun l => ((l.length : Nat) : Int)) (newer2_none (b := PlayX.b ⟨5, 0, x1.l⟩))) ‹_›),
 trivial⟩⟩,
 fun h31 => ⟨(by (try dsimp only at *); grind),
 trivial⟩⟩,
 fun h32 => ⟨(by (try dsimp only at *); grind),
 trivial⟩⟩⟩,
 fun h33 => ⟨({ b := PlayX.b { n := (5 : Int), now := (0 : Int), l := NLawX.l x1 : PlayX }, u := default : BoxI }),
 (by (try dsimp only at *); exact absurd ‹Nat.beq 21 21 = false› (by decide)),
 ⟨⟨rfl,
 rfl⟩,
 (by (try dsimp only at *); exact absurd ‹Nat.beq 21 21 = false› (by decide)),
 trivial⟩,
 ⟨⟨⟨rfl,
 rfl⟩,
 trivial⟩,
 ⟨⟨Nat.le_refl _⟩,
 RowsEq.rfl'⟩,
 (by (try dsimp only at *); exact absurd ‹Nat.beq 21 21 = false› (by decide)),
 trivial⟩,
 fun h35 => ⟨({ b := default, y := { units := default, since := default, news := default : Ref }, ks := default : NewrX }),
 (by (try dsimp only at *); exact absurd ‹Nat.beq 21 21 = false› (by decide))⟩,
 fun h37 => ⟨({ b := PlayX.b { n := (5 : Int), now := (0 : Int), l := NLawX.l x1 : PlayX }, u := default : BoxI }),
 (by (try dsimp only at *); exact absurd ‹Nat.beq 21 21 = false› (by decide)),
 ⟨⟨rfl,
 rfl⟩,
 ⟨⟨rfl,
 rfl⟩,
 trivial⟩,
 trivial⟩,
 ⟨⟨⟨rfl,
 rfl⟩,
 trivial⟩,
 ⟨⟨Nat.le_refl _⟩,
 RowsEq.rfl'⟩,
 ⟨⟨rfl,
 rfl⟩,
 trivial⟩,
 trivial⟩,
 fun h39 => ⟨fun g40 => have h40 := of_decide_eq_true g40; ⟨({ y := PlayX.y { n := (5 : Int), now := (0 : Int), l := NLawX.l x1 : PlayX }, ks := NLawX.ks x1 : NewyX }),
 ⟨(by (try dsimp only at *); exact absurd ‹Nat.beq 21 21 = false› (by decide)),
 (by (try dsimp only at *); exact absurd ‹Nat.beq 21 21 = false› (by decide)),
 (by (try dsimp only at *); exact absurd ‹Nat.beq 21 21 = false› (by decide))⟩,
 ⟨⟨rfl,
 rfl,
 ⟨rfl,
 rfl⟩,
 trivial⟩,
 ⟨rfl,
 rfl⟩,
 trivial⟩,
 ⟨⟨⟨Nat.le_refl _⟩,
 RowsEq.rfl'⟩,
 ⟨⟨Nat.le_refl _⟩,
 RowsEq.rfl'⟩,
 trivial⟩,
 ({ a := newerB (PlayX.b { n := (5 : Int), now := (0 : Int), l := NLawX.l x1 : PlayX }) (fun (u : Int) => Sta.seq (Box.last (PlayX.b { n := (5 : Int), now := (0 : Int), l := NLawX.l x1 : PlayX }) u)) (List.length (PlayX.b { n := (5 : Int), now := (0 : Int), l := NLawX.l x1 : PlayX })), b := newerY (PlayX.y { n := (5 : Int), now := (0 : Int), l := NLawX.l x1 : PlayX }) (knAt (NLawX.ks x1)) (Int.toNat (Ref.units (PlayX.y { n := (5 : Int), now := (0 : Int), l := NLawX.l x1 : PlayX }))) : StaX }),
 (by (try dsimp only at *); omega),
 ⟨⟨rfl,
 rfl⟩,
 ⟨rfl,
 rfl⟩,
 trivial⟩,
 ⟨⟨⟨Nat.le_refl _⟩,
 RowsEq.rfl'⟩,
 ⟨⟨Nat.le_refl _⟩,
 RowsEq.rfl'⟩,
 trivial⟩,
 fun g43 => have h43 := of_decide_eq_true g43; ⟨(default),
 trivial,
 trivial,
 trivial,
 rfl,
 trivial⟩,
 fun g45 => have h45 := of_decide_eq_false g45; ⟨(by (try dsimp only at *); exact absurd ‹Nat.beq 21 21 = false› (by decide)),
 trivial⟩⟩,
 fun g46 => have h46 := of_decide_eq_false g46; ⟨(by (try dsimp only at *); exact absurd ‹Nat.beq 21 21 = false› (by decide)),
 trivial⟩⟩,
 fun h47 => ⟨(by (try dsimp only at *); grind),
 trivial⟩⟩⟩⟩⟩,
 fun g48 => have h48 := of_decide_eq_false g48; ⟨({ n := (5 : Int), now := (0 : Int), l := NLawX.l x1 : PlayX }),
 ⟨(by (try dsimp only at *); omega),
 (by (try dsimp only at *); omega)⟩,
 ⟨rfl,
 rfl,
 ⟨rfl,
 rfl⟩,
 trivial⟩,
 ⟨⟨⟨Nat.le_refl _⟩,
 RowsEq.rfl'⟩,
 trivial⟩,
 fun h50 => ⟨(default),
 trivial,
 trivial,
 trivial,
 rfl,
 trivial⟩,
 fun h52 => ⟨(by (try dsimp only at *); omega),
 trivial⟩⟩⟩⟩)

theorem newLaw_good : Good Try.prog 7 newLawC ∧ FnOk Try.prog 7 := good_of tok con13 (fn := Try.f7) rfl (by decide +kernel) (fun _ => rfl) newLaw_keeps
def C14 : List (Nat × Con) := [(15, .two encSelNew (.one newC) (.one newNo)), (10, .one awakeC), (20, .one newer3C), (11, .one lastC), (13, .one missedC), (18, .one silentC)]
def cfg14 : Cfg := ⟨T, [], C14, noInv, 16, {}⟩
theorem con14 : ConOk Try.prog cfg14 := ConL.ok (.cons (ConL.two (ConL.one new_good) (ConL.one newNo_good)) (.cons (ConL.one awake_good) (.cons (ConL.one newer3_good) (.cons (ConL.one last_good) (.cons (ConL.one missed_good) (.cons (ConL.one silent_good) .nil))))))
structure EmpX where
  n : Int
  now : Int
  thn : Int
def empC : CT where
  X := EmpX
  pre := fun x => 0 ≤ x.n ∧ x.n ≤ 255
  args := fun x => [.i .u8 x.n, .i .i64 x.now, .i .i64 x.thn]
  g0 := fun x => []
  res := fun _ => .b true
  g1 := fun _ => []
theorem new_at {n now : Int} {u : Nat} (h : u < (Box.new n now).length) : (Box.new n now).getD u default = ⟨zeroSta, 0, minMax now⟩ := by
  simp [Box.new] at h ⊢
  simp [List.getD_eq_getElem?_getD, h]
theorem new_newer {n now : Int} : newerB (Box.new n now) (fun _ => -1) (Box.new n now).length = [] := by
  refine newerB_none _ _ (fun u hu ha => ?_) _ (Nat.le_refl _)
  rw [new_at hu] at ha
  exact absurd rfl ha
theorem new_silent {n now t s : Int} : ((Box.new n now).silent t s (Box.new n now).length).length = if minMax t - minMax now > max s 0 then n.toNat else 0 := by
  unfold Box.silent
  have : ((List.range (Box.new n now).length).filter fun u => decide (minMax t - ((Box.new n now).getD u default).heard > max s 0)) = (List.range (Box.new n now).length).filter fun u => decide (minMax t - minMax now > max s 0) := by
    apply List.filter_congr
    intro u hu
    rw [new_at (List.mem_range.1 hu)]
  rw [this, List.length_map]
  by_cases h : minMax t - minMax now > max s 0
  · rw [if_pos h, List.filter_eq_self.2 (fun u _ => decide_eq_true h)]; simp [Box.new]
  · rw [if_neg h, List.filter_eq_nil_iff.2 (fun u _ => by simpa using h)]; rfl
theorem new_there {n now : Int} (u : Int) : (Box.new n now).there u = false := by
  unfold Box.there Box.at
  cases h : (Box.new n now).has u with
  | false => rfl
  | true =>
    unfold Box.has at h
    have h' := of_decide_eq_true h
    rw [new_at (by omega)]; rfl
theorem new_missed {n now : Int} (u : Int) : (Box.new n now).missed u = 0 := by
  unfold Box.missed Box.at
  cases h : (Box.new n now).has u with
  | false => rfl
  | true =>
    unfold Box.has at h
    have h' := of_decide_eq_true h
    rw [new_at (by omega)]; rfl
theorem new_len {n now : Int} : (Box.new n now).length = n.toNat := by simp [Box.new]
theorem new_heard {n now : Int} (u : Int) : (Box.new n now).heard u = 0 := by unfold Box.heard; rw [new_there]; rfl
set_option maxRecDepth 100000 in
theorem emp_keeps : Keeps cfg14 Try.f8 empC noIv := Eq.mp (show ((∀ x1 : EmpX,
 (((0 : Int) ≤ EmpX.n x1 ∧ EmpX.n x1 ≤ (255 : Int)) →
 ((((-9223372036854775808 : Int) ≤ EmpX.n x1) ∧
 (EmpX.n x1 ≤ (9223372036854775807 : Int))) ∧
 (((decide ((0 : Int) ≤ EmpX.n x1 ∧ EmpX.n x1 ≤ (256 : Int)) = true) →
 (∃ x4 : NewX,
 ((((0 : Int) ≤ NewX.n x4) ∧
 (NewX.n x4 ≤ (256 : Int))) ∧
 (((EmpX.n x1 = NewX.n x4) ∧
 ((EmpX.now x1 = NewX.now x4) ∧
 (True))) ∧
 ((True) ∧
 (((decide ((0 : Int) ≠ (0 : Int)) = false) →
 (∃ x6 : SilX,
 (((Box.Ok (SilX.b x6)) ∧
 (List.length (SilX.b x6) ≤ (256 : Nat))) ∧
 (((((0 : Nat) = (0 : Nat)) ∧
 ((0 : Nat) = (0 : Nat))) ∧
 ((EmpX.thn x1 = SilX.now x6) ∧
 (((10 : Int) = SilX.silence x6) ∧
 (True)))) ∧
 ((((((0 : Nat) = (0 : Nat)) ∧
 (Int.toNat (NewX.n x4) = List.length (SilX.b x6))) ∧
 (True)) ∧
 (((RLe (List.length (SilX.b x6)) (Int.toNat (NewX.n x4))) ∧
 (RowsEq (Kd.int IntKind.i64 :: Kd.int IntKind.i64 :: Kd.int IntKind.i64 :: Kd.int IntKind.i64 :: Kd.int IntKind.i64 :: Kd.int IntKind.i64 :: Kd.int IntKind.i64 :: @List.nil Kd) (List.length (SilX.b x6)) (encL encRec (Box.new (NewX.n x4) (NewX.now x4))) (encL encRec (SilX.b x6)))) ∧
 (True))) ∧
 (∃ x7 : BoxI,
 ((List.length (BoxI.b x7) ≤ (256 : Nat)) ∧
 (((((0 : Nat) = (0 : Nat)) ∧
 ((0 : Nat) = (0 : Nat))) ∧
 ((True) ∧
 (True))) ∧
 ((((((0 : Nat) = (0 : Nat)) ∧
 (Int.toNat (NewX.n x4) = List.length (BoxI.b x7))) ∧
 (True)) ∧
 (((RLe (List.length (BoxI.b x7)) (Int.toNat (NewX.n x4))) ∧
 (RowsEq (Kd.int IntKind.i64 :: Kd.int IntKind.i64 :: Kd.int IntKind.i64 :: Kd.int IntKind.i64 :: Kd.int IntKind.i64 :: Kd.int IntKind.i64 :: Kd.int IntKind.i64 :: @List.nil Kd) (List.length (BoxI.b x7)) (encL encRec (Box.new (NewX.n x4) (NewX.now x4))) (encL encRec (BoxI.b x7)))) ∧
 (True))) ∧
 (((decide ((↑(List.length (newerB (BoxI.b x7) (fun (u : Int) => (-1 : Int)) (List.length (BoxI.b x7)))) : Int) ≠ (0 : Int)) = false) →
 (((decide ((↑(List.length (Box.silent (SilX.b x6) (SilX.now x6) (SilX.silence x6) (List.length (SilX.b x6)))) : Int) ≠ (0 : Int)) = true) →
 ((((-9223372036854775808 : Int) ≤ min (max (EmpX.thn x1) (0 : Int)) (1099511627776 : Int) - min (max (EmpX.now x1) (0 : Int)) (1099511627776 : Int)) ∧
 (min (max (EmpX.thn x1) (0 : Int)) (1099511627776 : Int) - min (max (EmpX.now x1) (0 : Int)) (1099511627776 : Int) ≤ (9223372036854775807 : Int))) ∧
 (((decide (min (max (EmpX.thn x1) (0 : Int)) (1099511627776 : Int) - min (max (EmpX.now x1) (0 : Int)) (1099511627776 : Int) ≤ (10 : Int)) = false) →
 ((((-9223372036854775808 : Int) ≤ min (max (EmpX.thn x1) (0 : Int)) (1099511627776 : Int) - min (max (EmpX.now x1) (0 : Int)) (1099511627776 : Int)) ∧
 (min (max (EmpX.thn x1) (0 : Int)) (1099511627776 : Int) - min (max (EmpX.now x1) (0 : Int)) (1099511627776 : Int) ≤ (9223372036854775807 : Int))) ∧
 (((decide ((10 : Int) < min (max (EmpX.thn x1) (0 : Int)) (1099511627776 : Int) - min (max (EmpX.now x1) (0 : Int)) (1099511627776 : Int)) = true) →
 ((((-9223372036854775808 : Int) ≤ EmpX.n x1) ∧
 (EmpX.n x1 ≤ (9223372036854775807 : Int))) ∧
 (((decide ((↑(List.length (Box.silent (SilX.b x6) (SilX.now x6) (SilX.silence x6) (List.length (SilX.b x6)))) : Int) ≠ EmpX.n x1) = true) →
 ((false = true) ∧
 (True))) ∧
 ((decide ((↑(List.length (Box.silent (SilX.b x6) (SilX.now x6) (SilX.silence x6) (List.length (SilX.b x6)))) : Int) ≠ EmpX.n x1) = false) →
 (∃ x14 : BoxI,
 ((True) ∧
 (((((0 : Nat) = (0 : Nat)) ∧
 ((0 : Nat) = (0 : Nat))) ∧
 (((0 : Int) = BoxI.u x14) ∧
 (True))) ∧
 ((((((0 : Nat) = (0 : Nat)) ∧
 (Int.toNat (NewX.n x4) = List.length (BoxI.b x14))) ∧
 (True)) ∧
 (((RLe (List.length (BoxI.b x14)) (Int.toNat (NewX.n x4))) ∧
 (RowsEq (Kd.int IntKind.i64 :: Kd.int IntKind.i64 :: Kd.int IntKind.i64 :: Kd.int IntKind.i64 :: Kd.int IntKind.i64 :: Kd.int IntKind.i64 :: Kd.int IntKind.i64 :: @List.nil Kd) (List.length (BoxI.b x14)) (encL encRec (Box.new (NewX.n x4) (NewX.now x4))) (encL encRec (BoxI.b x14)))) ∧
 (True))) ∧
 (((decide (Box.heard (BoxI.b x14) (BoxI.u x14) = (0 : Int)) = true) →
 ((((!Box.there (BoxI.b x14) (BoxI.u x14)) = true) →
 (∃ x17 : BoxI,
 ((Box.Ok (BoxI.b x17)) ∧
 (((((0 : Nat) = (0 : Nat)) ∧
 ((0 : Nat) = (0 : Nat))) ∧
 (((0 : Int) = BoxI.u x17) ∧
 (True))) ∧
 ((((((0 : Nat) = (0 : Nat)) ∧
 (Int.toNat (NewX.n x4) = List.length (BoxI.b x17))) ∧
 (True)) ∧
 (((RLe (List.length (BoxI.b x17)) (Int.toNat (NewX.n x4))) ∧
 (RowsEq (Kd.int IntKind.i64 :: Kd.int IntKind.i64 :: Kd.int IntKind.i64 :: Kd.int IntKind.i64 :: Kd.int IntKind.i64 :: Kd.int IntKind.i64 :: Kd.int IntKind.i64 :: @List.nil Kd) (List.length (BoxI.b x17)) (encL encRec (Box.new (NewX.n x4) (NewX.now x4))) (encL encRec (BoxI.b x17)))) ∧
 (True))) ∧
 (((decide (Box.missed (BoxI.b x17) (BoxI.u x17) = (0 : Int)) = true) →
 (∃ x19 : Unit,
 ((True) ∧
 ((True) ∧
 ((True) ∧
 ((true = true) ∧
 (True))))))) ∧
 ((decide (Box.missed (BoxI.b x17) (BoxI.u x17) = (0 : Int)) = false) →
 ((false = true) ∧
 (True))))))))) ∧
 (((!Box.there (BoxI.b x14) (BoxI.u x14)) = false) →
 ((false = true) ∧
 (True))))) ∧
 ((decide (Box.heard (BoxI.b x14) (BoxI.u x14) = (0 : Int)) = false) →
 ((false = true) ∧
 (True)))))))))))) ∧
 ((decide ((10 : Int) < min (max (EmpX.thn x1) (0 : Int)) (1099511627776 : Int) - min (max (EmpX.now x1) (0 : Int)) (1099511627776 : Int)) = false) →
 (∃ x24 : BoxI,
 ((True) ∧
 (((((0 : Nat) = (0 : Nat)) ∧
 ((0 : Nat) = (0 : Nat))) ∧
 (((0 : Int) = BoxI.u x24) ∧
 (True))) ∧
 ((((((0 : Nat) = (0 : Nat)) ∧
 (Int.toNat (NewX.n x4) = List.length (BoxI.b x24))) ∧
 (True)) ∧
 (((RLe (List.length (BoxI.b x24)) (Int.toNat (NewX.n x4))) ∧
 (RowsEq (Kd.int IntKind.i64 :: Kd.int IntKind.i64 :: Kd.int IntKind.i64 :: Kd.int IntKind.i64 :: Kd.int IntKind.i64 :: Kd.int IntKind.i64 :: Kd.int IntKind.i64 :: @List.nil Kd) (List.length (BoxI.b x24)) (encL encRec (Box.new (NewX.n x4) (NewX.now x4))) (encL encRec (BoxI.b x24)))) ∧
 (True))) ∧
 (((decide (Box.heard (BoxI.b x24) (BoxI.u x24) = (0 : Int)) = true) →
 ((((!Box.there (BoxI.b x24) (BoxI.u x24)) = true) →
 (∃ x27 : BoxI,
 ((Box.Ok (BoxI.b x27)) ∧
 (((((0 : Nat) = (0 : Nat)) ∧
 ((0 : Nat) = (0 : Nat))) ∧
 (((0 : Int) = BoxI.u x27) ∧
 (True))) ∧
 ((((((0 : Nat) = (0 : Nat)) ∧
 (Int.toNat (NewX.n x4) = List.length (BoxI.b x27))) ∧
 (True)) ∧
 (((RLe (List.length (BoxI.b x27)) (Int.toNat (NewX.n x4))) ∧
 (RowsEq (Kd.int IntKind.i64 :: Kd.int IntKind.i64 :: Kd.int IntKind.i64 :: Kd.int IntKind.i64 :: Kd.int IntKind.i64 :: Kd.int IntKind.i64 :: Kd.int IntKind.i64 :: @List.nil Kd) (List.length (BoxI.b x27)) (encL encRec (Box.new (NewX.n x4) (NewX.now x4))) (encL encRec (BoxI.b x27)))) ∧
 (True))) ∧
 (((decide (Box.missed (BoxI.b x27) (BoxI.u x27) = (0 : Int)) = true) →
 (∃ x29 : Unit,
 ((True) ∧
 ((True) ∧
 ((True) ∧
 ((true = true) ∧
 (True))))))) ∧
 ((decide (Box.missed (BoxI.b x27) (BoxI.u x27) = (0 : Int)) = false) →
 ((false = true) ∧
 (True))))))))) ∧
 (((!Box.there (BoxI.b x24) (BoxI.u x24)) = false) →
 ((false = true) ∧
 (True))))) ∧
 ((decide (Box.heard (BoxI.b x24) (BoxI.u x24) = (0 : Int)) = false) →
 ((false = true) ∧
 (True)))))))))))) ∧
 ((decide (min (max (EmpX.thn x1) (0 : Int)) (1099511627776 : Int) - min (max (EmpX.now x1) (0 : Int)) (1099511627776 : Int) ≤ (10 : Int)) = true) →
 ((false = true) ∧
 (True)))))) ∧
 ((decide ((↑(List.length (Box.silent (SilX.b x6) (SilX.now x6) (SilX.silence x6) (List.length (SilX.b x6)))) : Int) ≠ (0 : Int)) = false) →
 ((((-9223372036854775808 : Int) ≤ min (max (EmpX.thn x1) (0 : Int)) (1099511627776 : Int) - min (max (EmpX.now x1) (0 : Int)) (1099511627776 : Int)) ∧
 (min (max (EmpX.thn x1) (0 : Int)) (1099511627776 : Int) - min (max (EmpX.now x1) (0 : Int)) (1099511627776 : Int) ≤ (9223372036854775807 : Int))) ∧
 (((decide ((10 : Int) < min (max (EmpX.thn x1) (0 : Int)) (1099511627776 : Int) - min (max (EmpX.now x1) (0 : Int)) (1099511627776 : Int)) = true) →
 ((((-9223372036854775808 : Int) ≤ EmpX.n x1) ∧
 (EmpX.n x1 ≤ (9223372036854775807 : Int))) ∧
 (((decide ((↑(List.length (Box.silent (SilX.b x6) (SilX.now x6) (SilX.silence x6) (List.length (SilX.b x6)))) : Int) ≠ EmpX.n x1) = true) →
 ((false = true) ∧
 (True))) ∧
 ((decide ((↑(List.length (Box.silent (SilX.b x6) (SilX.now x6) (SilX.silence x6) (List.length (SilX.b x6)))) : Int) ≠ EmpX.n x1) = false) →
 (∃ x38 : BoxI,
 ((True) ∧
 (((((0 : Nat) = (0 : Nat)) ∧
 ((0 : Nat) = (0 : Nat))) ∧
 (((0 : Int) = BoxI.u x38) ∧
 (True))) ∧
 ((((((0 : Nat) = (0 : Nat)) ∧
 (Int.toNat (NewX.n x4) = List.length (BoxI.b x38))) ∧
 (True)) ∧
 (((RLe (List.length (BoxI.b x38)) (Int.toNat (NewX.n x4))) ∧
 (RowsEq (Kd.int IntKind.i64 :: Kd.int IntKind.i64 :: Kd.int IntKind.i64 :: Kd.int IntKind.i64 :: Kd.int IntKind.i64 :: Kd.int IntKind.i64 :: Kd.int IntKind.i64 :: @List.nil Kd) (List.length (BoxI.b x38)) (encL encRec (Box.new (NewX.n x4) (NewX.now x4))) (encL encRec (BoxI.b x38)))) ∧
 (True))) ∧
 (((decide (Box.heard (BoxI.b x38) (BoxI.u x38) = (0 : Int)) = true) →
 ((((!Box.there (BoxI.b x38) (BoxI.u x38)) = true) →
 (∃ x41 : BoxI,
 ((Box.Ok (BoxI.b x41)) ∧
 (((((0 : Nat) = (0 : Nat)) ∧
 ((0 : Nat) = (0 : Nat))) ∧
 (((0 : Int) = BoxI.u x41) ∧
 (True))) ∧
 ((((((0 : Nat) = (0 : Nat)) ∧
 (Int.toNat (NewX.n x4) = List.length (BoxI.b x41))) ∧
 (True)) ∧
 (((RLe (List.length (BoxI.b x41)) (Int.toNat (NewX.n x4))) ∧
 (RowsEq (Kd.int IntKind.i64 :: Kd.int IntKind.i64 :: Kd.int IntKind.i64 :: Kd.int IntKind.i64 :: Kd.int IntKind.i64 :: Kd.int IntKind.i64 :: Kd.int IntKind.i64 :: @List.nil Kd) (List.length (BoxI.b x41)) (encL encRec (Box.new (NewX.n x4) (NewX.now x4))) (encL encRec (BoxI.b x41)))) ∧
 (True))) ∧
 (((decide (Box.missed (BoxI.b x41) (BoxI.u x41) = (0 : Int)) = true) →
 (∃ x43 : Unit,
 ((True) ∧
 ((True) ∧
 ((True) ∧
 ((true = true) ∧
 (True))))))) ∧
 ((decide (Box.missed (BoxI.b x41) (BoxI.u x41) = (0 : Int)) = false) →
 ((false = true) ∧
 (True))))))))) ∧
 (((!Box.there (BoxI.b x38) (BoxI.u x38)) = false) →
 ((false = true) ∧
 (True))))) ∧
 ((decide (Box.heard (BoxI.b x38) (BoxI.u x38) = (0 : Int)) = false) →
 ((false = true) ∧
 (True)))))))))))) ∧
 ((decide ((10 : Int) < min (max (EmpX.thn x1) (0 : Int)) (1099511627776 : Int) - min (max (EmpX.now x1) (0 : Int)) (1099511627776 : Int)) = false) →
 (∃ x48 : BoxI,
 ((True) ∧
 (((((0 : Nat) = (0 : Nat)) ∧
 ((0 : Nat) = (0 : Nat))) ∧
 (((0 : Int) = BoxI.u x48) ∧
 (True))) ∧
 ((((((0 : Nat) = (0 : Nat)) ∧
 (Int.toNat (NewX.n x4) = List.length (BoxI.b x48))) ∧
 (True)) ∧
 (((RLe (List.length (BoxI.b x48)) (Int.toNat (NewX.n x4))) ∧
 (RowsEq (Kd.int IntKind.i64 :: Kd.int IntKind.i64 :: Kd.int IntKind.i64 :: Kd.int IntKind.i64 :: Kd.int IntKind.i64 :: Kd.int IntKind.i64 :: Kd.int IntKind.i64 :: @List.nil Kd) (List.length (BoxI.b x48)) (encL encRec (Box.new (NewX.n x4) (NewX.now x4))) (encL encRec (BoxI.b x48)))) ∧
 (True))) ∧
 (((decide (Box.heard (BoxI.b x48) (BoxI.u x48) = (0 : Int)) = true) →
 ((((!Box.there (BoxI.b x48) (BoxI.u x48)) = true) →
 (∃ x51 : BoxI,
 ((Box.Ok (BoxI.b x51)) ∧
 (((((0 : Nat) = (0 : Nat)) ∧
 ((0 : Nat) = (0 : Nat))) ∧
 (((0 : Int) = BoxI.u x51) ∧
 (True))) ∧
 ((((((0 : Nat) = (0 : Nat)) ∧
 (Int.toNat (NewX.n x4) = List.length (BoxI.b x51))) ∧
 (True)) ∧
 (((RLe (List.length (BoxI.b x51)) (Int.toNat (NewX.n x4))) ∧
 (RowsEq (Kd.int IntKind.i64 :: Kd.int IntKind.i64 :: Kd.int IntKind.i64 :: Kd.int IntKind.i64 :: Kd.int IntKind.i64 :: Kd.int IntKind.i64 :: Kd.int IntKind.i64 :: @List.nil Kd) (List.length (BoxI.b x51)) (encL encRec (Box.new (NewX.n x4) (NewX.now x4))) (encL encRec (BoxI.b x51)))) ∧
 (True))) ∧
 (((decide (Box.missed (BoxI.b x51) (BoxI.u x51) = (0 : Int)) = true) →
 (∃ x53 : Unit,
 ((True) ∧
 ((True) ∧
 ((True) ∧
 ((true = true) ∧
 (True))))))) ∧
 ((decide (Box.missed (BoxI.b x51) (BoxI.u x51) = (0 : Int)) = false) →
 ((false = true) ∧
 (True))))))))) ∧
 (((!Box.there (BoxI.b x48) (BoxI.u x48)) = false) →
 ((false = true) ∧
 (True))))) ∧
 ((decide (Box.heard (BoxI.b x48) (BoxI.u x48) = (0 : Int)) = false) →
 ((false = true) ∧
 (True)))))))))))))) ∧
 ((decide ((↑(List.length (newerB (BoxI.b x7) (fun (u : Int) => (-1 : Int)) (List.length (BoxI.b x7)))) : Int) ≠ (0 : Int)) = true) →
 ((false = true) ∧
 (True))))))))))))) ∧
 ((decide ((0 : Int) ≠ (0 : Int)) = true) →
 ((false = true) ∧
 (True))))))))) ∧
 ((decide ((0 : Int) ≤ EmpX.n x1 ∧ EmpX.n x1 ≤ (256 : Int)) = false) →
 (∃ x60 : NewX,
 ((¬((0 : Int) ≤ NewX.n x60 ∧ NewX.n x60 ≤ (256 : Int))) ∧
 (((EmpX.n x1 = NewX.n x60) ∧
 ((EmpX.now x1 = NewX.now x60) ∧
 (True))) ∧
 ((True) ∧
 (((decide ((1 : Int) ≠ (0 : Int)) = false) →
 ((false = true) ∧
 (True))) ∧
 ((decide ((1 : Int) ≠ (0 : Int)) = true) →
 ((false = true) ∧
 (True)))))))))))))) = Keeps cfg14 Try.f8 empC noIv by kernel_rfl) (fun x1 => fun h2 => ⟨⟨(by omega),
 (by omega)⟩,
 fun g3 => have h3 := of_decide_eq_true g3; ⟨({ n := EmpX.n x1, now := EmpX.now x1 : NewX }),
 ⟨(by (try dsimp only at *); omega),
 (by (try dsimp only at *); omega)⟩,
 ⟨rfl,
 rfl,
 trivial⟩,
 trivial,
 fun g5 => have h5 := of_decide_eq_false g5; ⟨({ b := Box.new (EmpX.n x1) (EmpX.now x1), now := EmpX.thn x1, silence := (10 : Int) : SilX }),
 ⟨(by (try dsimp only at *); exact Box.ok_new h3),
 (by (try dsimp only at *); exact Nat.le_trans (Nat.le_of_eq new_len) (by omega))⟩,
 ⟨⟨rfl,
 rfl⟩,
 rfl,
 rfl,
 trivial⟩,
 ⟨⟨⟨rfl,
 (by (try dsimp only at *); exact new_len.symm)⟩,
 trivial⟩,
 ⟨⟨(by (try dsimp only at *); exact Nat.le_of_eq new_len)⟩,
 RowsEq.rfl'⟩,
 trivial⟩,
 ({ b := Box.new (EmpX.n x1) (EmpX.now x1), u := default : BoxI }),
 (by (try dsimp only at *); exact Nat.le_trans (Nat.le_of_eq new_len) (by omega)),
 ⟨⟨rfl,
 rfl⟩,
 trivial,
 trivial⟩,
 ⟨⟨⟨rfl,
 (by (try dsimp only at *); exact new_len.symm)⟩,
 trivial⟩,
 ⟨⟨(by (try dsimp only at *); exact Nat.le_of_eq new_len)⟩,
 RowsEq.rfl'⟩,
 trivial⟩,
 fun g8 => have h8 := of_decide_eq_false g8; ⟨fun g9 => have h9 := of_decide_eq_true g9; ⟨⟨(by (try dsimp only at *); omega),
 (by (try dsimp only at *); omega)⟩,
 fun g10 => have h10 := of_decide_eq_false g10; ⟨⟨(by (try dsimp only at *); omega),
 (by (try dsimp only at *); omega)⟩,
 fun g11 => have h11 := of_decide_eq_true g11; ⟨⟨(by (try dsimp only at *); omega),
 (by (try dsimp only at *); omega)⟩,
 fun g12 => have h12 := of_decide_eq_true g12; ⟨(by (try dsimp only at *); (simp only [new_newer, new_silent, new_there, new_heard, new_missed, minMax, lim] at *; grind)),
 trivial⟩,
 fun g13 => have h13 := of_decide_eq_false g13; ⟨({ b := Box.new (EmpX.n x1) (EmpX.now x1), u := (0 : Int) : BoxI }),
 trivial,
 ⟨⟨rfl,
 rfl⟩,
 rfl,
 trivial⟩,
 ⟨⟨⟨rfl,
 (by (try dsimp only at *); exact new_len.symm)⟩,
 trivial⟩,
 ⟨⟨(by (try dsimp only at *); exact Nat.le_of_eq new_len)⟩,
 RowsEq.rfl'⟩,
 trivial⟩,
 fun g15 => have h15 := of_decide_eq_true g15; ⟨fun h16 => ⟨({ b := Box.new (EmpX.n x1) (EmpX.now x1), u := (0 : Int) : BoxI }),
 (by (try dsimp only at *); exact Box.ok_new h3),
 ⟨⟨rfl,
 rfl⟩,
 rfl,
 trivial⟩,
 ⟨⟨⟨rfl,
 (by (try dsimp only at *); exact new_len.symm)⟩,
 trivial⟩,
 ⟨⟨(by (try dsimp only at *); exact Nat.le_of_eq new_len)⟩,
 RowsEq.rfl'⟩,
 trivial⟩,
 fun g18 => have h18 := of_decide_eq_true g18; ⟨(default),
 trivial,
 trivial,
 trivial,
 rfl,
 trivial⟩,
 fun g20 => have h20 := of_decide_eq_false g20; ⟨(by (try dsimp only at *); exact absurd (new_missed 0) ‹_›),
 trivial⟩⟩,
 fun h21 => ⟨(by (try dsimp only at *); (simp only [new_newer, new_silent, new_there, new_heard, new_missed, minMax, lim] at *; grind)),
 trivial⟩⟩,
 fun g22 => have h22 := of_decide_eq_false g22; ⟨(by (try dsimp only at *); exact absurd (new_heard 0) ‹_›),
 trivial⟩⟩⟩,
 fun g23 => have h23 := of_decide_eq_false g23; ⟨({ b := Box.new (EmpX.n x1) (EmpX.now x1), u := (0 : Int) : BoxI }),
 trivial,
 ⟨⟨rfl,
 rfl⟩,
 rfl,
 trivial⟩,
 ⟨⟨⟨rfl,
 (by (try dsimp only at *); omega)⟩,
 trivial⟩,
 ⟨⟨(by (try dsimp only at *); omega)⟩,
 RowsEq.rfl'⟩,
 trivial⟩,
 fun g25 => have h25 := of_decide_eq_true g25; ⟨fun h26 => ⟨({ b := Box.new (EmpX.n x1) (EmpX.now x1), u := (0 : Int) : BoxI }),
 (by (try dsimp only at *); omega),
 ⟨⟨rfl,
 rfl⟩,
 rfl,
 trivial⟩,
 ⟨⟨⟨rfl,
 (by (try dsimp only at *); omega)⟩,
 trivial⟩,
 ⟨⟨(by (try dsimp only at *); omega)⟩,
 RowsEq.rfl'⟩,
 trivial⟩,
 fun g28 => have h28 := of_decide_eq_true g28; ⟨(default),
 trivial,
 trivial,
 trivial,
 rfl,
 trivial⟩,
 fun g30 => have h30 := of_decide_eq_false g30; ⟨(by (try dsimp only at *); omega),
 trivial⟩⟩,
 fun h31 => ⟨(by (try dsimp only at *); omega),
 trivial⟩⟩,
 fun g32 => have h32 := of_decide_eq_false g32; ⟨(by (try dsimp only at *); omega),
 trivial⟩⟩⟩,
 fun g33 => have h33 := of_decide_eq_true g33; ⟨(by (try dsimp only at *); (simp only [new_newer, new_silent, new_there, new_heard, new_missed, minMax, lim] at *; grind)),
 trivial⟩⟩,
 fun g34 => have h34 := of_decide_eq_false g34; ⟨⟨(by (try dsimp only at *); omega),
 (by (try dsimp only at *); omega)⟩,
 fun g35 => have h35 := of_decide_eq_true g35; ⟨⟨(by (try dsimp only at *); omega),
 (by (try dsimp only at *); omega)⟩,
 fun g36 => have h36 := of_decide_eq_true g36; ⟨(by (try dsimp only at *); (simp only [new_newer, new_silent, new_there, new_heard, new_missed, minMax, lim] at *; grind)),
 trivial⟩,
 fun g37 => have h37 := of_decide_eq_false g37; ⟨({ b := Box.new (EmpX.n x1) (EmpX.now x1), u := (0 : Int) : BoxI }),
 trivial,
 ⟨⟨rfl,
 rfl⟩,
 rfl,
 trivial⟩,
 ⟨⟨⟨rfl,
 (by (try dsimp only at *); exact new_len.symm)⟩,
 trivial⟩,
 ⟨⟨(by (try dsimp only at *); exact Nat.le_of_eq new_len)⟩,
 RowsEq.rfl'⟩,
 trivial⟩,
 fun g39 => have h39 := of_decide_eq_true g39; ⟨fun h40 => ⟨({ b := Box.new (EmpX.n x1) (EmpX.now x1), u := (0 : Int) : BoxI }),
 (by (try dsimp only at *); exact Box.ok_new h3),
 ⟨⟨rfl,
 rfl⟩,
 rfl,
 trivial⟩,
 ⟨⟨⟨rfl,
 (by (try dsimp only at *); exact new_len.symm)⟩,
 trivial⟩,
 ⟨⟨(by (try dsimp only at *); exact Nat.le_of_eq new_len)⟩,
 RowsEq.rfl'⟩,
 trivial⟩,
 fun g42 => have h42 := of_decide_eq_true g42; ⟨(default),
 trivial,
 trivial,
 trivial,
 rfl,
 trivial⟩,
 fun g44 => have h44 := of_decide_eq_false g44; ⟨(by (try dsimp only at *); exact absurd (new_missed 0) ‹_›),
 trivial⟩⟩,
 fun h45 => ⟨(by (try dsimp only at *); (simp only [new_newer, new_silent, new_there, new_heard, new_missed, minMax, lim] at *; grind)),
 trivial⟩⟩,
 fun g46 => have h46 := of_decide_eq_false g46; ⟨(by (try dsimp only at *); exact absurd (new_heard 0) ‹_›),
 trivial⟩⟩⟩,
 fun g47 => have h47 := of_decide_eq_false g47; ⟨({ b := Box.new (EmpX.n x1) (EmpX.now x1), u := (0 : Int) : BoxI }),
 trivial,
 ⟨⟨rfl,
 rfl⟩,
 rfl,
 trivial⟩,
 ⟨⟨⟨rfl,
 (by (try dsimp only at *); exact new_len.symm)⟩,
 trivial⟩,
 ⟨⟨(by (try dsimp only at *); exact Nat.le_of_eq new_len)⟩,
 RowsEq.rfl'⟩,
 trivial⟩,
 fun g49 => have h49 := of_decide_eq_true g49; ⟨fun h50 => ⟨({ b := Box.new (EmpX.n x1) (EmpX.now x1), u := (0 : Int) : BoxI }),
 (by (try dsimp only at *); exact Box.ok_new h3),
 ⟨⟨rfl,
 rfl⟩,
 rfl,
 trivial⟩,
 ⟨⟨⟨rfl,
 (by (try dsimp only at *); exact new_len.symm)⟩,
 trivial⟩,
 ⟨⟨(by (try dsimp only at *); exact Nat.le_of_eq new_len)⟩,
 RowsEq.rfl'⟩,
 trivial⟩,
 fun g52 => have h52 := of_decide_eq_true g52; ⟨(default),
 trivial,
 trivial,
 trivial,
 rfl,
 trivial⟩,
 fun g54 => have h54 := of_decide_eq_false g54; ⟨(by (try dsimp only at *); exact absurd (new_missed 0) ‹_›),
 trivial⟩⟩,
 fun h55 => ⟨(by (try dsimp only at *); (simp only [new_newer, new_silent, new_there, new_heard, new_missed, minMax, lim] at *; grind)),
 trivial⟩⟩,
 fun g56 => have h56 := of_decide_eq_false g56; ⟨(by (try dsimp only at *); exact absurd (new_heard 0) ‹_›),
 trivial⟩⟩⟩⟩,
 fun g57 => have h57 := of_decide_eq_true g57; ⟨(by (try dsimp only at *); (simp only [new_newer, new_silent, new_there, new_heard, new_missed, minMax, lim] at *; grind)),
 trivial⟩⟩,
 fun g58 => have h58 := of_decide_eq_true g58; ⟨(by (try dsimp only at *); omega),
 trivial⟩⟩,
 fun g59 => have h59 := of_decide_eq_false g59; ⟨({ n := EmpX.n x1, now := EmpX.now x1 : NewX }),
 (by (try dsimp only at *); omega),
 ⟨rfl,
 rfl,
 trivial⟩,
 trivial,
 fun g61 => have h61 := of_decide_eq_false g61; ⟨(by (try dsimp only at *); omega),
 trivial⟩,
 fun g62 => have h62 := of_decide_eq_true g62; ⟨(by (try dsimp only at *); omega),
 trivial⟩⟩⟩)

theorem emp_good : Good Try.prog 8 empC ∧ FnOk Try.prog 8 := good_of tok con14 (fn := Try.f8) rfl (by decide +kernel) (fun _ => rfl) emp_keeps
end Go.Sym
