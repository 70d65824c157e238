/-
  DERIVED. GIVEN WITH THE SEED: THE CARDS: each row of YtpnnecijeoipfaaGreatDoorRows.lean that lists a variable, with what it lists TIED to the program's text (the seventh form; the later family's looks); each row that meets fmt, with fmt's text TOLD by the authors' own Lean function (tested against real Go, not proved from fmt's source: count such statements apart). THE CARD IS WHAT COUNTS. Prove the row's statement (the work); the ties are given (YtpnnecijeoipfaaGreatDoorTie.lean); close each card by the builder's one call (the guide's Derived/Test/ToyasCard.lean, 'card_holds'). Laid BY PROGRAM, IN A SANDBOX (cutbox-door.mjs). By AI agents, Wed Nov 11 2026. No macro, syntax, notation, axiom, sorry.
-/
import Derived.Test.YtpnnecijeoipfaaGreatDoorRows
import GoSem.ClaimSeven
namespace Go.Proofs.YtpnnecijeoipfaaGreatDoor
namespace Rows

/-- THE TIED CARD OF 'samaritantop.TopPartMerge'. -/
def topPartMergeCard : Claim7 := { stood := { row := topPartMergeRow, standIns := [], harness := (true, "d8c99df1f602400b9ac4520f63d6dc9db6ca08684e1677224f47b6c0a3d5db16"), looks := false }, kinds := [], alts := [], laidByText := true, laidKinds := [.data], laidTests := true, laidLooks := .later }
def TopPartMergeCardSaid : Prop := Claim7.holds Tryz.pinned (.plain (OpenSpec.ofChange topPartMergeSpec)) topPartMergeCard

/-- THE TIED CARD OF 'samaritantop.TopNobodyLost'. -/
def topNobodyLostCard : Claim7 := { stood := { row := topNobodyLostRow, standIns := [], harness := (true, "d8c99df1f602400b9ac4520f63d6dc9db6ca08684e1677224f47b6c0a3d5db16"), looks := false }, kinds := [], alts := [], laidByText := true, laidKinds := [.data], laidTests := true, laidLooks := .later }
def TopNobodyLostCardSaid : Prop := Claim7.holds Tryz.pinned (.plain (OpenSpec.ofChange topNobodyLostSpec)) topNobodyLostCard

/-- THE SECOND FORM's CARD OF 'samaritantop.TopPartMerge'. -/
def topPartMergeUptoCard : Claim7 := { stood := { row := topPartMergeUptoRow, standIns := [], harness := (true, "d8c99df1f602400b9ac4520f63d6dc9db6ca08684e1677224f47b6c0a3d5db16"), looks := false }, kinds := [], alts := [], laidByText := true, laidKinds := [.data], laidTests := true, laidLooks := .later }
def TopPartMergeUptoCardSaid : Prop := Claim7.holds Tryz.pinned (.plain (OpenSpec.upto topPartMergeSpec)) topPartMergeUptoCard

/-- THE SECOND FORM's CARD OF 'samaritantop.TopNobodyLost'. -/
def topNobodyLostUptoCard : Claim7 := { stood := { row := topNobodyLostUptoRow, standIns := [], harness := (true, "d8c99df1f602400b9ac4520f63d6dc9db6ca08684e1677224f47b6c0a3d5db16"), looks := false }, kinds := [], alts := [], laidByText := true, laidKinds := [.data], laidTests := true, laidLooks := .later }
def TopNobodyLostUptoCardSaid : Prop := Claim7.holds Tryz.pinned (.plain (OpenSpec.upto topNobodyLostSpec)) topNobodyLostUptoCard
end Rows
end Go.Proofs.YtpnnecijeoipfaaGreatDoor
