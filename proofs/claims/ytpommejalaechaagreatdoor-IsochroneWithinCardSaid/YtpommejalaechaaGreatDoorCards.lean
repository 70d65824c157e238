/-
  DERIVED. GIVEN WITH THE SEED: THE CARDS: each row of YtpommejalaechaaGreatDoorRows.lean that lists a variable, with what it lists TIED to the program's text (the seventh form; the later family's looks); each row that meets fmt, with fmt's text TOLD by the authors' own Lean function (tested against real Go, not proved from fmt's source: count such statements apart). THE CARD IS WHAT COUNTS. Prove the row's statement (the work); the ties are given (YtpommejalaechaaGreatDoorTie.lean); close each card by the builder's one call (the guide's Derived/Test/ToyasCard.lean, 'card_holds'). Laid BY PROGRAM, IN A SANDBOX (cutbox-door.mjs). By AI agents, Wed Nov 11 2026. No macro, syntax, notation, axiom, sorry.
-/
import Derived.Test.YtpommejalaechaaGreatDoorRows
import GoSem.ClaimSeven
namespace Go.Proofs.YtpommejalaechaaGreatDoor
namespace Rows

/-- THE TIED CARD OF 'samaritanlaw10.IsochroneMatches'. -/
def isochroneMatchesCard : Claim7 := { stood := { row := isochroneMatchesRow, standIns := [], harness := (true, "512a426d010328207970f1bce519a97f3b58e1e68d8dec9c5e2a8684a97f2be2"), looks := false }, kinds := [], alts := [], laidByText := true, laidKinds := [.data, .data, .data], laidTests := true, laidLooks := .later }
def IsochroneMatchesCardSaid : Prop := Claim7.holds Tryz.pinned (.plain (OpenSpec.ofChange isochroneMatchesSpec)) isochroneMatchesCard

/-- THE TIED CARD OF 'samaritanlaw10.IsochroneWithin'. -/
def isochroneWithinCard : Claim7 := { stood := { row := isochroneWithinRow, standIns := [], harness := (true, "512a426d010328207970f1bce519a97f3b58e1e68d8dec9c5e2a8684a97f2be2"), looks := false }, kinds := [], alts := [], laidByText := true, laidKinds := [.data, .data, .data], laidTests := true, laidLooks := .later }
def IsochroneWithinCardSaid : Prop := Claim7.holds Tryz.pinned (.plain (OpenSpec.ofChange isochroneWithinSpec)) isochroneWithinCard

/-- THE SECOND FORM's CARD OF 'samaritanlaw10.IsochroneMatches'. -/
def isochroneMatchesUptoCard : Claim7 := { stood := { row := isochroneMatchesUptoRow, standIns := [], harness := (true, "512a426d010328207970f1bce519a97f3b58e1e68d8dec9c5e2a8684a97f2be2"), looks := false }, kinds := [], alts := [], laidByText := true, laidKinds := [.data, .data, .data], laidTests := true, laidLooks := .later }
def IsochroneMatchesUptoCardSaid : Prop := Claim7.holds Tryz.pinned (.plain (OpenSpec.upto isochroneMatchesSpec)) isochroneMatchesUptoCard

/-- THE SECOND FORM's CARD OF 'samaritanlaw10.IsochroneWithin'. -/
def isochroneWithinUptoCard : Claim7 := { stood := { row := isochroneWithinUptoRow, standIns := [], harness := (true, "512a426d010328207970f1bce519a97f3b58e1e68d8dec9c5e2a8684a97f2be2"), looks := false }, kinds := [], alts := [], laidByText := true, laidKinds := [.data, .data, .data], laidTests := true, laidLooks := .later }
def IsochroneWithinUptoCardSaid : Prop := Claim7.holds Tryz.pinned (.plain (OpenSpec.upto isochroneWithinSpec)) isochroneWithinUptoCard
end Rows
end Go.Proofs.YtpommejalaechaaGreatDoor
