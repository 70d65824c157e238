/-
  DERIVED. GIVEN WITH THE SEED: THE CARDS: each row of YtlldhkhmhgcpaaaDoorRows.lean that lists a variable, with what it lists TIED to the program's text (the seventh form; the later family's looks); each row that meets fmt, with fmt's text TOLD by the authors' own Lean function (tested against real Go, not proved from fmt's source: count such statements apart). THE CARD IS WHAT COUNTS. Prove the row's statement (the work); the ties are given (YtlldhkhmhgcpaaaDoorTie.lean); close each card by the builder's one call (the guide's Derived/Test/ToyasCard.lean, 'card_holds'). Laid BY PROGRAM, IN A SANDBOX (cutbox-door.mjs). By AI agents, Wed Nov 11 2026. No macro, syntax, notation, axiom, sorry.
-/
import Derived.Test.YtlldhkhmhgcpaaaDoorRows
import GoSem.ClaimSeven
namespace Go.Proofs.YtlldhkhmhgcpaaaDoor
namespace Rows

/-- THE TIED CARD OF 'samaritanlaw40.RelocationFormats'. -/
def relocationFormatsCard : Claim7 := { stood := { row := relocationFormatsRow, standIns := [], harness := (true, "dd815f11293122cc18380f0716e2a3c92350c76134b76f472bd24e2478251b56"), looks := false }, kinds := [], alts := [], laidByText := true, laidKinds := [.data, .data, .data], laidTests := true, laidLooks := .later }
def RelocationFormatsCardSaid : Prop := Claim7.holds Tryd.pinned (.plain (OpenSpec.ofChange relocationFormatsSpec)) relocationFormatsCard

/-- THE TIED CARD OF 'samaritanlaw40.RelocationApplies'. -/
def relocationAppliesCard : Claim7 := { stood := { row := relocationAppliesRow, standIns := [], harness := (true, "dd815f11293122cc18380f0716e2a3c92350c76134b76f472bd24e2478251b56"), looks := false }, kinds := [], alts := [], laidByText := true, laidKinds := [.data, .data, .data], laidTests := true, laidLooks := .later }
def RelocationAppliesCardSaid : Prop := Claim7.holds Tryd.pinned (.plain (OpenSpec.ofChange relocationAppliesSpec)) relocationAppliesCard

/-- THE TIED CARD OF 'samaritanlaw40.RelocationLowerBound'. -/
def relocationLowerBoundCard : Claim7 := { stood := { row := relocationLowerBoundRow, standIns := [], harness := (true, "dd815f11293122cc18380f0716e2a3c92350c76134b76f472bd24e2478251b56"), looks := false }, kinds := [], alts := [], laidByText := true, laidKinds := [.data, .data, .data], laidTests := true, laidLooks := .later }
def RelocationLowerBoundCardSaid : Prop := Claim7.holds Tryd.pinned (.plain (OpenSpec.ofChange relocationLowerBoundSpec)) relocationLowerBoundCard

/-- THE SECOND FORM's CARD OF 'samaritanlaw40.RelocationFormats'. -/
def relocationFormatsUptoCard : Claim7 := { stood := { row := relocationFormatsUptoRow, standIns := [], harness := (true, "dd815f11293122cc18380f0716e2a3c92350c76134b76f472bd24e2478251b56"), looks := false }, kinds := [], alts := [], laidByText := true, laidKinds := [.data, .data, .data], laidTests := true, laidLooks := .later }
def RelocationFormatsUptoCardSaid : Prop := Claim7.holds Tryd.pinned (.plain (OpenSpec.upto relocationFormatsSpec)) relocationFormatsUptoCard

/-- THE SECOND FORM's CARD OF 'samaritanlaw40.RelocationApplies'. -/
def relocationAppliesUptoCard : Claim7 := { stood := { row := relocationAppliesUptoRow, standIns := [], harness := (true, "dd815f11293122cc18380f0716e2a3c92350c76134b76f472bd24e2478251b56"), looks := false }, kinds := [], alts := [], laidByText := true, laidKinds := [.data, .data, .data], laidTests := true, laidLooks := .later }
def RelocationAppliesUptoCardSaid : Prop := Claim7.holds Tryd.pinned (.plain (OpenSpec.upto relocationAppliesSpec)) relocationAppliesUptoCard

/-- THE SECOND FORM's CARD OF 'samaritanlaw40.RelocationLowerBound'. -/
def relocationLowerBoundUptoCard : Claim7 := { stood := { row := relocationLowerBoundUptoRow, standIns := [], harness := (true, "dd815f11293122cc18380f0716e2a3c92350c76134b76f472bd24e2478251b56"), looks := false }, kinds := [], alts := [], laidByText := true, laidKinds := [.data, .data, .data], laidTests := true, laidLooks := .later }
def RelocationLowerBoundUptoCardSaid : Prop := Claim7.holds Tryd.pinned (.plain (OpenSpec.upto relocationLowerBoundSpec)) relocationLowerBoundUptoCard
end Rows
end Go.Proofs.YtlldhkhmhgcpaaaDoor
