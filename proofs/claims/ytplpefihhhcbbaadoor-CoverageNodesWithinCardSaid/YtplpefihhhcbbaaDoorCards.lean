/-
  DERIVED. GIVEN WITH THE SEED: THE CARDS: each row of YtplpefihhhcbbaaDoorRows.lean that lists a variable, with what it lists TIED to the program's text (the seventh form; the later family's looks); each row that meets fmt, with fmt's text TOLD by the authors' own Lean function (tested against real Go, not proved from fmt's source: count such statements apart). THE CARD IS WHAT COUNTS. Prove the row's statement (the work); the ties are given (YtplpefihhhcbbaaDoorTie.lean); close each card by the builder's one call (the guide's Derived/Test/ToyasCard.lean, 'card_holds'). Laid BY PROGRAM, IN A SANDBOX (cutbox-door.mjs). By AI agents, Wed Nov 11 2026. No macro, syntax, notation, axiom, sorry.
-/
import Derived.Test.YtplpefihhhcbbaaDoorRows
import GoSem.ClaimSeven
namespace Go.Proofs.YtplpefihhhcbbaaDoor
namespace Rows

/-- THE TIED CARD OF 'samaritanlaw39.CoverageWorstWait'. -/
def coverageWorstWaitCard : Claim7 := { stood := { row := coverageWorstWaitRow, standIns := [], harness := (true, "71ca4fba0831881ddbb6723cfffb7519959766943b2b562d4e9c738c2daf50e8"), looks := false }, kinds := [], alts := [], laidByText := true, laidKinds := [.data], laidTests := true, laidLooks := .later }
def CoverageWorstWaitCardSaid : Prop := Claim7.holds Tryd.pinned (.plain (OpenSpec.ofChange coverageWorstWaitSpec)) coverageWorstWaitCard

/-- THE TIED CARD OF 'samaritanlaw39.CoverageLowerBoundValue'. -/
def coverageLowerBoundValueCard : Claim7 := { stood := { row := coverageLowerBoundValueRow, standIns := [], harness := (true, "71ca4fba0831881ddbb6723cfffb7519959766943b2b562d4e9c738c2daf50e8"), looks := false }, kinds := [], alts := [], laidByText := true, laidKinds := [.data], laidTests := true, laidLooks := .later }
def CoverageLowerBoundValueCardSaid : Prop := Claim7.holds Tryd.pinned (.plain (OpenSpec.ofChange coverageLowerBoundValueSpec)) coverageLowerBoundValueCard

/-- THE TIED CARD OF 'samaritanlaw39.CoverageLowerBound'. -/
def coverageLowerBoundCard : Claim7 := { stood := { row := coverageLowerBoundRow, standIns := [], harness := (true, "71ca4fba0831881ddbb6723cfffb7519959766943b2b562d4e9c738c2daf50e8"), looks := false }, kinds := [], alts := [], laidByText := true, laidKinds := [.data], laidTests := true, laidLooks := .later }
def CoverageLowerBoundCardSaid : Prop := Claim7.holds Tryd.pinned (.plain (OpenSpec.ofChange coverageLowerBoundSpec)) coverageLowerBoundCard

/-- THE TIED CARD OF 'samaritanlaw39.CoverageMonotonic'. -/
def coverageMonotonicCard : Claim7 := { stood := { row := coverageMonotonicRow, standIns := [], harness := (true, "71ca4fba0831881ddbb6723cfffb7519959766943b2b562d4e9c738c2daf50e8"), looks := false }, kinds := [], alts := [], laidByText := true, laidKinds := [.data], laidTests := true, laidLooks := .later }
def CoverageMonotonicCardSaid : Prop := Claim7.holds Tryd.pinned (.plain (OpenSpec.ofChange coverageMonotonicSpec)) coverageMonotonicCard

/-- THE TIED CARD OF 'samaritanlaw39.CoverageDistrictNodes'. -/
def coverageDistrictNodesCard : Claim7 := { stood := { row := coverageDistrictNodesRow, standIns := [], harness := (true, "71ca4fba0831881ddbb6723cfffb7519959766943b2b562d4e9c738c2daf50e8"), looks := false }, kinds := [], alts := [], laidByText := true, laidKinds := [.data], laidTests := true, laidLooks := .later }
def CoverageDistrictNodesCardSaid : Prop := Claim7.holds Tryd.pinned (.plain (OpenSpec.ofChange coverageDistrictNodesSpec)) coverageDistrictNodesCard

/-- THE TIED CARD OF 'samaritanlaw39.CoverageNodesWithin'. -/
def coverageNodesWithinCard : Claim7 := { stood := { row := coverageNodesWithinRow, standIns := [], harness := (true, "71ca4fba0831881ddbb6723cfffb7519959766943b2b562d4e9c738c2daf50e8"), looks := false }, kinds := [], alts := [], laidByText := true, laidKinds := [.data], laidTests := true, laidLooks := .later }
def CoverageNodesWithinCardSaid : Prop := Claim7.holds Tryd.pinned (.plain (OpenSpec.ofChange coverageNodesWithinSpec)) coverageNodesWithinCard

/-- THE TIED CARD OF 'samaritanlaw39.CoverageRemovalLoss'. -/
def coverageRemovalLossCard : Claim7 := { stood := { row := coverageRemovalLossRow, standIns := [], harness := (true, "71ca4fba0831881ddbb6723cfffb7519959766943b2b562d4e9c738c2daf50e8"), looks := false }, kinds := [], alts := [], laidByText := true, laidKinds := [.data], laidTests := true, laidLooks := .later }
def CoverageRemovalLossCardSaid : Prop := Claim7.holds Tryd.pinned (.plain (OpenSpec.ofChange coverageRemovalLossSpec)) coverageRemovalLossCard

/-- THE SECOND FORM's CARD OF 'samaritanlaw39.CoverageWorstWait'. -/
def coverageWorstWaitUptoCard : Claim7 := { stood := { row := coverageWorstWaitUptoRow, standIns := [], harness := (true, "71ca4fba0831881ddbb6723cfffb7519959766943b2b562d4e9c738c2daf50e8"), looks := false }, kinds := [], alts := [], laidByText := true, laidKinds := [.data], laidTests := true, laidLooks := .later }
def CoverageWorstWaitUptoCardSaid : Prop := Claim7.holds Tryd.pinned (.plain (OpenSpec.upto coverageWorstWaitSpec)) coverageWorstWaitUptoCard

/-- THE SECOND FORM's CARD OF 'samaritanlaw39.CoverageLowerBoundValue'. -/
def coverageLowerBoundValueUptoCard : Claim7 := { stood := { row := coverageLowerBoundValueUptoRow, standIns := [], harness := (true, "71ca4fba0831881ddbb6723cfffb7519959766943b2b562d4e9c738c2daf50e8"), looks := false }, kinds := [], alts := [], laidByText := true, laidKinds := [.data], laidTests := true, laidLooks := .later }
def CoverageLowerBoundValueUptoCardSaid : Prop := Claim7.holds Tryd.pinned (.plain (OpenSpec.upto coverageLowerBoundValueSpec)) coverageLowerBoundValueUptoCard

/-- THE SECOND FORM's CARD OF 'samaritanlaw39.CoverageLowerBound'. -/
def coverageLowerBoundUptoCard : Claim7 := { stood := { row := coverageLowerBoundUptoRow, standIns := [], harness := (true, "71ca4fba0831881ddbb6723cfffb7519959766943b2b562d4e9c738c2daf50e8"), looks := false }, kinds := [], alts := [], laidByText := true, laidKinds := [.data], laidTests := true, laidLooks := .later }
def CoverageLowerBoundUptoCardSaid : Prop := Claim7.holds Tryd.pinned (.plain (OpenSpec.upto coverageLowerBoundSpec)) coverageLowerBoundUptoCard

/-- THE SECOND FORM's CARD OF 'samaritanlaw39.CoverageMonotonic'. -/
def coverageMonotonicUptoCard : Claim7 := { stood := { row := coverageMonotonicUptoRow, standIns := [], harness := (true, "71ca4fba0831881ddbb6723cfffb7519959766943b2b562d4e9c738c2daf50e8"), looks := false }, kinds := [], alts := [], laidByText := true, laidKinds := [.data], laidTests := true, laidLooks := .later }
def CoverageMonotonicUptoCardSaid : Prop := Claim7.holds Tryd.pinned (.plain (OpenSpec.upto coverageMonotonicSpec)) coverageMonotonicUptoCard

/-- THE SECOND FORM's CARD OF 'samaritanlaw39.CoverageDistrictNodes'. -/
def coverageDistrictNodesUptoCard : Claim7 := { stood := { row := coverageDistrictNodesUptoRow, standIns := [], harness := (true, "71ca4fba0831881ddbb6723cfffb7519959766943b2b562d4e9c738c2daf50e8"), looks := false }, kinds := [], alts := [], laidByText := true, laidKinds := [.data], laidTests := true, laidLooks := .later }
def CoverageDistrictNodesUptoCardSaid : Prop := Claim7.holds Tryd.pinned (.plain (OpenSpec.upto coverageDistrictNodesSpec)) coverageDistrictNodesUptoCard

/-- THE SECOND FORM's CARD OF 'samaritanlaw39.CoverageNodesWithin'. -/
def coverageNodesWithinUptoCard : Claim7 := { stood := { row := coverageNodesWithinUptoRow, standIns := [], harness := (true, "71ca4fba0831881ddbb6723cfffb7519959766943b2b562d4e9c738c2daf50e8"), looks := false }, kinds := [], alts := [], laidByText := true, laidKinds := [.data], laidTests := true, laidLooks := .later }
def CoverageNodesWithinUptoCardSaid : Prop := Claim7.holds Tryd.pinned (.plain (OpenSpec.upto coverageNodesWithinSpec)) coverageNodesWithinUptoCard

/-- THE SECOND FORM's CARD OF 'samaritanlaw39.CoverageRemovalLoss'. -/
def coverageRemovalLossUptoCard : Claim7 := { stood := { row := coverageRemovalLossUptoRow, standIns := [], harness := (true, "71ca4fba0831881ddbb6723cfffb7519959766943b2b562d4e9c738c2daf50e8"), looks := false }, kinds := [], alts := [], laidByText := true, laidKinds := [.data], laidTests := true, laidLooks := .later }
def CoverageRemovalLossUptoCardSaid : Prop := Claim7.holds Tryd.pinned (.plain (OpenSpec.upto coverageRemovalLossSpec)) coverageRemovalLossUptoCard
end Rows
end Go.Proofs.YtplpefihhhcbbaaDoor
