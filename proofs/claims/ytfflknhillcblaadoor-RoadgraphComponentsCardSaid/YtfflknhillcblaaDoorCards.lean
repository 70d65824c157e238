/-
  DERIVED. GIVEN WITH THE SEED: THE CARDS: each row of YtfflknhillcblaaDoorRows.lean that lists a variable, with what it lists TIED to the program's text (the seventh form; the later family's looks); each row that meets fmt, with fmt's text TOLD by the authors' own Lean function (tested against real Go, not proved from fmt's source: count such statements apart). THE CARD IS WHAT COUNTS. Prove the row's statement (the work); the ties are given (YtfflknhillcblaaDoorTie.lean); close each card by the builder's one call (the guide's Derived/Test/ToyasCard.lean, 'card_holds'). Laid BY PROGRAM, IN A SANDBOX (cutbox-door.mjs). By AI agents, Wed Nov 11 2026. No macro, syntax, notation, axiom, sorry.
-/
import Derived.Test.YtfflknhillcblaaDoorRows
import GoSem.ClaimSeven
namespace Go.Proofs.YtfflknhillcblaaDoor
namespace Rows

/-- THE TIED CARD OF 'samaritanlaw07.RoadgraphAdjacency'. -/
def roadgraphAdjacencyCard : Claim7 := { stood := { row := roadgraphAdjacencyRow, standIns := [], harness := (true, "75ed0f5c366d4f5e76479a53f81f73d55ed12fd7a9583f9abafd9fffa0b2b7f5"), looks := false }, kinds := [], alts := [], laidByText := true, laidKinds := [.data], laidTests := true, laidLooks := .later }
def RoadgraphAdjacencyCardSaid : Prop := Claim7.holds Tryd.pinned (.plain (OpenSpec.ofChange roadgraphAdjacencySpec)) roadgraphAdjacencyCard

/-- THE TIED CARD OF 'samaritanlaw07.RoadgraphReachability'. -/
def roadgraphReachabilityCard : Claim7 := { stood := { row := roadgraphReachabilityRow, standIns := [], harness := (true, "75ed0f5c366d4f5e76479a53f81f73d55ed12fd7a9583f9abafd9fffa0b2b7f5"), looks := false }, kinds := [], alts := [], laidByText := true, laidKinds := [.data], laidTests := true, laidLooks := .later }
def RoadgraphReachabilityCardSaid : Prop := Claim7.holds Tryd.pinned (.plain (OpenSpec.ofChange roadgraphReachabilitySpec)) roadgraphReachabilityCard

/-- THE TIED CARD OF 'samaritanlaw07.RoadgraphComponents'. -/
def roadgraphComponentsCard : Claim7 := { stood := { row := roadgraphComponentsRow, standIns := [], harness := (true, "75ed0f5c366d4f5e76479a53f81f73d55ed12fd7a9583f9abafd9fffa0b2b7f5"), looks := false }, kinds := [], alts := [], laidByText := true, laidKinds := [.data], laidTests := true, laidLooks := .later }
def RoadgraphComponentsCardSaid : Prop := Claim7.holds Tryd.pinned (.plain (OpenSpec.ofChange roadgraphComponentsSpec)) roadgraphComponentsCard

/-- THE TIED CARD OF 'samaritanlaw07.RoadgraphNoAliasing'. -/
def roadgraphNoAliasingCard : Claim7 := { stood := { row := roadgraphNoAliasingRow, standIns := [], harness := (true, "75ed0f5c366d4f5e76479a53f81f73d55ed12fd7a9583f9abafd9fffa0b2b7f5"), looks := false }, kinds := [], alts := [], laidByText := true, laidKinds := [.data], laidTests := true, laidLooks := .later }
def RoadgraphNoAliasingCardSaid : Prop := Claim7.holds Tryd.pinned (.plain (OpenSpec.ofChange roadgraphNoAliasingSpec)) roadgraphNoAliasingCard

/-- THE TIED CARD OF 'samaritanlaw07.RoadgraphMonotonic'. -/
def roadgraphMonotonicCard : Claim7 := { stood := { row := roadgraphMonotonicRow, standIns := [], harness := (true, "75ed0f5c366d4f5e76479a53f81f73d55ed12fd7a9583f9abafd9fffa0b2b7f5"), looks := false }, kinds := [], alts := [], laidByText := true, laidKinds := [.data], laidTests := true, laidLooks := .later }
def RoadgraphMonotonicCardSaid : Prop := Claim7.holds Tryd.pinned (.plain (OpenSpec.ofChange roadgraphMonotonicSpec)) roadgraphMonotonicCard

/-- THE TIED CARD OF 'samaritanlaw07.RoadgraphReverse'. -/
def roadgraphReverseCard : Claim7 := { stood := { row := roadgraphReverseRow, standIns := [], harness := (true, "75ed0f5c366d4f5e76479a53f81f73d55ed12fd7a9583f9abafd9fffa0b2b7f5"), looks := false }, kinds := [], alts := [], laidByText := true, laidKinds := [.data], laidTests := true, laidLooks := .later }
def RoadgraphReverseCardSaid : Prop := Claim7.holds Tryd.pinned (.plain (OpenSpec.ofChange roadgraphReverseSpec)) roadgraphReverseCard

/-- THE TIED CARD OF 'samaritanlaw07.RoadgraphNew'. -/
def roadgraphNewCard : Claim7 := { stood := { row := roadgraphNewRow, standIns := [], harness := (true, "75ed0f5c366d4f5e76479a53f81f73d55ed12fd7a9583f9abafd9fffa0b2b7f5"), looks := false }, kinds := [], alts := [], laidByText := true, laidKinds := [.data], laidTests := true, laidLooks := .later }
def RoadgraphNewCardSaid : Prop := Claim7.holds Tryd.pinned (.plain (OpenSpec.ofChange roadgraphNewSpec)) roadgraphNewCard

/-- THE SECOND FORM's CARD OF 'samaritanlaw07.RoadgraphAdjacency'. -/
def roadgraphAdjacencyUptoCard : Claim7 := { stood := { row := roadgraphAdjacencyUptoRow, standIns := [], harness := (true, "75ed0f5c366d4f5e76479a53f81f73d55ed12fd7a9583f9abafd9fffa0b2b7f5"), looks := false }, kinds := [], alts := [], laidByText := true, laidKinds := [.data], laidTests := true, laidLooks := .later }
def RoadgraphAdjacencyUptoCardSaid : Prop := Claim7.holds Tryd.pinned (.plain (OpenSpec.upto roadgraphAdjacencySpec)) roadgraphAdjacencyUptoCard

/-- THE SECOND FORM's CARD OF 'samaritanlaw07.RoadgraphReachability'. -/
def roadgraphReachabilityUptoCard : Claim7 := { stood := { row := roadgraphReachabilityUptoRow, standIns := [], harness := (true, "75ed0f5c366d4f5e76479a53f81f73d55ed12fd7a9583f9abafd9fffa0b2b7f5"), looks := false }, kinds := [], alts := [], laidByText := true, laidKinds := [.data], laidTests := true, laidLooks := .later }
def RoadgraphReachabilityUptoCardSaid : Prop := Claim7.holds Tryd.pinned (.plain (OpenSpec.upto roadgraphReachabilitySpec)) roadgraphReachabilityUptoCard

/-- THE SECOND FORM's CARD OF 'samaritanlaw07.RoadgraphComponents'. -/
def roadgraphComponentsUptoCard : Claim7 := { stood := { row := roadgraphComponentsUptoRow, standIns := [], harness := (true, "75ed0f5c366d4f5e76479a53f81f73d55ed12fd7a9583f9abafd9fffa0b2b7f5"), looks := false }, kinds := [], alts := [], laidByText := true, laidKinds := [.data], laidTests := true, laidLooks := .later }
def RoadgraphComponentsUptoCardSaid : Prop := Claim7.holds Tryd.pinned (.plain (OpenSpec.upto roadgraphComponentsSpec)) roadgraphComponentsUptoCard

/-- THE SECOND FORM's CARD OF 'samaritanlaw07.RoadgraphNoAliasing'. -/
def roadgraphNoAliasingUptoCard : Claim7 := { stood := { row := roadgraphNoAliasingUptoRow, standIns := [], harness := (true, "75ed0f5c366d4f5e76479a53f81f73d55ed12fd7a9583f9abafd9fffa0b2b7f5"), looks := false }, kinds := [], alts := [], laidByText := true, laidKinds := [.data], laidTests := true, laidLooks := .later }
def RoadgraphNoAliasingUptoCardSaid : Prop := Claim7.holds Tryd.pinned (.plain (OpenSpec.upto roadgraphNoAliasingSpec)) roadgraphNoAliasingUptoCard

/-- THE SECOND FORM's CARD OF 'samaritanlaw07.RoadgraphMonotonic'. -/
def roadgraphMonotonicUptoCard : Claim7 := { stood := { row := roadgraphMonotonicUptoRow, standIns := [], harness := (true, "75ed0f5c366d4f5e76479a53f81f73d55ed12fd7a9583f9abafd9fffa0b2b7f5"), looks := false }, kinds := [], alts := [], laidByText := true, laidKinds := [.data], laidTests := true, laidLooks := .later }
def RoadgraphMonotonicUptoCardSaid : Prop := Claim7.holds Tryd.pinned (.plain (OpenSpec.upto roadgraphMonotonicSpec)) roadgraphMonotonicUptoCard

/-- THE SECOND FORM's CARD OF 'samaritanlaw07.RoadgraphReverse'. -/
def roadgraphReverseUptoCard : Claim7 := { stood := { row := roadgraphReverseUptoRow, standIns := [], harness := (true, "75ed0f5c366d4f5e76479a53f81f73d55ed12fd7a9583f9abafd9fffa0b2b7f5"), looks := false }, kinds := [], alts := [], laidByText := true, laidKinds := [.data], laidTests := true, laidLooks := .later }
def RoadgraphReverseUptoCardSaid : Prop := Claim7.holds Tryd.pinned (.plain (OpenSpec.upto roadgraphReverseSpec)) roadgraphReverseUptoCard

/-- THE SECOND FORM's CARD OF 'samaritanlaw07.RoadgraphNew'. -/
def roadgraphNewUptoCard : Claim7 := { stood := { row := roadgraphNewUptoRow, standIns := [], harness := (true, "75ed0f5c366d4f5e76479a53f81f73d55ed12fd7a9583f9abafd9fffa0b2b7f5"), looks := false }, kinds := [], alts := [], laidByText := true, laidKinds := [.data], laidTests := true, laidLooks := .later }
def RoadgraphNewUptoCardSaid : Prop := Claim7.holds Tryd.pinned (.plain (OpenSpec.upto roadgraphNewSpec)) roadgraphNewUptoCard
end Rows
end Go.Proofs.YtfflknhillcblaaDoor
