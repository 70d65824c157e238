/-
  DERIVED. GIVEN WITH THE SEED: THE CARDS: each row of YtpommejalaechaaDoorRows.lean that lists a variable, with what it lists TIED to the program's text (the seventh form; the later family's looks); each row that meets fmt, with fmt's text TOLD by the authors' own Lean function (tested against real Go, not proved from fmt's source: count such statements apart). THE CARD IS WHAT COUNTS. Prove the row's statement (the work); the ties are given (YtpommejalaechaaDoorTie.lean); close each card by the builder's one call (the guide's Derived/Test/ToyasCard.lean, 'card_holds'). Laid BY PROGRAM, IN A SANDBOX (cutbox-door.mjs). By AI agents, Wed Nov 11 2026. No macro, syntax, notation, axiom, sorry.
-/
import Derived.Test.YtpommejalaechaaDoorRows
import GoSem.ClaimSeven
namespace Go.Proofs.YtpommejalaechaaDoor
namespace Rows

/-- THE TIED CARD OF 'samaritanlaw10.IsochroneTriangle'. -/
def isochroneTriangleCard : Claim7 := { stood := { row := isochroneTriangleRow, standIns := [], harness := (true, "2d5679e1fd78d1ab726cc7e95e68f0fa7166cbe561699f10032c44894c483ee6"), looks := false }, kinds := [], alts := [], laidByText := true, laidKinds := [.data, .data, .data], laidTests := true, laidLooks := .later }
def IsochroneTriangleCardSaid : Prop := Claim7.holds Tryd.pinned (.plain (OpenSpec.ofChange isochroneTriangleSpec)) isochroneTriangleCard

/-- THE TIED CARD OF 'samaritanlaw10.IsochroneMonotone'. -/
def isochroneMonotoneCard : Claim7 := { stood := { row := isochroneMonotoneRow, standIns := [], harness := (true, "2d5679e1fd78d1ab726cc7e95e68f0fa7166cbe561699f10032c44894c483ee6"), looks := false }, kinds := [], alts := [], laidByText := true, laidKinds := [.data, .data, .data], laidTests := true, laidLooks := .later }
def IsochroneMonotoneCardSaid : Prop := Claim7.holds Tryd.pinned (.plain (OpenSpec.ofChange isochroneMonotoneSpec)) isochroneMonotoneCard

/-- THE TIED CARD OF 'samaritanlaw10.IsochroneRestore'. -/
def isochroneRestoreCard : Claim7 := { stood := { row := isochroneRestoreRow, standIns := [], harness := (true, "2d5679e1fd78d1ab726cc7e95e68f0fa7166cbe561699f10032c44894c483ee6"), looks := false }, kinds := [], alts := [], laidByText := true, laidKinds := [.data, .data, .data], laidTests := true, laidLooks := .later }
def IsochroneRestoreCardSaid : Prop := Claim7.holds Tryd.pinned (.plain (OpenSpec.ofChange isochroneRestoreSpec)) isochroneRestoreCard

/-- THE TIED CARD OF 'samaritanlaw10.IsochroneRebuild'. -/
def isochroneRebuildCard : Claim7 := { stood := { row := isochroneRebuildRow, standIns := [], harness := (true, "2d5679e1fd78d1ab726cc7e95e68f0fa7166cbe561699f10032c44894c483ee6"), looks := false }, kinds := [], alts := [], laidByText := true, laidKinds := [.data, .data, .data], laidTests := true, laidLooks := .later }
def IsochroneRebuildCardSaid : Prop := Claim7.holds Tryd.pinned (.plain (OpenSpec.ofChange isochroneRebuildSpec)) isochroneRebuildCard

/-- THE TIED CARD OF 'samaritanlaw10.IsochroneEmpty'. -/
def isochroneEmptyCard : Claim7 := { stood := { row := isochroneEmptyRow, standIns := [], harness := (true, "2d5679e1fd78d1ab726cc7e95e68f0fa7166cbe561699f10032c44894c483ee6"), looks := false }, kinds := [], alts := [], laidByText := true, laidKinds := [.data, .data, .data], laidTests := true, laidLooks := .later }
def IsochroneEmptyCardSaid : Prop := Claim7.holds Tryd.pinned (.plain (OpenSpec.ofChange isochroneEmptySpec)) isochroneEmptyCard

/-- THE SECOND FORM's CARD OF 'samaritanlaw10.IsochroneTriangle'. -/
def isochroneTriangleUptoCard : Claim7 := { stood := { row := isochroneTriangleUptoRow, standIns := [], harness := (true, "2d5679e1fd78d1ab726cc7e95e68f0fa7166cbe561699f10032c44894c483ee6"), looks := false }, kinds := [], alts := [], laidByText := true, laidKinds := [.data, .data, .data], laidTests := true, laidLooks := .later }
def IsochroneTriangleUptoCardSaid : Prop := Claim7.holds Tryd.pinned (.plain (OpenSpec.upto isochroneTriangleSpec)) isochroneTriangleUptoCard

/-- THE SECOND FORM's CARD OF 'samaritanlaw10.IsochroneMonotone'. -/
def isochroneMonotoneUptoCard : Claim7 := { stood := { row := isochroneMonotoneUptoRow, standIns := [], harness := (true, "2d5679e1fd78d1ab726cc7e95e68f0fa7166cbe561699f10032c44894c483ee6"), looks := false }, kinds := [], alts := [], laidByText := true, laidKinds := [.data, .data, .data], laidTests := true, laidLooks := .later }
def IsochroneMonotoneUptoCardSaid : Prop := Claim7.holds Tryd.pinned (.plain (OpenSpec.upto isochroneMonotoneSpec)) isochroneMonotoneUptoCard

/-- THE SECOND FORM's CARD OF 'samaritanlaw10.IsochroneRestore'. -/
def isochroneRestoreUptoCard : Claim7 := { stood := { row := isochroneRestoreUptoRow, standIns := [], harness := (true, "2d5679e1fd78d1ab726cc7e95e68f0fa7166cbe561699f10032c44894c483ee6"), looks := false }, kinds := [], alts := [], laidByText := true, laidKinds := [.data, .data, .data], laidTests := true, laidLooks := .later }
def IsochroneRestoreUptoCardSaid : Prop := Claim7.holds Tryd.pinned (.plain (OpenSpec.upto isochroneRestoreSpec)) isochroneRestoreUptoCard

/-- THE SECOND FORM's CARD OF 'samaritanlaw10.IsochroneRebuild'. -/
def isochroneRebuildUptoCard : Claim7 := { stood := { row := isochroneRebuildUptoRow, standIns := [], harness := (true, "2d5679e1fd78d1ab726cc7e95e68f0fa7166cbe561699f10032c44894c483ee6"), looks := false }, kinds := [], alts := [], laidByText := true, laidKinds := [.data, .data, .data], laidTests := true, laidLooks := .later }
def IsochroneRebuildUptoCardSaid : Prop := Claim7.holds Tryd.pinned (.plain (OpenSpec.upto isochroneRebuildSpec)) isochroneRebuildUptoCard

/-- THE SECOND FORM's CARD OF 'samaritanlaw10.IsochroneEmpty'. -/
def isochroneEmptyUptoCard : Claim7 := { stood := { row := isochroneEmptyUptoRow, standIns := [], harness := (true, "2d5679e1fd78d1ab726cc7e95e68f0fa7166cbe561699f10032c44894c483ee6"), looks := false }, kinds := [], alts := [], laidByText := true, laidKinds := [.data, .data, .data], laidTests := true, laidLooks := .later }
def IsochroneEmptyUptoCardSaid : Prop := Claim7.holds Tryd.pinned (.plain (OpenSpec.upto isochroneEmptySpec)) isochroneEmptyUptoCard
end Rows
end Go.Proofs.YtpommejalaechaaDoor
