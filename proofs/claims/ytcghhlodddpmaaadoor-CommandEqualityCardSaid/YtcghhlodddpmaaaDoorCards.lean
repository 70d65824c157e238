/-
  DERIVED. GIVEN WITH THE SEED: THE CARDS: each row of YtcghhlodddpmaaaDoorRows.lean that lists a variable, with what it lists TIED to the program's text (the seventh form; the later family's looks); each row that meets fmt, with fmt's text TOLD by the authors' own Lean function (tested against real Go, not proved from fmt's source: count such statements apart). THE CARD IS WHAT COUNTS. Prove the row's statement (the work); the ties are given (YtcghhlodddpmaaaDoorTie.lean); close each card by the builder's one call (the guide's Derived/Test/ToyasCard.lean, 'card_holds'). Laid BY PROGRAM, IN A SANDBOX (cutbox-door.mjs). By AI agents, Wed Nov 11 2026. No macro, syntax, notation, axiom, sorry.
-/
import Derived.Test.YtcghhlodddpmaaaDoorRows
import GoSem.ClaimSeven
namespace Go.Proofs.YtcghhlodddpmaaaDoor
namespace Rows

/-- THE TIED CARD OF 'samaritanlaw43.CommandValidity'. -/
def commandValidityCard : Claim7 := { stood := { row := commandValidityRow, standIns := [], harness := (true, "0977cf05c1d71856cfb726f89ae48a137d86efe84dabf2edd6f2cdfb4945e1e3"), looks := false }, kinds := [], alts := [], laidByText := true, laidKinds := [.data, .data, .data], laidTests := true, laidLooks := .later }
def CommandValidityCardSaid : Prop := Claim7.holds Tryd.pinned (.plain (OpenSpec.ofChange commandValiditySpec)) commandValidityCard

/-- THE TIED CARD OF 'samaritanlaw43.CommandEncoding'. -/
def commandEncodingCard : Claim7 := { stood := { row := commandEncodingRow, standIns := [], harness := (true, "0977cf05c1d71856cfb726f89ae48a137d86efe84dabf2edd6f2cdfb4945e1e3"), looks := false }, kinds := [], alts := [], laidByText := true, laidKinds := [.data, .data, .data], laidTests := true, laidLooks := .later }
def CommandEncodingCardSaid : Prop := Claim7.holds Tryd.pinned (.plain (OpenSpec.ofChange commandEncodingSpec)) commandEncodingCard

/-- THE TIED CARD OF 'samaritanlaw43.CommandDecoding'. -/
def commandDecodingCard : Claim7 := { stood := { row := commandDecodingRow, standIns := [], harness := (true, "0977cf05c1d71856cfb726f89ae48a137d86efe84dabf2edd6f2cdfb4945e1e3"), looks := false }, kinds := [], alts := [], laidByText := true, laidKinds := [.data, .data, .data], laidTests := true, laidLooks := .later }
def CommandDecodingCardSaid : Prop := Claim7.holds Tryd.pinned (.plain (OpenSpec.ofChange commandDecodingSpec)) commandDecodingCard

/-- THE TIED CARD OF 'samaritanlaw43.CommandEquality'. -/
def commandEqualityCard : Claim7 := { stood := { row := commandEqualityRow, standIns := [], harness := (true, "0977cf05c1d71856cfb726f89ae48a137d86efe84dabf2edd6f2cdfb4945e1e3"), looks := false }, kinds := [], alts := [], laidByText := true, laidKinds := [.data, .data, .data], laidTests := true, laidLooks := .later }
def CommandEqualityCardSaid : Prop := Claim7.holds Tryd.pinned (.plain (OpenSpec.ofChange commandEqualitySpec)) commandEqualityCard

/-- THE TIED CARD OF 'samaritanlaw43.CommandMessageDecoding'. -/
def commandMessageDecodingCard : Claim7 := { stood := { row := commandMessageDecodingRow, standIns := [], harness := (true, "0977cf05c1d71856cfb726f89ae48a137d86efe84dabf2edd6f2cdfb4945e1e3"), looks := false }, kinds := [], alts := [], laidByText := true, laidKinds := [.data, .data, .data], laidTests := true, laidLooks := .later }
def CommandMessageDecodingCardSaid : Prop := Claim7.holds Tryd.pinned (.plain (OpenSpec.ofChange commandMessageDecodingSpec)) commandMessageDecodingCard

/-- THE TIED CARD OF 'samaritanlaw43.CommandMessageEncoding'. -/
def commandMessageEncodingCard : Claim7 := { stood := { row := commandMessageEncodingRow, standIns := [], harness := (true, "0977cf05c1d71856cfb726f89ae48a137d86efe84dabf2edd6f2cdfb4945e1e3"), looks := false }, kinds := [], alts := [], laidByText := true, laidKinds := [.data, .data, .data], laidTests := true, laidLooks := .later }
def CommandMessageEncodingCardSaid : Prop := Claim7.holds Tryd.pinned (.plain (OpenSpec.ofChange commandMessageEncodingSpec)) commandMessageEncodingCard

/-- THE TIED CARD OF 'samaritanlaw43.CommandNoAliasing'. -/
def commandNoAliasingCard : Claim7 := { stood := { row := commandNoAliasingRow, standIns := [], harness := (true, "0977cf05c1d71856cfb726f89ae48a137d86efe84dabf2edd6f2cdfb4945e1e3"), looks := false }, kinds := [], alts := [], laidByText := true, laidKinds := [.data, .data, .data], laidTests := true, laidLooks := .later }
def CommandNoAliasingCardSaid : Prop := Claim7.holds Tryd.pinned (.plain (OpenSpec.ofChange commandNoAliasingSpec)) commandNoAliasingCard

/-- THE SECOND FORM's CARD OF 'samaritanlaw43.CommandValidity'. -/
def commandValidityUptoCard : Claim7 := { stood := { row := commandValidityUptoRow, standIns := [], harness := (true, "0977cf05c1d71856cfb726f89ae48a137d86efe84dabf2edd6f2cdfb4945e1e3"), looks := false }, kinds := [], alts := [], laidByText := true, laidKinds := [.data, .data, .data], laidTests := true, laidLooks := .later }
def CommandValidityUptoCardSaid : Prop := Claim7.holds Tryd.pinned (.plain (OpenSpec.upto commandValiditySpec)) commandValidityUptoCard

/-- THE SECOND FORM's CARD OF 'samaritanlaw43.CommandEncoding'. -/
def commandEncodingUptoCard : Claim7 := { stood := { row := commandEncodingUptoRow, standIns := [], harness := (true, "0977cf05c1d71856cfb726f89ae48a137d86efe84dabf2edd6f2cdfb4945e1e3"), looks := false }, kinds := [], alts := [], laidByText := true, laidKinds := [.data, .data, .data], laidTests := true, laidLooks := .later }
def CommandEncodingUptoCardSaid : Prop := Claim7.holds Tryd.pinned (.plain (OpenSpec.upto commandEncodingSpec)) commandEncodingUptoCard

/-- THE SECOND FORM's CARD OF 'samaritanlaw43.CommandDecoding'. -/
def commandDecodingUptoCard : Claim7 := { stood := { row := commandDecodingUptoRow, standIns := [], harness := (true, "0977cf05c1d71856cfb726f89ae48a137d86efe84dabf2edd6f2cdfb4945e1e3"), looks := false }, kinds := [], alts := [], laidByText := true, laidKinds := [.data, .data, .data], laidTests := true, laidLooks := .later }
def CommandDecodingUptoCardSaid : Prop := Claim7.holds Tryd.pinned (.plain (OpenSpec.upto commandDecodingSpec)) commandDecodingUptoCard

/-- THE SECOND FORM's CARD OF 'samaritanlaw43.CommandEquality'. -/
def commandEqualityUptoCard : Claim7 := { stood := { row := commandEqualityUptoRow, standIns := [], harness := (true, "0977cf05c1d71856cfb726f89ae48a137d86efe84dabf2edd6f2cdfb4945e1e3"), looks := false }, kinds := [], alts := [], laidByText := true, laidKinds := [.data, .data, .data], laidTests := true, laidLooks := .later }
def CommandEqualityUptoCardSaid : Prop := Claim7.holds Tryd.pinned (.plain (OpenSpec.upto commandEqualitySpec)) commandEqualityUptoCard

/-- THE SECOND FORM's CARD OF 'samaritanlaw43.CommandMessageDecoding'. -/
def commandMessageDecodingUptoCard : Claim7 := { stood := { row := commandMessageDecodingUptoRow, standIns := [], harness := (true, "0977cf05c1d71856cfb726f89ae48a137d86efe84dabf2edd6f2cdfb4945e1e3"), looks := false }, kinds := [], alts := [], laidByText := true, laidKinds := [.data, .data, .data], laidTests := true, laidLooks := .later }
def CommandMessageDecodingUptoCardSaid : Prop := Claim7.holds Tryd.pinned (.plain (OpenSpec.upto commandMessageDecodingSpec)) commandMessageDecodingUptoCard

/-- THE SECOND FORM's CARD OF 'samaritanlaw43.CommandMessageEncoding'. -/
def commandMessageEncodingUptoCard : Claim7 := { stood := { row := commandMessageEncodingUptoRow, standIns := [], harness := (true, "0977cf05c1d71856cfb726f89ae48a137d86efe84dabf2edd6f2cdfb4945e1e3"), looks := false }, kinds := [], alts := [], laidByText := true, laidKinds := [.data, .data, .data], laidTests := true, laidLooks := .later }
def CommandMessageEncodingUptoCardSaid : Prop := Claim7.holds Tryd.pinned (.plain (OpenSpec.upto commandMessageEncodingSpec)) commandMessageEncodingUptoCard

/-- THE SECOND FORM's CARD OF 'samaritanlaw43.CommandNoAliasing'. -/
def commandNoAliasingUptoCard : Claim7 := { stood := { row := commandNoAliasingUptoRow, standIns := [], harness := (true, "0977cf05c1d71856cfb726f89ae48a137d86efe84dabf2edd6f2cdfb4945e1e3"), looks := false }, kinds := [], alts := [], laidByText := true, laidKinds := [.data, .data, .data], laidTests := true, laidLooks := .later }
def CommandNoAliasingUptoCardSaid : Prop := Claim7.holds Tryd.pinned (.plain (OpenSpec.upto commandNoAliasingSpec)) commandNoAliasingUptoCard
end Rows
end Go.Proofs.YtcghhlodddpmaaaDoor
