/-
  DERIVED. GIVEN WITH THE SEED: THE CARDS: each row of YtlldhkhmhgcpaaaGreatDoorRows.lean that lists a variable, with what it lists TIED to the program's text (the seventh form; the later family's looks); each row that meets fmt, with fmt's text TOLD by the authors' own Lean function (tested against real Go, not proved from fmt's source: count such statements apart). THE CARD IS WHAT COUNTS. Prove the row's statement (the work); the ties are given (YtlldhkhmhgcpaaaGreatDoorTie.lean); close each card by the builder's one call (the guide's Derived/Test/ToyasCard.lean, 'card_holds'). Laid BY PROGRAM, IN A SANDBOX (cutbox-door.mjs). By AI agents, Wed Nov 11 2026. No macro, syntax, notation, axiom, sorry.
-/
import Derived.Test.YtlldhkhmhgcpaaaGreatDoorRows
import GoSem.ClaimSeven
namespace Go.Proofs.YtlldhkhmhgcpaaaGreatDoor
namespace Rows

/-- THE TIED CARD OF 'samaritanlaw40.RelocationPlans'. -/
def relocationPlansCard : Claim7 := { stood := { row := relocationPlansRow, standIns := [], harness := (true, "d27a692251a07b0c5f1916aaee9959e79ce8d617587d489de5173c38885d4ef8"), looks := false }, kinds := [], alts := [], laidByText := true, laidKinds := [.data, .data, .data], laidTests := true, laidLooks := .later }
def RelocationPlansCardSaid : Prop := Claim7.holds Tryz.pinned (.plain (OpenSpec.ofChange relocationPlansSpec)) relocationPlansCard

/-- THE TIED CARD OF 'samaritanlaw40.RelocationNeverWorse'. -/
def relocationNeverWorseCard : Claim7 := { stood := { row := relocationNeverWorseRow, standIns := [], harness := (true, "d27a692251a07b0c5f1916aaee9959e79ce8d617587d489de5173c38885d4ef8"), looks := false }, kinds := [], alts := [], laidByText := true, laidKinds := [.data, .data, .data], laidTests := true, laidLooks := .later }
def RelocationNeverWorseCardSaid : Prop := Claim7.holds Tryz.pinned (.plain (OpenSpec.ofChange relocationNeverWorseSpec)) relocationNeverWorseCard

/-- THE TIED CARD OF 'samaritanlaw40.RelocationGain'. -/
def relocationGainCard : Claim7 := { stood := { row := relocationGainRow, standIns := [], harness := (true, "d27a692251a07b0c5f1916aaee9959e79ce8d617587d489de5173c38885d4ef8"), looks := false }, kinds := [], alts := [], laidByText := true, laidKinds := [.data, .data, .data], laidTests := true, laidLooks := .later }
def RelocationGainCardSaid : Prop := Claim7.holds Tryz.pinned (.plain (OpenSpec.ofChange relocationGainSpec)) relocationGainCard

/-- THE SECOND FORM's CARD OF 'samaritanlaw40.RelocationPlans'. -/
def relocationPlansUptoCard : Claim7 := { stood := { row := relocationPlansUptoRow, standIns := [], harness := (true, "d27a692251a07b0c5f1916aaee9959e79ce8d617587d489de5173c38885d4ef8"), looks := false }, kinds := [], alts := [], laidByText := true, laidKinds := [.data, .data, .data], laidTests := true, laidLooks := .later }
def RelocationPlansUptoCardSaid : Prop := Claim7.holds Tryz.pinned (.plain (OpenSpec.upto relocationPlansSpec)) relocationPlansUptoCard

/-- THE SECOND FORM's CARD OF 'samaritanlaw40.RelocationNeverWorse'. -/
def relocationNeverWorseUptoCard : Claim7 := { stood := { row := relocationNeverWorseUptoRow, standIns := [], harness := (true, "d27a692251a07b0c5f1916aaee9959e79ce8d617587d489de5173c38885d4ef8"), looks := false }, kinds := [], alts := [], laidByText := true, laidKinds := [.data, .data, .data], laidTests := true, laidLooks := .later }
def RelocationNeverWorseUptoCardSaid : Prop := Claim7.holds Tryz.pinned (.plain (OpenSpec.upto relocationNeverWorseSpec)) relocationNeverWorseUptoCard

/-- THE SECOND FORM's CARD OF 'samaritanlaw40.RelocationGain'. -/
def relocationGainUptoCard : Claim7 := { stood := { row := relocationGainUptoRow, standIns := [], harness := (true, "d27a692251a07b0c5f1916aaee9959e79ce8d617587d489de5173c38885d4ef8"), looks := false }, kinds := [], alts := [], laidByText := true, laidKinds := [.data, .data, .data], laidTests := true, laidLooks := .later }
def RelocationGainUptoCardSaid : Prop := Claim7.holds Tryz.pinned (.plain (OpenSpec.upto relocationGainSpec)) relocationGainUptoCard
end Rows
end Go.Proofs.YtlldhkhmhgcpaaaGreatDoor
