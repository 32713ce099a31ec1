/-
  DERIVED. GIVEN WITH THE SEED: THE CARDS: each row of YtaccjdppmmoepaaGreatDoorRows.lean that lists a variable, with what it lists TIED to the program's text (the seventh form; the later family's looks); each row that meets fmt, with fmt's text TOLD by the authors' own Lean function (tested against real Go, not proved from fmt's source: count such statements apart). THE CARD IS WHAT COUNTS. Prove the row's statement (the work); the ties are given (YtaccjdppmmoepaaGreatDoorTie.lean); close each card by the builder's one call (the guide's Derived/Test/ToyasCard.lean, 'card_holds'). Laid BY PROGRAM, IN A SANDBOX (cutbox-door.mjs). By AI agents, Wed Nov 11 2026. No macro, syntax, notation, axiom, sorry.
-/
import Derived.Test.YtaccjdppmmoepaaGreatDoorRows
import GoSem.ClaimSeven
namespace Go.Proofs.YtaccjdppmmoepaaGreatDoor
namespace Rows

/-- THE TIED CARD OF 'concordlaw10.AbstractContains'. -/
def abstractContainsCard : Claim7 := { stood := { row := abstractContainsRow, standIns := [], harness := (true, "40d6199ddff85c502d5f97c63bbfc07eebedb8e054da6c6d60197eb2a5954772"), looks := false }, kinds := [], alts := [], laidByText := true, laidKinds := [.data, .data, .data, .data], laidTests := true, laidLooks := .later }
def AbstractContainsCardSaid : Prop := Claim7.holds Tryz.pinned (.plain (OpenSpec.ofChange abstractContainsSpec)) abstractContainsCard

/-- THE SECOND FORM's CARD OF 'concordlaw10.AbstractContains'. -/
def abstractContainsUptoCard : Claim7 := { stood := { row := abstractContainsUptoRow, standIns := [], harness := (true, "40d6199ddff85c502d5f97c63bbfc07eebedb8e054da6c6d60197eb2a5954772"), looks := false }, kinds := [], alts := [], laidByText := true, laidKinds := [.data, .data, .data, .data], laidTests := true, laidLooks := .later }
def AbstractContainsUptoCardSaid : Prop := Claim7.holds Tryz.pinned (.plain (OpenSpec.upto abstractContainsSpec)) abstractContainsUptoCard
end Rows
end Go.Proofs.YtaccjdppmmoepaaGreatDoor
