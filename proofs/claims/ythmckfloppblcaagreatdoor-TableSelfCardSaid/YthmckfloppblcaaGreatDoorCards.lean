/-
  DERIVED. GIVEN WITH THE SEED: THE CARDS: each row of YthmckfloppblcaaGreatDoorRows.lean that lists a variable, with what it lists TIED to the program's text (the seventh form; the later family's looks); each row that meets fmt, with fmt's text TOLD by the authors' own Lean function (tested against real Go, not proved from fmt's source: count such statements apart). THE CARD IS WHAT COUNTS. Prove the row's statement (the work); the ties are given (YthmckfloppblcaaGreatDoorTie.lean); close each card by the builder's one call (the guide's Derived/Test/ToyasCard.lean, 'card_holds'). Laid BY PROGRAM, IN A SANDBOX (cutbox-door.mjs). By AI agents, Wed Nov 11 2026. No macro, syntax, notation, axiom, sorry.
-/
import Derived.Test.YthmckfloppblcaaGreatDoorRows
import GoSem.ClaimSeven
namespace Go.Proofs.YthmckfloppblcaaGreatDoor
namespace Rows

/-- THE TIED CARD OF 'concordlaw09.TableJoins'. -/
def tableJoinsCard : Claim7 := { stood := { row := tableJoinsRow, standIns := [], harness := (true, "960a2e83027fb4445844f0d098283cda119fb16a874a24b6797da89b2dd06a98"), looks := false }, kinds := [], alts := [], laidByText := true, laidKinds := [.data, .data, .data, .data, .data, .data, .pinned], laidTests := true, laidLooks := .later }
def TableJoinsCardSaid : Prop := Claim7.holds Tryz.pinned (.plain (OpenSpec.ofChange tableJoinsSpec)) tableJoinsCard

/-- THE TIED CARD OF 'concordlaw09.TableSelf'. -/
def tableSelfCard : Claim7 := { stood := { row := tableSelfRow, standIns := [], harness := (true, "960a2e83027fb4445844f0d098283cda119fb16a874a24b6797da89b2dd06a98"), looks := false }, kinds := [], alts := [], laidByText := true, laidKinds := [.data, .data, .data, .data, .data, .data, .pinned], laidTests := true, laidLooks := .later }
def TableSelfCardSaid : Prop := Claim7.holds Tryz.pinned (.plain (OpenSpec.ofChange tableSelfSpec)) tableSelfCard

/-- THE SECOND FORM's CARD OF 'concordlaw09.TableJoins'. -/
def tableJoinsUptoCard : Claim7 := { stood := { row := tableJoinsUptoRow, standIns := [], harness := (true, "960a2e83027fb4445844f0d098283cda119fb16a874a24b6797da89b2dd06a98"), looks := false }, kinds := [], alts := [], laidByText := true, laidKinds := [.data, .data, .data, .data, .data, .data, .pinned], laidTests := true, laidLooks := .later }
def TableJoinsUptoCardSaid : Prop := Claim7.holds Tryz.pinned (.plain (OpenSpec.upto tableJoinsSpec)) tableJoinsUptoCard

/-- THE SECOND FORM's CARD OF 'concordlaw09.TableSelf'. -/
def tableSelfUptoCard : Claim7 := { stood := { row := tableSelfUptoRow, standIns := [], harness := (true, "960a2e83027fb4445844f0d098283cda119fb16a874a24b6797da89b2dd06a98"), looks := false }, kinds := [], alts := [], laidByText := true, laidKinds := [.data, .data, .data, .data, .data, .data, .pinned], laidTests := true, laidLooks := .later }
def TableSelfUptoCardSaid : Prop := Claim7.holds Tryz.pinned (.plain (OpenSpec.upto tableSelfSpec)) tableSelfUptoCard
end Rows
end Go.Proofs.YthmckfloppblcaaGreatDoor
