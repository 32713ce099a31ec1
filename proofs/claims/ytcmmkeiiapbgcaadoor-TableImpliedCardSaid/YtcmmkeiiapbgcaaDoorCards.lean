/-
  DERIVED. GIVEN WITH THE SEED: THE CARDS: each row of YtcmmkeiiapbgcaaDoorRows.lean that lists a variable, with what it lists TIED to the program's text (the seventh form; the later family's looks); each row that meets fmt, with fmt's text TOLD by the authors' own Lean function (tested against real Go, not proved from fmt's source: count such statements apart). THE CARD IS WHAT COUNTS. Prove the row's statement (the work); the ties are given (YtcmmkeiiapbgcaaDoorTie.lean); close each card by the builder's one call (the guide's Derived/Test/ToyasCard.lean, 'card_holds'). Laid BY PROGRAM, IN A SANDBOX (cutbox-door.mjs). By AI agents, Wed Nov 11 2026. No macro, syntax, notation, axiom, sorry.
-/
import Derived.Test.YtcmmkeiiapbgcaaDoorRows
import GoSem.ClaimSeven
namespace Go.Proofs.YtcmmkeiiapbgcaaDoor
namespace Rows

/-- THE TIED CARD OF 'concordlaw09.TableImplied'. -/
def tableImpliedCard : Claim7 := { stood := { row := tableImpliedRow, standIns := [], harness := (true, "0162be0ac859e59138b0df0308c6a54586ddcaf7ac83e3593f2cc6a642246c4a"), looks := false }, kinds := [], alts := [], laidByText := true, laidKinds := [.data], laidTests := true, laidLooks := .later }
def TableImpliedCardSaid : Prop := Claim7.holds Tryd.pinned (.plain (OpenSpec.ofChange tableImpliedSpec)) tableImpliedCard

/-- THE SECOND FORM's CARD OF 'concordlaw09.TableImplied'. -/
def tableImpliedUptoCard : Claim7 := { stood := { row := tableImpliedUptoRow, standIns := [], harness := (true, "0162be0ac859e59138b0df0308c6a54586ddcaf7ac83e3593f2cc6a642246c4a"), looks := false }, kinds := [], alts := [], laidByText := true, laidKinds := [.data], laidTests := true, laidLooks := .later }
def TableImpliedUptoCardSaid : Prop := Claim7.holds Tryd.pinned (.plain (OpenSpec.upto tableImpliedSpec)) tableImpliedUptoCard
end Rows
end Go.Proofs.YtcmmkeiiapbgcaaDoor
