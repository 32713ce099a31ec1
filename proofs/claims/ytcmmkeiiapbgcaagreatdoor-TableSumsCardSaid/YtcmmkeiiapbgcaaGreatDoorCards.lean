/-
  DERIVED. GIVEN WITH THE SEED: THE CARDS: each row of YtcmmkeiiapbgcaaGreatDoorRows.lean that lists a variable, with what it lists TIED to the program's text (the seventh form; the later family's looks); each row that meets fmt, with fmt's text TOLD by the authors' own Lean function (tested against real Go, not proved from fmt's source: count such statements apart). THE CARD IS WHAT COUNTS. Prove the row's statement (the work); the ties are given (YtcmmkeiiapbgcaaGreatDoorTie.lean); close each card by the builder's one call (the guide's Derived/Test/ToyasCard.lean, 'card_holds'). Laid BY PROGRAM, IN A SANDBOX (cutbox-door.mjs). By AI agents, Wed Nov 11 2026. No macro, syntax, notation, axiom, sorry.
-/
import Derived.Test.YtcmmkeiiapbgcaaGreatDoorRows
import GoSem.ClaimSeven
namespace Go.Proofs.YtcmmkeiiapbgcaaGreatDoor
namespace Rows

/-- THE TIED CARD OF 'concordlaw09.TableFinds'. -/
def tableFindsCard : Claim7 := { stood := { row := tableFindsRow, standIns := [], harness := (true, "01500f8b32662ec7ff2a0cd298a7f2cc24d97e849d39100bb08e3496477a2b33"), looks := false }, kinds := [], alts := [], laidByText := true, laidKinds := [.data], laidTests := true, laidLooks := .later }
def TableFindsCardSaid : Prop := Claim7.holds Tryz.pinned (.plain (OpenSpec.ofChange tableFindsSpec)) tableFindsCard

/-- THE TIED CARD OF 'concordlaw09.TableSums'. -/
def tableSumsCard : Claim7 := { stood := { row := tableSumsRow, standIns := [], harness := (true, "01500f8b32662ec7ff2a0cd298a7f2cc24d97e849d39100bb08e3496477a2b33"), looks := false }, kinds := [], alts := [], laidByText := true, laidKinds := [.data], laidTests := true, laidLooks := .later }
def TableSumsCardSaid : Prop := Claim7.holds Tryz.pinned (.plain (OpenSpec.ofChange tableSumsSpec)) tableSumsCard

/-- THE TIED CARD OF 'concordlaw09.TableDeps'. -/
def tableDepsCard : Claim7 := { stood := { row := tableDepsRow, standIns := [], harness := (true, "01500f8b32662ec7ff2a0cd298a7f2cc24d97e849d39100bb08e3496477a2b33"), looks := false }, kinds := [], alts := [], laidByText := true, laidKinds := [.data], laidTests := true, laidLooks := .later }
def TableDepsCardSaid : Prop := Claim7.holds Tryz.pinned (.plain (OpenSpec.ofChange tableDepsSpec)) tableDepsCard

/-- THE TIED CARD OF 'concordlaw09.TableSelects'. -/
def tableSelectsCard : Claim7 := { stood := { row := tableSelectsRow, standIns := [], harness := (true, "01500f8b32662ec7ff2a0cd298a7f2cc24d97e849d39100bb08e3496477a2b33"), looks := false }, kinds := [], alts := [], laidByText := true, laidKinds := [.data], laidTests := true, laidLooks := .later }
def TableSelectsCardSaid : Prop := Claim7.holds Tryz.pinned (.plain (OpenSpec.ofChange tableSelectsSpec)) tableSelectsCard

/-- THE TIED CARD OF 'concordlaw09.TableSets'. -/
def tableSetsCard : Claim7 := { stood := { row := tableSetsRow, standIns := [], harness := (true, "01500f8b32662ec7ff2a0cd298a7f2cc24d97e849d39100bb08e3496477a2b33"), looks := false }, kinds := [], alts := [], laidByText := true, laidKinds := [.data], laidTests := true, laidLooks := .later }
def TableSetsCardSaid : Prop := Claim7.holds Tryz.pinned (.plain (OpenSpec.ofChange tableSetsSpec)) tableSetsCard

/-- THE SECOND FORM's CARD OF 'concordlaw09.TableFinds'. -/
def tableFindsUptoCard : Claim7 := { stood := { row := tableFindsUptoRow, standIns := [], harness := (true, "01500f8b32662ec7ff2a0cd298a7f2cc24d97e849d39100bb08e3496477a2b33"), looks := false }, kinds := [], alts := [], laidByText := true, laidKinds := [.data], laidTests := true, laidLooks := .later }
def TableFindsUptoCardSaid : Prop := Claim7.holds Tryz.pinned (.plain (OpenSpec.upto tableFindsSpec)) tableFindsUptoCard

/-- THE SECOND FORM's CARD OF 'concordlaw09.TableSums'. -/
def tableSumsUptoCard : Claim7 := { stood := { row := tableSumsUptoRow, standIns := [], harness := (true, "01500f8b32662ec7ff2a0cd298a7f2cc24d97e849d39100bb08e3496477a2b33"), looks := false }, kinds := [], alts := [], laidByText := true, laidKinds := [.data], laidTests := true, laidLooks := .later }
def TableSumsUptoCardSaid : Prop := Claim7.holds Tryz.pinned (.plain (OpenSpec.upto tableSumsSpec)) tableSumsUptoCard

/-- THE SECOND FORM's CARD OF 'concordlaw09.TableDeps'. -/
def tableDepsUptoCard : Claim7 := { stood := { row := tableDepsUptoRow, standIns := [], harness := (true, "01500f8b32662ec7ff2a0cd298a7f2cc24d97e849d39100bb08e3496477a2b33"), looks := false }, kinds := [], alts := [], laidByText := true, laidKinds := [.data], laidTests := true, laidLooks := .later }
def TableDepsUptoCardSaid : Prop := Claim7.holds Tryz.pinned (.plain (OpenSpec.upto tableDepsSpec)) tableDepsUptoCard

/-- THE SECOND FORM's CARD OF 'concordlaw09.TableSelects'. -/
def tableSelectsUptoCard : Claim7 := { stood := { row := tableSelectsUptoRow, standIns := [], harness := (true, "01500f8b32662ec7ff2a0cd298a7f2cc24d97e849d39100bb08e3496477a2b33"), looks := false }, kinds := [], alts := [], laidByText := true, laidKinds := [.data], laidTests := true, laidLooks := .later }
def TableSelectsUptoCardSaid : Prop := Claim7.holds Tryz.pinned (.plain (OpenSpec.upto tableSelectsSpec)) tableSelectsUptoCard

/-- THE SECOND FORM's CARD OF 'concordlaw09.TableSets'. -/
def tableSetsUptoCard : Claim7 := { stood := { row := tableSetsUptoRow, standIns := [], harness := (true, "01500f8b32662ec7ff2a0cd298a7f2cc24d97e849d39100bb08e3496477a2b33"), looks := false }, kinds := [], alts := [], laidByText := true, laidKinds := [.data], laidTests := true, laidLooks := .later }
def TableSetsUptoCardSaid : Prop := Claim7.holds Tryz.pinned (.plain (OpenSpec.upto tableSetsSpec)) tableSetsUptoCard
end Rows
end Go.Proofs.YtcmmkeiiapbgcaaGreatDoor
