/-
  DERIVED. GIVEN WITH THE SEED: THE CARDS: each row of YtomdpipekmcojaaGreatDoorRows.lean that lists a variable, with what it lists TIED to the program's text (the seventh form; the later family's looks); each row that meets fmt, with fmt's text TOLD by the authors' own Lean function (tested against real Go, not proved from fmt's source: count such statements apart). THE CARD IS WHAT COUNTS. Prove the row's statement (the work); the ties are given (YtomdpipekmcojaaGreatDoorTie.lean); close each card by the builder's one call (the guide's Derived/Test/ToyasCard.lean, 'card_holds'). Laid BY PROGRAM, IN A SANDBOX (cutbox-door.mjs). By AI agents, Wed Nov 11 2026. No macro, syntax, notation, axiom, sorry.
-/
import Derived.Test.YtomdpipekmcojaaGreatDoorRows
import GoSem.ClaimSeven
namespace Go.Proofs.YtomdpipekmcojaaGreatDoor
namespace Rows

/-- THE TIED CARD OF 'concordlaw25.QuestionMakes'. -/
def questionMakesCard : Claim7 := { stood := { row := questionMakesRow, standIns := [], harness := (true, "8e6fdeea6caea660bb66a34633d4ce5475cf50e4245809de374d7957d0372c58"), looks := false }, kinds := [], alts := [], laidByText := true, laidKinds := [.data], laidTests := true, laidLooks := .later }
def QuestionMakesCardSaid : Prop := Claim7.holds Tryz.pinned (.plain (OpenSpec.ofChange questionMakesSpec)) questionMakesCard

/-- THE TIED CARD OF 'concordlaw25.QuestionGroups'. -/
def questionGroupsCard : Claim7 := { stood := { row := questionGroupsRow, standIns := [], harness := (true, "8e6fdeea6caea660bb66a34633d4ce5475cf50e4245809de374d7957d0372c58"), looks := false }, kinds := [], alts := [], laidByText := true, laidKinds := [.data], laidTests := true, laidLooks := .later }
def QuestionGroupsCardSaid : Prop := Claim7.holds Tryz.pinned (.plain (OpenSpec.ofChange questionGroupsSpec)) questionGroupsCard

/-- THE TIED CARD OF 'concordlaw25.QuestionWrong'. -/
def questionWrongCard : Claim7 := { stood := { row := questionWrongRow, standIns := [], harness := (true, "8e6fdeea6caea660bb66a34633d4ce5475cf50e4245809de374d7957d0372c58"), looks := false }, kinds := [], alts := [], laidByText := true, laidKinds := [.data], laidTests := true, laidLooks := .later }
def QuestionWrongCardSaid : Prop := Claim7.holds Tryz.pinned (.plain (OpenSpec.ofChange questionWrongSpec)) questionWrongCard

/-- THE TIED CARD OF 'concordlaw25.QuestionFollows'. -/
def questionFollowsCard : Claim7 := { stood := { row := questionFollowsRow, standIns := [], harness := (true, "8e6fdeea6caea660bb66a34633d4ce5475cf50e4245809de374d7957d0372c58"), looks := false }, kinds := [], alts := [], laidByText := true, laidKinds := [.data], laidTests := true, laidLooks := .later }
def QuestionFollowsCardSaid : Prop := Claim7.holds Tryz.pinned (.plain (OpenSpec.ofChange questionFollowsSpec)) questionFollowsCard

/-- THE TIED CARD OF 'concordlaw25.QuestionTells'. -/
def questionTellsCard : Claim7 := { stood := { row := questionTellsRow, standIns := [], harness := (true, "8e6fdeea6caea660bb66a34633d4ce5475cf50e4245809de374d7957d0372c58"), looks := false }, kinds := [], alts := [], laidByText := true, laidKinds := [.data], laidTests := true, laidLooks := .later }
def QuestionTellsCardSaid : Prop := Claim7.holds Tryz.pinned (.plain (OpenSpec.ofChange questionTellsSpec)) questionTellsCard

/-- THE TIED CARD OF 'concordlaw25.QuestionLeast'. -/
def questionLeastCard : Claim7 := { stood := { row := questionLeastRow, standIns := [], harness := (true, "8e6fdeea6caea660bb66a34633d4ce5475cf50e4245809de374d7957d0372c58"), looks := false }, kinds := [], alts := [], laidByText := true, laidKinds := [.data], laidTests := true, laidLooks := .later }
def QuestionLeastCardSaid : Prop := Claim7.holds Tryz.pinned (.plain (OpenSpec.ofChange questionLeastSpec)) questionLeastCard

/-- THE TIED CARD OF 'concordlaw25.QuestionKeeps'. -/
def questionKeepsCard : Claim7 := { stood := { row := questionKeepsRow, standIns := [], harness := (true, "8e6fdeea6caea660bb66a34633d4ce5475cf50e4245809de374d7957d0372c58"), looks := false }, kinds := [], alts := [], laidByText := true, laidKinds := [.data], laidTests := true, laidLooks := .later }
def QuestionKeepsCardSaid : Prop := Claim7.holds Tryz.pinned (.plain (OpenSpec.ofChange questionKeepsSpec)) questionKeepsCard

/-- THE TIED CARD OF 'concordlaw09.TableJoins'. -/
def tableJoinsCard : Claim7 := { stood := { row := tableJoinsRow, standIns := [], harness := (true, "8e6fdeea6caea660bb66a34633d4ce5475cf50e4245809de374d7957d0372c58"), looks := false }, kinds := [], alts := [], laidByText := true, laidKinds := [.data, .data, .data, .data, .data, .data, .pinned], laidTests := true, laidLooks := .later }
def TableJoinsCardSaid : Prop := Claim7.holds Tryz.pinned (.plain (OpenSpec.ofChange tableJoinsSpec)) tableJoinsCard

/-- THE TIED CARD OF 'concordlaw09.TableSelf'. -/
def tableSelfCard : Claim7 := { stood := { row := tableSelfRow, standIns := [], harness := (true, "8e6fdeea6caea660bb66a34633d4ce5475cf50e4245809de374d7957d0372c58"), looks := false }, kinds := [], alts := [], laidByText := true, laidKinds := [.data, .data, .data, .data, .data, .data, .pinned], laidTests := true, laidLooks := .later }
def TableSelfCardSaid : Prop := Claim7.holds Tryz.pinned (.plain (OpenSpec.ofChange tableSelfSpec)) tableSelfCard

/-- THE SECOND FORM's CARD OF 'concordlaw25.QuestionMakes'. -/
def questionMakesUptoCard : Claim7 := { stood := { row := questionMakesUptoRow, standIns := [], harness := (true, "8e6fdeea6caea660bb66a34633d4ce5475cf50e4245809de374d7957d0372c58"), looks := false }, kinds := [], alts := [], laidByText := true, laidKinds := [.data], laidTests := true, laidLooks := .later }
def QuestionMakesUptoCardSaid : Prop := Claim7.holds Tryz.pinned (.plain (OpenSpec.upto questionMakesSpec)) questionMakesUptoCard

/-- THE SECOND FORM's CARD OF 'concordlaw25.QuestionGroups'. -/
def questionGroupsUptoCard : Claim7 := { stood := { row := questionGroupsUptoRow, standIns := [], harness := (true, "8e6fdeea6caea660bb66a34633d4ce5475cf50e4245809de374d7957d0372c58"), looks := false }, kinds := [], alts := [], laidByText := true, laidKinds := [.data], laidTests := true, laidLooks := .later }
def QuestionGroupsUptoCardSaid : Prop := Claim7.holds Tryz.pinned (.plain (OpenSpec.upto questionGroupsSpec)) questionGroupsUptoCard

/-- THE SECOND FORM's CARD OF 'concordlaw25.QuestionWrong'. -/
def questionWrongUptoCard : Claim7 := { stood := { row := questionWrongUptoRow, standIns := [], harness := (true, "8e6fdeea6caea660bb66a34633d4ce5475cf50e4245809de374d7957d0372c58"), looks := false }, kinds := [], alts := [], laidByText := true, laidKinds := [.data], laidTests := true, laidLooks := .later }
def QuestionWrongUptoCardSaid : Prop := Claim7.holds Tryz.pinned (.plain (OpenSpec.upto questionWrongSpec)) questionWrongUptoCard

/-- THE SECOND FORM's CARD OF 'concordlaw25.QuestionFollows'. -/
def questionFollowsUptoCard : Claim7 := { stood := { row := questionFollowsUptoRow, standIns := [], harness := (true, "8e6fdeea6caea660bb66a34633d4ce5475cf50e4245809de374d7957d0372c58"), looks := false }, kinds := [], alts := [], laidByText := true, laidKinds := [.data], laidTests := true, laidLooks := .later }
def QuestionFollowsUptoCardSaid : Prop := Claim7.holds Tryz.pinned (.plain (OpenSpec.upto questionFollowsSpec)) questionFollowsUptoCard

/-- THE SECOND FORM's CARD OF 'concordlaw25.QuestionTells'. -/
def questionTellsUptoCard : Claim7 := { stood := { row := questionTellsUptoRow, standIns := [], harness := (true, "8e6fdeea6caea660bb66a34633d4ce5475cf50e4245809de374d7957d0372c58"), looks := false }, kinds := [], alts := [], laidByText := true, laidKinds := [.data], laidTests := true, laidLooks := .later }
def QuestionTellsUptoCardSaid : Prop := Claim7.holds Tryz.pinned (.plain (OpenSpec.upto questionTellsSpec)) questionTellsUptoCard

/-- THE SECOND FORM's CARD OF 'concordlaw25.QuestionLeast'. -/
def questionLeastUptoCard : Claim7 := { stood := { row := questionLeastUptoRow, standIns := [], harness := (true, "8e6fdeea6caea660bb66a34633d4ce5475cf50e4245809de374d7957d0372c58"), looks := false }, kinds := [], alts := [], laidByText := true, laidKinds := [.data], laidTests := true, laidLooks := .later }
def QuestionLeastUptoCardSaid : Prop := Claim7.holds Tryz.pinned (.plain (OpenSpec.upto questionLeastSpec)) questionLeastUptoCard

/-- THE SECOND FORM's CARD OF 'concordlaw25.QuestionKeeps'. -/
def questionKeepsUptoCard : Claim7 := { stood := { row := questionKeepsUptoRow, standIns := [], harness := (true, "8e6fdeea6caea660bb66a34633d4ce5475cf50e4245809de374d7957d0372c58"), looks := false }, kinds := [], alts := [], laidByText := true, laidKinds := [.data], laidTests := true, laidLooks := .later }
def QuestionKeepsUptoCardSaid : Prop := Claim7.holds Tryz.pinned (.plain (OpenSpec.upto questionKeepsSpec)) questionKeepsUptoCard

/-- THE SECOND FORM's CARD OF 'concordlaw09.TableJoins'. -/
def tableJoinsUptoCard : Claim7 := { stood := { row := tableJoinsUptoRow, standIns := [], harness := (true, "8e6fdeea6caea660bb66a34633d4ce5475cf50e4245809de374d7957d0372c58"), looks := false }, kinds := [], alts := [], laidByText := true, laidKinds := [.data, .data, .data, .data, .data, .data, .pinned], laidTests := true, laidLooks := .later }
def TableJoinsUptoCardSaid : Prop := Claim7.holds Tryz.pinned (.plain (OpenSpec.upto tableJoinsSpec)) tableJoinsUptoCard

/-- THE SECOND FORM's CARD OF 'concordlaw09.TableSelf'. -/
def tableSelfUptoCard : Claim7 := { stood := { row := tableSelfUptoRow, standIns := [], harness := (true, "8e6fdeea6caea660bb66a34633d4ce5475cf50e4245809de374d7957d0372c58"), looks := false }, kinds := [], alts := [], laidByText := true, laidKinds := [.data, .data, .data, .data, .data, .data, .pinned], laidTests := true, laidLooks := .later }
def TableSelfUptoCardSaid : Prop := Claim7.holds Tryz.pinned (.plain (OpenSpec.upto tableSelfSpec)) tableSelfUptoCard
end Rows
end Go.Proofs.YtomdpipekmcojaaGreatDoor
