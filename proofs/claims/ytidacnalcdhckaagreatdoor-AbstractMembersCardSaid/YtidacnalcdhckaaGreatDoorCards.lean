/-
  DERIVED. GIVEN WITH THE SEED: THE CARDS: each row of YtidacnalcdhckaaGreatDoorRows.lean that lists a variable, with what it lists TIED to the program's text (the seventh form; the later family's looks); each row that meets fmt, with fmt's text TOLD by the authors' own Lean function (tested against real Go, not proved from fmt's source: count such statements apart). THE CARD IS WHAT COUNTS. Prove the row's statement (the work); the ties are given (YtidacnalcdhckaaGreatDoorTie.lean); close each card by the builder's one call (the guide's Derived/Test/ToyasCard.lean, 'card_holds'). Laid BY PROGRAM, IN A SANDBOX (cutbox-door.mjs). By AI agents, Wed Nov 11 2026. No macro, syntax, notation, axiom, sorry.
-/
import Derived.Test.YtidacnalcdhckaaGreatDoorRows
import GoSem.ClaimSeven
namespace Go.Proofs.YtidacnalcdhckaaGreatDoor
namespace Rows

/-- THE TIED CARD OF 'concordlaw10.AbstractSingle'. -/
def abstractSingleCard : Claim7 := { stood := { row := abstractSingleRow, standIns := [], harness := (true, "79500944bca65193068a7d73ba7fde7e44c413a83c69694c2b6182bc71138ab9"), looks := false }, kinds := [], alts := [], laidByText := true, laidKinds := [.data, .data, .data, .data], laidTests := true, laidLooks := .later }
def AbstractSingleCardSaid : Prop := Claim7.holds Tryz.pinned (.plain (OpenSpec.ofChange abstractSingleSpec)) abstractSingleCard

/-- THE TIED CARD OF 'concordlaw10.AbstractOf'. -/
def abstractOfCard : Claim7 := { stood := { row := abstractOfRow, standIns := [], harness := (true, "79500944bca65193068a7d73ba7fde7e44c413a83c69694c2b6182bc71138ab9"), looks := false }, kinds := [], alts := [], laidByText := true, laidKinds := [.data, .data, .data, .data], laidTests := true, laidLooks := .later }
def AbstractOfCardSaid : Prop := Claim7.holds Tryz.pinned (.plain (OpenSpec.ofChange abstractOfSpec)) abstractOfCard

/-- THE TIED CARD OF 'concordlaw10.AbstractContains'. -/
def abstractContainsCard : Claim7 := { stood := { row := abstractContainsRow, standIns := [], harness := (true, "79500944bca65193068a7d73ba7fde7e44c413a83c69694c2b6182bc71138ab9"), looks := false }, kinds := [], alts := [], laidByText := true, laidKinds := [.data, .data, .data, .data], laidTests := true, laidLooks := .later }
def AbstractContainsCardSaid : Prop := Claim7.holds Tryz.pinned (.plain (OpenSpec.ofChange abstractContainsSpec)) abstractContainsCard

/-- THE TIED CARD OF 'concordlaw10.AbstractLattice'. -/
def abstractLatticeCard : Claim7 := { stood := { row := abstractLatticeRow, standIns := [], harness := (true, "79500944bca65193068a7d73ba7fde7e44c413a83c69694c2b6182bc71138ab9"), looks := false }, kinds := [], alts := [], laidByText := true, laidKinds := [.data, .data, .data, .data], laidTests := true, laidLooks := .later }
def AbstractLatticeCardSaid : Prop := Claim7.holds Tryz.pinned (.plain (OpenSpec.ofChange abstractLatticeSpec)) abstractLatticeCard

/-- THE TIED CARD OF 'concordlaw10.AbstractMembers'. -/
def abstractMembersCard : Claim7 := { stood := { row := abstractMembersRow, standIns := [], harness := (true, "79500944bca65193068a7d73ba7fde7e44c413a83c69694c2b6182bc71138ab9"), looks := false }, kinds := [], alts := [], laidByText := true, laidKinds := [.data, .data, .data, .data], laidTests := true, laidLooks := .later }
def AbstractMembersCardSaid : Prop := Claim7.holds Tryz.pinned (.plain (OpenSpec.ofChange abstractMembersSpec)) abstractMembersCard

/-- THE TIED CARD OF 'concordlaw10.AbstractSound'. -/
def abstractSoundCard : Claim7 := { stood := { row := abstractSoundRow, standIns := [], harness := (true, "79500944bca65193068a7d73ba7fde7e44c413a83c69694c2b6182bc71138ab9"), looks := false }, kinds := [], alts := [], laidByText := true, laidKinds := [.data, .data, .data, .data], laidTests := true, laidLooks := .later }
def AbstractSoundCardSaid : Prop := Claim7.holds Tryz.pinned (.plain (OpenSpec.ofChange abstractSoundSpec)) abstractSoundCard

/-- THE SECOND FORM's CARD OF 'concordlaw10.AbstractSingle'. -/
def abstractSingleUptoCard : Claim7 := { stood := { row := abstractSingleUptoRow, standIns := [], harness := (true, "79500944bca65193068a7d73ba7fde7e44c413a83c69694c2b6182bc71138ab9"), looks := false }, kinds := [], alts := [], laidByText := true, laidKinds := [.data, .data, .data, .data], laidTests := true, laidLooks := .later }
def AbstractSingleUptoCardSaid : Prop := Claim7.holds Tryz.pinned (.plain (OpenSpec.upto abstractSingleSpec)) abstractSingleUptoCard

/-- THE SECOND FORM's CARD OF 'concordlaw10.AbstractOf'. -/
def abstractOfUptoCard : Claim7 := { stood := { row := abstractOfUptoRow, standIns := [], harness := (true, "79500944bca65193068a7d73ba7fde7e44c413a83c69694c2b6182bc71138ab9"), looks := false }, kinds := [], alts := [], laidByText := true, laidKinds := [.data, .data, .data, .data], laidTests := true, laidLooks := .later }
def AbstractOfUptoCardSaid : Prop := Claim7.holds Tryz.pinned (.plain (OpenSpec.upto abstractOfSpec)) abstractOfUptoCard

/-- THE SECOND FORM's CARD OF 'concordlaw10.AbstractContains'. -/
def abstractContainsUptoCard : Claim7 := { stood := { row := abstractContainsUptoRow, standIns := [], harness := (true, "79500944bca65193068a7d73ba7fde7e44c413a83c69694c2b6182bc71138ab9"), looks := false }, kinds := [], alts := [], laidByText := true, laidKinds := [.data, .data, .data, .data], laidTests := true, laidLooks := .later }
def AbstractContainsUptoCardSaid : Prop := Claim7.holds Tryz.pinned (.plain (OpenSpec.upto abstractContainsSpec)) abstractContainsUptoCard

/-- THE SECOND FORM's CARD OF 'concordlaw10.AbstractLattice'. -/
def abstractLatticeUptoCard : Claim7 := { stood := { row := abstractLatticeUptoRow, standIns := [], harness := (true, "79500944bca65193068a7d73ba7fde7e44c413a83c69694c2b6182bc71138ab9"), looks := false }, kinds := [], alts := [], laidByText := true, laidKinds := [.data, .data, .data, .data], laidTests := true, laidLooks := .later }
def AbstractLatticeUptoCardSaid : Prop := Claim7.holds Tryz.pinned (.plain (OpenSpec.upto abstractLatticeSpec)) abstractLatticeUptoCard

/-- THE SECOND FORM's CARD OF 'concordlaw10.AbstractMembers'. -/
def abstractMembersUptoCard : Claim7 := { stood := { row := abstractMembersUptoRow, standIns := [], harness := (true, "79500944bca65193068a7d73ba7fde7e44c413a83c69694c2b6182bc71138ab9"), looks := false }, kinds := [], alts := [], laidByText := true, laidKinds := [.data, .data, .data, .data], laidTests := true, laidLooks := .later }
def AbstractMembersUptoCardSaid : Prop := Claim7.holds Tryz.pinned (.plain (OpenSpec.upto abstractMembersSpec)) abstractMembersUptoCard

/-- THE SECOND FORM's CARD OF 'concordlaw10.AbstractSound'. -/
def abstractSoundUptoCard : Claim7 := { stood := { row := abstractSoundUptoRow, standIns := [], harness := (true, "79500944bca65193068a7d73ba7fde7e44c413a83c69694c2b6182bc71138ab9"), looks := false }, kinds := [], alts := [], laidByText := true, laidKinds := [.data, .data, .data, .data], laidTests := true, laidLooks := .later }
def AbstractSoundUptoCardSaid : Prop := Claim7.holds Tryz.pinned (.plain (OpenSpec.upto abstractSoundSpec)) abstractSoundUptoCard
end Rows
end Go.Proofs.YtidacnalcdhckaaGreatDoor
