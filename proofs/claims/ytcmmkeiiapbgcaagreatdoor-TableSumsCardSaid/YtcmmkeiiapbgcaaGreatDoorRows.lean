/-
  NARROWER THAN 'FOR EVERY INPUT', by the rows' own cells (each row's printed sentence says how): TableFinds: laid · TableSums: laid · TableDeps: laid · TableSelects: laid · TableSets: laid.
  DERIVED. THE GIVEN ROWS OF THIS SEAT. 5 by the template 'for every input the law returns true; each argument reads behind the call as it read before'; 0 by the template 'total and deterministic' (their statements: YtcmmkeiiapbgcaaGreatDoorTotals.lean).
  GIVEN WITH THE SEED: the statements are not yours to turn. If you find one false, say at which input.
  Laid BY PROGRAM, IN A SANDBOX (cutbox-rows.mjs): the forced cells as the released guide's own fill.sh prints them over the translation 45de5d3760ed4f3b… (all of the seat's roots in one cut). By AI agents, Wed Nov 11 2026. No macro, syntax, notation, axiom, sorry.
-/
import Derived.Test.YtcmmkeiiapbgcaaGreatDoorChecked
import GoSem.Claim
import GoSem.ClaimJoined
import GoSem.ClaimMapViews
import Derived.JoinedTies
import Derived.KernelRfl
namespace Go.Proofs.YtcmmkeiiapbgcaaGreatDoor
/- THE CELL 'sum', in the pinned program and in every row, IS THE sha256 OF THE DUMP (.gsa) THAT YtcmmkeiiapbgcaaGreatDoorProg.lean LOADS. Nothing in Lean hashes anything: it is a label: what it is worth is what the hold of that sum in a sandbox is worth. -/
noncomputable def Tryz.pinned : Pinned := { name := "ytcmmkeiiapbgcaagreatdoor", sum := "45de5d3760ed4f3bc6f8f72ec884bc918bcda30d7a24432fa62ed04477eb139c", checked := Tryz.checked }
namespace Rows
def none {H : Type} : Left H := { results := [], args := [] }

/- WHAT THE LISTED PACKAGE-LEVEL VARIABLES READ AS WHEN THE CALL BEGINS. Each datum BY PROGRAM (the guide's laid-datum.mjs) off the statement by which the dump's own 'gosem.cut.vars' lays the variable. In a bare row this is a premise. The card (YtcmmkeiiapbgcaaGreatDoorCards.lean) ties it to the program's text. -/
def laid_concord_decimal_tens {H : Type} : DataW H := .agg [.lit (.int .i64 1), .lit (.int .i64 10), .lit (.int .i64 100), .lit (.int .i64 1000), .lit (.int .i64 10000), .lit (.int .i64 100000), .lit (.int .i64 1000000)]

/-- 'concordlaw09.TableFinds': WHATEVER THE INPUT: true; the input reads as it did. -/
def tableFindsSpec : ChangeSpec := { name := "tableFinds", fn := fun _ => fun
  | [d1, d2, d3] => { results := [.lit (.bool true)], args := [d1, d2, d3] }
  | _ => none }
def tableFindsRow : OpenClaim := { program := "ytcmmkeiiapbgcaagreatdoor", sum := "45de5d3760ed4f3bc6f8f72ec884bc918bcda30d7a24432fa62ed04477eb139c", func := "concord/concordlaw09.TableFinds", spec := "tableFinds", unfollowed := true, recurses := true, named := ["concord/decimal.tens"], plainKeys := false, apart := false, laid := [("concord/decimal.tens", laid_concord_decimal_tens)] }
def TableFindsSaid : Prop := tableFindsRow.holds Tryz.pinned (OpenSpec.ofChange tableFindsSpec)

/-- ITS FALSE NEIGHBOUR: 'it returns false'. Refute it at one input. -/
def tableFindsWrong : ChangeSpec := { name := "tableFinds", fn := fun _ => fun
  | [d1, d2, d3] => { results := [.lit (.bool false)], args := [d1, d2, d3] }
  | _ => none }
def TableFindsWrongFalsely : Prop := tableFindsRow.holds Tryz.pinned (OpenSpec.ofChange tableFindsWrong)

/-- 'concordlaw09.TableSums': WHATEVER THE INPUT: true; the input reads as it did. -/
def tableSumsSpec : ChangeSpec := { name := "tableSums", fn := fun _ => fun
  | [d1, d2, d3] => { results := [.lit (.bool true)], args := [d1, d2, d3] }
  | _ => none }
def tableSumsRow : OpenClaim := { program := "ytcmmkeiiapbgcaagreatdoor", sum := "45de5d3760ed4f3bc6f8f72ec884bc918bcda30d7a24432fa62ed04477eb139c", func := "concord/concordlaw09.TableSums", spec := "tableSums", unfollowed := true, recurses := true, named := ["concord/decimal.tens"], plainKeys := false, apart := false, laid := [("concord/decimal.tens", laid_concord_decimal_tens)] }
def TableSumsSaid : Prop := tableSumsRow.holds Tryz.pinned (OpenSpec.ofChange tableSumsSpec)

/-- ITS FALSE NEIGHBOUR: 'it returns false'. Refute it at one input. -/
def tableSumsWrong : ChangeSpec := { name := "tableSums", fn := fun _ => fun
  | [d1, d2, d3] => { results := [.lit (.bool false)], args := [d1, d2, d3] }
  | _ => none }
def TableSumsWrongFalsely : Prop := tableSumsRow.holds Tryz.pinned (OpenSpec.ofChange tableSumsWrong)

/-- 'concordlaw09.TableDeps': WHATEVER THE INPUT: true; the input reads as it did. -/
def tableDepsSpec : ChangeSpec := { name := "tableDeps", fn := fun _ => fun
  | [d1, d2, d3] => { results := [.lit (.bool true)], args := [d1, d2, d3] }
  | _ => none }
def tableDepsRow : OpenClaim := { program := "ytcmmkeiiapbgcaagreatdoor", sum := "45de5d3760ed4f3bc6f8f72ec884bc918bcda30d7a24432fa62ed04477eb139c", func := "concord/concordlaw09.TableDeps", spec := "tableDeps", unfollowed := true, recurses := true, named := ["concord/decimal.tens"], plainKeys := false, apart := false, laid := [("concord/decimal.tens", laid_concord_decimal_tens)] }
def TableDepsSaid : Prop := tableDepsRow.holds Tryz.pinned (OpenSpec.ofChange tableDepsSpec)

/-- ITS FALSE NEIGHBOUR: 'it returns false'. Refute it at one input. -/
def tableDepsWrong : ChangeSpec := { name := "tableDeps", fn := fun _ => fun
  | [d1, d2, d3] => { results := [.lit (.bool false)], args := [d1, d2, d3] }
  | _ => none }
def TableDepsWrongFalsely : Prop := tableDepsRow.holds Tryz.pinned (OpenSpec.ofChange tableDepsWrong)

/-- 'concordlaw09.TableSelects': WHATEVER THE INPUT: true; the input reads as it did. -/
def tableSelectsSpec : ChangeSpec := { name := "tableSelects", fn := fun _ => fun
  | [d1, d2, d3] => { results := [.lit (.bool true)], args := [d1, d2, d3] }
  | _ => none }
def tableSelectsRow : OpenClaim := { program := "ytcmmkeiiapbgcaagreatdoor", sum := "45de5d3760ed4f3bc6f8f72ec884bc918bcda30d7a24432fa62ed04477eb139c", func := "concord/concordlaw09.TableSelects", spec := "tableSelects", unfollowed := true, recurses := true, named := ["concord/decimal.tens"], plainKeys := false, apart := false, laid := [("concord/decimal.tens", laid_concord_decimal_tens)] }
def TableSelectsSaid : Prop := tableSelectsRow.holds Tryz.pinned (OpenSpec.ofChange tableSelectsSpec)

/-- ITS FALSE NEIGHBOUR: 'it returns false'. Refute it at one input. -/
def tableSelectsWrong : ChangeSpec := { name := "tableSelects", fn := fun _ => fun
  | [d1, d2, d3] => { results := [.lit (.bool false)], args := [d1, d2, d3] }
  | _ => none }
def TableSelectsWrongFalsely : Prop := tableSelectsRow.holds Tryz.pinned (OpenSpec.ofChange tableSelectsWrong)

/-- 'concordlaw09.TableSets': WHATEVER THE INPUT: true; the input reads as it did. -/
def tableSetsSpec : ChangeSpec := { name := "tableSets", fn := fun _ => fun
  | [d1, d2, d3] => { results := [.lit (.bool true)], args := [d1, d2, d3] }
  | _ => none }
def tableSetsRow : OpenClaim := { program := "ytcmmkeiiapbgcaagreatdoor", sum := "45de5d3760ed4f3bc6f8f72ec884bc918bcda30d7a24432fa62ed04477eb139c", func := "concord/concordlaw09.TableSets", spec := "tableSets", inPlace := ["internal/bytealg.abigen_runtime_cmpstring"], unfollowed := true, recurses := true, named := ["concord/decimal.tens"], plainKeys := false, apart := false, laid := [("concord/decimal.tens", laid_concord_decimal_tens)] }
def TableSetsSaid : Prop := tableSetsRow.holds Tryz.pinned (OpenSpec.ofChange tableSetsSpec)

/-- ITS FALSE NEIGHBOUR: 'it returns false'. Refute it at one input. -/
def tableSetsWrong : ChangeSpec := { name := "tableSets", fn := fun _ => fun
  | [d1, d2, d3] => { results := [.lit (.bool false)], args := [d1, d2, d3] }
  | _ => none }
def TableSetsWrongFalsely : Prop := tableSetsRow.holds Tryz.pinned (OpenSpec.ofChange tableSetsWrong)

/- THE SECOND FORM. 'bulk': how many values and letters a reading holds, each counted each time it is reached (what is shared counts as often as it is met; a slice's spare places count too). A statement '..UptoSaid' is the law's where the arguments, and the package variables that the reading takes, are together of bulk at most 1048576: NARROWER than '..Said'. Prove '..Said' where nothing that the law and all that it calls make is longer than what came in: it says more and counts as full. Else prove '..UptoSaid'. A law counts once. -/
mutual
def uptoBulk {H : Type} : DataW H → Nat
  | .lit (.string bytes) => bytes.length + 1
  | .lit _ => 1
  | .nil => 1
  | .ptr d => uptoBulk d + 1
  | .slice elems spare => uptoBulkAll elems + uptoBulkAll spare + 1
  | .agg parts => uptoBulkAll parts + 1
  | .iface _ d => uptoBulk d + 1
  | .map entries => uptoBulkEntries entries + 1
  | .held _ => 1
def uptoBulkAll {H : Type} : List (DataW H) → Nat
  | [] => 0
  | d :: r => uptoBulk d + uptoBulkAll r
def uptoBulkEntries {H : Type} : List (Lit × DataW H) → Nat
  | [] => 0
  | x :: r => uptoBulkEntry x + uptoBulkEntries r
def uptoBulkEntry {H : Type} : Lit × DataW H → Nat
  | (.string bytes, d) => bytes.length + uptoBulk d + 1
  | (_, d) => uptoBulk d + 1
 end
def uptoSmall : (H : Type) → List (DataW H) → Bool := fun _ ds => decide (uptoBulkAll ds ≤ 1048576)
def OpenSpec.upto (s : _root_.Go.ChangeSpec) : _root_.Go.OpenSpec := { _root_.Go.OpenSpec.ofChange s with cond := some uptoSmall }

/-- 'concordlaw09.TableFinds', WHERE WHAT IT READS IS OF BULK AT MOST 1048576: true; the input reads as it did. -/
def tableFindsUptoRow : OpenClaim := { program := "ytcmmkeiiapbgcaagreatdoor", sum := "45de5d3760ed4f3bc6f8f72ec884bc918bcda30d7a24432fa62ed04477eb139c", func := "concord/concordlaw09.TableFinds", spec := "tableFinds", unfollowed := true, recurses := true, named := ["concord/decimal.tens"], plainKeys := false, apart := false, laid := [("concord/decimal.tens", laid_concord_decimal_tens)], narrowed := true }
def TableFindsUptoSaid : Prop := tableFindsUptoRow.holds Tryz.pinned (OpenSpec.upto tableFindsSpec)

/-- 'concordlaw09.TableSums', WHERE WHAT IT READS IS OF BULK AT MOST 1048576: true; the input reads as it did. -/
def tableSumsUptoRow : OpenClaim := { program := "ytcmmkeiiapbgcaagreatdoor", sum := "45de5d3760ed4f3bc6f8f72ec884bc918bcda30d7a24432fa62ed04477eb139c", func := "concord/concordlaw09.TableSums", spec := "tableSums", unfollowed := true, recurses := true, named := ["concord/decimal.tens"], plainKeys := false, apart := false, laid := [("concord/decimal.tens", laid_concord_decimal_tens)], narrowed := true }
def TableSumsUptoSaid : Prop := tableSumsUptoRow.holds Tryz.pinned (OpenSpec.upto tableSumsSpec)

/-- 'concordlaw09.TableDeps', WHERE WHAT IT READS IS OF BULK AT MOST 1048576: true; the input reads as it did. -/
def tableDepsUptoRow : OpenClaim := { program := "ytcmmkeiiapbgcaagreatdoor", sum := "45de5d3760ed4f3bc6f8f72ec884bc918bcda30d7a24432fa62ed04477eb139c", func := "concord/concordlaw09.TableDeps", spec := "tableDeps", unfollowed := true, recurses := true, named := ["concord/decimal.tens"], plainKeys := false, apart := false, laid := [("concord/decimal.tens", laid_concord_decimal_tens)], narrowed := true }
def TableDepsUptoSaid : Prop := tableDepsUptoRow.holds Tryz.pinned (OpenSpec.upto tableDepsSpec)

/-- 'concordlaw09.TableSelects', WHERE WHAT IT READS IS OF BULK AT MOST 1048576: true; the input reads as it did. -/
def tableSelectsUptoRow : OpenClaim := { program := "ytcmmkeiiapbgcaagreatdoor", sum := "45de5d3760ed4f3bc6f8f72ec884bc918bcda30d7a24432fa62ed04477eb139c", func := "concord/concordlaw09.TableSelects", spec := "tableSelects", unfollowed := true, recurses := true, named := ["concord/decimal.tens"], plainKeys := false, apart := false, laid := [("concord/decimal.tens", laid_concord_decimal_tens)], narrowed := true }
def TableSelectsUptoSaid : Prop := tableSelectsUptoRow.holds Tryz.pinned (OpenSpec.upto tableSelectsSpec)

/-- 'concordlaw09.TableSets', WHERE WHAT IT READS IS OF BULK AT MOST 1048576: true; the input reads as it did. -/
def tableSetsUptoRow : OpenClaim := { program := "ytcmmkeiiapbgcaagreatdoor", sum := "45de5d3760ed4f3bc6f8f72ec884bc918bcda30d7a24432fa62ed04477eb139c", func := "concord/concordlaw09.TableSets", spec := "tableSets", inPlace := ["internal/bytealg.abigen_runtime_cmpstring"], unfollowed := true, recurses := true, named := ["concord/decimal.tens"], plainKeys := false, apart := false, laid := [("concord/decimal.tens", laid_concord_decimal_tens)], narrowed := true }
def TableSetsUptoSaid : Prop := tableSetsUptoRow.holds Tryz.pinned (OpenSpec.upto tableSetsSpec)

end Rows
end Go.Proofs.YtcmmkeiiapbgcaaGreatDoor
