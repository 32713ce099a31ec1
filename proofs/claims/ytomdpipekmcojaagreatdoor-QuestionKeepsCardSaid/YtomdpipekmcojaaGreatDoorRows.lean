/-
  NARROWER THAN 'FOR EVERY INPUT', by the rows' own cells (each row's printed sentence says how): QuestionMakes: laid · QuestionGroups: laid · QuestionWrong: laid · QuestionFollows: laid · QuestionTells: laid · QuestionLeast: laid · QuestionKeeps: laid · TableJoins: laid · TableSelf: laid.
  DERIVED. THE GIVEN ROWS OF THIS SEAT. 9 by the template 'for every input the law returns true; each argument reads behind the call as it read before'; 0 by the template 'total and deterministic' (their statements: YtomdpipekmcojaaGreatDoorTotals.lean).
  GIVEN WITH THE SEED: the statements are not yours to turn. If you find one false, say at which input.
  Laid BY PROGRAM, IN A SANDBOX (cutbox-rows.mjs): the forced cells as the released guide's own fill.sh prints them over the translation cd0fdf4ba70adaf0… (all of the seat's roots in one cut). By AI agents, Wed Nov 11 2026. No macro, syntax, notation, axiom, sorry.
-/
import Derived.Test.YtomdpipekmcojaaGreatDoorChecked
import GoSem.PinnedTables
import GoSem.Claim
import GoSem.ClaimJoined
import GoSem.ClaimMapViews
import Derived.JoinedTies
import Derived.KernelRfl
namespace Go.Proofs.YtomdpipekmcojaaGreatDoor
/- THE CELL 'sum', in the pinned program and in every row, IS THE sha256 OF THE DUMP (.gsa) THAT YtomdpipekmcojaaGreatDoorProg.lean LOADS. Nothing in Lean hashes anything: it is a label: what it is worth is what the hold of that sum in a sandbox is worth. -/
noncomputable def Tryz.pinned : Pinned := { name := "ytomdpipekmcojaagreatdoor", sum := "cd0fdf4ba70adaf0d8424b808a470dcc3a7c99c802a11a96ad9eee9c2a77f37a", checked := Tryz.checked }
namespace Rows
def none {H : Type} : Left H := { results := [], args := [] }

/- WHAT THE LISTED PACKAGE-LEVEL VARIABLES READ AS WHEN THE CALL BEGINS. Each datum BY PROGRAM (the guide's laid-datum.mjs) off the statement by which the dump's own 'gosem.cut.vars' lays the variable. In a bare row this is a premise. The card (YtomdpipekmcojaaGreatDoorCards.lean) ties it to the program's text. -/
def laid_concord_decimal_tens {H : Type} : DataW H := .agg [.lit (.int .i64 1), .lit (.int .i64 10), .lit (.int .i64 100), .lit (.int .i64 1000), .lit (.int .i64 10000), .lit (.int .i64 100000), .lit (.int .i64 1000000)]
def laid_math_bits_deBruijn32tab {H : Type} : DataW H := .agg [.lit (.int .u8 0), .lit (.int .u8 1), .lit (.int .u8 28), .lit (.int .u8 2), .lit (.int .u8 29), .lit (.int .u8 14), .lit (.int .u8 24), .lit (.int .u8 3), .lit (.int .u8 30), .lit (.int .u8 22), .lit (.int .u8 20), .lit (.int .u8 15), .lit (.int .u8 25), .lit (.int .u8 17), .lit (.int .u8 4), .lit (.int .u8 8), .lit (.int .u8 31), .lit (.int .u8 27), .lit (.int .u8 13), .lit (.int .u8 23), .lit (.int .u8 21), .lit (.int .u8 19), .lit (.int .u8 16), .lit (.int .u8 7), .lit (.int .u8 26), .lit (.int .u8 12), .lit (.int .u8 18), .lit (.int .u8 6), .lit (.int .u8 11), .lit (.int .u8 5), .lit (.int .u8 10), .lit (.int .u8 9)]
def laid_math_bits_deBruijn64tab {H : Type} : DataW H := .agg [.lit (.int .u8 0), .lit (.int .u8 1), .lit (.int .u8 56), .lit (.int .u8 2), .lit (.int .u8 57), .lit (.int .u8 49), .lit (.int .u8 28), .lit (.int .u8 3), .lit (.int .u8 61), .lit (.int .u8 58), .lit (.int .u8 42), .lit (.int .u8 50), .lit (.int .u8 38), .lit (.int .u8 29), .lit (.int .u8 17), .lit (.int .u8 4), .lit (.int .u8 62), .lit (.int .u8 47), .lit (.int .u8 59), .lit (.int .u8 36), .lit (.int .u8 45), .lit (.int .u8 43), .lit (.int .u8 51), .lit (.int .u8 22), .lit (.int .u8 53), .lit (.int .u8 39), .lit (.int .u8 33), .lit (.int .u8 30), .lit (.int .u8 24), .lit (.int .u8 18), .lit (.int .u8 12), .lit (.int .u8 5), .lit (.int .u8 63), .lit (.int .u8 55), .lit (.int .u8 48), .lit (.int .u8 27), .lit (.int .u8 60), .lit (.int .u8 41), .lit (.int .u8 37), .lit (.int .u8 16), .lit (.int .u8 46), .lit (.int .u8 35), .lit (.int .u8 44), .lit (.int .u8 21), .lit (.int .u8 52), .lit (.int .u8 32), .lit (.int .u8 23), .lit (.int .u8 11), .lit (.int .u8 54), .lit (.int .u8 26), .lit (.int .u8 40), .lit (.int .u8 15), .lit (.int .u8 34), .lit (.int .u8 20), .lit (.int .u8 31), .lit (.int .u8 10), .lit (.int .u8 25), .lit (.int .u8 14), .lit (.int .u8 19), .lit (.int .u8 9), .lit (.int .u8 13), .lit (.int .u8 8), .lit (.int .u8 7), .lit (.int .u8 6)]
def laid_internal_strconv_uint64pow10 {H : Type} : DataW H := .agg [.lit (.int .u64 1), .lit (.int .u64 10), .lit (.int .u64 100), .lit (.int .u64 1000), .lit (.int .u64 10000), .lit (.int .u64 100000), .lit (.int .u64 1000000), .lit (.int .u64 10000000), .lit (.int .u64 100000000), .lit (.int .u64 1000000000), .lit (.int .u64 10000000000), .lit (.int .u64 100000000000), .lit (.int .u64 1000000000000), .lit (.int .u64 10000000000000), .lit (.int .u64 100000000000000), .lit (.int .u64 1000000000000000), .lit (.int .u64 10000000000000000), .lit (.int .u64 100000000000000000), .lit (.int .u64 1000000000000000000), .lit (.int .u64 10000000000000000000)]
def laid_unicode_utf8_acceptRanges {H : Type} : DataW H := .agg [.agg [.lit (.int .u8 128), .lit (.int .u8 191)], .agg [.lit (.int .u8 160), .lit (.int .u8 191)], .agg [.lit (.int .u8 128), .lit (.int .u8 159)], .agg [.lit (.int .u8 144), .lit (.int .u8 191)], .agg [.lit (.int .u8 128), .lit (.int .u8 143)], .agg [.lit (.int .u8 0), .lit (.int .u8 0)], .agg [.lit (.int .u8 0), .lit (.int .u8 0)], .agg [.lit (.int .u8 0), .lit (.int .u8 0)], .agg [.lit (.int .u8 0), .lit (.int .u8 0)], .agg [.lit (.int .u8 0), .lit (.int .u8 0)], .agg [.lit (.int .u8 0), .lit (.int .u8 0)], .agg [.lit (.int .u8 0), .lit (.int .u8 0)], .agg [.lit (.int .u8 0), .lit (.int .u8 0)], .agg [.lit (.int .u8 0), .lit (.int .u8 0)], .agg [.lit (.int .u8 0), .lit (.int .u8 0)], .agg [.lit (.int .u8 0), .lit (.int .u8 0)]]
def laid_concord_date_lengths {H : Type} : DataW H := .agg [.lit (.int .i64 31), .lit (.int .i64 28), .lit (.int .i64 31), .lit (.int .i64 30), .lit (.int .i64 31), .lit (.int .i64 30), .lit (.int .i64 31), .lit (.int .i64 31), .lit (.int .i64 30), .lit (.int .i64 31), .lit (.int .i64 30), .lit (.int .i64 31)]
/-- One of Go's own tables, pinned by name: the form's constant. -/
def laid_unicode_utf8_first : DataW Unit := Go.Pinned.utf8First

/-- 'concordlaw25.QuestionMakes': WHATEVER THE INPUT: true; the input reads as it did. -/
def questionMakesSpec : ChangeSpec := { name := "questionMakes", fn := fun _ => fun
  | [d1, d2] => { results := [.lit (.bool true)], args := [d1, d2] }
  | _ => none }
def questionMakesRow : OpenClaim := { program := "ytomdpipekmcojaagreatdoor", sum := "cd0fdf4ba70adaf0d8424b808a470dcc3a7c99c802a11a96ad9eee9c2a77f37a", func := "concord/concordlaw25.QuestionMakes", spec := "questionMakes", inPlace := ["internal/bytealg.abigen_runtime_cmpstring"], unfollowed := true, recurses := true, named := ["concord/decimal.tens"], plainKeys := false, apart := false, laid := [("concord/decimal.tens", laid_concord_decimal_tens)] }
def QuestionMakesSaid : Prop := questionMakesRow.holds Tryz.pinned (OpenSpec.ofChange questionMakesSpec)

/-- ITS FALSE NEIGHBOUR: 'it returns false'. Refute it at one input. -/
def questionMakesWrong : ChangeSpec := { name := "questionMakes", fn := fun _ => fun
  | [d1, d2] => { results := [.lit (.bool false)], args := [d1, d2] }
  | _ => none }
def QuestionMakesWrongFalsely : Prop := questionMakesRow.holds Tryz.pinned (OpenSpec.ofChange questionMakesWrong)

/-- 'concordlaw25.QuestionGroups': WHATEVER THE INPUT: true; the input reads as it did. -/
def questionGroupsSpec : ChangeSpec := { name := "questionGroups", fn := fun _ => fun
  | [d1, d2, d3] => { results := [.lit (.bool true)], args := [d1, d2, d3] }
  | _ => none }
def questionGroupsRow : OpenClaim := { program := "ytomdpipekmcojaagreatdoor", sum := "cd0fdf4ba70adaf0d8424b808a470dcc3a7c99c802a11a96ad9eee9c2a77f37a", func := "concord/concordlaw25.QuestionGroups", spec := "questionGroups", inPlace := ["internal/bytealg.abigen_runtime_cmpstring"], unfollowed := true, recurses := true, named := ["concord/decimal.tens"], plainKeys := false, apart := false, laid := [("concord/decimal.tens", laid_concord_decimal_tens)] }
def QuestionGroupsSaid : Prop := questionGroupsRow.holds Tryz.pinned (OpenSpec.ofChange questionGroupsSpec)

/-- ITS FALSE NEIGHBOUR: 'it returns false'. Refute it at one input. -/
def questionGroupsWrong : ChangeSpec := { name := "questionGroups", fn := fun _ => fun
  | [d1, d2, d3] => { results := [.lit (.bool false)], args := [d1, d2, d3] }
  | _ => none }
def QuestionGroupsWrongFalsely : Prop := questionGroupsRow.holds Tryz.pinned (OpenSpec.ofChange questionGroupsWrong)

/-- 'concordlaw25.QuestionWrong': WHATEVER THE INPUT: true; the input reads as it did. -/
def questionWrongSpec : ChangeSpec := { name := "questionWrong", fn := fun _ => fun
  | [d1, d2, d3] => { results := [.lit (.bool true)], args := [d1, d2, d3] }
  | _ => none }
def questionWrongRow : OpenClaim := { program := "ytomdpipekmcojaagreatdoor", sum := "cd0fdf4ba70adaf0d8424b808a470dcc3a7c99c802a11a96ad9eee9c2a77f37a", func := "concord/concordlaw25.QuestionWrong", spec := "questionWrong", inPlace := ["internal/bytealg.abigen_runtime_cmpstring"], unfollowed := true, recurses := true, named := ["concord/decimal.tens"], plainKeys := false, apart := false, laid := [("concord/decimal.tens", laid_concord_decimal_tens)] }
def QuestionWrongSaid : Prop := questionWrongRow.holds Tryz.pinned (OpenSpec.ofChange questionWrongSpec)

/-- ITS FALSE NEIGHBOUR: 'it returns false'. Refute it at one input. -/
def questionWrongWrong : ChangeSpec := { name := "questionWrong", fn := fun _ => fun
  | [d1, d2, d3] => { results := [.lit (.bool false)], args := [d1, d2, d3] }
  | _ => none }
def QuestionWrongWrongFalsely : Prop := questionWrongRow.holds Tryz.pinned (OpenSpec.ofChange questionWrongWrong)

/-- 'concordlaw25.QuestionFollows': WHATEVER THE INPUT: true; the input reads as it did. -/
def questionFollowsSpec : ChangeSpec := { name := "questionFollows", fn := fun _ => fun
  | [d1, d2, d3] => { results := [.lit (.bool true)], args := [d1, d2, d3] }
  | _ => none }
def questionFollowsRow : OpenClaim := { program := "ytomdpipekmcojaagreatdoor", sum := "cd0fdf4ba70adaf0d8424b808a470dcc3a7c99c802a11a96ad9eee9c2a77f37a", func := "concord/concordlaw25.QuestionFollows", spec := "questionFollows", inPlace := ["internal/bytealg.abigen_runtime_cmpstring"], unfollowed := true, recurses := true, named := ["concord/decimal.tens"], plainKeys := false, apart := false, laid := [("concord/decimal.tens", laid_concord_decimal_tens)] }
def QuestionFollowsSaid : Prop := questionFollowsRow.holds Tryz.pinned (OpenSpec.ofChange questionFollowsSpec)

/-- ITS FALSE NEIGHBOUR: 'it returns false'. Refute it at one input. -/
def questionFollowsWrong : ChangeSpec := { name := "questionFollows", fn := fun _ => fun
  | [d1, d2, d3] => { results := [.lit (.bool false)], args := [d1, d2, d3] }
  | _ => none }
def QuestionFollowsWrongFalsely : Prop := questionFollowsRow.holds Tryz.pinned (OpenSpec.ofChange questionFollowsWrong)

/-- 'concordlaw25.QuestionTells': WHATEVER THE INPUT: true; the input reads as it did. -/
def questionTellsSpec : ChangeSpec := { name := "questionTells", fn := fun _ => fun
  | [d1, d2] => { results := [.lit (.bool true)], args := [d1, d2] }
  | _ => none }
def questionTellsRow : OpenClaim := { program := "ytomdpipekmcojaagreatdoor", sum := "cd0fdf4ba70adaf0d8424b808a470dcc3a7c99c802a11a96ad9eee9c2a77f37a", func := "concord/concordlaw25.QuestionTells", spec := "questionTells", inPlace := ["internal/bytealg.abigen_runtime_cmpstring"], unfollowed := true, recurses := true, named := ["concord/decimal.tens"], plainKeys := false, apart := false, laid := [("concord/decimal.tens", laid_concord_decimal_tens)] }
def QuestionTellsSaid : Prop := questionTellsRow.holds Tryz.pinned (OpenSpec.ofChange questionTellsSpec)

/-- ITS FALSE NEIGHBOUR: 'it returns false'. Refute it at one input. -/
def questionTellsWrong : ChangeSpec := { name := "questionTells", fn := fun _ => fun
  | [d1, d2] => { results := [.lit (.bool false)], args := [d1, d2] }
  | _ => none }
def QuestionTellsWrongFalsely : Prop := questionTellsRow.holds Tryz.pinned (OpenSpec.ofChange questionTellsWrong)

/-- 'concordlaw25.QuestionLeast': WHATEVER THE INPUT: true; the input reads as it did. -/
def questionLeastSpec : ChangeSpec := { name := "questionLeast", fn := fun _ => fun
  | [d] => { results := [.lit (.bool true)], args := [d] }
  | _ => none }
def questionLeastRow : OpenClaim := { program := "ytomdpipekmcojaagreatdoor", sum := "cd0fdf4ba70adaf0d8424b808a470dcc3a7c99c802a11a96ad9eee9c2a77f37a", func := "concord/concordlaw25.QuestionLeast", spec := "questionLeast", inPlace := ["internal/bytealg.abigen_runtime_cmpstring"], unfollowed := true, recurses := true, named := ["concord/decimal.tens"], plainKeys := false, apart := false, laid := [("concord/decimal.tens", laid_concord_decimal_tens)] }
def QuestionLeastSaid : Prop := questionLeastRow.holds Tryz.pinned (OpenSpec.ofChange questionLeastSpec)

/-- ITS FALSE NEIGHBOUR: 'it returns false'. Refute it at one input. -/
def questionLeastWrong : ChangeSpec := { name := "questionLeast", fn := fun _ => fun
  | [d] => { results := [.lit (.bool false)], args := [d] }
  | _ => none }
def QuestionLeastWrongFalsely : Prop := questionLeastRow.holds Tryz.pinned (OpenSpec.ofChange questionLeastWrong)

/-- 'concordlaw25.QuestionKeeps': WHATEVER THE INPUT: true; the input reads as it did. -/
def questionKeepsSpec : ChangeSpec := { name := "questionKeeps", fn := fun _ => fun
  | [d1, d2] => { results := [.lit (.bool true)], args := [d1, d2] }
  | _ => none }
def questionKeepsRow : OpenClaim := { program := "ytomdpipekmcojaagreatdoor", sum := "cd0fdf4ba70adaf0d8424b808a470dcc3a7c99c802a11a96ad9eee9c2a77f37a", func := "concord/concordlaw25.QuestionKeeps", spec := "questionKeeps", inPlace := ["internal/bytealg.abigen_runtime_cmpstring"], unfollowed := true, recurses := true, named := ["concord/decimal.tens"], plainKeys := false, apart := false, laid := [("concord/decimal.tens", laid_concord_decimal_tens)] }
def QuestionKeepsSaid : Prop := questionKeepsRow.holds Tryz.pinned (OpenSpec.ofChange questionKeepsSpec)

/-- ITS FALSE NEIGHBOUR: 'it returns false'. Refute it at one input. -/
def questionKeepsWrong : ChangeSpec := { name := "questionKeeps", fn := fun _ => fun
  | [d1, d2] => { results := [.lit (.bool false)], args := [d1, d2] }
  | _ => none }
def QuestionKeepsWrongFalsely : Prop := questionKeepsRow.holds Tryz.pinned (OpenSpec.ofChange questionKeepsWrong)

/-- 'concordlaw09.TableJoins': WHATEVER THE INPUT: true; the input reads as it did. -/
def tableJoinsSpec : ChangeSpec := { name := "tableJoins", fn := fun _ => fun
  | [d1, d2, d3] => { results := [.lit (.bool true)], args := [d1, d2, d3] }
  | _ => none }
def tableJoinsRow : OpenClaim := { program := "ytomdpipekmcojaagreatdoor", sum := "cd0fdf4ba70adaf0d8424b808a470dcc3a7c99c802a11a96ad9eee9c2a77f37a", func := "concord/concordlaw09.TableJoins", spec := "tableJoins", inPlace := ["internal/bytealg.CountString", "internal/bytealg.IndexByteString", "internal/bytealg.IndexString", "internal/abi.NoEscape", "internal/bytealg.MakeNoZero"], unfollowed := true, recurses := true, named := ["concord/decimal.tens", "internal/strconv.uint64pow10", "math/bits.deBruijn32tab", "math/bits.deBruijn64tab", "internal/bytealg.MaxLen", "unicode/utf8.first", "unicode/utf8.acceptRanges", "concord/date.lengths"], plainKeys := false, apart := false, laid := [("math/bits.deBruijn32tab", laid_math_bits_deBruijn32tab), ("math/bits.deBruijn64tab", laid_math_bits_deBruijn64tab), ("internal/strconv.uint64pow10", laid_internal_strconv_uint64pow10), ("unicode/utf8.acceptRanges", laid_unicode_utf8_acceptRanges), ("concord/date.lengths", laid_concord_date_lengths), ("concord/decimal.tens", laid_concord_decimal_tens), ("unicode/utf8.first", laid_unicode_utf8_first)] }
def TableJoinsSaid : Prop := tableJoinsRow.holds Tryz.pinned (OpenSpec.ofChange tableJoinsSpec)

/-- ITS FALSE NEIGHBOUR: 'it returns false'. Refute it at one input. -/
def tableJoinsWrong : ChangeSpec := { name := "tableJoins", fn := fun _ => fun
  | [d1, d2, d3] => { results := [.lit (.bool false)], args := [d1, d2, d3] }
  | _ => none }
def TableJoinsWrongFalsely : Prop := tableJoinsRow.holds Tryz.pinned (OpenSpec.ofChange tableJoinsWrong)

/-- 'concordlaw09.TableSelf': WHATEVER THE INPUT: true; the input reads as it did. -/
def tableSelfSpec : ChangeSpec := { name := "tableSelf", fn := fun _ => fun
  | [d1, d2] => { results := [.lit (.bool true)], args := [d1, d2] }
  | _ => none }
def tableSelfRow : OpenClaim := { program := "ytomdpipekmcojaagreatdoor", sum := "cd0fdf4ba70adaf0d8424b808a470dcc3a7c99c802a11a96ad9eee9c2a77f37a", func := "concord/concordlaw09.TableSelf", spec := "tableSelf", inPlace := ["internal/bytealg.CountString", "internal/bytealg.IndexByteString", "internal/bytealg.IndexString", "internal/abi.NoEscape", "internal/bytealg.MakeNoZero"], unfollowed := true, recurses := true, named := ["concord/decimal.tens", "internal/strconv.uint64pow10", "math/bits.deBruijn32tab", "math/bits.deBruijn64tab", "internal/bytealg.MaxLen", "unicode/utf8.first", "unicode/utf8.acceptRanges", "concord/date.lengths"], plainKeys := false, apart := false, laid := [("math/bits.deBruijn32tab", laid_math_bits_deBruijn32tab), ("math/bits.deBruijn64tab", laid_math_bits_deBruijn64tab), ("internal/strconv.uint64pow10", laid_internal_strconv_uint64pow10), ("unicode/utf8.acceptRanges", laid_unicode_utf8_acceptRanges), ("concord/date.lengths", laid_concord_date_lengths), ("concord/decimal.tens", laid_concord_decimal_tens), ("unicode/utf8.first", laid_unicode_utf8_first)] }
def TableSelfSaid : Prop := tableSelfRow.holds Tryz.pinned (OpenSpec.ofChange tableSelfSpec)

/-- ITS FALSE NEIGHBOUR: 'it returns false'. Refute it at one input. -/
def tableSelfWrong : ChangeSpec := { name := "tableSelf", fn := fun _ => fun
  | [d1, d2] => { results := [.lit (.bool false)], args := [d1, d2] }
  | _ => none }
def TableSelfWrongFalsely : Prop := tableSelfRow.holds Tryz.pinned (OpenSpec.ofChange tableSelfWrong)

/- THE SECOND FORM. 'bulk': how many values and letters a reading holds, each counted each time it is reached (what is shared counts as often as it is met; a slice's spare places count too). A statement '..UptoSaid' is the law's where the arguments, and the package variables that the reading takes, are together of bulk at most 1048576: NARROWER than '..Said'. Prove '..Said' where nothing that the law and all that it calls make is longer than what came in: it says more and counts as full. Else prove '..UptoSaid'. A law counts once. -/
mutual
def uptoBulk {H : Type} : DataW H → Nat
  | .lit (.string bytes) => bytes.length + 1
  | .lit _ => 1
  | .nil => 1
  | .ptr d => uptoBulk d + 1
  | .slice elems spare => uptoBulkAll elems + uptoBulkAll spare + 1
  | .agg parts => uptoBulkAll parts + 1
  | .iface _ d => uptoBulk d + 1
  | .map entries => uptoBulkEntries entries + 1
  | .held _ => 1
def uptoBulkAll {H : Type} : List (DataW H) → Nat
  | [] => 0
  | d :: r => uptoBulk d + uptoBulkAll r
def uptoBulkEntries {H : Type} : List (Lit × DataW H) → Nat
  | [] => 0
  | x :: r => uptoBulkEntry x + uptoBulkEntries r
def uptoBulkEntry {H : Type} : Lit × DataW H → Nat
  | (.string bytes, d) => bytes.length + uptoBulk d + 1
  | (_, d) => uptoBulk d + 1
 end
def uptoSmall : (H : Type) → List (DataW H) → Bool := fun _ ds => decide (uptoBulkAll ds ≤ 1048576)
def OpenSpec.upto (s : _root_.Go.ChangeSpec) : _root_.Go.OpenSpec := { _root_.Go.OpenSpec.ofChange s with cond := some uptoSmall }

/-- 'concordlaw25.QuestionMakes', WHERE WHAT IT READS IS OF BULK AT MOST 1048576: true; the input reads as it did. -/
def questionMakesUptoRow : OpenClaim := { program := "ytomdpipekmcojaagreatdoor", sum := "cd0fdf4ba70adaf0d8424b808a470dcc3a7c99c802a11a96ad9eee9c2a77f37a", func := "concord/concordlaw25.QuestionMakes", spec := "questionMakes", inPlace := ["internal/bytealg.abigen_runtime_cmpstring"], unfollowed := true, recurses := true, named := ["concord/decimal.tens"], plainKeys := false, apart := false, laid := [("concord/decimal.tens", laid_concord_decimal_tens)], narrowed := true }
def QuestionMakesUptoSaid : Prop := questionMakesUptoRow.holds Tryz.pinned (OpenSpec.upto questionMakesSpec)

/-- 'concordlaw25.QuestionGroups', WHERE WHAT IT READS IS OF BULK AT MOST 1048576: true; the input reads as it did. -/
def questionGroupsUptoRow : OpenClaim := { program := "ytomdpipekmcojaagreatdoor", sum := "cd0fdf4ba70adaf0d8424b808a470dcc3a7c99c802a11a96ad9eee9c2a77f37a", func := "concord/concordlaw25.QuestionGroups", spec := "questionGroups", inPlace := ["internal/bytealg.abigen_runtime_cmpstring"], unfollowed := true, recurses := true, named := ["concord/decimal.tens"], plainKeys := false, apart := false, laid := [("concord/decimal.tens", laid_concord_decimal_tens)], narrowed := true }
def QuestionGroupsUptoSaid : Prop := questionGroupsUptoRow.holds Tryz.pinned (OpenSpec.upto questionGroupsSpec)

/-- 'concordlaw25.QuestionWrong', WHERE WHAT IT READS IS OF BULK AT MOST 1048576: true; the input reads as it did. -/
def questionWrongUptoRow : OpenClaim := { program := "ytomdpipekmcojaagreatdoor", sum := "cd0fdf4ba70adaf0d8424b808a470dcc3a7c99c802a11a96ad9eee9c2a77f37a", func := "concord/concordlaw25.QuestionWrong", spec := "questionWrong", inPlace := ["internal/bytealg.abigen_runtime_cmpstring"], unfollowed := true, recurses := true, named := ["concord/decimal.tens"], plainKeys := false, apart := false, laid := [("concord/decimal.tens", laid_concord_decimal_tens)], narrowed := true }
def QuestionWrongUptoSaid : Prop := questionWrongUptoRow.holds Tryz.pinned (OpenSpec.upto questionWrongSpec)

/-- 'concordlaw25.QuestionFollows', WHERE WHAT IT READS IS OF BULK AT MOST 1048576: true; the input reads as it did. -/
def questionFollowsUptoRow : OpenClaim := { program := "ytomdpipekmcojaagreatdoor", sum := "cd0fdf4ba70adaf0d8424b808a470dcc3a7c99c802a11a96ad9eee9c2a77f37a", func := "concord/concordlaw25.QuestionFollows", spec := "questionFollows", inPlace := ["internal/bytealg.abigen_runtime_cmpstring"], unfollowed := true, recurses := true, named := ["concord/decimal.tens"], plainKeys := false, apart := false, laid := [("concord/decimal.tens", laid_concord_decimal_tens)], narrowed := true }
def QuestionFollowsUptoSaid : Prop := questionFollowsUptoRow.holds Tryz.pinned (OpenSpec.upto questionFollowsSpec)

/-- 'concordlaw25.QuestionTells', WHERE WHAT IT READS IS OF BULK AT MOST 1048576: true; the input reads as it did. -/
def questionTellsUptoRow : OpenClaim := { program := "ytomdpipekmcojaagreatdoor", sum := "cd0fdf4ba70adaf0d8424b808a470dcc3a7c99c802a11a96ad9eee9c2a77f37a", func := "concord/concordlaw25.QuestionTells", spec := "questionTells", inPlace := ["internal/bytealg.abigen_runtime_cmpstring"], unfollowed := true, recurses := true, named := ["concord/decimal.tens"], plainKeys := false, apart := false, laid := [("concord/decimal.tens", laid_concord_decimal_tens)], narrowed := true }
def QuestionTellsUptoSaid : Prop := questionTellsUptoRow.holds Tryz.pinned (OpenSpec.upto questionTellsSpec)

/-- 'concordlaw25.QuestionLeast', WHERE WHAT IT READS IS OF BULK AT MOST 1048576: true; the input reads as it did. -/
def questionLeastUptoRow : OpenClaim := { program := "ytomdpipekmcojaagreatdoor", sum := "cd0fdf4ba70adaf0d8424b808a470dcc3a7c99c802a11a96ad9eee9c2a77f37a", func := "concord/concordlaw25.QuestionLeast", spec := "questionLeast", inPlace := ["internal/bytealg.abigen_runtime_cmpstring"], unfollowed := true, recurses := true, named := ["concord/decimal.tens"], plainKeys := false, apart := false, laid := [("concord/decimal.tens", laid_concord_decimal_tens)], narrowed := true }
def QuestionLeastUptoSaid : Prop := questionLeastUptoRow.holds Tryz.pinned (OpenSpec.upto questionLeastSpec)

/-- 'concordlaw25.QuestionKeeps', WHERE WHAT IT READS IS OF BULK AT MOST 1048576: true; the input reads as it did. -/
def questionKeepsUptoRow : OpenClaim := { program := "ytomdpipekmcojaagreatdoor", sum := "cd0fdf4ba70adaf0d8424b808a470dcc3a7c99c802a11a96ad9eee9c2a77f37a", func := "concord/concordlaw25.QuestionKeeps", spec := "questionKeeps", inPlace := ["internal/bytealg.abigen_runtime_cmpstring"], unfollowed := true, recurses := true, named := ["concord/decimal.tens"], plainKeys := false, apart := false, laid := [("concord/decimal.tens", laid_concord_decimal_tens)], narrowed := true }
def QuestionKeepsUptoSaid : Prop := questionKeepsUptoRow.holds Tryz.pinned (OpenSpec.upto questionKeepsSpec)

/-- 'concordlaw09.TableJoins', WHERE WHAT IT READS IS OF BULK AT MOST 1048576: true; the input reads as it did. -/
def tableJoinsUptoRow : OpenClaim := { program := "ytomdpipekmcojaagreatdoor", sum := "cd0fdf4ba70adaf0d8424b808a470dcc3a7c99c802a11a96ad9eee9c2a77f37a", func := "concord/concordlaw09.TableJoins", spec := "tableJoins", inPlace := ["internal/bytealg.CountString", "internal/bytealg.IndexByteString", "internal/bytealg.IndexString", "internal/abi.NoEscape", "internal/bytealg.MakeNoZero"], unfollowed := true, recurses := true, named := ["concord/decimal.tens", "internal/strconv.uint64pow10", "math/bits.deBruijn32tab", "math/bits.deBruijn64tab", "internal/bytealg.MaxLen", "unicode/utf8.first", "unicode/utf8.acceptRanges", "concord/date.lengths"], plainKeys := false, apart := false, laid := [("math/bits.deBruijn32tab", laid_math_bits_deBruijn32tab), ("math/bits.deBruijn64tab", laid_math_bits_deBruijn64tab), ("internal/strconv.uint64pow10", laid_internal_strconv_uint64pow10), ("unicode/utf8.acceptRanges", laid_unicode_utf8_acceptRanges), ("concord/date.lengths", laid_concord_date_lengths), ("concord/decimal.tens", laid_concord_decimal_tens), ("unicode/utf8.first", laid_unicode_utf8_first)], narrowed := true }
def TableJoinsUptoSaid : Prop := tableJoinsUptoRow.holds Tryz.pinned (OpenSpec.upto tableJoinsSpec)

/-- 'concordlaw09.TableSelf', WHERE WHAT IT READS IS OF BULK AT MOST 1048576: true; the input reads as it did. -/
def tableSelfUptoRow : OpenClaim := { program := "ytomdpipekmcojaagreatdoor", sum := "cd0fdf4ba70adaf0d8424b808a470dcc3a7c99c802a11a96ad9eee9c2a77f37a", func := "concord/concordlaw09.TableSelf", spec := "tableSelf", inPlace := ["internal/bytealg.CountString", "internal/bytealg.IndexByteString", "internal/bytealg.IndexString", "internal/abi.NoEscape", "internal/bytealg.MakeNoZero"], unfollowed := true, recurses := true, named := ["concord/decimal.tens", "internal/strconv.uint64pow10", "math/bits.deBruijn32tab", "math/bits.deBruijn64tab", "internal/bytealg.MaxLen", "unicode/utf8.first", "unicode/utf8.acceptRanges", "concord/date.lengths"], plainKeys := false, apart := false, laid := [("math/bits.deBruijn32tab", laid_math_bits_deBruijn32tab), ("math/bits.deBruijn64tab", laid_math_bits_deBruijn64tab), ("internal/strconv.uint64pow10", laid_internal_strconv_uint64pow10), ("unicode/utf8.acceptRanges", laid_unicode_utf8_acceptRanges), ("concord/date.lengths", laid_concord_date_lengths), ("concord/decimal.tens", laid_concord_decimal_tens), ("unicode/utf8.first", laid_unicode_utf8_first)], narrowed := true }
def TableSelfUptoSaid : Prop := tableSelfUptoRow.holds Tryz.pinned (OpenSpec.upto tableSelfSpec)

end Rows
end Go.Proofs.YtomdpipekmcojaaGreatDoor
