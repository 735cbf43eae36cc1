/-
  NARROWER THAN 'FOR EVERY INPUT', by the rows' own cells (each row's printed sentence says how): GraphUses: laid · GraphSteps: laid · GraphReach: laid · GraphAccept: laid · GraphOrder: laid · GraphGroups: laid · GraphClosed: laid · GraphSides: laid · GraphCaps: laid · GraphLocal: laid.
  DERIVED. THE GIVEN ROWS OF THIS SEAT. 10 by the template 'for every input the law returns true; each argument reads behind the call as it read before'; 0 by the template 'total and deterministic' (their statements: YtokiomlellclkaaGreatDoorTotals.lean).
  GIVEN WITH THE SEED: the statements are not yours to turn. If you find one false, say at which input.
  Laid BY PROGRAM, IN A SANDBOX (cutbox-rows.mjs): the forced cells as the released guide's own fill.sh prints them over the translation 3e31be29a5772e1b… (all of the seat's roots in one cut). By AI agents, Wed Nov 11 2026. No macro, syntax, notation, axiom, sorry.
-/
import Derived.Test.YtokiomlellclkaaGreatDoorChecked
import GoSem.PinnedTables
import GoSem.Claim
import GoSem.ClaimJoined
import GoSem.ClaimMapViews
import Derived.JoinedTies
import Derived.KernelRfl
namespace Go.Proofs.YtokiomlellclkaaGreatDoor
/- THE CELL 'sum', in the pinned program and in every row, IS THE sha256 OF THE DUMP (.gsa) THAT YtokiomlellclkaaGreatDoorProg.lean LOADS. Nothing in Lean hashes anything: it is a label: what it is worth is what the hold of that sum in a sandbox is worth. -/
noncomputable def Tryz.pinned : Pinned := { name := "ytokiomlellclkaagreatdoor", sum := "3e31be29a5772e1b90bf26edfacf3f43f3e420864d8fc8cda1803797fc7f9ee7", checked := Tryz.checked }
namespace Rows
def none {H : Type} : Left H := { results := [], args := [] }

/- WHAT THE LISTED PACKAGE-LEVEL VARIABLES READ AS WHEN THE CALL BEGINS. Each datum BY PROGRAM (the guide's laid-datum.mjs) off the statement by which the dump's own 'gosem.cut.vars' lays the variable. In a bare row this is a premise. The card (YtokiomlellclkaaGreatDoorCards.lean) ties it to the program's text. -/
def laid_unicode_utf8_acceptRanges {H : Type} : DataW H := .agg [.agg [.lit (.int .u8 128), .lit (.int .u8 191)], .agg [.lit (.int .u8 160), .lit (.int .u8 191)], .agg [.lit (.int .u8 128), .lit (.int .u8 159)], .agg [.lit (.int .u8 144), .lit (.int .u8 191)], .agg [.lit (.int .u8 128), .lit (.int .u8 143)], .agg [.lit (.int .u8 0), .lit (.int .u8 0)], .agg [.lit (.int .u8 0), .lit (.int .u8 0)], .agg [.lit (.int .u8 0), .lit (.int .u8 0)], .agg [.lit (.int .u8 0), .lit (.int .u8 0)], .agg [.lit (.int .u8 0), .lit (.int .u8 0)], .agg [.lit (.int .u8 0), .lit (.int .u8 0)], .agg [.lit (.int .u8 0), .lit (.int .u8 0)], .agg [.lit (.int .u8 0), .lit (.int .u8 0)], .agg [.lit (.int .u8 0), .lit (.int .u8 0)], .agg [.lit (.int .u8 0), .lit (.int .u8 0)], .agg [.lit (.int .u8 0), .lit (.int .u8 0)]]
def laid_tithing_expr_table {H : Type} : DataW H := .agg [.agg [.lit (.string []), .lit (.int .i64 0), .lit (.bool false), .lit (.bool false), .lit (.bool false)], .agg [.lit (.string [36]), .lit (.int .i64 0), .lit (.bool true), .lit (.bool false), .lit (.bool false)], .agg [.lit (.string []), .lit (.int .i64 0), .lit (.bool true), .lit (.bool false), .lit (.bool false)], .agg [.lit (.string []), .lit (.int .i64 0), .lit (.bool true), .lit (.bool false), .lit (.bool false)], .agg [.lit (.string []), .lit (.int .i64 0), .lit (.bool true), .lit (.bool false), .lit (.bool false)], .agg [.lit (.string [102, 97, 99, 116, 46]), .lit (.int .i64 0), .lit (.bool false), .lit (.bool true), .lit (.bool false)], .agg [.lit (.string [111, 119, 110, 46]), .lit (.int .i64 0), .lit (.bool false), .lit (.bool true), .lit (.bool false)], .agg [.lit (.string [112, 114, 105, 111, 114, 46]), .lit (.int .i64 0), .lit (.bool false), .lit (.bool true), .lit (.bool false)], .agg [.lit (.string [115, 112, 111, 117, 115, 101, 46]), .lit (.int .i64 0), .lit (.bool false), .lit (.bool true), .lit (.bool false)], .agg [.lit (.string [97, 100, 100]), .lit (.int .i64 2), .lit (.bool false), .lit (.bool false), .lit (.bool false)], .agg [.lit (.string [115, 117, 98]), .lit (.int .i64 2), .lit (.bool false), .lit (.bool false), .lit (.bool false)], .agg [.lit (.string [109, 117, 108]), .lit (.int .i64 2), .lit (.bool false), .lit (.bool false), .lit (.bool false)], .agg [.lit (.string [100, 105, 118]), .lit (.int .i64 2), .lit (.bool false), .lit (.bool false), .lit (.bool false)], .agg [.lit (.string [109, 105, 110]), .lit (.int .i64 2), .lit (.bool false), .lit (.bool false), .lit (.bool false)], .agg [.lit (.string [109, 97, 120]), .lit (.int .i64 2), .lit (.bool false), .lit (.bool false), .lit (.bool false)], .agg [.lit (.string [105, 102]), .lit (.int .i64 3), .lit (.bool false), .lit (.bool false), .lit (.bool false)], .agg [.lit (.string [108, 101, 115, 115]), .lit (.int .i64 2), .lit (.bool false), .lit (.bool false), .lit (.bool false)], .agg [.lit (.string [101, 113, 117, 97, 108]), .lit (.int .i64 2), .lit (.bool false), .lit (.bool false), .lit (.bool false)], .agg [.lit (.string [97, 110, 100]), .lit (.int .i64 2), .lit (.bool false), .lit (.bool false), .lit (.bool false)], .agg [.lit (.string [111, 114]), .lit (.int .i64 2), .lit (.bool false), .lit (.bool false), .lit (.bool false)], .agg [.lit (.string [110, 111, 116]), .lit (.int .i64 1), .lit (.bool false), .lit (.bool false), .lit (.bool false)], .agg [.lit (.string [100, 111, 119, 110]), .lit (.int .i64 1), .lit (.bool false), .lit (.bool false), .lit (.bool true)], .agg [.lit (.string [117, 112]), .lit (.int .i64 1), .lit (.bool false), .lit (.bool false), .lit (.bool true)], .agg [.lit (.string [110, 101, 97, 114]), .lit (.int .i64 1), .lit (.bool false), .lit (.bool false), .lit (.bool true)], .agg [.lit (.string [114, 97, 116, 101, 46]), .lit (.int .i64 1), .lit (.bool false), .lit (.bool true), .lit (.bool false)]]
def laid_tithing_check_truth {H : Type} : DataW H := .agg [.lit (.bool true), .agg [.lit (.int .i64 0), .lit (.int .i64 0)]]
def laid_tithing_check_cash {H : Type} : DataW H := .agg [.lit (.bool false), .agg [.lit (.int .i64 1), .lit (.int .i64 0)]]
def laid_tithing_check_days {H : Type} : DataW H := .agg [.lit (.bool false), .agg [.lit (.int .i64 0), .lit (.int .i64 1)]]
def laid_tithing_check_plain {H : Type} : DataW H := .agg [.lit (.bool false), .agg [.lit (.int .i64 0), .lit (.int .i64 0)]]
def laid_tithing_statute_cash {H : Type} : DataW H := .agg [.lit (.bool false), .agg [.lit (.int .i64 1), .lit (.int .i64 0)]]
/-- One of Go's own tables, pinned by name: the form's constant. -/
def laid_unicode_utf8_first : DataW Unit := Go.Pinned.utf8First

/-- 'tithinglaw15.GraphUses': WHATEVER THE INPUT: true; the input reads as it did. -/
def graphUsesSpec : ChangeSpec := { name := "graphUses", fn := fun _ => fun
  | [d1, d2, d3] => { results := [.lit (.bool true)], args := [d1, d2, d3] }
  | _ => none }
def graphUsesRow : OpenClaim := { program := "ytokiomlellclkaagreatdoor", sum := "3e31be29a5772e1b90bf26edfacf3f43f3e420864d8fc8cda1803797fc7f9ee7", func := "tithing/tithinglaw15.GraphUses", spec := "graphUses", inPlace := ["internal/bytealg.IndexByteString", "internal/bytealg.IndexString"], unfollowed := true, recurses := true, named := ["unicode/utf8.first", "unicode/utf8.acceptRanges", "tithing/expr.table", "tithing/statute.cash", "tithing/check.cash", "tithing/check.days", "tithing/check.plain", "tithing/check.truth", "internal/bytealg.MaxLen"], plainKeys := false, apart := false, laid := [("unicode/utf8.acceptRanges", laid_unicode_utf8_acceptRanges), ("tithing/expr.table", laid_tithing_expr_table), ("tithing/check.truth", laid_tithing_check_truth), ("tithing/check.cash", laid_tithing_check_cash), ("tithing/check.days", laid_tithing_check_days), ("tithing/check.plain", laid_tithing_check_plain), ("tithing/statute.cash", laid_tithing_statute_cash), ("unicode/utf8.first", laid_unicode_utf8_first)] }
def GraphUsesSaid : Prop := graphUsesRow.holds Tryz.pinned (OpenSpec.ofChange graphUsesSpec)

/-- ITS FALSE NEIGHBOUR: 'it returns false'. Refute it at one input. -/
def graphUsesWrong : ChangeSpec := { name := "graphUses", fn := fun _ => fun
  | [d1, d2, d3] => { results := [.lit (.bool false)], args := [d1, d2, d3] }
  | _ => none }
def GraphUsesWrongFalsely : Prop := graphUsesRow.holds Tryz.pinned (OpenSpec.ofChange graphUsesWrong)

/-- 'tithinglaw15.GraphSteps': WHATEVER THE INPUT: true; the input reads as it did. -/
def graphStepsSpec : ChangeSpec := { name := "graphSteps", fn := fun _ => fun
  | [d1, d2, d3] => { results := [.lit (.bool true)], args := [d1, d2, d3] }
  | _ => none }
def graphStepsRow : OpenClaim := { program := "ytokiomlellclkaagreatdoor", sum := "3e31be29a5772e1b90bf26edfacf3f43f3e420864d8fc8cda1803797fc7f9ee7", func := "tithing/tithinglaw15.GraphSteps", spec := "graphSteps", inPlace := ["internal/bytealg.IndexByteString", "internal/bytealg.IndexString"], unfollowed := true, recurses := true, named := ["unicode/utf8.first", "unicode/utf8.acceptRanges", "tithing/expr.table", "tithing/statute.cash", "tithing/check.cash", "tithing/check.days", "tithing/check.plain", "tithing/check.truth", "internal/bytealg.MaxLen"], plainKeys := false, apart := false, laid := [("unicode/utf8.acceptRanges", laid_unicode_utf8_acceptRanges), ("tithing/expr.table", laid_tithing_expr_table), ("tithing/check.truth", laid_tithing_check_truth), ("tithing/check.cash", laid_tithing_check_cash), ("tithing/check.days", laid_tithing_check_days), ("tithing/check.plain", laid_tithing_check_plain), ("tithing/statute.cash", laid_tithing_statute_cash), ("unicode/utf8.first", laid_unicode_utf8_first)] }
def GraphStepsSaid : Prop := graphStepsRow.holds Tryz.pinned (OpenSpec.ofChange graphStepsSpec)

/-- ITS FALSE NEIGHBOUR: 'it returns false'. Refute it at one input. -/
def graphStepsWrong : ChangeSpec := { name := "graphSteps", fn := fun _ => fun
  | [d1, d2, d3] => { results := [.lit (.bool false)], args := [d1, d2, d3] }
  | _ => none }
def GraphStepsWrongFalsely : Prop := graphStepsRow.holds Tryz.pinned (OpenSpec.ofChange graphStepsWrong)

/-- 'tithinglaw15.GraphReach': WHATEVER THE INPUT: true; the input reads as it did. -/
def graphReachSpec : ChangeSpec := { name := "graphReach", fn := fun _ => fun
  | [d1, d2, d3] => { results := [.lit (.bool true)], args := [d1, d2, d3] }
  | _ => none }
def graphReachRow : OpenClaim := { program := "ytokiomlellclkaagreatdoor", sum := "3e31be29a5772e1b90bf26edfacf3f43f3e420864d8fc8cda1803797fc7f9ee7", func := "tithing/tithinglaw15.GraphReach", spec := "graphReach", inPlace := ["internal/bytealg.IndexByteString", "internal/bytealg.IndexString"], unfollowed := true, recurses := true, named := ["unicode/utf8.first", "unicode/utf8.acceptRanges", "tithing/expr.table", "tithing/statute.cash", "tithing/check.cash", "tithing/check.days", "tithing/check.plain", "tithing/check.truth", "internal/bytealg.MaxLen"], plainKeys := false, apart := false, laid := [("unicode/utf8.acceptRanges", laid_unicode_utf8_acceptRanges), ("tithing/expr.table", laid_tithing_expr_table), ("tithing/check.truth", laid_tithing_check_truth), ("tithing/check.cash", laid_tithing_check_cash), ("tithing/check.days", laid_tithing_check_days), ("tithing/check.plain", laid_tithing_check_plain), ("tithing/statute.cash", laid_tithing_statute_cash), ("unicode/utf8.first", laid_unicode_utf8_first)] }
def GraphReachSaid : Prop := graphReachRow.holds Tryz.pinned (OpenSpec.ofChange graphReachSpec)

/-- ITS FALSE NEIGHBOUR: 'it returns false'. Refute it at one input. -/
def graphReachWrong : ChangeSpec := { name := "graphReach", fn := fun _ => fun
  | [d1, d2, d3] => { results := [.lit (.bool false)], args := [d1, d2, d3] }
  | _ => none }
def GraphReachWrongFalsely : Prop := graphReachRow.holds Tryz.pinned (OpenSpec.ofChange graphReachWrong)

/-- 'tithinglaw15.GraphAccept': WHATEVER THE INPUT: true; the input reads as it did. -/
def graphAcceptSpec : ChangeSpec := { name := "graphAccept", fn := fun _ => fun
  | [d1, d2, d3] => { results := [.lit (.bool true)], args := [d1, d2, d3] }
  | _ => none }
def graphAcceptRow : OpenClaim := { program := "ytokiomlellclkaagreatdoor", sum := "3e31be29a5772e1b90bf26edfacf3f43f3e420864d8fc8cda1803797fc7f9ee7", func := "tithing/tithinglaw15.GraphAccept", spec := "graphAccept", inPlace := ["internal/bytealg.IndexByteString", "internal/bytealg.IndexString"], unfollowed := true, recurses := true, named := ["unicode/utf8.first", "unicode/utf8.acceptRanges", "tithing/expr.table", "tithing/statute.cash", "tithing/check.cash", "tithing/check.days", "tithing/check.plain", "tithing/check.truth", "internal/bytealg.MaxLen"], plainKeys := false, apart := false, laid := [("unicode/utf8.acceptRanges", laid_unicode_utf8_acceptRanges), ("tithing/expr.table", laid_tithing_expr_table), ("tithing/check.truth", laid_tithing_check_truth), ("tithing/check.cash", laid_tithing_check_cash), ("tithing/check.days", laid_tithing_check_days), ("tithing/check.plain", laid_tithing_check_plain), ("tithing/statute.cash", laid_tithing_statute_cash), ("unicode/utf8.first", laid_unicode_utf8_first)] }
def GraphAcceptSaid : Prop := graphAcceptRow.holds Tryz.pinned (OpenSpec.ofChange graphAcceptSpec)

/-- ITS FALSE NEIGHBOUR: 'it returns false'. Refute it at one input. -/
def graphAcceptWrong : ChangeSpec := { name := "graphAccept", fn := fun _ => fun
  | [d1, d2, d3] => { results := [.lit (.bool false)], args := [d1, d2, d3] }
  | _ => none }
def GraphAcceptWrongFalsely : Prop := graphAcceptRow.holds Tryz.pinned (OpenSpec.ofChange graphAcceptWrong)

/-- 'tithinglaw15.GraphOrder': WHATEVER THE INPUT: true; the input reads as it did. -/
def graphOrderSpec : ChangeSpec := { name := "graphOrder", fn := fun _ => fun
  | [d1, d2] => { results := [.lit (.bool true)], args := [d1, d2] }
  | _ => none }
def graphOrderRow : OpenClaim := { program := "ytokiomlellclkaagreatdoor", sum := "3e31be29a5772e1b90bf26edfacf3f43f3e420864d8fc8cda1803797fc7f9ee7", func := "tithing/tithinglaw15.GraphOrder", spec := "graphOrder", inPlace := ["internal/bytealg.IndexByteString", "internal/bytealg.IndexString"], unfollowed := true, recurses := true, named := ["unicode/utf8.first", "unicode/utf8.acceptRanges", "tithing/expr.table", "tithing/statute.cash", "tithing/check.cash", "tithing/check.days", "tithing/check.plain", "tithing/check.truth", "internal/bytealg.MaxLen"], plainKeys := false, apart := false, laid := [("unicode/utf8.acceptRanges", laid_unicode_utf8_acceptRanges), ("tithing/expr.table", laid_tithing_expr_table), ("tithing/check.truth", laid_tithing_check_truth), ("tithing/check.cash", laid_tithing_check_cash), ("tithing/check.days", laid_tithing_check_days), ("tithing/check.plain", laid_tithing_check_plain), ("tithing/statute.cash", laid_tithing_statute_cash), ("unicode/utf8.first", laid_unicode_utf8_first)] }
def GraphOrderSaid : Prop := graphOrderRow.holds Tryz.pinned (OpenSpec.ofChange graphOrderSpec)

/-- ITS FALSE NEIGHBOUR: 'it returns false'. Refute it at one input. -/
def graphOrderWrong : ChangeSpec := { name := "graphOrder", fn := fun _ => fun
  | [d1, d2] => { results := [.lit (.bool false)], args := [d1, d2] }
  | _ => none }
def GraphOrderWrongFalsely : Prop := graphOrderRow.holds Tryz.pinned (OpenSpec.ofChange graphOrderWrong)

/-- 'tithinglaw15.GraphGroups': WHATEVER THE INPUT: true; the input reads as it did. -/
def graphGroupsSpec : ChangeSpec := { name := "graphGroups", fn := fun _ => fun
  | [d1, d2] => { results := [.lit (.bool true)], args := [d1, d2] }
  | _ => none }
def graphGroupsRow : OpenClaim := { program := "ytokiomlellclkaagreatdoor", sum := "3e31be29a5772e1b90bf26edfacf3f43f3e420864d8fc8cda1803797fc7f9ee7", func := "tithing/tithinglaw15.GraphGroups", spec := "graphGroups", inPlace := ["internal/bytealg.IndexByteString", "internal/bytealg.IndexString"], unfollowed := true, recurses := true, named := ["unicode/utf8.first", "unicode/utf8.acceptRanges", "tithing/expr.table", "tithing/statute.cash", "tithing/check.cash", "tithing/check.days", "tithing/check.plain", "tithing/check.truth", "internal/bytealg.MaxLen"], plainKeys := false, apart := false, laid := [("unicode/utf8.acceptRanges", laid_unicode_utf8_acceptRanges), ("tithing/expr.table", laid_tithing_expr_table), ("tithing/check.truth", laid_tithing_check_truth), ("tithing/check.cash", laid_tithing_check_cash), ("tithing/check.days", laid_tithing_check_days), ("tithing/check.plain", laid_tithing_check_plain), ("tithing/statute.cash", laid_tithing_statute_cash), ("unicode/utf8.first", laid_unicode_utf8_first)] }
def GraphGroupsSaid : Prop := graphGroupsRow.holds Tryz.pinned (OpenSpec.ofChange graphGroupsSpec)

/-- ITS FALSE NEIGHBOUR: 'it returns false'. Refute it at one input. -/
def graphGroupsWrong : ChangeSpec := { name := "graphGroups", fn := fun _ => fun
  | [d1, d2] => { results := [.lit (.bool false)], args := [d1, d2] }
  | _ => none }
def GraphGroupsWrongFalsely : Prop := graphGroupsRow.holds Tryz.pinned (OpenSpec.ofChange graphGroupsWrong)

/-- 'tithinglaw15.GraphClosed': WHATEVER THE INPUT: true; the input reads as it did. -/
def graphClosedSpec : ChangeSpec := { name := "graphClosed", fn := fun _ => fun
  | [d1, d2, d3] => { results := [.lit (.bool true)], args := [d1, d2, d3] }
  | _ => none }
def graphClosedRow : OpenClaim := { program := "ytokiomlellclkaagreatdoor", sum := "3e31be29a5772e1b90bf26edfacf3f43f3e420864d8fc8cda1803797fc7f9ee7", func := "tithing/tithinglaw15.GraphClosed", spec := "graphClosed", inPlace := ["internal/bytealg.IndexByteString", "internal/bytealg.IndexString"], unfollowed := true, recurses := true, named := ["unicode/utf8.first", "unicode/utf8.acceptRanges", "tithing/expr.table", "tithing/statute.cash", "tithing/check.cash", "tithing/check.days", "tithing/check.plain", "tithing/check.truth", "internal/bytealg.MaxLen"], plainKeys := false, apart := false, laid := [("unicode/utf8.acceptRanges", laid_unicode_utf8_acceptRanges), ("tithing/expr.table", laid_tithing_expr_table), ("tithing/check.truth", laid_tithing_check_truth), ("tithing/check.cash", laid_tithing_check_cash), ("tithing/check.days", laid_tithing_check_days), ("tithing/check.plain", laid_tithing_check_plain), ("tithing/statute.cash", laid_tithing_statute_cash), ("unicode/utf8.first", laid_unicode_utf8_first)] }
def GraphClosedSaid : Prop := graphClosedRow.holds Tryz.pinned (OpenSpec.ofChange graphClosedSpec)

/-- ITS FALSE NEIGHBOUR: 'it returns false'. Refute it at one input. -/
def graphClosedWrong : ChangeSpec := { name := "graphClosed", fn := fun _ => fun
  | [d1, d2, d3] => { results := [.lit (.bool false)], args := [d1, d2, d3] }
  | _ => none }
def GraphClosedWrongFalsely : Prop := graphClosedRow.holds Tryz.pinned (OpenSpec.ofChange graphClosedWrong)

/-- 'tithinglaw15.GraphSides': WHATEVER THE INPUT: true; the input reads as it did. -/
def graphSidesSpec : ChangeSpec := { name := "graphSides", fn := fun _ => fun
  | [d] => { results := [.lit (.bool true)], args := [d] }
  | _ => none }
def graphSidesRow : OpenClaim := { program := "ytokiomlellclkaagreatdoor", sum := "3e31be29a5772e1b90bf26edfacf3f43f3e420864d8fc8cda1803797fc7f9ee7", func := "tithing/tithinglaw15.GraphSides", spec := "graphSides", inPlace := ["internal/bytealg.IndexByteString", "internal/bytealg.IndexString"], unfollowed := true, recurses := true, named := ["unicode/utf8.first", "unicode/utf8.acceptRanges", "tithing/expr.table", "tithing/statute.cash", "tithing/check.cash", "tithing/check.days", "tithing/check.plain", "tithing/check.truth", "internal/bytealg.MaxLen"], plainKeys := false, apart := false, laid := [("unicode/utf8.acceptRanges", laid_unicode_utf8_acceptRanges), ("tithing/expr.table", laid_tithing_expr_table), ("tithing/check.truth", laid_tithing_check_truth), ("tithing/check.cash", laid_tithing_check_cash), ("tithing/check.days", laid_tithing_check_days), ("tithing/check.plain", laid_tithing_check_plain), ("tithing/statute.cash", laid_tithing_statute_cash), ("unicode/utf8.first", laid_unicode_utf8_first)] }
def GraphSidesSaid : Prop := graphSidesRow.holds Tryz.pinned (OpenSpec.ofChange graphSidesSpec)

/-- ITS FALSE NEIGHBOUR: 'it returns false'. Refute it at one input. -/
def graphSidesWrong : ChangeSpec := { name := "graphSides", fn := fun _ => fun
  | [d] => { results := [.lit (.bool false)], args := [d] }
  | _ => none }
def GraphSidesWrongFalsely : Prop := graphSidesRow.holds Tryz.pinned (OpenSpec.ofChange graphSidesWrong)

/-- 'tithinglaw15.GraphCaps': WHATEVER THE INPUT: true; the input reads as it did. -/
def graphCapsSpec : ChangeSpec := { name := "graphCaps", fn := fun _ => fun
  | [d1, d2, d3] => { results := [.lit (.bool true)], args := [d1, d2, d3] }
  | _ => none }
def graphCapsRow : OpenClaim := { program := "ytokiomlellclkaagreatdoor", sum := "3e31be29a5772e1b90bf26edfacf3f43f3e420864d8fc8cda1803797fc7f9ee7", func := "tithing/tithinglaw15.GraphCaps", spec := "graphCaps", inPlace := ["internal/bytealg.IndexByteString", "internal/bytealg.IndexString"], unfollowed := true, recurses := true, named := ["unicode/utf8.first", "unicode/utf8.acceptRanges", "tithing/expr.table", "tithing/statute.cash", "tithing/check.cash", "tithing/check.days", "tithing/check.plain", "tithing/check.truth", "internal/bytealg.MaxLen"], plainKeys := false, apart := false, laid := [("unicode/utf8.acceptRanges", laid_unicode_utf8_acceptRanges), ("tithing/expr.table", laid_tithing_expr_table), ("tithing/check.truth", laid_tithing_check_truth), ("tithing/check.cash", laid_tithing_check_cash), ("tithing/check.days", laid_tithing_check_days), ("tithing/check.plain", laid_tithing_check_plain), ("tithing/statute.cash", laid_tithing_statute_cash), ("unicode/utf8.first", laid_unicode_utf8_first)] }
def GraphCapsSaid : Prop := graphCapsRow.holds Tryz.pinned (OpenSpec.ofChange graphCapsSpec)

/-- ITS FALSE NEIGHBOUR: 'it returns false'. Refute it at one input. -/
def graphCapsWrong : ChangeSpec := { name := "graphCaps", fn := fun _ => fun
  | [d1, d2, d3] => { results := [.lit (.bool false)], args := [d1, d2, d3] }
  | _ => none }
def GraphCapsWrongFalsely : Prop := graphCapsRow.holds Tryz.pinned (OpenSpec.ofChange graphCapsWrong)

/-- 'tithinglaw15.GraphLocal': WHATEVER THE INPUT: true; the input reads as it did. -/
def graphLocalSpec : ChangeSpec := { name := "graphLocal", fn := fun _ => fun
  | [d1, d2] => { results := [.lit (.bool true)], args := [d1, d2] }
  | _ => none }
def graphLocalRow : OpenClaim := { program := "ytokiomlellclkaagreatdoor", sum := "3e31be29a5772e1b90bf26edfacf3f43f3e420864d8fc8cda1803797fc7f9ee7", func := "tithing/tithinglaw15.GraphLocal", spec := "graphLocal", inPlace := ["internal/bytealg.IndexByteString", "internal/bytealg.IndexString"], unfollowed := true, recurses := true, named := ["unicode/utf8.first", "unicode/utf8.acceptRanges", "tithing/expr.table", "tithing/statute.cash", "tithing/check.cash", "tithing/check.days", "tithing/check.plain", "tithing/check.truth", "internal/bytealg.MaxLen"], plainKeys := false, apart := false, laid := [("unicode/utf8.acceptRanges", laid_unicode_utf8_acceptRanges), ("tithing/expr.table", laid_tithing_expr_table), ("tithing/check.truth", laid_tithing_check_truth), ("tithing/check.cash", laid_tithing_check_cash), ("tithing/check.days", laid_tithing_check_days), ("tithing/check.plain", laid_tithing_check_plain), ("tithing/statute.cash", laid_tithing_statute_cash), ("unicode/utf8.first", laid_unicode_utf8_first)] }
def GraphLocalSaid : Prop := graphLocalRow.holds Tryz.pinned (OpenSpec.ofChange graphLocalSpec)

/-- ITS FALSE NEIGHBOUR: 'it returns false'. Refute it at one input. -/
def graphLocalWrong : ChangeSpec := { name := "graphLocal", fn := fun _ => fun
  | [d1, d2] => { results := [.lit (.bool false)], args := [d1, d2] }
  | _ => none }
def GraphLocalWrongFalsely : Prop := graphLocalRow.holds Tryz.pinned (OpenSpec.ofChange graphLocalWrong)

/- THE SECOND FORM. 'bulk': how many values and letters a reading holds, each counted each time it is reached (what is shared counts as often as it is met; a slice's spare places count too). A statement '..UptoSaid' is the law's where the arguments, and the package variables that the reading takes, are together of bulk at most 1048576: NARROWER than '..Said'. Prove '..Said' where nothing that the law and all that it calls make is longer than what came in: it says more and counts as full. Else prove '..UptoSaid'. A law counts once. -/
mutual
def uptoBulk {H : Type} : DataW H → Nat
  | .lit (.string bytes) => bytes.length + 1
  | .lit _ => 1
  | .nil => 1
  | .ptr d => uptoBulk d + 1
  | .slice elems spare => uptoBulkAll elems + uptoBulkAll spare + 1
  | .agg parts => uptoBulkAll parts + 1
  | .iface _ d => uptoBulk d + 1
  | .map entries => uptoBulkEntries entries + 1
  | .held _ => 1
def uptoBulkAll {H : Type} : List (DataW H) → Nat
  | [] => 0
  | d :: r => uptoBulk d + uptoBulkAll r
def uptoBulkEntries {H : Type} : List (Lit × DataW H) → Nat
  | [] => 0
  | x :: r => uptoBulkEntry x + uptoBulkEntries r
def uptoBulkEntry {H : Type} : Lit × DataW H → Nat
  | (.string bytes, d) => bytes.length + uptoBulk d + 1
  | (_, d) => uptoBulk d + 1
 end
def uptoSmall : (H : Type) → List (DataW H) → Bool := fun _ ds => decide (uptoBulkAll ds ≤ 1048576)
def OpenSpec.upto (s : _root_.Go.ChangeSpec) : _root_.Go.OpenSpec := { _root_.Go.OpenSpec.ofChange s with cond := some uptoSmall }

/-- 'tithinglaw15.GraphUses', WHERE WHAT IT READS IS OF BULK AT MOST 1048576: true; the input reads as it did. -/
def graphUsesUptoRow : OpenClaim := { program := "ytokiomlellclkaagreatdoor", sum := "3e31be29a5772e1b90bf26edfacf3f43f3e420864d8fc8cda1803797fc7f9ee7", func := "tithing/tithinglaw15.GraphUses", spec := "graphUses", inPlace := ["internal/bytealg.IndexByteString", "internal/bytealg.IndexString"], unfollowed := true, recurses := true, named := ["unicode/utf8.first", "unicode/utf8.acceptRanges", "tithing/expr.table", "tithing/statute.cash", "tithing/check.cash", "tithing/check.days", "tithing/check.plain", "tithing/check.truth", "internal/bytealg.MaxLen"], plainKeys := false, apart := false, laid := [("unicode/utf8.acceptRanges", laid_unicode_utf8_acceptRanges), ("tithing/expr.table", laid_tithing_expr_table), ("tithing/check.truth", laid_tithing_check_truth), ("tithing/check.cash", laid_tithing_check_cash), ("tithing/check.days", laid_tithing_check_days), ("tithing/check.plain", laid_tithing_check_plain), ("tithing/statute.cash", laid_tithing_statute_cash), ("unicode/utf8.first", laid_unicode_utf8_first)], narrowed := true }
def GraphUsesUptoSaid : Prop := graphUsesUptoRow.holds Tryz.pinned (OpenSpec.upto graphUsesSpec)

/-- 'tithinglaw15.GraphSteps', WHERE WHAT IT READS IS OF BULK AT MOST 1048576: true; the input reads as it did. -/
def graphStepsUptoRow : OpenClaim := { program := "ytokiomlellclkaagreatdoor", sum := "3e31be29a5772e1b90bf26edfacf3f43f3e420864d8fc8cda1803797fc7f9ee7", func := "tithing/tithinglaw15.GraphSteps", spec := "graphSteps", inPlace := ["internal/bytealg.IndexByteString", "internal/bytealg.IndexString"], unfollowed := true, recurses := true, named := ["unicode/utf8.first", "unicode/utf8.acceptRanges", "tithing/expr.table", "tithing/statute.cash", "tithing/check.cash", "tithing/check.days", "tithing/check.plain", "tithing/check.truth", "internal/bytealg.MaxLen"], plainKeys := false, apart := false, laid := [("unicode/utf8.acceptRanges", laid_unicode_utf8_acceptRanges), ("tithing/expr.table", laid_tithing_expr_table), ("tithing/check.truth", laid_tithing_check_truth), ("tithing/check.cash", laid_tithing_check_cash), ("tithing/check.days", laid_tithing_check_days), ("tithing/check.plain", laid_tithing_check_plain), ("tithing/statute.cash", laid_tithing_statute_cash), ("unicode/utf8.first", laid_unicode_utf8_first)], narrowed := true }
def GraphStepsUptoSaid : Prop := graphStepsUptoRow.holds Tryz.pinned (OpenSpec.upto graphStepsSpec)

/-- 'tithinglaw15.GraphReach', WHERE WHAT IT READS IS OF BULK AT MOST 1048576: true; the input reads as it did. -/
def graphReachUptoRow : OpenClaim := { program := "ytokiomlellclkaagreatdoor", sum := "3e31be29a5772e1b90bf26edfacf3f43f3e420864d8fc8cda1803797fc7f9ee7", func := "tithing/tithinglaw15.GraphReach", spec := "graphReach", inPlace := ["internal/bytealg.IndexByteString", "internal/bytealg.IndexString"], unfollowed := true, recurses := true, named := ["unicode/utf8.first", "unicode/utf8.acceptRanges", "tithing/expr.table", "tithing/statute.cash", "tithing/check.cash", "tithing/check.days", "tithing/check.plain", "tithing/check.truth", "internal/bytealg.MaxLen"], plainKeys := false, apart := false, laid := [("unicode/utf8.acceptRanges", laid_unicode_utf8_acceptRanges), ("tithing/expr.table", laid_tithing_expr_table), ("tithing/check.truth", laid_tithing_check_truth), ("tithing/check.cash", laid_tithing_check_cash), ("tithing/check.days", laid_tithing_check_days), ("tithing/check.plain", laid_tithing_check_plain), ("tithing/statute.cash", laid_tithing_statute_cash), ("unicode/utf8.first", laid_unicode_utf8_first)], narrowed := true }
def GraphReachUptoSaid : Prop := graphReachUptoRow.holds Tryz.pinned (OpenSpec.upto graphReachSpec)

/-- 'tithinglaw15.GraphAccept', WHERE WHAT IT READS IS OF BULK AT MOST 1048576: true; the input reads as it did. -/
def graphAcceptUptoRow : OpenClaim := { program := "ytokiomlellclkaagreatdoor", sum := "3e31be29a5772e1b90bf26edfacf3f43f3e420864d8fc8cda1803797fc7f9ee7", func := "tithing/tithinglaw15.GraphAccept", spec := "graphAccept", inPlace := ["internal/bytealg.IndexByteString", "internal/bytealg.IndexString"], unfollowed := true, recurses := true, named := ["unicode/utf8.first", "unicode/utf8.acceptRanges", "tithing/expr.table", "tithing/statute.cash", "tithing/check.cash", "tithing/check.days", "tithing/check.plain", "tithing/check.truth", "internal/bytealg.MaxLen"], plainKeys := false, apart := false, laid := [("unicode/utf8.acceptRanges", laid_unicode_utf8_acceptRanges), ("tithing/expr.table", laid_tithing_expr_table), ("tithing/check.truth", laid_tithing_check_truth), ("tithing/check.cash", laid_tithing_check_cash), ("tithing/check.days", laid_tithing_check_days), ("tithing/check.plain", laid_tithing_check_plain), ("tithing/statute.cash", laid_tithing_statute_cash), ("unicode/utf8.first", laid_unicode_utf8_first)], narrowed := true }
def GraphAcceptUptoSaid : Prop := graphAcceptUptoRow.holds Tryz.pinned (OpenSpec.upto graphAcceptSpec)

/-- 'tithinglaw15.GraphOrder', WHERE WHAT IT READS IS OF BULK AT MOST 1048576: true; the input reads as it did. -/
def graphOrderUptoRow : OpenClaim := { program := "ytokiomlellclkaagreatdoor", sum := "3e31be29a5772e1b90bf26edfacf3f43f3e420864d8fc8cda1803797fc7f9ee7", func := "tithing/tithinglaw15.GraphOrder", spec := "graphOrder", inPlace := ["internal/bytealg.IndexByteString", "internal/bytealg.IndexString"], unfollowed := true, recurses := true, named := ["unicode/utf8.first", "unicode/utf8.acceptRanges", "tithing/expr.table", "tithing/statute.cash", "tithing/check.cash", "tithing/check.days", "tithing/check.plain", "tithing/check.truth", "internal/bytealg.MaxLen"], plainKeys := false, apart := false, laid := [("unicode/utf8.acceptRanges", laid_unicode_utf8_acceptRanges), ("tithing/expr.table", laid_tithing_expr_table), ("tithing/check.truth", laid_tithing_check_truth), ("tithing/check.cash", laid_tithing_check_cash), ("tithing/check.days", laid_tithing_check_days), ("tithing/check.plain", laid_tithing_check_plain), ("tithing/statute.cash", laid_tithing_statute_cash), ("unicode/utf8.first", laid_unicode_utf8_first)], narrowed := true }
def GraphOrderUptoSaid : Prop := graphOrderUptoRow.holds Tryz.pinned (OpenSpec.upto graphOrderSpec)

/-- 'tithinglaw15.GraphGroups', WHERE WHAT IT READS IS OF BULK AT MOST 1048576: true; the input reads as it did. -/
def graphGroupsUptoRow : OpenClaim := { program := "ytokiomlellclkaagreatdoor", sum := "3e31be29a5772e1b90bf26edfacf3f43f3e420864d8fc8cda1803797fc7f9ee7", func := "tithing/tithinglaw15.GraphGroups", spec := "graphGroups", inPlace := ["internal/bytealg.IndexByteString", "internal/bytealg.IndexString"], unfollowed := true, recurses := true, named := ["unicode/utf8.first", "unicode/utf8.acceptRanges", "tithing/expr.table", "tithing/statute.cash", "tithing/check.cash", "tithing/check.days", "tithing/check.plain", "tithing/check.truth", "internal/bytealg.MaxLen"], plainKeys := false, apart := false, laid := [("unicode/utf8.acceptRanges", laid_unicode_utf8_acceptRanges), ("tithing/expr.table", laid_tithing_expr_table), ("tithing/check.truth", laid_tithing_check_truth), ("tithing/check.cash", laid_tithing_check_cash), ("tithing/check.days", laid_tithing_check_days), ("tithing/check.plain", laid_tithing_check_plain), ("tithing/statute.cash", laid_tithing_statute_cash), ("unicode/utf8.first", laid_unicode_utf8_first)], narrowed := true }
def GraphGroupsUptoSaid : Prop := graphGroupsUptoRow.holds Tryz.pinned (OpenSpec.upto graphGroupsSpec)

/-- 'tithinglaw15.GraphClosed', WHERE WHAT IT READS IS OF BULK AT MOST 1048576: true; the input reads as it did. -/
def graphClosedUptoRow : OpenClaim := { program := "ytokiomlellclkaagreatdoor", sum := "3e31be29a5772e1b90bf26edfacf3f43f3e420864d8fc8cda1803797fc7f9ee7", func := "tithing/tithinglaw15.GraphClosed", spec := "graphClosed", inPlace := ["internal/bytealg.IndexByteString", "internal/bytealg.IndexString"], unfollowed := true, recurses := true, named := ["unicode/utf8.first", "unicode/utf8.acceptRanges", "tithing/expr.table", "tithing/statute.cash", "tithing/check.cash", "tithing/check.days", "tithing/check.plain", "tithing/check.truth", "internal/bytealg.MaxLen"], plainKeys := false, apart := false, laid := [("unicode/utf8.acceptRanges", laid_unicode_utf8_acceptRanges), ("tithing/expr.table", laid_tithing_expr_table), ("tithing/check.truth", laid_tithing_check_truth), ("tithing/check.cash", laid_tithing_check_cash), ("tithing/check.days", laid_tithing_check_days), ("tithing/check.plain", laid_tithing_check_plain), ("tithing/statute.cash", laid_tithing_statute_cash), ("unicode/utf8.first", laid_unicode_utf8_first)], narrowed := true }
def GraphClosedUptoSaid : Prop := graphClosedUptoRow.holds Tryz.pinned (OpenSpec.upto graphClosedSpec)

/-- 'tithinglaw15.GraphSides', WHERE WHAT IT READS IS OF BULK AT MOST 1048576: true; the input reads as it did. -/
def graphSidesUptoRow : OpenClaim := { program := "ytokiomlellclkaagreatdoor", sum := "3e31be29a5772e1b90bf26edfacf3f43f3e420864d8fc8cda1803797fc7f9ee7", func := "tithing/tithinglaw15.GraphSides", spec := "graphSides", inPlace := ["internal/bytealg.IndexByteString", "internal/bytealg.IndexString"], unfollowed := true, recurses := true, named := ["unicode/utf8.first", "unicode/utf8.acceptRanges", "tithing/expr.table", "tithing/statute.cash", "tithing/check.cash", "tithing/check.days", "tithing/check.plain", "tithing/check.truth", "internal/bytealg.MaxLen"], plainKeys := false, apart := false, laid := [("unicode/utf8.acceptRanges", laid_unicode_utf8_acceptRanges), ("tithing/expr.table", laid_tithing_expr_table), ("tithing/check.truth", laid_tithing_check_truth), ("tithing/check.cash", laid_tithing_check_cash), ("tithing/check.days", laid_tithing_check_days), ("tithing/check.plain", laid_tithing_check_plain), ("tithing/statute.cash", laid_tithing_statute_cash), ("unicode/utf8.first", laid_unicode_utf8_first)], narrowed := true }
def GraphSidesUptoSaid : Prop := graphSidesUptoRow.holds Tryz.pinned (OpenSpec.upto graphSidesSpec)

/-- 'tithinglaw15.GraphCaps', WHERE WHAT IT READS IS OF BULK AT MOST 1048576: true; the input reads as it did. -/
def graphCapsUptoRow : OpenClaim := { program := "ytokiomlellclkaagreatdoor", sum := "3e31be29a5772e1b90bf26edfacf3f43f3e420864d8fc8cda1803797fc7f9ee7", func := "tithing/tithinglaw15.GraphCaps", spec := "graphCaps", inPlace := ["internal/bytealg.IndexByteString", "internal/bytealg.IndexString"], unfollowed := true, recurses := true, named := ["unicode/utf8.first", "unicode/utf8.acceptRanges", "tithing/expr.table", "tithing/statute.cash", "tithing/check.cash", "tithing/check.days", "tithing/check.plain", "tithing/check.truth", "internal/bytealg.MaxLen"], plainKeys := false, apart := false, laid := [("unicode/utf8.acceptRanges", laid_unicode_utf8_acceptRanges), ("tithing/expr.table", laid_tithing_expr_table), ("tithing/check.truth", laid_tithing_check_truth), ("tithing/check.cash", laid_tithing_check_cash), ("tithing/check.days", laid_tithing_check_days), ("tithing/check.plain", laid_tithing_check_plain), ("tithing/statute.cash", laid_tithing_statute_cash), ("unicode/utf8.first", laid_unicode_utf8_first)], narrowed := true }
def GraphCapsUptoSaid : Prop := graphCapsUptoRow.holds Tryz.pinned (OpenSpec.upto graphCapsSpec)

/-- 'tithinglaw15.GraphLocal', WHERE WHAT IT READS IS OF BULK AT MOST 1048576: true; the input reads as it did. -/
def graphLocalUptoRow : OpenClaim := { program := "ytokiomlellclkaagreatdoor", sum := "3e31be29a5772e1b90bf26edfacf3f43f3e420864d8fc8cda1803797fc7f9ee7", func := "tithing/tithinglaw15.GraphLocal", spec := "graphLocal", inPlace := ["internal/bytealg.IndexByteString", "internal/bytealg.IndexString"], unfollowed := true, recurses := true, named := ["unicode/utf8.first", "unicode/utf8.acceptRanges", "tithing/expr.table", "tithing/statute.cash", "tithing/check.cash", "tithing/check.days", "tithing/check.plain", "tithing/check.truth", "internal/bytealg.MaxLen"], plainKeys := false, apart := false, laid := [("unicode/utf8.acceptRanges", laid_unicode_utf8_acceptRanges), ("tithing/expr.table", laid_tithing_expr_table), ("tithing/check.truth", laid_tithing_check_truth), ("tithing/check.cash", laid_tithing_check_cash), ("tithing/check.days", laid_tithing_check_days), ("tithing/check.plain", laid_tithing_check_plain), ("tithing/statute.cash", laid_tithing_statute_cash), ("unicode/utf8.first", laid_unicode_utf8_first)], narrowed := true }
def GraphLocalUptoSaid : Prop := graphLocalUptoRow.holds Tryz.pinned (OpenSpec.upto graphLocalSpec)

end Rows
end Go.Proofs.YtokiomlellclkaaGreatDoor
