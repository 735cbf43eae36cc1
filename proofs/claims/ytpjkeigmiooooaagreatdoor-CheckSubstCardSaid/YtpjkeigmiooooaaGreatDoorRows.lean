/-
  NARROWER THAN 'FOR EVERY INPUT', by the rows' own cells (each row's printed sentence says how): CheckRaw: laid · CheckMade: laid · CheckBroken: laid · CheckUnits: laid · CheckOperators: laid · CheckParts: laid · CheckSigs: laid · CheckSubst: laid.
  DERIVED. THE GIVEN ROWS OF THIS SEAT. 8 by the template 'for every input the law returns true; each argument reads behind the call as it read before'; 0 by the template 'total and deterministic' (their statements: YtpjkeigmiooooaaGreatDoorTotals.lean).
  GIVEN WITH THE SEED: the statements are not yours to turn. If you find one false, say at which input.
  Laid BY PROGRAM, IN A SANDBOX (cutbox-rows.mjs): the forced cells as the released guide's own fill.sh prints them over the translation 81ee8d623bcba874… (all of the seat's roots in one cut). By AI agents, Wed Nov 11 2026. No macro, syntax, notation, axiom, sorry.
-/
import Derived.Test.YtpjkeigmiooooaaGreatDoorChecked
import GoSem.PinnedTables
import GoSem.Claim
import GoSem.ClaimJoined
import GoSem.ClaimMapViews
import Derived.JoinedTies
import Derived.KernelRfl
namespace Go.Proofs.YtpjkeigmiooooaaGreatDoor
/- THE CELL 'sum', in the pinned program and in every row, IS THE sha256 OF THE DUMP (.gsa) THAT YtpjkeigmiooooaaGreatDoorProg.lean LOADS. Nothing in Lean hashes anything: it is a label: what it is worth is what the hold of that sum in a sandbox is worth. -/
noncomputable def Tryz.pinned : Pinned := { name := "ytpjkeigmiooooaagreatdoor", sum := "81ee8d623bcba8747dc001fac91e98c8dcd4b1945dfc951e7b61f076dc206341", checked := Tryz.checked }
namespace Rows
def none {H : Type} : Left H := { results := [], args := [] }

/- WHAT THE LISTED PACKAGE-LEVEL VARIABLES READ AS WHEN THE CALL BEGINS. Each datum BY PROGRAM (the guide's laid-datum.mjs) off the statement by which the dump's own 'gosem.cut.vars' lays the variable. In a bare row this is a premise. The card (YtpjkeigmiooooaaGreatDoorCards.lean) ties it to the program's text. -/
def laid_unicode_utf8_acceptRanges {H : Type} : DataW H := .agg [.agg [.lit (.int .u8 128), .lit (.int .u8 191)], .agg [.lit (.int .u8 160), .lit (.int .u8 191)], .agg [.lit (.int .u8 128), .lit (.int .u8 159)], .agg [.lit (.int .u8 144), .lit (.int .u8 191)], .agg [.lit (.int .u8 128), .lit (.int .u8 143)], .agg [.lit (.int .u8 0), .lit (.int .u8 0)], .agg [.lit (.int .u8 0), .lit (.int .u8 0)], .agg [.lit (.int .u8 0), .lit (.int .u8 0)], .agg [.lit (.int .u8 0), .lit (.int .u8 0)], .agg [.lit (.int .u8 0), .lit (.int .u8 0)], .agg [.lit (.int .u8 0), .lit (.int .u8 0)], .agg [.lit (.int .u8 0), .lit (.int .u8 0)], .agg [.lit (.int .u8 0), .lit (.int .u8 0)], .agg [.lit (.int .u8 0), .lit (.int .u8 0)], .agg [.lit (.int .u8 0), .lit (.int .u8 0)], .agg [.lit (.int .u8 0), .lit (.int .u8 0)]]
def laid_tithing_expr_table {H : Type} : DataW H := .agg [.agg [.lit (.string []), .lit (.int .i64 0), .lit (.bool false), .lit (.bool false), .lit (.bool false)], .agg [.lit (.string [36]), .lit (.int .i64 0), .lit (.bool true), .lit (.bool false), .lit (.bool false)], .agg [.lit (.string []), .lit (.int .i64 0), .lit (.bool true), .lit (.bool false), .lit (.bool false)], .agg [.lit (.string []), .lit (.int .i64 0), .lit (.bool true), .lit (.bool false), .lit (.bool false)], .agg [.lit (.string []), .lit (.int .i64 0), .lit (.bool true), .lit (.bool false), .lit (.bool false)], .agg [.lit (.string [102, 97, 99, 116, 46]), .lit (.int .i64 0), .lit (.bool false), .lit (.bool true), .lit (.bool false)], .agg [.lit (.string [111, 119, 110, 46]), .lit (.int .i64 0), .lit (.bool false), .lit (.bool true), .lit (.bool false)], .agg [.lit (.string [112, 114, 105, 111, 114, 46]), .lit (.int .i64 0), .lit (.bool false), .lit (.bool true), .lit (.bool false)], .agg [.lit (.string [115, 112, 111, 117, 115, 101, 46]), .lit (.int .i64 0), .lit (.bool false), .lit (.bool true), .lit (.bool false)], .agg [.lit (.string [97, 100, 100]), .lit (.int .i64 2), .lit (.bool false), .lit (.bool false), .lit (.bool false)], .agg [.lit (.string [115, 117, 98]), .lit (.int .i64 2), .lit (.bool false), .lit (.bool false), .lit (.bool false)], .agg [.lit (.string [109, 117, 108]), .lit (.int .i64 2), .lit (.bool false), .lit (.bool false), .lit (.bool false)], .agg [.lit (.string [100, 105, 118]), .lit (.int .i64 2), .lit (.bool false), .lit (.bool false), .lit (.bool false)], .agg [.lit (.string [109, 105, 110]), .lit (.int .i64 2), .lit (.bool false), .lit (.bool false), .lit (.bool false)], .agg [.lit (.string [109, 97, 120]), .lit (.int .i64 2), .lit (.bool false), .lit (.bool false), .lit (.bool false)], .agg [.lit (.string [105, 102]), .lit (.int .i64 3), .lit (.bool false), .lit (.bool false), .lit (.bool false)], .agg [.lit (.string [108, 101, 115, 115]), .lit (.int .i64 2), .lit (.bool false), .lit (.bool false), .lit (.bool false)], .agg [.lit (.string [101, 113, 117, 97, 108]), .lit (.int .i64 2), .lit (.bool false), .lit (.bool false), .lit (.bool false)], .agg [.lit (.string [97, 110, 100]), .lit (.int .i64 2), .lit (.bool false), .lit (.bool false), .lit (.bool false)], .agg [.lit (.string [111, 114]), .lit (.int .i64 2), .lit (.bool false), .lit (.bool false), .lit (.bool false)], .agg [.lit (.string [110, 111, 116]), .lit (.int .i64 1), .lit (.bool false), .lit (.bool false), .lit (.bool false)], .agg [.lit (.string [100, 111, 119, 110]), .lit (.int .i64 1), .lit (.bool false), .lit (.bool false), .lit (.bool true)], .agg [.lit (.string [117, 112]), .lit (.int .i64 1), .lit (.bool false), .lit (.bool false), .lit (.bool true)], .agg [.lit (.string [110, 101, 97, 114]), .lit (.int .i64 1), .lit (.bool false), .lit (.bool false), .lit (.bool true)], .agg [.lit (.string [114, 97, 116, 101, 46]), .lit (.int .i64 1), .lit (.bool false), .lit (.bool true), .lit (.bool false)]]
def laid_tithing_check_truth {H : Type} : DataW H := .agg [.lit (.bool true), .agg [.lit (.int .i64 0), .lit (.int .i64 0)]]
def laid_tithing_check_cash {H : Type} : DataW H := .agg [.lit (.bool false), .agg [.lit (.int .i64 1), .lit (.int .i64 0)]]
def laid_tithing_check_days {H : Type} : DataW H := .agg [.lit (.bool false), .agg [.lit (.int .i64 0), .lit (.int .i64 1)]]
def laid_tithing_check_plain {H : Type} : DataW H := .agg [.lit (.bool false), .agg [.lit (.int .i64 0), .lit (.int .i64 0)]]
/-- One of Go's own tables, pinned by name: the form's constant. -/
def laid_unicode_utf8_first : DataW Unit := Go.Pinned.utf8First

/-- 'tithinglaw08.CheckRaw': WHATEVER THE INPUT: true; the input reads as it did. -/
def checkRawSpec : ChangeSpec := { name := "checkRaw", fn := fun _ => fun
  | [d1, d2] => { results := [.lit (.bool true)], args := [d1, d2] }
  | _ => none }
def checkRawRow : OpenClaim := { program := "ytpjkeigmiooooaagreatdoor", sum := "81ee8d623bcba8747dc001fac91e98c8dcd4b1945dfc951e7b61f076dc206341", func := "tithing/tithinglaw08.CheckRaw", spec := "checkRaw", inPlace := ["internal/bytealg.IndexByteString", "internal/bytealg.IndexString"], unfollowed := true, recurses := true, named := ["tithing/expr.table", "unicode/utf8.first", "unicode/utf8.acceptRanges", "tithing/check.cash", "tithing/check.days", "tithing/check.plain", "tithing/check.truth", "internal/bytealg.MaxLen"], apart := false, laid := [("unicode/utf8.acceptRanges", laid_unicode_utf8_acceptRanges), ("tithing/expr.table", laid_tithing_expr_table), ("tithing/check.truth", laid_tithing_check_truth), ("tithing/check.cash", laid_tithing_check_cash), ("tithing/check.days", laid_tithing_check_days), ("tithing/check.plain", laid_tithing_check_plain), ("unicode/utf8.first", laid_unicode_utf8_first)] }
def CheckRawSaid : Prop := checkRawRow.holds Tryz.pinned (OpenSpec.ofChange checkRawSpec)

/-- ITS FALSE NEIGHBOUR: 'it returns false'. Refute it at one input. -/
def checkRawWrong : ChangeSpec := { name := "checkRaw", fn := fun _ => fun
  | [d1, d2] => { results := [.lit (.bool false)], args := [d1, d2] }
  | _ => none }
def CheckRawWrongFalsely : Prop := checkRawRow.holds Tryz.pinned (OpenSpec.ofChange checkRawWrong)

/-- 'tithinglaw08.CheckMade': WHATEVER THE INPUT: true; the input reads as it did. -/
def checkMadeSpec : ChangeSpec := { name := "checkMade", fn := fun _ => fun
  | [d1, d2] => { results := [.lit (.bool true)], args := [d1, d2] }
  | _ => none }
def checkMadeRow : OpenClaim := { program := "ytpjkeigmiooooaagreatdoor", sum := "81ee8d623bcba8747dc001fac91e98c8dcd4b1945dfc951e7b61f076dc206341", func := "tithing/tithinglaw08.CheckMade", spec := "checkMade", inPlace := ["internal/bytealg.IndexByteString", "internal/bytealg.IndexString"], unfollowed := true, recurses := true, named := ["tithing/expr.table", "unicode/utf8.first", "unicode/utf8.acceptRanges", "tithing/check.cash", "tithing/check.days", "tithing/check.plain", "tithing/check.truth", "internal/bytealg.MaxLen"], apart := false, laid := [("unicode/utf8.acceptRanges", laid_unicode_utf8_acceptRanges), ("tithing/expr.table", laid_tithing_expr_table), ("tithing/check.truth", laid_tithing_check_truth), ("tithing/check.cash", laid_tithing_check_cash), ("tithing/check.days", laid_tithing_check_days), ("tithing/check.plain", laid_tithing_check_plain), ("unicode/utf8.first", laid_unicode_utf8_first)] }
def CheckMadeSaid : Prop := checkMadeRow.holds Tryz.pinned (OpenSpec.ofChange checkMadeSpec)

/-- ITS FALSE NEIGHBOUR: 'it returns false'. Refute it at one input. -/
def checkMadeWrong : ChangeSpec := { name := "checkMade", fn := fun _ => fun
  | [d1, d2] => { results := [.lit (.bool false)], args := [d1, d2] }
  | _ => none }
def CheckMadeWrongFalsely : Prop := checkMadeRow.holds Tryz.pinned (OpenSpec.ofChange checkMadeWrong)

/-- 'tithinglaw08.CheckBroken': WHATEVER THE INPUT: true; the input reads as it did. -/
def checkBrokenSpec : ChangeSpec := { name := "checkBroken", fn := fun _ => fun
  | [d1, d2, d3] => { results := [.lit (.bool true)], args := [d1, d2, d3] }
  | _ => none }
def checkBrokenRow : OpenClaim := { program := "ytpjkeigmiooooaagreatdoor", sum := "81ee8d623bcba8747dc001fac91e98c8dcd4b1945dfc951e7b61f076dc206341", func := "tithing/tithinglaw08.CheckBroken", spec := "checkBroken", inPlace := ["internal/bytealg.IndexByteString", "internal/bytealg.IndexString"], unfollowed := true, recurses := true, named := ["tithing/expr.table", "unicode/utf8.first", "unicode/utf8.acceptRanges", "tithing/check.cash", "tithing/check.days", "tithing/check.plain", "tithing/check.truth", "internal/bytealg.MaxLen"], apart := false, laid := [("unicode/utf8.acceptRanges", laid_unicode_utf8_acceptRanges), ("tithing/expr.table", laid_tithing_expr_table), ("tithing/check.truth", laid_tithing_check_truth), ("tithing/check.cash", laid_tithing_check_cash), ("tithing/check.days", laid_tithing_check_days), ("tithing/check.plain", laid_tithing_check_plain), ("unicode/utf8.first", laid_unicode_utf8_first)] }
def CheckBrokenSaid : Prop := checkBrokenRow.holds Tryz.pinned (OpenSpec.ofChange checkBrokenSpec)

/-- ITS FALSE NEIGHBOUR: 'it returns false'. Refute it at one input. -/
def checkBrokenWrong : ChangeSpec := { name := "checkBroken", fn := fun _ => fun
  | [d1, d2, d3] => { results := [.lit (.bool false)], args := [d1, d2, d3] }
  | _ => none }
def CheckBrokenWrongFalsely : Prop := checkBrokenRow.holds Tryz.pinned (OpenSpec.ofChange checkBrokenWrong)

/-- 'tithinglaw08.CheckUnits': WHATEVER THE INPUT: true; the input reads as it did. -/
def checkUnitsSpec : ChangeSpec := { name := "checkUnits", fn := fun _ => fun
  | [d1, d2, d3] => { results := [.lit (.bool true)], args := [d1, d2, d3] }
  | _ => none }
def checkUnitsRow : OpenClaim := { program := "ytpjkeigmiooooaagreatdoor", sum := "81ee8d623bcba8747dc001fac91e98c8dcd4b1945dfc951e7b61f076dc206341", func := "tithing/tithinglaw08.CheckUnits", spec := "checkUnits", inPlace := ["internal/bytealg.IndexByteString", "internal/bytealg.IndexString"], unfollowed := true, recurses := true, named := ["tithing/expr.table", "unicode/utf8.first", "unicode/utf8.acceptRanges", "tithing/check.cash", "tithing/check.days", "tithing/check.plain", "tithing/check.truth", "internal/bytealg.MaxLen"], apart := false, laid := [("unicode/utf8.acceptRanges", laid_unicode_utf8_acceptRanges), ("tithing/expr.table", laid_tithing_expr_table), ("tithing/check.truth", laid_tithing_check_truth), ("tithing/check.cash", laid_tithing_check_cash), ("tithing/check.days", laid_tithing_check_days), ("tithing/check.plain", laid_tithing_check_plain), ("unicode/utf8.first", laid_unicode_utf8_first)] }
def CheckUnitsSaid : Prop := checkUnitsRow.holds Tryz.pinned (OpenSpec.ofChange checkUnitsSpec)

/-- ITS FALSE NEIGHBOUR: 'it returns false'. Refute it at one input. -/
def checkUnitsWrong : ChangeSpec := { name := "checkUnits", fn := fun _ => fun
  | [d1, d2, d3] => { results := [.lit (.bool false)], args := [d1, d2, d3] }
  | _ => none }
def CheckUnitsWrongFalsely : Prop := checkUnitsRow.holds Tryz.pinned (OpenSpec.ofChange checkUnitsWrong)

/-- 'tithinglaw08.CheckOperators': WHATEVER THE INPUT: true; the input reads as it did. -/
def checkOperatorsSpec : ChangeSpec := { name := "checkOperators", fn := fun _ => fun
  | [d1, d2] => { results := [.lit (.bool true)], args := [d1, d2] }
  | _ => none }
def checkOperatorsRow : OpenClaim := { program := "ytpjkeigmiooooaagreatdoor", sum := "81ee8d623bcba8747dc001fac91e98c8dcd4b1945dfc951e7b61f076dc206341", func := "tithing/tithinglaw08.CheckOperators", spec := "checkOperators", inPlace := ["internal/bytealg.IndexByteString", "internal/bytealg.IndexString"], unfollowed := true, recurses := true, named := ["tithing/expr.table", "unicode/utf8.first", "unicode/utf8.acceptRanges", "tithing/check.cash", "tithing/check.days", "tithing/check.plain", "tithing/check.truth", "internal/bytealg.MaxLen"], apart := false, laid := [("unicode/utf8.acceptRanges", laid_unicode_utf8_acceptRanges), ("tithing/expr.table", laid_tithing_expr_table), ("tithing/check.truth", laid_tithing_check_truth), ("tithing/check.cash", laid_tithing_check_cash), ("tithing/check.days", laid_tithing_check_days), ("tithing/check.plain", laid_tithing_check_plain), ("unicode/utf8.first", laid_unicode_utf8_first)] }
def CheckOperatorsSaid : Prop := checkOperatorsRow.holds Tryz.pinned (OpenSpec.ofChange checkOperatorsSpec)

/-- ITS FALSE NEIGHBOUR: 'it returns false'. Refute it at one input. -/
def checkOperatorsWrong : ChangeSpec := { name := "checkOperators", fn := fun _ => fun
  | [d1, d2] => { results := [.lit (.bool false)], args := [d1, d2] }
  | _ => none }
def CheckOperatorsWrongFalsely : Prop := checkOperatorsRow.holds Tryz.pinned (OpenSpec.ofChange checkOperatorsWrong)

/-- 'tithinglaw08.CheckParts': WHATEVER THE INPUT: true; the input reads as it did. -/
def checkPartsSpec : ChangeSpec := { name := "checkParts", fn := fun _ => fun
  | [d1, d2] => { results := [.lit (.bool true)], args := [d1, d2] }
  | _ => none }
def checkPartsRow : OpenClaim := { program := "ytpjkeigmiooooaagreatdoor", sum := "81ee8d623bcba8747dc001fac91e98c8dcd4b1945dfc951e7b61f076dc206341", func := "tithing/tithinglaw08.CheckParts", spec := "checkParts", inPlace := ["internal/bytealg.IndexByteString", "internal/bytealg.IndexString"], unfollowed := true, recurses := true, named := ["tithing/expr.table", "unicode/utf8.first", "unicode/utf8.acceptRanges", "tithing/check.cash", "tithing/check.days", "tithing/check.plain", "tithing/check.truth", "internal/bytealg.MaxLen"], apart := false, laid := [("unicode/utf8.acceptRanges", laid_unicode_utf8_acceptRanges), ("tithing/expr.table", laid_tithing_expr_table), ("tithing/check.truth", laid_tithing_check_truth), ("tithing/check.cash", laid_tithing_check_cash), ("tithing/check.days", laid_tithing_check_days), ("tithing/check.plain", laid_tithing_check_plain), ("unicode/utf8.first", laid_unicode_utf8_first)] }
def CheckPartsSaid : Prop := checkPartsRow.holds Tryz.pinned (OpenSpec.ofChange checkPartsSpec)

/-- ITS FALSE NEIGHBOUR: 'it returns false'. Refute it at one input. -/
def checkPartsWrong : ChangeSpec := { name := "checkParts", fn := fun _ => fun
  | [d1, d2] => { results := [.lit (.bool false)], args := [d1, d2] }
  | _ => none }
def CheckPartsWrongFalsely : Prop := checkPartsRow.holds Tryz.pinned (OpenSpec.ofChange checkPartsWrong)

/-- 'tithinglaw08.CheckSigs': WHATEVER THE INPUT: true; the input reads as it did. -/
def checkSigsSpec : ChangeSpec := { name := "checkSigs", fn := fun _ => fun
  | [d1, d2, d3] => { results := [.lit (.bool true)], args := [d1, d2, d3] }
  | _ => none }
def checkSigsRow : OpenClaim := { program := "ytpjkeigmiooooaagreatdoor", sum := "81ee8d623bcba8747dc001fac91e98c8dcd4b1945dfc951e7b61f076dc206341", func := "tithing/tithinglaw08.CheckSigs", spec := "checkSigs", inPlace := ["internal/bytealg.IndexByteString", "internal/bytealg.IndexString"], unfollowed := true, recurses := true, named := ["tithing/expr.table", "unicode/utf8.first", "unicode/utf8.acceptRanges", "tithing/check.cash", "tithing/check.days", "tithing/check.plain", "tithing/check.truth", "internal/bytealg.MaxLen"], apart := false, laid := [("unicode/utf8.acceptRanges", laid_unicode_utf8_acceptRanges), ("tithing/expr.table", laid_tithing_expr_table), ("tithing/check.truth", laid_tithing_check_truth), ("tithing/check.cash", laid_tithing_check_cash), ("tithing/check.days", laid_tithing_check_days), ("tithing/check.plain", laid_tithing_check_plain), ("unicode/utf8.first", laid_unicode_utf8_first)] }
def CheckSigsSaid : Prop := checkSigsRow.holds Tryz.pinned (OpenSpec.ofChange checkSigsSpec)

/-- ITS FALSE NEIGHBOUR: 'it returns false'. Refute it at one input. -/
def checkSigsWrong : ChangeSpec := { name := "checkSigs", fn := fun _ => fun
  | [d1, d2, d3] => { results := [.lit (.bool false)], args := [d1, d2, d3] }
  | _ => none }
def CheckSigsWrongFalsely : Prop := checkSigsRow.holds Tryz.pinned (OpenSpec.ofChange checkSigsWrong)

/-- 'tithinglaw08.CheckSubst': WHATEVER THE INPUT: true; the input reads as it did. -/
def checkSubstSpec : ChangeSpec := { name := "checkSubst", fn := fun _ => fun
  | [d1, d2, d3] => { results := [.lit (.bool true)], args := [d1, d2, d3] }
  | _ => none }
def checkSubstRow : OpenClaim := { program := "ytpjkeigmiooooaagreatdoor", sum := "81ee8d623bcba8747dc001fac91e98c8dcd4b1945dfc951e7b61f076dc206341", func := "tithing/tithinglaw08.CheckSubst", spec := "checkSubst", inPlace := ["internal/bytealg.IndexByteString", "internal/bytealg.IndexString"], unfollowed := true, recurses := true, named := ["tithing/expr.table", "unicode/utf8.first", "unicode/utf8.acceptRanges", "tithing/check.cash", "tithing/check.days", "tithing/check.plain", "tithing/check.truth", "internal/bytealg.MaxLen"], apart := false, laid := [("unicode/utf8.acceptRanges", laid_unicode_utf8_acceptRanges), ("tithing/expr.table", laid_tithing_expr_table), ("tithing/check.truth", laid_tithing_check_truth), ("tithing/check.cash", laid_tithing_check_cash), ("tithing/check.days", laid_tithing_check_days), ("tithing/check.plain", laid_tithing_check_plain), ("unicode/utf8.first", laid_unicode_utf8_first)] }
def CheckSubstSaid : Prop := checkSubstRow.holds Tryz.pinned (OpenSpec.ofChange checkSubstSpec)

/-- ITS FALSE NEIGHBOUR: 'it returns false'. Refute it at one input. -/
def checkSubstWrong : ChangeSpec := { name := "checkSubst", fn := fun _ => fun
  | [d1, d2, d3] => { results := [.lit (.bool false)], args := [d1, d2, d3] }
  | _ => none }
def CheckSubstWrongFalsely : Prop := checkSubstRow.holds Tryz.pinned (OpenSpec.ofChange checkSubstWrong)

/- THE SECOND FORM. 'bulk': how many values and letters a reading holds, each counted each time it is reached (what is shared counts as often as it is met; a slice's spare places count too). A statement '..UptoSaid' is the law's where the arguments, and the package variables that the reading takes, are together of bulk at most 1048576: NARROWER than '..Said'. Prove '..Said' where nothing that the law and all that it calls make is longer than what came in: it says more and counts as full. Else prove '..UptoSaid'. A law counts once. -/
mutual
def uptoBulk {H : Type} : DataW H → Nat
  | .lit (.string bytes) => bytes.length + 1
  | .lit _ => 1
  | .nil => 1
  | .ptr d => uptoBulk d + 1
  | .slice elems spare => uptoBulkAll elems + uptoBulkAll spare + 1
  | .agg parts => uptoBulkAll parts + 1
  | .iface _ d => uptoBulk d + 1
  | .map entries => uptoBulkEntries entries + 1
  | .held _ => 1
def uptoBulkAll {H : Type} : List (DataW H) → Nat
  | [] => 0
  | d :: r => uptoBulk d + uptoBulkAll r
def uptoBulkEntries {H : Type} : List (Lit × DataW H) → Nat
  | [] => 0
  | x :: r => uptoBulkEntry x + uptoBulkEntries r
def uptoBulkEntry {H : Type} : Lit × DataW H → Nat
  | (.string bytes, d) => bytes.length + uptoBulk d + 1
  | (_, d) => uptoBulk d + 1
 end
def uptoSmall : (H : Type) → List (DataW H) → Bool := fun _ ds => decide (uptoBulkAll ds ≤ 1048576)
def OpenSpec.upto (s : _root_.Go.ChangeSpec) : _root_.Go.OpenSpec := { _root_.Go.OpenSpec.ofChange s with cond := some uptoSmall }

/-- 'tithinglaw08.CheckRaw', WHERE WHAT IT READS IS OF BULK AT MOST 1048576: true; the input reads as it did. -/
def checkRawUptoRow : OpenClaim := { program := "ytpjkeigmiooooaagreatdoor", sum := "81ee8d623bcba8747dc001fac91e98c8dcd4b1945dfc951e7b61f076dc206341", func := "tithing/tithinglaw08.CheckRaw", spec := "checkRaw", inPlace := ["internal/bytealg.IndexByteString", "internal/bytealg.IndexString"], unfollowed := true, recurses := true, named := ["tithing/expr.table", "unicode/utf8.first", "unicode/utf8.acceptRanges", "tithing/check.cash", "tithing/check.days", "tithing/check.plain", "tithing/check.truth", "internal/bytealg.MaxLen"], apart := false, laid := [("unicode/utf8.acceptRanges", laid_unicode_utf8_acceptRanges), ("tithing/expr.table", laid_tithing_expr_table), ("tithing/check.truth", laid_tithing_check_truth), ("tithing/check.cash", laid_tithing_check_cash), ("tithing/check.days", laid_tithing_check_days), ("tithing/check.plain", laid_tithing_check_plain), ("unicode/utf8.first", laid_unicode_utf8_first)], narrowed := true }
def CheckRawUptoSaid : Prop := checkRawUptoRow.holds Tryz.pinned (OpenSpec.upto checkRawSpec)

/-- 'tithinglaw08.CheckMade', WHERE WHAT IT READS IS OF BULK AT MOST 1048576: true; the input reads as it did. -/
def checkMadeUptoRow : OpenClaim := { program := "ytpjkeigmiooooaagreatdoor", sum := "81ee8d623bcba8747dc001fac91e98c8dcd4b1945dfc951e7b61f076dc206341", func := "tithing/tithinglaw08.CheckMade", spec := "checkMade", inPlace := ["internal/bytealg.IndexByteString", "internal/bytealg.IndexString"], unfollowed := true, recurses := true, named := ["tithing/expr.table", "unicode/utf8.first", "unicode/utf8.acceptRanges", "tithing/check.cash", "tithing/check.days", "tithing/check.plain", "tithing/check.truth", "internal/bytealg.MaxLen"], apart := false, laid := [("unicode/utf8.acceptRanges", laid_unicode_utf8_acceptRanges), ("tithing/expr.table", laid_tithing_expr_table), ("tithing/check.truth", laid_tithing_check_truth), ("tithing/check.cash", laid_tithing_check_cash), ("tithing/check.days", laid_tithing_check_days), ("tithing/check.plain", laid_tithing_check_plain), ("unicode/utf8.first", laid_unicode_utf8_first)], narrowed := true }
def CheckMadeUptoSaid : Prop := checkMadeUptoRow.holds Tryz.pinned (OpenSpec.upto checkMadeSpec)

/-- 'tithinglaw08.CheckBroken', WHERE WHAT IT READS IS OF BULK AT MOST 1048576: true; the input reads as it did. -/
def checkBrokenUptoRow : OpenClaim := { program := "ytpjkeigmiooooaagreatdoor", sum := "81ee8d623bcba8747dc001fac91e98c8dcd4b1945dfc951e7b61f076dc206341", func := "tithing/tithinglaw08.CheckBroken", spec := "checkBroken", inPlace := ["internal/bytealg.IndexByteString", "internal/bytealg.IndexString"], unfollowed := true, recurses := true, named := ["tithing/expr.table", "unicode/utf8.first", "unicode/utf8.acceptRanges", "tithing/check.cash", "tithing/check.days", "tithing/check.plain", "tithing/check.truth", "internal/bytealg.MaxLen"], apart := false, laid := [("unicode/utf8.acceptRanges", laid_unicode_utf8_acceptRanges), ("tithing/expr.table", laid_tithing_expr_table), ("tithing/check.truth", laid_tithing_check_truth), ("tithing/check.cash", laid_tithing_check_cash), ("tithing/check.days", laid_tithing_check_days), ("tithing/check.plain", laid_tithing_check_plain), ("unicode/utf8.first", laid_unicode_utf8_first)], narrowed := true }
def CheckBrokenUptoSaid : Prop := checkBrokenUptoRow.holds Tryz.pinned (OpenSpec.upto checkBrokenSpec)

/-- 'tithinglaw08.CheckUnits', WHERE WHAT IT READS IS OF BULK AT MOST 1048576: true; the input reads as it did. -/
def checkUnitsUptoRow : OpenClaim := { program := "ytpjkeigmiooooaagreatdoor", sum := "81ee8d623bcba8747dc001fac91e98c8dcd4b1945dfc951e7b61f076dc206341", func := "tithing/tithinglaw08.CheckUnits", spec := "checkUnits", inPlace := ["internal/bytealg.IndexByteString", "internal/bytealg.IndexString"], unfollowed := true, recurses := true, named := ["tithing/expr.table", "unicode/utf8.first", "unicode/utf8.acceptRanges", "tithing/check.cash", "tithing/check.days", "tithing/check.plain", "tithing/check.truth", "internal/bytealg.MaxLen"], apart := false, laid := [("unicode/utf8.acceptRanges", laid_unicode_utf8_acceptRanges), ("tithing/expr.table", laid_tithing_expr_table), ("tithing/check.truth", laid_tithing_check_truth), ("tithing/check.cash", laid_tithing_check_cash), ("tithing/check.days", laid_tithing_check_days), ("tithing/check.plain", laid_tithing_check_plain), ("unicode/utf8.first", laid_unicode_utf8_first)], narrowed := true }
def CheckUnitsUptoSaid : Prop := checkUnitsUptoRow.holds Tryz.pinned (OpenSpec.upto checkUnitsSpec)

/-- 'tithinglaw08.CheckOperators', WHERE WHAT IT READS IS OF BULK AT MOST 1048576: true; the input reads as it did. -/
def checkOperatorsUptoRow : OpenClaim := { program := "ytpjkeigmiooooaagreatdoor", sum := "81ee8d623bcba8747dc001fac91e98c8dcd4b1945dfc951e7b61f076dc206341", func := "tithing/tithinglaw08.CheckOperators", spec := "checkOperators", inPlace := ["internal/bytealg.IndexByteString", "internal/bytealg.IndexString"], unfollowed := true, recurses := true, named := ["tithing/expr.table", "unicode/utf8.first", "unicode/utf8.acceptRanges", "tithing/check.cash", "tithing/check.days", "tithing/check.plain", "tithing/check.truth", "internal/bytealg.MaxLen"], apart := false, laid := [("unicode/utf8.acceptRanges", laid_unicode_utf8_acceptRanges), ("tithing/expr.table", laid_tithing_expr_table), ("tithing/check.truth", laid_tithing_check_truth), ("tithing/check.cash", laid_tithing_check_cash), ("tithing/check.days", laid_tithing_check_days), ("tithing/check.plain", laid_tithing_check_plain), ("unicode/utf8.first", laid_unicode_utf8_first)], narrowed := true }
def CheckOperatorsUptoSaid : Prop := checkOperatorsUptoRow.holds Tryz.pinned (OpenSpec.upto checkOperatorsSpec)

/-- 'tithinglaw08.CheckParts', WHERE WHAT IT READS IS OF BULK AT MOST 1048576: true; the input reads as it did. -/
def checkPartsUptoRow : OpenClaim := { program := "ytpjkeigmiooooaagreatdoor", sum := "81ee8d623bcba8747dc001fac91e98c8dcd4b1945dfc951e7b61f076dc206341", func := "tithing/tithinglaw08.CheckParts", spec := "checkParts", inPlace := ["internal/bytealg.IndexByteString", "internal/bytealg.IndexString"], unfollowed := true, recurses := true, named := ["tithing/expr.table", "unicode/utf8.first", "unicode/utf8.acceptRanges", "tithing/check.cash", "tithing/check.days", "tithing/check.plain", "tithing/check.truth", "internal/bytealg.MaxLen"], apart := false, laid := [("unicode/utf8.acceptRanges", laid_unicode_utf8_acceptRanges), ("tithing/expr.table", laid_tithing_expr_table), ("tithing/check.truth", laid_tithing_check_truth), ("tithing/check.cash", laid_tithing_check_cash), ("tithing/check.days", laid_tithing_check_days), ("tithing/check.plain", laid_tithing_check_plain), ("unicode/utf8.first", laid_unicode_utf8_first)], narrowed := true }
def CheckPartsUptoSaid : Prop := checkPartsUptoRow.holds Tryz.pinned (OpenSpec.upto checkPartsSpec)

/-- 'tithinglaw08.CheckSigs', WHERE WHAT IT READS IS OF BULK AT MOST 1048576: true; the input reads as it did. -/
def checkSigsUptoRow : OpenClaim := { program := "ytpjkeigmiooooaagreatdoor", sum := "81ee8d623bcba8747dc001fac91e98c8dcd4b1945dfc951e7b61f076dc206341", func := "tithing/tithinglaw08.CheckSigs", spec := "checkSigs", inPlace := ["internal/bytealg.IndexByteString", "internal/bytealg.IndexString"], unfollowed := true, recurses := true, named := ["tithing/expr.table", "unicode/utf8.first", "unicode/utf8.acceptRanges", "tithing/check.cash", "tithing/check.days", "tithing/check.plain", "tithing/check.truth", "internal/bytealg.MaxLen"], apart := false, laid := [("unicode/utf8.acceptRanges", laid_unicode_utf8_acceptRanges), ("tithing/expr.table", laid_tithing_expr_table), ("tithing/check.truth", laid_tithing_check_truth), ("tithing/check.cash", laid_tithing_check_cash), ("tithing/check.days", laid_tithing_check_days), ("tithing/check.plain", laid_tithing_check_plain), ("unicode/utf8.first", laid_unicode_utf8_first)], narrowed := true }
def CheckSigsUptoSaid : Prop := checkSigsUptoRow.holds Tryz.pinned (OpenSpec.upto checkSigsSpec)

/-- 'tithinglaw08.CheckSubst', WHERE WHAT IT READS IS OF BULK AT MOST 1048576: true; the input reads as it did. -/
def checkSubstUptoRow : OpenClaim := { program := "ytpjkeigmiooooaagreatdoor", sum := "81ee8d623bcba8747dc001fac91e98c8dcd4b1945dfc951e7b61f076dc206341", func := "tithing/tithinglaw08.CheckSubst", spec := "checkSubst", inPlace := ["internal/bytealg.IndexByteString", "internal/bytealg.IndexString"], unfollowed := true, recurses := true, named := ["tithing/expr.table", "unicode/utf8.first", "unicode/utf8.acceptRanges", "tithing/check.cash", "tithing/check.days", "tithing/check.plain", "tithing/check.truth", "internal/bytealg.MaxLen"], apart := false, laid := [("unicode/utf8.acceptRanges", laid_unicode_utf8_acceptRanges), ("tithing/expr.table", laid_tithing_expr_table), ("tithing/check.truth", laid_tithing_check_truth), ("tithing/check.cash", laid_tithing_check_cash), ("tithing/check.days", laid_tithing_check_days), ("tithing/check.plain", laid_tithing_check_plain), ("unicode/utf8.first", laid_unicode_utf8_first)], narrowed := true }
def CheckSubstUptoSaid : Prop := checkSubstUptoRow.holds Tryz.pinned (OpenSpec.upto checkSubstSpec)

end Rows
end Go.Proofs.YtpjkeigmiooooaaGreatDoor
