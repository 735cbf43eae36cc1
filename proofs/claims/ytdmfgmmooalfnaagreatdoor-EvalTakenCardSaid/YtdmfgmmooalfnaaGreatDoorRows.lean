/-
  NARROWER THAN 'FOR EVERY INPUT', by the rows' own cells (each row's printed sentence says how): EvalOps: laid · EvalRaw: laid · EvalTraces: laid · EvalNodes: laid · EvalParts: laid · EvalTaken: laid · EvalLinks: laid · EvalLogic: laid · EvalSubst: laid · EvalTyped: laid.
  DERIVED. THE GIVEN ROWS OF THIS SEAT. 10 by the template 'for every input the law returns true; each argument reads behind the call as it read before'; 0 by the template 'total and deterministic' (their statements: YtdmfgmmooalfnaaGreatDoorTotals.lean).
  GIVEN WITH THE SEED: the statements are not yours to turn. If you find one false, say at which input.
  Laid BY PROGRAM, IN A SANDBOX (cutbox-rows.mjs): the forced cells as the released guide's own fill.sh prints them over the translation 5ccd682e47d7293f… (all of the seat's roots in one cut). By AI agents, Wed Nov 11 2026. No macro, syntax, notation, axiom, sorry.
-/
import Derived.Test.YtdmfgmmooalfnaaGreatDoorChecked
import GoSem.PinnedTables
import GoSem.Claim
import GoSem.ClaimJoined
import GoSem.ClaimMapViews
import Derived.JoinedTies
import Derived.KernelRfl
namespace Go.Proofs.YtdmfgmmooalfnaaGreatDoor
/- THE CELL 'sum', in the pinned program and in every row, IS THE sha256 OF THE DUMP (.gsa) THAT YtdmfgmmooalfnaaGreatDoorProg.lean LOADS. Nothing in Lean hashes anything: it is a label: what it is worth is what the hold of that sum in a sandbox is worth. -/
noncomputable def Tryz.pinned : Pinned := { name := "ytdmfgmmooalfnaagreatdoor", sum := "5ccd682e47d7293f71ec265d47b187b714ffefcd1defe4f5d7b354c85706c6a4", checked := Tryz.checked }
namespace Rows
def none {H : Type} : Left H := { results := [], args := [] }

/- WHAT THE LISTED PACKAGE-LEVEL VARIABLES READ AS WHEN THE CALL BEGINS. Each datum BY PROGRAM (the guide's laid-datum.mjs) off the statement by which the dump's own 'gosem.cut.vars' lays the variable. In a bare row this is a premise. The card (YtdmfgmmooalfnaaGreatDoorCards.lean) ties it to the program's text. -/
def laid_unicode_utf8_acceptRanges {H : Type} : DataW H := .agg [.agg [.lit (.int .u8 128), .lit (.int .u8 191)], .agg [.lit (.int .u8 160), .lit (.int .u8 191)], .agg [.lit (.int .u8 128), .lit (.int .u8 159)], .agg [.lit (.int .u8 144), .lit (.int .u8 191)], .agg [.lit (.int .u8 128), .lit (.int .u8 143)], .agg [.lit (.int .u8 0), .lit (.int .u8 0)], .agg [.lit (.int .u8 0), .lit (.int .u8 0)], .agg [.lit (.int .u8 0), .lit (.int .u8 0)], .agg [.lit (.int .u8 0), .lit (.int .u8 0)], .agg [.lit (.int .u8 0), .lit (.int .u8 0)], .agg [.lit (.int .u8 0), .lit (.int .u8 0)], .agg [.lit (.int .u8 0), .lit (.int .u8 0)], .agg [.lit (.int .u8 0), .lit (.int .u8 0)], .agg [.lit (.int .u8 0), .lit (.int .u8 0)], .agg [.lit (.int .u8 0), .lit (.int .u8 0)], .agg [.lit (.int .u8 0), .lit (.int .u8 0)]]
def laid_tithing_expr_table {H : Type} : DataW H := .agg [.agg [.lit (.string []), .lit (.int .i64 0), .lit (.bool false), .lit (.bool false), .lit (.bool false)], .agg [.lit (.string [36]), .lit (.int .i64 0), .lit (.bool true), .lit (.bool false), .lit (.bool false)], .agg [.lit (.string []), .lit (.int .i64 0), .lit (.bool true), .lit (.bool false), .lit (.bool false)], .agg [.lit (.string []), .lit (.int .i64 0), .lit (.bool true), .lit (.bool false), .lit (.bool false)], .agg [.lit (.string []), .lit (.int .i64 0), .lit (.bool true), .lit (.bool false), .lit (.bool false)], .agg [.lit (.string [102, 97, 99, 116, 46]), .lit (.int .i64 0), .lit (.bool false), .lit (.bool true), .lit (.bool false)], .agg [.lit (.string [111, 119, 110, 46]), .lit (.int .i64 0), .lit (.bool false), .lit (.bool true), .lit (.bool false)], .agg [.lit (.string [112, 114, 105, 111, 114, 46]), .lit (.int .i64 0), .lit (.bool false), .lit (.bool true), .lit (.bool false)], .agg [.lit (.string [115, 112, 111, 117, 115, 101, 46]), .lit (.int .i64 0), .lit (.bool false), .lit (.bool true), .lit (.bool false)], .agg [.lit (.string [97, 100, 100]), .lit (.int .i64 2), .lit (.bool false), .lit (.bool false), .lit (.bool false)], .agg [.lit (.string [115, 117, 98]), .lit (.int .i64 2), .lit (.bool false), .lit (.bool false), .lit (.bool false)], .agg [.lit (.string [109, 117, 108]), .lit (.int .i64 2), .lit (.bool false), .lit (.bool false), .lit (.bool false)], .agg [.lit (.string [100, 105, 118]), .lit (.int .i64 2), .lit (.bool false), .lit (.bool false), .lit (.bool false)], .agg [.lit (.string [109, 105, 110]), .lit (.int .i64 2), .lit (.bool false), .lit (.bool false), .lit (.bool false)], .agg [.lit (.string [109, 97, 120]), .lit (.int .i64 2), .lit (.bool false), .lit (.bool false), .lit (.bool false)], .agg [.lit (.string [105, 102]), .lit (.int .i64 3), .lit (.bool false), .lit (.bool false), .lit (.bool false)], .agg [.lit (.string [108, 101, 115, 115]), .lit (.int .i64 2), .lit (.bool false), .lit (.bool false), .lit (.bool false)], .agg [.lit (.string [101, 113, 117, 97, 108]), .lit (.int .i64 2), .lit (.bool false), .lit (.bool false), .lit (.bool false)], .agg [.lit (.string [97, 110, 100]), .lit (.int .i64 2), .lit (.bool false), .lit (.bool false), .lit (.bool false)], .agg [.lit (.string [111, 114]), .lit (.int .i64 2), .lit (.bool false), .lit (.bool false), .lit (.bool false)], .agg [.lit (.string [110, 111, 116]), .lit (.int .i64 1), .lit (.bool false), .lit (.bool false), .lit (.bool false)], .agg [.lit (.string [100, 111, 119, 110]), .lit (.int .i64 1), .lit (.bool false), .lit (.bool false), .lit (.bool true)], .agg [.lit (.string [117, 112]), .lit (.int .i64 1), .lit (.bool false), .lit (.bool false), .lit (.bool true)], .agg [.lit (.string [110, 101, 97, 114]), .lit (.int .i64 1), .lit (.bool false), .lit (.bool false), .lit (.bool true)], .agg [.lit (.string [114, 97, 116, 101, 46]), .lit (.int .i64 1), .lit (.bool false), .lit (.bool true), .lit (.bool false)]]
/-- One of Go's own tables, pinned by name: the form's constant. -/
def laid_unicode_utf8_first : DataW Unit := Go.Pinned.utf8First
def laid_tithing_check_truth {H : Type} : DataW H := .agg [.lit (.bool true), .agg [.lit (.int .i64 0), .lit (.int .i64 0)]]
def laid_tithing_check_cash {H : Type} : DataW H := .agg [.lit (.bool false), .agg [.lit (.int .i64 1), .lit (.int .i64 0)]]
def laid_tithing_check_days {H : Type} : DataW H := .agg [.lit (.bool false), .agg [.lit (.int .i64 0), .lit (.int .i64 1)]]
def laid_tithing_check_plain {H : Type} : DataW H := .agg [.lit (.bool false), .agg [.lit (.int .i64 0), .lit (.int .i64 0)]]

/-- 'tithinglaw09.EvalOps': WHATEVER THE INPUT: true; the input reads as it did. -/
def evalOpsSpec : ChangeSpec := { name := "evalOps", fn := fun _ => fun
  | [d1, d2, d3] => { results := [.lit (.bool true)], args := [d1, d2, d3] }
  | _ => none }
def evalOpsRow : OpenClaim := { program := "ytdmfgmmooalfnaagreatdoor", sum := "5ccd682e47d7293f71ec265d47b187b714ffefcd1defe4f5d7b354c85706c6a4", func := "tithing/tithinglaw09.EvalOps", spec := "evalOps", inPlace := ["internal/bytealg.IndexByteString", "internal/bytealg.IndexString"], unfollowed := true, recurses := true, named := ["tithing/expr.table", "unicode/utf8.first", "unicode/utf8.acceptRanges", "internal/bytealg.MaxLen"], plainKeys := false, apart := false, laid := [("unicode/utf8.acceptRanges", laid_unicode_utf8_acceptRanges), ("tithing/expr.table", laid_tithing_expr_table), ("unicode/utf8.first", laid_unicode_utf8_first)] }
def EvalOpsSaid : Prop := evalOpsRow.holds Tryz.pinned (OpenSpec.ofChange evalOpsSpec)

/-- ITS FALSE NEIGHBOUR: 'it returns false'. Refute it at one input. -/
def evalOpsWrong : ChangeSpec := { name := "evalOps", fn := fun _ => fun
  | [d1, d2, d3] => { results := [.lit (.bool false)], args := [d1, d2, d3] }
  | _ => none }
def EvalOpsWrongFalsely : Prop := evalOpsRow.holds Tryz.pinned (OpenSpec.ofChange evalOpsWrong)

/-- 'tithinglaw09.EvalRaw': WHATEVER THE INPUT: true; the input reads as it did. -/
def evalRawSpec : ChangeSpec := { name := "evalRaw", fn := fun _ => fun
  | [d1, d2] => { results := [.lit (.bool true)], args := [d1, d2] }
  | _ => none }
def evalRawRow : OpenClaim := { program := "ytdmfgmmooalfnaagreatdoor", sum := "5ccd682e47d7293f71ec265d47b187b714ffefcd1defe4f5d7b354c85706c6a4", func := "tithing/tithinglaw09.EvalRaw", spec := "evalRaw", inPlace := ["internal/bytealg.IndexByteString", "internal/bytealg.IndexString"], unfollowed := true, recurses := true, named := ["tithing/expr.table", "unicode/utf8.first", "unicode/utf8.acceptRanges", "internal/bytealg.MaxLen"], plainKeys := false, apart := false, laid := [("unicode/utf8.acceptRanges", laid_unicode_utf8_acceptRanges), ("tithing/expr.table", laid_tithing_expr_table), ("unicode/utf8.first", laid_unicode_utf8_first)] }
def EvalRawSaid : Prop := evalRawRow.holds Tryz.pinned (OpenSpec.ofChange evalRawSpec)

/-- ITS FALSE NEIGHBOUR: 'it returns false'. Refute it at one input. -/
def evalRawWrong : ChangeSpec := { name := "evalRaw", fn := fun _ => fun
  | [d1, d2] => { results := [.lit (.bool false)], args := [d1, d2] }
  | _ => none }
def EvalRawWrongFalsely : Prop := evalRawRow.holds Tryz.pinned (OpenSpec.ofChange evalRawWrong)

/-- 'tithinglaw09.EvalTraces': WHATEVER THE INPUT: true; the input reads as it did. -/
def evalTracesSpec : ChangeSpec := { name := "evalTraces", fn := fun _ => fun
  | [d1, d2, d3] => { results := [.lit (.bool true)], args := [d1, d2, d3] }
  | _ => none }
def evalTracesRow : OpenClaim := { program := "ytdmfgmmooalfnaagreatdoor", sum := "5ccd682e47d7293f71ec265d47b187b714ffefcd1defe4f5d7b354c85706c6a4", func := "tithing/tithinglaw09.EvalTraces", spec := "evalTraces", inPlace := ["internal/bytealg.IndexByteString", "internal/bytealg.IndexString"], unfollowed := true, recurses := true, named := ["tithing/expr.table", "unicode/utf8.first", "unicode/utf8.acceptRanges", "internal/bytealg.MaxLen"], plainKeys := false, apart := false, laid := [("unicode/utf8.acceptRanges", laid_unicode_utf8_acceptRanges), ("tithing/expr.table", laid_tithing_expr_table), ("unicode/utf8.first", laid_unicode_utf8_first)] }
def EvalTracesSaid : Prop := evalTracesRow.holds Tryz.pinned (OpenSpec.ofChange evalTracesSpec)

/-- ITS FALSE NEIGHBOUR: 'it returns false'. Refute it at one input. -/
def evalTracesWrong : ChangeSpec := { name := "evalTraces", fn := fun _ => fun
  | [d1, d2, d3] => { results := [.lit (.bool false)], args := [d1, d2, d3] }
  | _ => none }
def EvalTracesWrongFalsely : Prop := evalTracesRow.holds Tryz.pinned (OpenSpec.ofChange evalTracesWrong)

/-- 'tithinglaw09.EvalNodes': WHATEVER THE INPUT: true; the input reads as it did. -/
def evalNodesSpec : ChangeSpec := { name := "evalNodes", fn := fun _ => fun
  | [d1, d2] => { results := [.lit (.bool true)], args := [d1, d2] }
  | _ => none }
def evalNodesRow : OpenClaim := { program := "ytdmfgmmooalfnaagreatdoor", sum := "5ccd682e47d7293f71ec265d47b187b714ffefcd1defe4f5d7b354c85706c6a4", func := "tithing/tithinglaw09.EvalNodes", spec := "evalNodes", inPlace := ["internal/bytealg.IndexByteString", "internal/bytealg.IndexString"], unfollowed := true, recurses := true, named := ["tithing/expr.table", "unicode/utf8.first", "unicode/utf8.acceptRanges", "internal/bytealg.MaxLen"], plainKeys := false, apart := false, laid := [("unicode/utf8.acceptRanges", laid_unicode_utf8_acceptRanges), ("tithing/expr.table", laid_tithing_expr_table), ("unicode/utf8.first", laid_unicode_utf8_first)] }
def EvalNodesSaid : Prop := evalNodesRow.holds Tryz.pinned (OpenSpec.ofChange evalNodesSpec)

/-- ITS FALSE NEIGHBOUR: 'it returns false'. Refute it at one input. -/
def evalNodesWrong : ChangeSpec := { name := "evalNodes", fn := fun _ => fun
  | [d1, d2] => { results := [.lit (.bool false)], args := [d1, d2] }
  | _ => none }
def EvalNodesWrongFalsely : Prop := evalNodesRow.holds Tryz.pinned (OpenSpec.ofChange evalNodesWrong)

/-- 'tithinglaw09.EvalParts': WHATEVER THE INPUT: true; the input reads as it did. -/
def evalPartsSpec : ChangeSpec := { name := "evalParts", fn := fun _ => fun
  | [d1, d2] => { results := [.lit (.bool true)], args := [d1, d2] }
  | _ => none }
def evalPartsRow : OpenClaim := { program := "ytdmfgmmooalfnaagreatdoor", sum := "5ccd682e47d7293f71ec265d47b187b714ffefcd1defe4f5d7b354c85706c6a4", func := "tithing/tithinglaw09.EvalParts", spec := "evalParts", inPlace := ["internal/bytealg.IndexByteString", "internal/bytealg.IndexString"], unfollowed := true, recurses := true, named := ["tithing/expr.table", "unicode/utf8.first", "unicode/utf8.acceptRanges", "internal/bytealg.MaxLen"], plainKeys := false, apart := false, laid := [("unicode/utf8.acceptRanges", laid_unicode_utf8_acceptRanges), ("tithing/expr.table", laid_tithing_expr_table), ("unicode/utf8.first", laid_unicode_utf8_first)] }
def EvalPartsSaid : Prop := evalPartsRow.holds Tryz.pinned (OpenSpec.ofChange evalPartsSpec)

/-- ITS FALSE NEIGHBOUR: 'it returns false'. Refute it at one input. -/
def evalPartsWrong : ChangeSpec := { name := "evalParts", fn := fun _ => fun
  | [d1, d2] => { results := [.lit (.bool false)], args := [d1, d2] }
  | _ => none }
def EvalPartsWrongFalsely : Prop := evalPartsRow.holds Tryz.pinned (OpenSpec.ofChange evalPartsWrong)

/-- 'tithinglaw09.EvalTaken': WHATEVER THE INPUT: true; the input reads as it did. -/
def evalTakenSpec : ChangeSpec := { name := "evalTaken", fn := fun _ => fun
  | [d1, d2, d3] => { results := [.lit (.bool true)], args := [d1, d2, d3] }
  | _ => none }
def evalTakenRow : OpenClaim := { program := "ytdmfgmmooalfnaagreatdoor", sum := "5ccd682e47d7293f71ec265d47b187b714ffefcd1defe4f5d7b354c85706c6a4", func := "tithing/tithinglaw09.EvalTaken", spec := "evalTaken", inPlace := ["internal/bytealg.IndexByteString", "internal/bytealg.IndexString"], unfollowed := true, recurses := true, named := ["tithing/expr.table", "unicode/utf8.first", "unicode/utf8.acceptRanges", "internal/bytealg.MaxLen"], plainKeys := false, apart := false, laid := [("unicode/utf8.acceptRanges", laid_unicode_utf8_acceptRanges), ("tithing/expr.table", laid_tithing_expr_table), ("unicode/utf8.first", laid_unicode_utf8_first)] }
def EvalTakenSaid : Prop := evalTakenRow.holds Tryz.pinned (OpenSpec.ofChange evalTakenSpec)

/-- ITS FALSE NEIGHBOUR: 'it returns false'. Refute it at one input. -/
def evalTakenWrong : ChangeSpec := { name := "evalTaken", fn := fun _ => fun
  | [d1, d2, d3] => { results := [.lit (.bool false)], args := [d1, d2, d3] }
  | _ => none }
def EvalTakenWrongFalsely : Prop := evalTakenRow.holds Tryz.pinned (OpenSpec.ofChange evalTakenWrong)

/-- 'tithinglaw09.EvalLinks': WHATEVER THE INPUT: true; the input reads as it did. -/
def evalLinksSpec : ChangeSpec := { name := "evalLinks", fn := fun _ => fun
  | [d1, d2, d3] => { results := [.lit (.bool true)], args := [d1, d2, d3] }
  | _ => none }
def evalLinksRow : OpenClaim := { program := "ytdmfgmmooalfnaagreatdoor", sum := "5ccd682e47d7293f71ec265d47b187b714ffefcd1defe4f5d7b354c85706c6a4", func := "tithing/tithinglaw09.EvalLinks", spec := "evalLinks", inPlace := ["internal/bytealg.IndexByteString", "internal/bytealg.IndexString"], unfollowed := true, recurses := true, named := ["tithing/expr.table", "unicode/utf8.first", "unicode/utf8.acceptRanges", "internal/bytealg.MaxLen"], plainKeys := false, apart := false, laid := [("unicode/utf8.acceptRanges", laid_unicode_utf8_acceptRanges), ("tithing/expr.table", laid_tithing_expr_table), ("unicode/utf8.first", laid_unicode_utf8_first)] }
def EvalLinksSaid : Prop := evalLinksRow.holds Tryz.pinned (OpenSpec.ofChange evalLinksSpec)

/-- ITS FALSE NEIGHBOUR: 'it returns false'. Refute it at one input. -/
def evalLinksWrong : ChangeSpec := { name := "evalLinks", fn := fun _ => fun
  | [d1, d2, d3] => { results := [.lit (.bool false)], args := [d1, d2, d3] }
  | _ => none }
def EvalLinksWrongFalsely : Prop := evalLinksRow.holds Tryz.pinned (OpenSpec.ofChange evalLinksWrong)

/-- 'tithinglaw09.EvalLogic': WHATEVER THE INPUT: true; the input reads as it did. -/
def evalLogicSpec : ChangeSpec := { name := "evalLogic", fn := fun _ => fun
  | [d1, d2] => { results := [.lit (.bool true)], args := [d1, d2] }
  | _ => none }
def evalLogicRow : OpenClaim := { program := "ytdmfgmmooalfnaagreatdoor", sum := "5ccd682e47d7293f71ec265d47b187b714ffefcd1defe4f5d7b354c85706c6a4", func := "tithing/tithinglaw09.EvalLogic", spec := "evalLogic", inPlace := ["internal/bytealg.IndexByteString", "internal/bytealg.IndexString"], unfollowed := true, recurses := true, named := ["tithing/expr.table", "unicode/utf8.first", "unicode/utf8.acceptRanges", "internal/bytealg.MaxLen"], plainKeys := false, apart := false, laid := [("unicode/utf8.acceptRanges", laid_unicode_utf8_acceptRanges), ("tithing/expr.table", laid_tithing_expr_table), ("unicode/utf8.first", laid_unicode_utf8_first)] }
def EvalLogicSaid : Prop := evalLogicRow.holds Tryz.pinned (OpenSpec.ofChange evalLogicSpec)

/-- ITS FALSE NEIGHBOUR: 'it returns false'. Refute it at one input. -/
def evalLogicWrong : ChangeSpec := { name := "evalLogic", fn := fun _ => fun
  | [d1, d2] => { results := [.lit (.bool false)], args := [d1, d2] }
  | _ => none }
def EvalLogicWrongFalsely : Prop := evalLogicRow.holds Tryz.pinned (OpenSpec.ofChange evalLogicWrong)

/-- 'tithinglaw09.EvalSubst': WHATEVER THE INPUT: true; the input reads as it did. -/
def evalSubstSpec : ChangeSpec := { name := "evalSubst", fn := fun _ => fun
  | [d1, d2] => { results := [.lit (.bool true)], args := [d1, d2] }
  | _ => none }
def evalSubstRow : OpenClaim := { program := "ytdmfgmmooalfnaagreatdoor", sum := "5ccd682e47d7293f71ec265d47b187b714ffefcd1defe4f5d7b354c85706c6a4", func := "tithing/tithinglaw09.EvalSubst", spec := "evalSubst", inPlace := ["internal/bytealg.IndexByteString", "internal/bytealg.IndexString"], unfollowed := true, recurses := true, named := ["tithing/expr.table", "unicode/utf8.first", "unicode/utf8.acceptRanges", "internal/bytealg.MaxLen"], plainKeys := false, apart := false, laid := [("unicode/utf8.acceptRanges", laid_unicode_utf8_acceptRanges), ("tithing/expr.table", laid_tithing_expr_table), ("unicode/utf8.first", laid_unicode_utf8_first)] }
def EvalSubstSaid : Prop := evalSubstRow.holds Tryz.pinned (OpenSpec.ofChange evalSubstSpec)

/-- ITS FALSE NEIGHBOUR: 'it returns false'. Refute it at one input. -/
def evalSubstWrong : ChangeSpec := { name := "evalSubst", fn := fun _ => fun
  | [d1, d2] => { results := [.lit (.bool false)], args := [d1, d2] }
  | _ => none }
def EvalSubstWrongFalsely : Prop := evalSubstRow.holds Tryz.pinned (OpenSpec.ofChange evalSubstWrong)

/-- 'tithinglaw09.EvalTyped': WHATEVER THE INPUT: true; the input reads as it did. -/
def evalTypedSpec : ChangeSpec := { name := "evalTyped", fn := fun _ => fun
  | [d1, d2] => { results := [.lit (.bool true)], args := [d1, d2] }
  | _ => none }
def evalTypedRow : OpenClaim := { program := "ytdmfgmmooalfnaagreatdoor", sum := "5ccd682e47d7293f71ec265d47b187b714ffefcd1defe4f5d7b354c85706c6a4", func := "tithing/tithinglaw09.EvalTyped", spec := "evalTyped", inPlace := ["internal/bytealg.IndexByteString", "internal/bytealg.IndexString"], unfollowed := true, recurses := true, named := ["tithing/expr.table", "unicode/utf8.first", "unicode/utf8.acceptRanges", "tithing/check.cash", "tithing/check.days", "tithing/check.plain", "tithing/check.truth", "internal/bytealg.MaxLen"], plainKeys := false, apart := false, laid := [("unicode/utf8.acceptRanges", laid_unicode_utf8_acceptRanges), ("tithing/expr.table", laid_tithing_expr_table), ("tithing/check.truth", laid_tithing_check_truth), ("tithing/check.cash", laid_tithing_check_cash), ("tithing/check.days", laid_tithing_check_days), ("tithing/check.plain", laid_tithing_check_plain), ("unicode/utf8.first", laid_unicode_utf8_first)] }
def EvalTypedSaid : Prop := evalTypedRow.holds Tryz.pinned (OpenSpec.ofChange evalTypedSpec)

/-- ITS FALSE NEIGHBOUR: 'it returns false'. Refute it at one input. -/
def evalTypedWrong : ChangeSpec := { name := "evalTyped", fn := fun _ => fun
  | [d1, d2] => { results := [.lit (.bool false)], args := [d1, d2] }
  | _ => none }
def EvalTypedWrongFalsely : Prop := evalTypedRow.holds Tryz.pinned (OpenSpec.ofChange evalTypedWrong)

/- THE SECOND FORM. 'bulk': how many values and letters a reading holds, each counted each time it is reached (what is shared counts as often as it is met; a slice's spare places count too). A statement '..UptoSaid' is the law's where the arguments, and the package variables that the reading takes, are together of bulk at most 1048576: NARROWER than '..Said'. Prove '..Said' where nothing that the law and all that it calls make is longer than what came in: it says more and counts as full. Else prove '..UptoSaid'. A law counts once. -/
mutual
def uptoBulk {H : Type} : DataW H → Nat
  | .lit (.string bytes) => bytes.length + 1
  | .lit _ => 1
  | .nil => 1
  | .ptr d => uptoBulk d + 1
  | .slice elems spare => uptoBulkAll elems + uptoBulkAll spare + 1
  | .agg parts => uptoBulkAll parts + 1
  | .iface _ d => uptoBulk d + 1
  | .map entries => uptoBulkEntries entries + 1
  | .held _ => 1
def uptoBulkAll {H : Type} : List (DataW H) → Nat
  | [] => 0
  | d :: r => uptoBulk d + uptoBulkAll r
def uptoBulkEntries {H : Type} : List (Lit × DataW H) → Nat
  | [] => 0
  | x :: r => uptoBulkEntry x + uptoBulkEntries r
def uptoBulkEntry {H : Type} : Lit × DataW H → Nat
  | (.string bytes, d) => bytes.length + uptoBulk d + 1
  | (_, d) => uptoBulk d + 1
 end
def uptoSmall : (H : Type) → List (DataW H) → Bool := fun _ ds => decide (uptoBulkAll ds ≤ 1048576)
def OpenSpec.upto (s : _root_.Go.ChangeSpec) : _root_.Go.OpenSpec := { _root_.Go.OpenSpec.ofChange s with cond := some uptoSmall }

/-- 'tithinglaw09.EvalOps', WHERE WHAT IT READS IS OF BULK AT MOST 1048576: true; the input reads as it did. -/
def evalOpsUptoRow : OpenClaim := { program := "ytdmfgmmooalfnaagreatdoor", sum := "5ccd682e47d7293f71ec265d47b187b714ffefcd1defe4f5d7b354c85706c6a4", func := "tithing/tithinglaw09.EvalOps", spec := "evalOps", inPlace := ["internal/bytealg.IndexByteString", "internal/bytealg.IndexString"], unfollowed := true, recurses := true, named := ["tithing/expr.table", "unicode/utf8.first", "unicode/utf8.acceptRanges", "internal/bytealg.MaxLen"], plainKeys := false, apart := false, laid := [("unicode/utf8.acceptRanges", laid_unicode_utf8_acceptRanges), ("tithing/expr.table", laid_tithing_expr_table), ("unicode/utf8.first", laid_unicode_utf8_first)], narrowed := true }
def EvalOpsUptoSaid : Prop := evalOpsUptoRow.holds Tryz.pinned (OpenSpec.upto evalOpsSpec)

/-- 'tithinglaw09.EvalRaw', WHERE WHAT IT READS IS OF BULK AT MOST 1048576: true; the input reads as it did. -/
def evalRawUptoRow : OpenClaim := { program := "ytdmfgmmooalfnaagreatdoor", sum := "5ccd682e47d7293f71ec265d47b187b714ffefcd1defe4f5d7b354c85706c6a4", func := "tithing/tithinglaw09.EvalRaw", spec := "evalRaw", inPlace := ["internal/bytealg.IndexByteString", "internal/bytealg.IndexString"], unfollowed := true, recurses := true, named := ["tithing/expr.table", "unicode/utf8.first", "unicode/utf8.acceptRanges", "internal/bytealg.MaxLen"], plainKeys := false, apart := false, laid := [("unicode/utf8.acceptRanges", laid_unicode_utf8_acceptRanges), ("tithing/expr.table", laid_tithing_expr_table), ("unicode/utf8.first", laid_unicode_utf8_first)], narrowed := true }
def EvalRawUptoSaid : Prop := evalRawUptoRow.holds Tryz.pinned (OpenSpec.upto evalRawSpec)

/-- 'tithinglaw09.EvalTraces', WHERE WHAT IT READS IS OF BULK AT MOST 1048576: true; the input reads as it did. -/
def evalTracesUptoRow : OpenClaim := { program := "ytdmfgmmooalfnaagreatdoor", sum := "5ccd682e47d7293f71ec265d47b187b714ffefcd1defe4f5d7b354c85706c6a4", func := "tithing/tithinglaw09.EvalTraces", spec := "evalTraces", inPlace := ["internal/bytealg.IndexByteString", "internal/bytealg.IndexString"], unfollowed := true, recurses := true, named := ["tithing/expr.table", "unicode/utf8.first", "unicode/utf8.acceptRanges", "internal/bytealg.MaxLen"], plainKeys := false, apart := false, laid := [("unicode/utf8.acceptRanges", laid_unicode_utf8_acceptRanges), ("tithing/expr.table", laid_tithing_expr_table), ("unicode/utf8.first", laid_unicode_utf8_first)], narrowed := true }
def EvalTracesUptoSaid : Prop := evalTracesUptoRow.holds Tryz.pinned (OpenSpec.upto evalTracesSpec)

/-- 'tithinglaw09.EvalNodes', WHERE WHAT IT READS IS OF BULK AT MOST 1048576: true; the input reads as it did. -/
def evalNodesUptoRow : OpenClaim := { program := "ytdmfgmmooalfnaagreatdoor", sum := "5ccd682e47d7293f71ec265d47b187b714ffefcd1defe4f5d7b354c85706c6a4", func := "tithing/tithinglaw09.EvalNodes", spec := "evalNodes", inPlace := ["internal/bytealg.IndexByteString", "internal/bytealg.IndexString"], unfollowed := true, recurses := true, named := ["tithing/expr.table", "unicode/utf8.first", "unicode/utf8.acceptRanges", "internal/bytealg.MaxLen"], plainKeys := false, apart := false, laid := [("unicode/utf8.acceptRanges", laid_unicode_utf8_acceptRanges), ("tithing/expr.table", laid_tithing_expr_table), ("unicode/utf8.first", laid_unicode_utf8_first)], narrowed := true }
def EvalNodesUptoSaid : Prop := evalNodesUptoRow.holds Tryz.pinned (OpenSpec.upto evalNodesSpec)

/-- 'tithinglaw09.EvalParts', WHERE WHAT IT READS IS OF BULK AT MOST 1048576: true; the input reads as it did. -/
def evalPartsUptoRow : OpenClaim := { program := "ytdmfgmmooalfnaagreatdoor", sum := "5ccd682e47d7293f71ec265d47b187b714ffefcd1defe4f5d7b354c85706c6a4", func := "tithing/tithinglaw09.EvalParts", spec := "evalParts", inPlace := ["internal/bytealg.IndexByteString", "internal/bytealg.IndexString"], unfollowed := true, recurses := true, named := ["tithing/expr.table", "unicode/utf8.first", "unicode/utf8.acceptRanges", "internal/bytealg.MaxLen"], plainKeys := false, apart := false, laid := [("unicode/utf8.acceptRanges", laid_unicode_utf8_acceptRanges), ("tithing/expr.table", laid_tithing_expr_table), ("unicode/utf8.first", laid_unicode_utf8_first)], narrowed := true }
def EvalPartsUptoSaid : Prop := evalPartsUptoRow.holds Tryz.pinned (OpenSpec.upto evalPartsSpec)

/-- 'tithinglaw09.EvalTaken', WHERE WHAT IT READS IS OF BULK AT MOST 1048576: true; the input reads as it did. -/
def evalTakenUptoRow : OpenClaim := { program := "ytdmfgmmooalfnaagreatdoor", sum := "5ccd682e47d7293f71ec265d47b187b714ffefcd1defe4f5d7b354c85706c6a4", func := "tithing/tithinglaw09.EvalTaken", spec := "evalTaken", inPlace := ["internal/bytealg.IndexByteString", "internal/bytealg.IndexString"], unfollowed := true, recurses := true, named := ["tithing/expr.table", "unicode/utf8.first", "unicode/utf8.acceptRanges", "internal/bytealg.MaxLen"], plainKeys := false, apart := false, laid := [("unicode/utf8.acceptRanges", laid_unicode_utf8_acceptRanges), ("tithing/expr.table", laid_tithing_expr_table), ("unicode/utf8.first", laid_unicode_utf8_first)], narrowed := true }
def EvalTakenUptoSaid : Prop := evalTakenUptoRow.holds Tryz.pinned (OpenSpec.upto evalTakenSpec)

/-- 'tithinglaw09.EvalLinks', WHERE WHAT IT READS IS OF BULK AT MOST 1048576: true; the input reads as it did. -/
def evalLinksUptoRow : OpenClaim := { program := "ytdmfgmmooalfnaagreatdoor", sum := "5ccd682e47d7293f71ec265d47b187b714ffefcd1defe4f5d7b354c85706c6a4", func := "tithing/tithinglaw09.EvalLinks", spec := "evalLinks", inPlace := ["internal/bytealg.IndexByteString", "internal/bytealg.IndexString"], unfollowed := true, recurses := true, named := ["tithing/expr.table", "unicode/utf8.first", "unicode/utf8.acceptRanges", "internal/bytealg.MaxLen"], plainKeys := false, apart := false, laid := [("unicode/utf8.acceptRanges", laid_unicode_utf8_acceptRanges), ("tithing/expr.table", laid_tithing_expr_table), ("unicode/utf8.first", laid_unicode_utf8_first)], narrowed := true }
def EvalLinksUptoSaid : Prop := evalLinksUptoRow.holds Tryz.pinned (OpenSpec.upto evalLinksSpec)

/-- 'tithinglaw09.EvalLogic', WHERE WHAT IT READS IS OF BULK AT MOST 1048576: true; the input reads as it did. -/
def evalLogicUptoRow : OpenClaim := { program := "ytdmfgmmooalfnaagreatdoor", sum := "5ccd682e47d7293f71ec265d47b187b714ffefcd1defe4f5d7b354c85706c6a4", func := "tithing/tithinglaw09.EvalLogic", spec := "evalLogic", inPlace := ["internal/bytealg.IndexByteString", "internal/bytealg.IndexString"], unfollowed := true, recurses := true, named := ["tithing/expr.table", "unicode/utf8.first", "unicode/utf8.acceptRanges", "internal/bytealg.MaxLen"], plainKeys := false, apart := false, laid := [("unicode/utf8.acceptRanges", laid_unicode_utf8_acceptRanges), ("tithing/expr.table", laid_tithing_expr_table), ("unicode/utf8.first", laid_unicode_utf8_first)], narrowed := true }
def EvalLogicUptoSaid : Prop := evalLogicUptoRow.holds Tryz.pinned (OpenSpec.upto evalLogicSpec)

/-- 'tithinglaw09.EvalSubst', WHERE WHAT IT READS IS OF BULK AT MOST 1048576: true; the input reads as it did. -/
def evalSubstUptoRow : OpenClaim := { program := "ytdmfgmmooalfnaagreatdoor", sum := "5ccd682e47d7293f71ec265d47b187b714ffefcd1defe4f5d7b354c85706c6a4", func := "tithing/tithinglaw09.EvalSubst", spec := "evalSubst", inPlace := ["internal/bytealg.IndexByteString", "internal/bytealg.IndexString"], unfollowed := true, recurses := true, named := ["tithing/expr.table", "unicode/utf8.first", "unicode/utf8.acceptRanges", "internal/bytealg.MaxLen"], plainKeys := false, apart := false, laid := [("unicode/utf8.acceptRanges", laid_unicode_utf8_acceptRanges), ("tithing/expr.table", laid_tithing_expr_table), ("unicode/utf8.first", laid_unicode_utf8_first)], narrowed := true }
def EvalSubstUptoSaid : Prop := evalSubstUptoRow.holds Tryz.pinned (OpenSpec.upto evalSubstSpec)

/-- 'tithinglaw09.EvalTyped', WHERE WHAT IT READS IS OF BULK AT MOST 1048576: true; the input reads as it did. -/
def evalTypedUptoRow : OpenClaim := { program := "ytdmfgmmooalfnaagreatdoor", sum := "5ccd682e47d7293f71ec265d47b187b714ffefcd1defe4f5d7b354c85706c6a4", func := "tithing/tithinglaw09.EvalTyped", spec := "evalTyped", inPlace := ["internal/bytealg.IndexByteString", "internal/bytealg.IndexString"], unfollowed := true, recurses := true, named := ["tithing/expr.table", "unicode/utf8.first", "unicode/utf8.acceptRanges", "tithing/check.cash", "tithing/check.days", "tithing/check.plain", "tithing/check.truth", "internal/bytealg.MaxLen"], plainKeys := false, apart := false, laid := [("unicode/utf8.acceptRanges", laid_unicode_utf8_acceptRanges), ("tithing/expr.table", laid_tithing_expr_table), ("tithing/check.truth", laid_tithing_check_truth), ("tithing/check.cash", laid_tithing_check_cash), ("tithing/check.days", laid_tithing_check_days), ("tithing/check.plain", laid_tithing_check_plain), ("unicode/utf8.first", laid_unicode_utf8_first)], narrowed := true }
def EvalTypedUptoSaid : Prop := evalTypedUptoRow.holds Tryz.pinned (OpenSpec.upto evalTypedSpec)

end Rows
end Go.Proofs.YtdmfgmmooalfnaaGreatDoor
