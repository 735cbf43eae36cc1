/-
  NARROWER THAN 'FOR EVERY INPUT', by the rows' own cells (each row's printed sentence says how): MonoSenses: laid · MonoRaw: laid · MonoRises: laid · MonoTurns: laid · MonoPlain: laid · MonoSubsts: laid · MonoSound: laid.
  DERIVED. THE GIVEN ROWS OF THIS SEAT. 7 by the template 'for every input the law returns true; each argument reads behind the call as it read before'; 0 by the template 'total and deterministic' (their statements: YtcjindbblhcopaaGreatDoorTotals.lean).
  GIVEN WITH THE SEED: the statements are not yours to turn. If you find one false, say at which input.
  Laid BY PROGRAM, IN A SANDBOX (cutbox-rows.mjs): the forced cells as the released guide's own fill.sh prints them over the translation 768afba6e9f932d0… (all of the seat's roots in one cut). By AI agents, Wed Nov 11 2026. No macro, syntax, notation, axiom, sorry.
-/
import Derived.Test.YtcjindbblhcopaaGreatDoorChecked
import GoSem.PinnedTables
import GoSem.Claim
import GoSem.ClaimJoined
import GoSem.ClaimMapViews
import Derived.JoinedTies
import Derived.KernelRfl
namespace Go.Proofs.YtcjindbblhcopaaGreatDoor
/- THE CELL 'sum', in the pinned program and in every row, IS THE sha256 OF THE DUMP (.gsa) THAT YtcjindbblhcopaaGreatDoorProg.lean LOADS. Nothing in Lean hashes anything: it is a label: what it is worth is what the hold of that sum in a sandbox is worth. -/
noncomputable def Tryz.pinned : Pinned := { name := "ytcjindbblhcopaagreatdoor", sum := "768afba6e9f932d0f900920e691aac3e98065671c63a16f3eb839139b3aab8bd", checked := Tryz.checked }
namespace Rows
def none {H : Type} : Left H := { results := [], args := [] }

/- WHAT THE LISTED PACKAGE-LEVEL VARIABLES READ AS WHEN THE CALL BEGINS. Each datum BY PROGRAM (the guide's laid-datum.mjs) off the statement by which the dump's own 'gosem.cut.vars' lays the variable. In a bare row this is a premise. The card (YtcjindbblhcopaaGreatDoorCards.lean) ties it to the program's text. -/
def laid_unicode_utf8_acceptRanges {H : Type} : DataW H := .agg [.agg [.lit (.int .u8 128), .lit (.int .u8 191)], .agg [.lit (.int .u8 160), .lit (.int .u8 191)], .agg [.lit (.int .u8 128), .lit (.int .u8 159)], .agg [.lit (.int .u8 144), .lit (.int .u8 191)], .agg [.lit (.int .u8 128), .lit (.int .u8 143)], .agg [.lit (.int .u8 0), .lit (.int .u8 0)], .agg [.lit (.int .u8 0), .lit (.int .u8 0)], .agg [.lit (.int .u8 0), .lit (.int .u8 0)], .agg [.lit (.int .u8 0), .lit (.int .u8 0)], .agg [.lit (.int .u8 0), .lit (.int .u8 0)], .agg [.lit (.int .u8 0), .lit (.int .u8 0)], .agg [.lit (.int .u8 0), .lit (.int .u8 0)], .agg [.lit (.int .u8 0), .lit (.int .u8 0)], .agg [.lit (.int .u8 0), .lit (.int .u8 0)], .agg [.lit (.int .u8 0), .lit (.int .u8 0)], .agg [.lit (.int .u8 0), .lit (.int .u8 0)]]
def laid_tithing_expr_table {H : Type} : DataW H := .agg [.agg [.lit (.string []), .lit (.int .i64 0), .lit (.bool false), .lit (.bool false), .lit (.bool false)], .agg [.lit (.string [36]), .lit (.int .i64 0), .lit (.bool true), .lit (.bool false), .lit (.bool false)], .agg [.lit (.string []), .lit (.int .i64 0), .lit (.bool true), .lit (.bool false), .lit (.bool false)], .agg [.lit (.string []), .lit (.int .i64 0), .lit (.bool true), .lit (.bool false), .lit (.bool false)], .agg [.lit (.string []), .lit (.int .i64 0), .lit (.bool true), .lit (.bool false), .lit (.bool false)], .agg [.lit (.string [102, 97, 99, 116, 46]), .lit (.int .i64 0), .lit (.bool false), .lit (.bool true), .lit (.bool false)], .agg [.lit (.string [111, 119, 110, 46]), .lit (.int .i64 0), .lit (.bool false), .lit (.bool true), .lit (.bool false)], .agg [.lit (.string [112, 114, 105, 111, 114, 46]), .lit (.int .i64 0), .lit (.bool false), .lit (.bool true), .lit (.bool false)], .agg [.lit (.string [115, 112, 111, 117, 115, 101, 46]), .lit (.int .i64 0), .lit (.bool false), .lit (.bool true), .lit (.bool false)], .agg [.lit (.string [97, 100, 100]), .lit (.int .i64 2), .lit (.bool false), .lit (.bool false), .lit (.bool false)], .agg [.lit (.string [115, 117, 98]), .lit (.int .i64 2), .lit (.bool false), .lit (.bool false), .lit (.bool false)], .agg [.lit (.string [109, 117, 108]), .lit (.int .i64 2), .lit (.bool false), .lit (.bool false), .lit (.bool false)], .agg [.lit (.string [100, 105, 118]), .lit (.int .i64 2), .lit (.bool false), .lit (.bool false), .lit (.bool false)], .agg [.lit (.string [109, 105, 110]), .lit (.int .i64 2), .lit (.bool false), .lit (.bool false), .lit (.bool false)], .agg [.lit (.string [109, 97, 120]), .lit (.int .i64 2), .lit (.bool false), .lit (.bool false), .lit (.bool false)], .agg [.lit (.string [105, 102]), .lit (.int .i64 3), .lit (.bool false), .lit (.bool false), .lit (.bool false)], .agg [.lit (.string [108, 101, 115, 115]), .lit (.int .i64 2), .lit (.bool false), .lit (.bool false), .lit (.bool false)], .agg [.lit (.string [101, 113, 117, 97, 108]), .lit (.int .i64 2), .lit (.bool false), .lit (.bool false), .lit (.bool false)], .agg [.lit (.string [97, 110, 100]), .lit (.int .i64 2), .lit (.bool false), .lit (.bool false), .lit (.bool false)], .agg [.lit (.string [111, 114]), .lit (.int .i64 2), .lit (.bool false), .lit (.bool false), .lit (.bool false)], .agg [.lit (.string [110, 111, 116]), .lit (.int .i64 1), .lit (.bool false), .lit (.bool false), .lit (.bool false)], .agg [.lit (.string [100, 111, 119, 110]), .lit (.int .i64 1), .lit (.bool false), .lit (.bool false), .lit (.bool true)], .agg [.lit (.string [117, 112]), .lit (.int .i64 1), .lit (.bool false), .lit (.bool false), .lit (.bool true)], .agg [.lit (.string [110, 101, 97, 114]), .lit (.int .i64 1), .lit (.bool false), .lit (.bool false), .lit (.bool true)], .agg [.lit (.string [114, 97, 116, 101, 46]), .lit (.int .i64 1), .lit (.bool false), .lit (.bool true), .lit (.bool false)]]
/-- One of Go's own tables, pinned by name: the form's constant. -/
def laid_unicode_utf8_first : DataW Unit := Go.Pinned.utf8First

/-- 'tithinglaw10.MonoSenses': WHATEVER THE INPUT: true; the input reads as it did. -/
def monoSensesSpec : ChangeSpec := { name := "monoSenses", fn := fun _ => fun
  | [d1, d2] => { results := [.lit (.bool true)], args := [d1, d2] }
  | _ => none }
def monoSensesRow : OpenClaim := { program := "ytcjindbblhcopaagreatdoor", sum := "768afba6e9f932d0f900920e691aac3e98065671c63a16f3eb839139b3aab8bd", func := "tithing/tithinglaw10.MonoSenses", spec := "monoSenses", inPlace := ["internal/bytealg.IndexByteString", "internal/bytealg.IndexString"], unfollowed := true, recurses := true, named := ["tithing/expr.table", "unicode/utf8.first", "unicode/utf8.acceptRanges", "internal/bytealg.MaxLen"], plainKeys := false, apart := false, laid := [("unicode/utf8.acceptRanges", laid_unicode_utf8_acceptRanges), ("tithing/expr.table", laid_tithing_expr_table), ("unicode/utf8.first", laid_unicode_utf8_first)] }
def MonoSensesSaid : Prop := monoSensesRow.holds Tryz.pinned (OpenSpec.ofChange monoSensesSpec)

/-- ITS FALSE NEIGHBOUR: 'it returns false'. Refute it at one input. -/
def monoSensesWrong : ChangeSpec := { name := "monoSenses", fn := fun _ => fun
  | [d1, d2] => { results := [.lit (.bool false)], args := [d1, d2] }
  | _ => none }
def MonoSensesWrongFalsely : Prop := monoSensesRow.holds Tryz.pinned (OpenSpec.ofChange monoSensesWrong)

/-- 'tithinglaw10.MonoRaw': WHATEVER THE INPUT: true; the input reads as it did. -/
def monoRawSpec : ChangeSpec := { name := "monoRaw", fn := fun _ => fun
  | [d1, d2, d3] => { results := [.lit (.bool true)], args := [d1, d2, d3] }
  | _ => none }
def monoRawRow : OpenClaim := { program := "ytcjindbblhcopaagreatdoor", sum := "768afba6e9f932d0f900920e691aac3e98065671c63a16f3eb839139b3aab8bd", func := "tithing/tithinglaw10.MonoRaw", spec := "monoRaw", inPlace := ["internal/bytealg.IndexByteString", "internal/bytealg.IndexString"], unfollowed := true, recurses := true, named := ["tithing/expr.table", "unicode/utf8.first", "unicode/utf8.acceptRanges", "internal/bytealg.MaxLen"], plainKeys := false, apart := false, laid := [("unicode/utf8.acceptRanges", laid_unicode_utf8_acceptRanges), ("tithing/expr.table", laid_tithing_expr_table), ("unicode/utf8.first", laid_unicode_utf8_first)] }
def MonoRawSaid : Prop := monoRawRow.holds Tryz.pinned (OpenSpec.ofChange monoRawSpec)

/-- ITS FALSE NEIGHBOUR: 'it returns false'. Refute it at one input. -/
def monoRawWrong : ChangeSpec := { name := "monoRaw", fn := fun _ => fun
  | [d1, d2, d3] => { results := [.lit (.bool false)], args := [d1, d2, d3] }
  | _ => none }
def MonoRawWrongFalsely : Prop := monoRawRow.holds Tryz.pinned (OpenSpec.ofChange monoRawWrong)

/-- 'tithinglaw10.MonoRises': WHATEVER THE INPUT: true; the input reads as it did. -/
def monoRisesSpec : ChangeSpec := { name := "monoRises", fn := fun _ => fun
  | [d1, d2, d3] => { results := [.lit (.bool true)], args := [d1, d2, d3] }
  | _ => none }
def monoRisesRow : OpenClaim := { program := "ytcjindbblhcopaagreatdoor", sum := "768afba6e9f932d0f900920e691aac3e98065671c63a16f3eb839139b3aab8bd", func := "tithing/tithinglaw10.MonoRises", spec := "monoRises", inPlace := ["internal/bytealg.IndexByteString", "internal/bytealg.IndexString"], unfollowed := true, recurses := true, named := ["tithing/expr.table", "unicode/utf8.first", "unicode/utf8.acceptRanges", "internal/bytealg.MaxLen"], plainKeys := false, apart := false, laid := [("unicode/utf8.acceptRanges", laid_unicode_utf8_acceptRanges), ("tithing/expr.table", laid_tithing_expr_table), ("unicode/utf8.first", laid_unicode_utf8_first)] }
def MonoRisesSaid : Prop := monoRisesRow.holds Tryz.pinned (OpenSpec.ofChange monoRisesSpec)

/-- ITS FALSE NEIGHBOUR: 'it returns false'. Refute it at one input. -/
def monoRisesWrong : ChangeSpec := { name := "monoRises", fn := fun _ => fun
  | [d1, d2, d3] => { results := [.lit (.bool false)], args := [d1, d2, d3] }
  | _ => none }
def MonoRisesWrongFalsely : Prop := monoRisesRow.holds Tryz.pinned (OpenSpec.ofChange monoRisesWrong)

/-- 'tithinglaw10.MonoTurns': WHATEVER THE INPUT: true; the input reads as it did. -/
def monoTurnsSpec : ChangeSpec := { name := "monoTurns", fn := fun _ => fun
  | [d1, d2, d3] => { results := [.lit (.bool true)], args := [d1, d2, d3] }
  | _ => none }
def monoTurnsRow : OpenClaim := { program := "ytcjindbblhcopaagreatdoor", sum := "768afba6e9f932d0f900920e691aac3e98065671c63a16f3eb839139b3aab8bd", func := "tithing/tithinglaw10.MonoTurns", spec := "monoTurns", inPlace := ["internal/bytealg.IndexByteString", "internal/bytealg.IndexString"], unfollowed := true, recurses := true, named := ["tithing/expr.table", "unicode/utf8.first", "unicode/utf8.acceptRanges", "internal/bytealg.MaxLen"], plainKeys := false, apart := false, laid := [("unicode/utf8.acceptRanges", laid_unicode_utf8_acceptRanges), ("tithing/expr.table", laid_tithing_expr_table), ("unicode/utf8.first", laid_unicode_utf8_first)] }
def MonoTurnsSaid : Prop := monoTurnsRow.holds Tryz.pinned (OpenSpec.ofChange monoTurnsSpec)

/-- ITS FALSE NEIGHBOUR: 'it returns false'. Refute it at one input. -/
def monoTurnsWrong : ChangeSpec := { name := "monoTurns", fn := fun _ => fun
  | [d1, d2, d3] => { results := [.lit (.bool false)], args := [d1, d2, d3] }
  | _ => none }
def MonoTurnsWrongFalsely : Prop := monoTurnsRow.holds Tryz.pinned (OpenSpec.ofChange monoTurnsWrong)

/-- 'tithinglaw10.MonoPlain': WHATEVER THE INPUT: true; the input reads as it did. -/
def monoPlainSpec : ChangeSpec := { name := "monoPlain", fn := fun _ => fun
  | [d1, d2, d3] => { results := [.lit (.bool true)], args := [d1, d2, d3] }
  | _ => none }
def monoPlainRow : OpenClaim := { program := "ytcjindbblhcopaagreatdoor", sum := "768afba6e9f932d0f900920e691aac3e98065671c63a16f3eb839139b3aab8bd", func := "tithing/tithinglaw10.MonoPlain", spec := "monoPlain", inPlace := ["internal/bytealg.IndexByteString", "internal/bytealg.IndexString"], unfollowed := true, recurses := true, named := ["tithing/expr.table", "unicode/utf8.first", "unicode/utf8.acceptRanges", "internal/bytealg.MaxLen"], plainKeys := false, apart := false, laid := [("unicode/utf8.acceptRanges", laid_unicode_utf8_acceptRanges), ("tithing/expr.table", laid_tithing_expr_table), ("unicode/utf8.first", laid_unicode_utf8_first)] }
def MonoPlainSaid : Prop := monoPlainRow.holds Tryz.pinned (OpenSpec.ofChange monoPlainSpec)

/-- ITS FALSE NEIGHBOUR: 'it returns false'. Refute it at one input. -/
def monoPlainWrong : ChangeSpec := { name := "monoPlain", fn := fun _ => fun
  | [d1, d2, d3] => { results := [.lit (.bool false)], args := [d1, d2, d3] }
  | _ => none }
def MonoPlainWrongFalsely : Prop := monoPlainRow.holds Tryz.pinned (OpenSpec.ofChange monoPlainWrong)

/-- 'tithinglaw10.MonoSubsts': WHATEVER THE INPUT: true; the input reads as it did. -/
def monoSubstsSpec : ChangeSpec := { name := "monoSubsts", fn := fun _ => fun
  | [d1, d2, d3] => { results := [.lit (.bool true)], args := [d1, d2, d3] }
  | _ => none }
def monoSubstsRow : OpenClaim := { program := "ytcjindbblhcopaagreatdoor", sum := "768afba6e9f932d0f900920e691aac3e98065671c63a16f3eb839139b3aab8bd", func := "tithing/tithinglaw10.MonoSubsts", spec := "monoSubsts", inPlace := ["internal/bytealg.IndexByteString", "internal/bytealg.IndexString"], unfollowed := true, recurses := true, named := ["tithing/expr.table", "unicode/utf8.first", "unicode/utf8.acceptRanges", "internal/bytealg.MaxLen"], plainKeys := false, apart := false, laid := [("unicode/utf8.acceptRanges", laid_unicode_utf8_acceptRanges), ("tithing/expr.table", laid_tithing_expr_table), ("unicode/utf8.first", laid_unicode_utf8_first)] }
def MonoSubstsSaid : Prop := monoSubstsRow.holds Tryz.pinned (OpenSpec.ofChange monoSubstsSpec)

/-- ITS FALSE NEIGHBOUR: 'it returns false'. Refute it at one input. -/
def monoSubstsWrong : ChangeSpec := { name := "monoSubsts", fn := fun _ => fun
  | [d1, d2, d3] => { results := [.lit (.bool false)], args := [d1, d2, d3] }
  | _ => none }
def MonoSubstsWrongFalsely : Prop := monoSubstsRow.holds Tryz.pinned (OpenSpec.ofChange monoSubstsWrong)

/-- 'tithinglaw10.MonoSound': WHATEVER THE INPUT: true; the input reads as it did. -/
def monoSoundSpec : ChangeSpec := { name := "monoSound", fn := fun _ => fun
  | [d1, d2, d3] => { results := [.lit (.bool true)], args := [d1, d2, d3] }
  | _ => none }
def monoSoundRow : OpenClaim := { program := "ytcjindbblhcopaagreatdoor", sum := "768afba6e9f932d0f900920e691aac3e98065671c63a16f3eb839139b3aab8bd", func := "tithing/tithinglaw10.MonoSound", spec := "monoSound", inPlace := ["internal/bytealg.IndexByteString", "internal/bytealg.IndexString"], unfollowed := true, recurses := true, named := ["tithing/expr.table", "unicode/utf8.first", "unicode/utf8.acceptRanges", "internal/bytealg.MaxLen"], plainKeys := false, apart := false, laid := [("unicode/utf8.acceptRanges", laid_unicode_utf8_acceptRanges), ("tithing/expr.table", laid_tithing_expr_table), ("unicode/utf8.first", laid_unicode_utf8_first)] }
def MonoSoundSaid : Prop := monoSoundRow.holds Tryz.pinned (OpenSpec.ofChange monoSoundSpec)

/-- ITS FALSE NEIGHBOUR: 'it returns false'. Refute it at one input. -/
def monoSoundWrong : ChangeSpec := { name := "monoSound", fn := fun _ => fun
  | [d1, d2, d3] => { results := [.lit (.bool false)], args := [d1, d2, d3] }
  | _ => none }
def MonoSoundWrongFalsely : Prop := monoSoundRow.holds Tryz.pinned (OpenSpec.ofChange monoSoundWrong)

/- THE SECOND FORM. 'bulk': how many values and letters a reading holds, each counted each time it is reached (what is shared counts as often as it is met; a slice's spare places count too). A statement '..UptoSaid' is the law's where the arguments, and the package variables that the reading takes, are together of bulk at most 1048576: NARROWER than '..Said'. Prove '..Said' where nothing that the law and all that it calls make is longer than what came in: it says more and counts as full. Else prove '..UptoSaid'. A law counts once. -/
mutual
def uptoBulk {H : Type} : DataW H → Nat
  | .lit (.string bytes) => bytes.length + 1
  | .lit _ => 1
  | .nil => 1
  | .ptr d => uptoBulk d + 1
  | .slice elems spare => uptoBulkAll elems + uptoBulkAll spare + 1
  | .agg parts => uptoBulkAll parts + 1
  | .iface _ d => uptoBulk d + 1
  | .map entries => uptoBulkEntries entries + 1
  | .held _ => 1
def uptoBulkAll {H : Type} : List (DataW H) → Nat
  | [] => 0
  | d :: r => uptoBulk d + uptoBulkAll r
def uptoBulkEntries {H : Type} : List (Lit × DataW H) → Nat
  | [] => 0
  | x :: r => uptoBulkEntry x + uptoBulkEntries r
def uptoBulkEntry {H : Type} : Lit × DataW H → Nat
  | (.string bytes, d) => bytes.length + uptoBulk d + 1
  | (_, d) => uptoBulk d + 1
 end
def uptoSmall : (H : Type) → List (DataW H) → Bool := fun _ ds => decide (uptoBulkAll ds ≤ 1048576)
def OpenSpec.upto (s : _root_.Go.ChangeSpec) : _root_.Go.OpenSpec := { _root_.Go.OpenSpec.ofChange s with cond := some uptoSmall }

/-- 'tithinglaw10.MonoSenses', WHERE WHAT IT READS IS OF BULK AT MOST 1048576: true; the input reads as it did. -/
def monoSensesUptoRow : OpenClaim := { program := "ytcjindbblhcopaagreatdoor", sum := "768afba6e9f932d0f900920e691aac3e98065671c63a16f3eb839139b3aab8bd", func := "tithing/tithinglaw10.MonoSenses", spec := "monoSenses", inPlace := ["internal/bytealg.IndexByteString", "internal/bytealg.IndexString"], unfollowed := true, recurses := true, named := ["tithing/expr.table", "unicode/utf8.first", "unicode/utf8.acceptRanges", "internal/bytealg.MaxLen"], plainKeys := false, apart := false, laid := [("unicode/utf8.acceptRanges", laid_unicode_utf8_acceptRanges), ("tithing/expr.table", laid_tithing_expr_table), ("unicode/utf8.first", laid_unicode_utf8_first)], narrowed := true }
def MonoSensesUptoSaid : Prop := monoSensesUptoRow.holds Tryz.pinned (OpenSpec.upto monoSensesSpec)

/-- 'tithinglaw10.MonoRaw', WHERE WHAT IT READS IS OF BULK AT MOST 1048576: true; the input reads as it did. -/
def monoRawUptoRow : OpenClaim := { program := "ytcjindbblhcopaagreatdoor", sum := "768afba6e9f932d0f900920e691aac3e98065671c63a16f3eb839139b3aab8bd", func := "tithing/tithinglaw10.MonoRaw", spec := "monoRaw", inPlace := ["internal/bytealg.IndexByteString", "internal/bytealg.IndexString"], unfollowed := true, recurses := true, named := ["tithing/expr.table", "unicode/utf8.first", "unicode/utf8.acceptRanges", "internal/bytealg.MaxLen"], plainKeys := false, apart := false, laid := [("unicode/utf8.acceptRanges", laid_unicode_utf8_acceptRanges), ("tithing/expr.table", laid_tithing_expr_table), ("unicode/utf8.first", laid_unicode_utf8_first)], narrowed := true }
def MonoRawUptoSaid : Prop := monoRawUptoRow.holds Tryz.pinned (OpenSpec.upto monoRawSpec)

/-- 'tithinglaw10.MonoRises', WHERE WHAT IT READS IS OF BULK AT MOST 1048576: true; the input reads as it did. -/
def monoRisesUptoRow : OpenClaim := { program := "ytcjindbblhcopaagreatdoor", sum := "768afba6e9f932d0f900920e691aac3e98065671c63a16f3eb839139b3aab8bd", func := "tithing/tithinglaw10.MonoRises", spec := "monoRises", inPlace := ["internal/bytealg.IndexByteString", "internal/bytealg.IndexString"], unfollowed := true, recurses := true, named := ["tithing/expr.table", "unicode/utf8.first", "unicode/utf8.acceptRanges", "internal/bytealg.MaxLen"], plainKeys := false, apart := false, laid := [("unicode/utf8.acceptRanges", laid_unicode_utf8_acceptRanges), ("tithing/expr.table", laid_tithing_expr_table), ("unicode/utf8.first", laid_unicode_utf8_first)], narrowed := true }
def MonoRisesUptoSaid : Prop := monoRisesUptoRow.holds Tryz.pinned (OpenSpec.upto monoRisesSpec)

/-- 'tithinglaw10.MonoTurns', WHERE WHAT IT READS IS OF BULK AT MOST 1048576: true; the input reads as it did. -/
def monoTurnsUptoRow : OpenClaim := { program := "ytcjindbblhcopaagreatdoor", sum := "768afba6e9f932d0f900920e691aac3e98065671c63a16f3eb839139b3aab8bd", func := "tithing/tithinglaw10.MonoTurns", spec := "monoTurns", inPlace := ["internal/bytealg.IndexByteString", "internal/bytealg.IndexString"], unfollowed := true, recurses := true, named := ["tithing/expr.table", "unicode/utf8.first", "unicode/utf8.acceptRanges", "internal/bytealg.MaxLen"], plainKeys := false, apart := false, laid := [("unicode/utf8.acceptRanges", laid_unicode_utf8_acceptRanges), ("tithing/expr.table", laid_tithing_expr_table), ("unicode/utf8.first", laid_unicode_utf8_first)], narrowed := true }
def MonoTurnsUptoSaid : Prop := monoTurnsUptoRow.holds Tryz.pinned (OpenSpec.upto monoTurnsSpec)

/-- 'tithinglaw10.MonoPlain', WHERE WHAT IT READS IS OF BULK AT MOST 1048576: true; the input reads as it did. -/
def monoPlainUptoRow : OpenClaim := { program := "ytcjindbblhcopaagreatdoor", sum := "768afba6e9f932d0f900920e691aac3e98065671c63a16f3eb839139b3aab8bd", func := "tithing/tithinglaw10.MonoPlain", spec := "monoPlain", inPlace := ["internal/bytealg.IndexByteString", "internal/bytealg.IndexString"], unfollowed := true, recurses := true, named := ["tithing/expr.table", "unicode/utf8.first", "unicode/utf8.acceptRanges", "internal/bytealg.MaxLen"], plainKeys := false, apart := false, laid := [("unicode/utf8.acceptRanges", laid_unicode_utf8_acceptRanges), ("tithing/expr.table", laid_tithing_expr_table), ("unicode/utf8.first", laid_unicode_utf8_first)], narrowed := true }
def MonoPlainUptoSaid : Prop := monoPlainUptoRow.holds Tryz.pinned (OpenSpec.upto monoPlainSpec)

/-- 'tithinglaw10.MonoSubsts', WHERE WHAT IT READS IS OF BULK AT MOST 1048576: true; the input reads as it did. -/
def monoSubstsUptoRow : OpenClaim := { program := "ytcjindbblhcopaagreatdoor", sum := "768afba6e9f932d0f900920e691aac3e98065671c63a16f3eb839139b3aab8bd", func := "tithing/tithinglaw10.MonoSubsts", spec := "monoSubsts", inPlace := ["internal/bytealg.IndexByteString", "internal/bytealg.IndexString"], unfollowed := true, recurses := true, named := ["tithing/expr.table", "unicode/utf8.first", "unicode/utf8.acceptRanges", "internal/bytealg.MaxLen"], plainKeys := false, apart := false, laid := [("unicode/utf8.acceptRanges", laid_unicode_utf8_acceptRanges), ("tithing/expr.table", laid_tithing_expr_table), ("unicode/utf8.first", laid_unicode_utf8_first)], narrowed := true }
def MonoSubstsUptoSaid : Prop := monoSubstsUptoRow.holds Tryz.pinned (OpenSpec.upto monoSubstsSpec)

/-- 'tithinglaw10.MonoSound', WHERE WHAT IT READS IS OF BULK AT MOST 1048576: true; the input reads as it did. -/
def monoSoundUptoRow : OpenClaim := { program := "ytcjindbblhcopaagreatdoor", sum := "768afba6e9f932d0f900920e691aac3e98065671c63a16f3eb839139b3aab8bd", func := "tithing/tithinglaw10.MonoSound", spec := "monoSound", inPlace := ["internal/bytealg.IndexByteString", "internal/bytealg.IndexString"], unfollowed := true, recurses := true, named := ["tithing/expr.table", "unicode/utf8.first", "unicode/utf8.acceptRanges", "internal/bytealg.MaxLen"], plainKeys := false, apart := false, laid := [("unicode/utf8.acceptRanges", laid_unicode_utf8_acceptRanges), ("tithing/expr.table", laid_tithing_expr_table), ("unicode/utf8.first", laid_unicode_utf8_first)], narrowed := true }
def MonoSoundUptoSaid : Prop := monoSoundUptoRow.holds Tryz.pinned (OpenSpec.upto monoSoundSpec)

end Rows
end Go.Proofs.YtcjindbblhcopaaGreatDoor
