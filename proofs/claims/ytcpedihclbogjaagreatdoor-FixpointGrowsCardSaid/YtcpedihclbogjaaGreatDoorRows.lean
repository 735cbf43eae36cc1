/-
  NARROWER THAN 'FOR EVERY INPUT', by the rows' own cells (each row's printed sentence says how): FixpointChecks: laid · FixpointRounds: laid · FixpointAccepts: laid · FixpointLeast: laid · FixpointMonotone: laid · FixpointChains: laid · FixpointGrows: laid.
  DERIVED. THE GIVEN ROWS OF THIS SEAT. 7 by the template 'for every input the law returns true; each argument reads behind the call as it read before'; 0 by the template 'total and deterministic' (their statements: YtcpedihclbogjaaGreatDoorTotals.lean).
  GIVEN WITH THE SEED: the statements are not yours to turn. If you find one false, say at which input.
  Laid BY PROGRAM, IN A SANDBOX (cutbox-rows.mjs): the forced cells as the released guide's own fill.sh prints them over the translation 2460be4280da2f7c… (all of the seat's roots in one cut). By AI agents, Wed Nov 11 2026. No macro, syntax, notation, axiom, sorry.
-/
import Derived.Test.YtcpedihclbogjaaGreatDoorChecked
import GoSem.PinnedTables
import GoSem.Claim
import GoSem.ClaimJoined
import GoSem.ClaimMapViews
import Derived.JoinedTies
import Derived.KernelRfl
namespace Go.Proofs.YtcpedihclbogjaaGreatDoor
/- THE CELL 'sum', in the pinned program and in every row, IS THE sha256 OF THE DUMP (.gsa) THAT YtcpedihclbogjaaGreatDoorProg.lean LOADS. Nothing in Lean hashes anything: it is a label: what it is worth is what the hold of that sum in a sandbox is worth. -/
noncomputable def Tryz.pinned : Pinned := { name := "ytcpedihclbogjaagreatdoor", sum := "2460be4280da2f7c039b4d853a5512fb47287b8ac7efb701c2f6594c584d27e0", checked := Tryz.checked }
namespace Rows
def none {H : Type} : Left H := { results := [], args := [] }

/- WHAT THE LISTED PACKAGE-LEVEL VARIABLES READ AS WHEN THE CALL BEGINS. Each datum BY PROGRAM (the guide's laid-datum.mjs) off the statement by which the dump's own 'gosem.cut.vars' lays the variable. In a bare row this is a premise. The card (YtcpedihclbogjaaGreatDoorCards.lean) ties it to the program's text. -/
def laid_unicode_utf8_acceptRanges {H : Type} : DataW H := .agg [.agg [.lit (.int .u8 128), .lit (.int .u8 191)], .agg [.lit (.int .u8 160), .lit (.int .u8 191)], .agg [.lit (.int .u8 128), .lit (.int .u8 159)], .agg [.lit (.int .u8 144), .lit (.int .u8 191)], .agg [.lit (.int .u8 128), .lit (.int .u8 143)], .agg [.lit (.int .u8 0), .lit (.int .u8 0)], .agg [.lit (.int .u8 0), .lit (.int .u8 0)], .agg [.lit (.int .u8 0), .lit (.int .u8 0)], .agg [.lit (.int .u8 0), .lit (.int .u8 0)], .agg [.lit (.int .u8 0), .lit (.int .u8 0)], .agg [.lit (.int .u8 0), .lit (.int .u8 0)], .agg [.lit (.int .u8 0), .lit (.int .u8 0)], .agg [.lit (.int .u8 0), .lit (.int .u8 0)], .agg [.lit (.int .u8 0), .lit (.int .u8 0)], .agg [.lit (.int .u8 0), .lit (.int .u8 0)], .agg [.lit (.int .u8 0), .lit (.int .u8 0)]]
def laid_tithing_expr_table {H : Type} : DataW H := .agg [.agg [.lit (.string []), .lit (.int .i64 0), .lit (.bool false), .lit (.bool false), .lit (.bool false)], .agg [.lit (.string [36]), .lit (.int .i64 0), .lit (.bool true), .lit (.bool false), .lit (.bool false)], .agg [.lit (.string []), .lit (.int .i64 0), .lit (.bool true), .lit (.bool false), .lit (.bool false)], .agg [.lit (.string []), .lit (.int .i64 0), .lit (.bool true), .lit (.bool false), .lit (.bool false)], .agg [.lit (.string []), .lit (.int .i64 0), .lit (.bool true), .lit (.bool false), .lit (.bool false)], .agg [.lit (.string [102, 97, 99, 116, 46]), .lit (.int .i64 0), .lit (.bool false), .lit (.bool true), .lit (.bool false)], .agg [.lit (.string [111, 119, 110, 46]), .lit (.int .i64 0), .lit (.bool false), .lit (.bool true), .lit (.bool false)], .agg [.lit (.string [112, 114, 105, 111, 114, 46]), .lit (.int .i64 0), .lit (.bool false), .lit (.bool true), .lit (.bool false)], .agg [.lit (.string [115, 112, 111, 117, 115, 101, 46]), .lit (.int .i64 0), .lit (.bool false), .lit (.bool true), .lit (.bool false)], .agg [.lit (.string [97, 100, 100]), .lit (.int .i64 2), .lit (.bool false), .lit (.bool false), .lit (.bool false)], .agg [.lit (.string [115, 117, 98]), .lit (.int .i64 2), .lit (.bool false), .lit (.bool false), .lit (.bool false)], .agg [.lit (.string [109, 117, 108]), .lit (.int .i64 2), .lit (.bool false), .lit (.bool false), .lit (.bool false)], .agg [.lit (.string [100, 105, 118]), .lit (.int .i64 2), .lit (.bool false), .lit (.bool false), .lit (.bool false)], .agg [.lit (.string [109, 105, 110]), .lit (.int .i64 2), .lit (.bool false), .lit (.bool false), .lit (.bool false)], .agg [.lit (.string [109, 97, 120]), .lit (.int .i64 2), .lit (.bool false), .lit (.bool false), .lit (.bool false)], .agg [.lit (.string [105, 102]), .lit (.int .i64 3), .lit (.bool false), .lit (.bool false), .lit (.bool false)], .agg [.lit (.string [108, 101, 115, 115]), .lit (.int .i64 2), .lit (.bool false), .lit (.bool false), .lit (.bool false)], .agg [.lit (.string [101, 113, 117, 97, 108]), .lit (.int .i64 2), .lit (.bool false), .lit (.bool false), .lit (.bool false)], .agg [.lit (.string [97, 110, 100]), .lit (.int .i64 2), .lit (.bool false), .lit (.bool false), .lit (.bool false)], .agg [.lit (.string [111, 114]), .lit (.int .i64 2), .lit (.bool false), .lit (.bool false), .lit (.bool false)], .agg [.lit (.string [110, 111, 116]), .lit (.int .i64 1), .lit (.bool false), .lit (.bool false), .lit (.bool false)], .agg [.lit (.string [100, 111, 119, 110]), .lit (.int .i64 1), .lit (.bool false), .lit (.bool false), .lit (.bool true)], .agg [.lit (.string [117, 112]), .lit (.int .i64 1), .lit (.bool false), .lit (.bool false), .lit (.bool true)], .agg [.lit (.string [110, 101, 97, 114]), .lit (.int .i64 1), .lit (.bool false), .lit (.bool false), .lit (.bool true)], .agg [.lit (.string [114, 97, 116, 101, 46]), .lit (.int .i64 1), .lit (.bool false), .lit (.bool true), .lit (.bool false)]]
/-- One of Go's own tables, pinned by name: the form's constant. -/
def laid_unicode_utf8_first : DataW Unit := Go.Pinned.utf8First

/-- 'tithinglaw16.FixpointChecks': WHATEVER THE INPUT: true; the input reads as it did. -/
def fixpointChecksSpec : ChangeSpec := { name := "fixpointChecks", fn := fun _ => fun
  | [d1, d2, d3] => { results := [.lit (.bool true)], args := [d1, d2, d3] }
  | _ => none }
def fixpointChecksRow : OpenClaim := { program := "ytcpedihclbogjaagreatdoor", sum := "2460be4280da2f7c039b4d853a5512fb47287b8ac7efb701c2f6594c584d27e0", func := "tithing/tithinglaw16.FixpointChecks", spec := "fixpointChecks", inPlace := ["internal/bytealg.IndexByteString", "internal/bytealg.IndexString"], unfollowed := true, recurses := true, named := ["tithing/expr.table", "unicode/utf8.first", "unicode/utf8.acceptRanges", "internal/bytealg.MaxLen"], plainKeys := false, apart := false, laid := [("unicode/utf8.acceptRanges", laid_unicode_utf8_acceptRanges), ("tithing/expr.table", laid_tithing_expr_table), ("unicode/utf8.first", laid_unicode_utf8_first)] }
def FixpointChecksSaid : Prop := fixpointChecksRow.holds Tryz.pinned (OpenSpec.ofChange fixpointChecksSpec)

/-- ITS FALSE NEIGHBOUR: 'it returns false'. Refute it at one input. -/
def fixpointChecksWrong : ChangeSpec := { name := "fixpointChecks", fn := fun _ => fun
  | [d1, d2, d3] => { results := [.lit (.bool false)], args := [d1, d2, d3] }
  | _ => none }
def FixpointChecksWrongFalsely : Prop := fixpointChecksRow.holds Tryz.pinned (OpenSpec.ofChange fixpointChecksWrong)

/-- 'tithinglaw16.FixpointRounds': WHATEVER THE INPUT: true; the input reads as it did. -/
def fixpointRoundsSpec : ChangeSpec := { name := "fixpointRounds", fn := fun _ => fun
  | [d1, d2, d3] => { results := [.lit (.bool true)], args := [d1, d2, d3] }
  | _ => none }
def fixpointRoundsRow : OpenClaim := { program := "ytcpedihclbogjaagreatdoor", sum := "2460be4280da2f7c039b4d853a5512fb47287b8ac7efb701c2f6594c584d27e0", func := "tithing/tithinglaw16.FixpointRounds", spec := "fixpointRounds", inPlace := ["internal/bytealg.IndexByteString", "internal/bytealg.IndexString"], unfollowed := true, recurses := true, named := ["tithing/expr.table", "unicode/utf8.first", "unicode/utf8.acceptRanges", "internal/bytealg.MaxLen"], plainKeys := false, apart := false, laid := [("unicode/utf8.acceptRanges", laid_unicode_utf8_acceptRanges), ("tithing/expr.table", laid_tithing_expr_table), ("unicode/utf8.first", laid_unicode_utf8_first)] }
def FixpointRoundsSaid : Prop := fixpointRoundsRow.holds Tryz.pinned (OpenSpec.ofChange fixpointRoundsSpec)

/-- ITS FALSE NEIGHBOUR: 'it returns false'. Refute it at one input. -/
def fixpointRoundsWrong : ChangeSpec := { name := "fixpointRounds", fn := fun _ => fun
  | [d1, d2, d3] => { results := [.lit (.bool false)], args := [d1, d2, d3] }
  | _ => none }
def FixpointRoundsWrongFalsely : Prop := fixpointRoundsRow.holds Tryz.pinned (OpenSpec.ofChange fixpointRoundsWrong)

/-- 'tithinglaw16.FixpointAccepts': WHATEVER THE INPUT: true; the input reads as it did. -/
def fixpointAcceptsSpec : ChangeSpec := { name := "fixpointAccepts", fn := fun _ => fun
  | [d1, d2, d3] => { results := [.lit (.bool true)], args := [d1, d2, d3] }
  | _ => none }
def fixpointAcceptsRow : OpenClaim := { program := "ytcpedihclbogjaagreatdoor", sum := "2460be4280da2f7c039b4d853a5512fb47287b8ac7efb701c2f6594c584d27e0", func := "tithing/tithinglaw16.FixpointAccepts", spec := "fixpointAccepts", inPlace := ["internal/bytealg.IndexByteString", "internal/bytealg.IndexString"], unfollowed := true, recurses := true, named := ["tithing/expr.table", "unicode/utf8.first", "unicode/utf8.acceptRanges", "internal/bytealg.MaxLen"], plainKeys := false, apart := false, laid := [("unicode/utf8.acceptRanges", laid_unicode_utf8_acceptRanges), ("tithing/expr.table", laid_tithing_expr_table), ("unicode/utf8.first", laid_unicode_utf8_first)] }
def FixpointAcceptsSaid : Prop := fixpointAcceptsRow.holds Tryz.pinned (OpenSpec.ofChange fixpointAcceptsSpec)

/-- ITS FALSE NEIGHBOUR: 'it returns false'. Refute it at one input. -/
def fixpointAcceptsWrong : ChangeSpec := { name := "fixpointAccepts", fn := fun _ => fun
  | [d1, d2, d3] => { results := [.lit (.bool false)], args := [d1, d2, d3] }
  | _ => none }
def FixpointAcceptsWrongFalsely : Prop := fixpointAcceptsRow.holds Tryz.pinned (OpenSpec.ofChange fixpointAcceptsWrong)

/-- 'tithinglaw16.FixpointLeast': WHATEVER THE INPUT: true; the input reads as it did. -/
def fixpointLeastSpec : ChangeSpec := { name := "fixpointLeast", fn := fun _ => fun
  | [d1, d2, d3] => { results := [.lit (.bool true)], args := [d1, d2, d3] }
  | _ => none }
def fixpointLeastRow : OpenClaim := { program := "ytcpedihclbogjaagreatdoor", sum := "2460be4280da2f7c039b4d853a5512fb47287b8ac7efb701c2f6594c584d27e0", func := "tithing/tithinglaw16.FixpointLeast", spec := "fixpointLeast", inPlace := ["internal/bytealg.IndexByteString", "internal/bytealg.IndexString"], unfollowed := true, recurses := true, named := ["tithing/expr.table", "unicode/utf8.first", "unicode/utf8.acceptRanges", "internal/bytealg.MaxLen"], plainKeys := false, apart := false, laid := [("unicode/utf8.acceptRanges", laid_unicode_utf8_acceptRanges), ("tithing/expr.table", laid_tithing_expr_table), ("unicode/utf8.first", laid_unicode_utf8_first)] }
def FixpointLeastSaid : Prop := fixpointLeastRow.holds Tryz.pinned (OpenSpec.ofChange fixpointLeastSpec)

/-- ITS FALSE NEIGHBOUR: 'it returns false'. Refute it at one input. -/
def fixpointLeastWrong : ChangeSpec := { name := "fixpointLeast", fn := fun _ => fun
  | [d1, d2, d3] => { results := [.lit (.bool false)], args := [d1, d2, d3] }
  | _ => none }
def FixpointLeastWrongFalsely : Prop := fixpointLeastRow.holds Tryz.pinned (OpenSpec.ofChange fixpointLeastWrong)

/-- 'tithinglaw16.FixpointMonotone': WHATEVER THE INPUT: true; the input reads as it did. -/
def fixpointMonotoneSpec : ChangeSpec := { name := "fixpointMonotone", fn := fun _ => fun
  | [d1, d2, d3] => { results := [.lit (.bool true)], args := [d1, d2, d3] }
  | _ => none }
def fixpointMonotoneRow : OpenClaim := { program := "ytcpedihclbogjaagreatdoor", sum := "2460be4280da2f7c039b4d853a5512fb47287b8ac7efb701c2f6594c584d27e0", func := "tithing/tithinglaw16.FixpointMonotone", spec := "fixpointMonotone", inPlace := ["internal/bytealg.IndexByteString", "internal/bytealg.IndexString"], unfollowed := true, recurses := true, named := ["tithing/expr.table", "unicode/utf8.first", "unicode/utf8.acceptRanges", "internal/bytealg.MaxLen"], plainKeys := false, apart := false, laid := [("unicode/utf8.acceptRanges", laid_unicode_utf8_acceptRanges), ("tithing/expr.table", laid_tithing_expr_table), ("unicode/utf8.first", laid_unicode_utf8_first)] }
def FixpointMonotoneSaid : Prop := fixpointMonotoneRow.holds Tryz.pinned (OpenSpec.ofChange fixpointMonotoneSpec)

/-- ITS FALSE NEIGHBOUR: 'it returns false'. Refute it at one input. -/
def fixpointMonotoneWrong : ChangeSpec := { name := "fixpointMonotone", fn := fun _ => fun
  | [d1, d2, d3] => { results := [.lit (.bool false)], args := [d1, d2, d3] }
  | _ => none }
def FixpointMonotoneWrongFalsely : Prop := fixpointMonotoneRow.holds Tryz.pinned (OpenSpec.ofChange fixpointMonotoneWrong)

/-- 'tithinglaw16.FixpointChains': WHATEVER THE INPUT: true; the input reads as it did. -/
def fixpointChainsSpec : ChangeSpec := { name := "fixpointChains", fn := fun _ => fun
  | [d1, d2] => { results := [.lit (.bool true)], args := [d1, d2] }
  | _ => none }
def fixpointChainsRow : OpenClaim := { program := "ytcpedihclbogjaagreatdoor", sum := "2460be4280da2f7c039b4d853a5512fb47287b8ac7efb701c2f6594c584d27e0", func := "tithing/tithinglaw16.FixpointChains", spec := "fixpointChains", inPlace := ["internal/bytealg.IndexByteString", "internal/bytealg.IndexString"], unfollowed := true, recurses := true, named := ["tithing/expr.table", "unicode/utf8.first", "unicode/utf8.acceptRanges", "internal/bytealg.MaxLen"], plainKeys := false, apart := false, laid := [("unicode/utf8.acceptRanges", laid_unicode_utf8_acceptRanges), ("tithing/expr.table", laid_tithing_expr_table), ("unicode/utf8.first", laid_unicode_utf8_first)] }
def FixpointChainsSaid : Prop := fixpointChainsRow.holds Tryz.pinned (OpenSpec.ofChange fixpointChainsSpec)

/-- ITS FALSE NEIGHBOUR: 'it returns false'. Refute it at one input. -/
def fixpointChainsWrong : ChangeSpec := { name := "fixpointChains", fn := fun _ => fun
  | [d1, d2] => { results := [.lit (.bool false)], args := [d1, d2] }
  | _ => none }
def FixpointChainsWrongFalsely : Prop := fixpointChainsRow.holds Tryz.pinned (OpenSpec.ofChange fixpointChainsWrong)

/-- 'tithinglaw16.FixpointGrows': WHATEVER THE INPUT: true; the input reads as it did. -/
def fixpointGrowsSpec : ChangeSpec := { name := "fixpointGrows", fn := fun _ => fun
  | [d1, d2, d3] => { results := [.lit (.bool true)], args := [d1, d2, d3] }
  | _ => none }
def fixpointGrowsRow : OpenClaim := { program := "ytcpedihclbogjaagreatdoor", sum := "2460be4280da2f7c039b4d853a5512fb47287b8ac7efb701c2f6594c584d27e0", func := "tithing/tithinglaw16.FixpointGrows", spec := "fixpointGrows", inPlace := ["internal/bytealg.IndexByteString", "internal/bytealg.IndexString"], unfollowed := true, recurses := true, named := ["tithing/expr.table", "unicode/utf8.first", "unicode/utf8.acceptRanges", "internal/bytealg.MaxLen"], plainKeys := false, apart := false, laid := [("unicode/utf8.acceptRanges", laid_unicode_utf8_acceptRanges), ("tithing/expr.table", laid_tithing_expr_table), ("unicode/utf8.first", laid_unicode_utf8_first)] }
def FixpointGrowsSaid : Prop := fixpointGrowsRow.holds Tryz.pinned (OpenSpec.ofChange fixpointGrowsSpec)

/-- ITS FALSE NEIGHBOUR: 'it returns false'. Refute it at one input. -/
def fixpointGrowsWrong : ChangeSpec := { name := "fixpointGrows", fn := fun _ => fun
  | [d1, d2, d3] => { results := [.lit (.bool false)], args := [d1, d2, d3] }
  | _ => none }
def FixpointGrowsWrongFalsely : Prop := fixpointGrowsRow.holds Tryz.pinned (OpenSpec.ofChange fixpointGrowsWrong)

/- THE SECOND FORM. 'bulk': how many values and letters a reading holds, each counted each time it is reached (what is shared counts as often as it is met; a slice's spare places count too). A statement '..UptoSaid' is the law's where the arguments, and the package variables that the reading takes, are together of bulk at most 1048576: NARROWER than '..Said'. Prove '..Said' where nothing that the law and all that it calls make is longer than what came in: it says more and counts as full. Else prove '..UptoSaid'. A law counts once. -/
mutual
def uptoBulk {H : Type} : DataW H → Nat
  | .lit (.string bytes) => bytes.length + 1
  | .lit _ => 1
  | .nil => 1
  | .ptr d => uptoBulk d + 1
  | .slice elems spare => uptoBulkAll elems + uptoBulkAll spare + 1
  | .agg parts => uptoBulkAll parts + 1
  | .iface _ d => uptoBulk d + 1
  | .map entries => uptoBulkEntries entries + 1
  | .held _ => 1
def uptoBulkAll {H : Type} : List (DataW H) → Nat
  | [] => 0
  | d :: r => uptoBulk d + uptoBulkAll r
def uptoBulkEntries {H : Type} : List (Lit × DataW H) → Nat
  | [] => 0
  | x :: r => uptoBulkEntry x + uptoBulkEntries r
def uptoBulkEntry {H : Type} : Lit × DataW H → Nat
  | (.string bytes, d) => bytes.length + uptoBulk d + 1
  | (_, d) => uptoBulk d + 1
 end
def uptoSmall : (H : Type) → List (DataW H) → Bool := fun _ ds => decide (uptoBulkAll ds ≤ 1048576)
def OpenSpec.upto (s : _root_.Go.ChangeSpec) : _root_.Go.OpenSpec := { _root_.Go.OpenSpec.ofChange s with cond := some uptoSmall }

/-- 'tithinglaw16.FixpointChecks', WHERE WHAT IT READS IS OF BULK AT MOST 1048576: true; the input reads as it did. -/
def fixpointChecksUptoRow : OpenClaim := { program := "ytcpedihclbogjaagreatdoor", sum := "2460be4280da2f7c039b4d853a5512fb47287b8ac7efb701c2f6594c584d27e0", func := "tithing/tithinglaw16.FixpointChecks", spec := "fixpointChecks", inPlace := ["internal/bytealg.IndexByteString", "internal/bytealg.IndexString"], unfollowed := true, recurses := true, named := ["tithing/expr.table", "unicode/utf8.first", "unicode/utf8.acceptRanges", "internal/bytealg.MaxLen"], plainKeys := false, apart := false, laid := [("unicode/utf8.acceptRanges", laid_unicode_utf8_acceptRanges), ("tithing/expr.table", laid_tithing_expr_table), ("unicode/utf8.first", laid_unicode_utf8_first)], narrowed := true }
def FixpointChecksUptoSaid : Prop := fixpointChecksUptoRow.holds Tryz.pinned (OpenSpec.upto fixpointChecksSpec)

/-- 'tithinglaw16.FixpointRounds', WHERE WHAT IT READS IS OF BULK AT MOST 1048576: true; the input reads as it did. -/
def fixpointRoundsUptoRow : OpenClaim := { program := "ytcpedihclbogjaagreatdoor", sum := "2460be4280da2f7c039b4d853a5512fb47287b8ac7efb701c2f6594c584d27e0", func := "tithing/tithinglaw16.FixpointRounds", spec := "fixpointRounds", inPlace := ["internal/bytealg.IndexByteString", "internal/bytealg.IndexString"], unfollowed := true, recurses := true, named := ["tithing/expr.table", "unicode/utf8.first", "unicode/utf8.acceptRanges", "internal/bytealg.MaxLen"], plainKeys := false, apart := false, laid := [("unicode/utf8.acceptRanges", laid_unicode_utf8_acceptRanges), ("tithing/expr.table", laid_tithing_expr_table), ("unicode/utf8.first", laid_unicode_utf8_first)], narrowed := true }
def FixpointRoundsUptoSaid : Prop := fixpointRoundsUptoRow.holds Tryz.pinned (OpenSpec.upto fixpointRoundsSpec)

/-- 'tithinglaw16.FixpointAccepts', WHERE WHAT IT READS IS OF BULK AT MOST 1048576: true; the input reads as it did. -/
def fixpointAcceptsUptoRow : OpenClaim := { program := "ytcpedihclbogjaagreatdoor", sum := "2460be4280da2f7c039b4d853a5512fb47287b8ac7efb701c2f6594c584d27e0", func := "tithing/tithinglaw16.FixpointAccepts", spec := "fixpointAccepts", inPlace := ["internal/bytealg.IndexByteString", "internal/bytealg.IndexString"], unfollowed := true, recurses := true, named := ["tithing/expr.table", "unicode/utf8.first", "unicode/utf8.acceptRanges", "internal/bytealg.MaxLen"], plainKeys := false, apart := false, laid := [("unicode/utf8.acceptRanges", laid_unicode_utf8_acceptRanges), ("tithing/expr.table", laid_tithing_expr_table), ("unicode/utf8.first", laid_unicode_utf8_first)], narrowed := true }
def FixpointAcceptsUptoSaid : Prop := fixpointAcceptsUptoRow.holds Tryz.pinned (OpenSpec.upto fixpointAcceptsSpec)

/-- 'tithinglaw16.FixpointLeast', WHERE WHAT IT READS IS OF BULK AT MOST 1048576: true; the input reads as it did. -/
def fixpointLeastUptoRow : OpenClaim := { program := "ytcpedihclbogjaagreatdoor", sum := "2460be4280da2f7c039b4d853a5512fb47287b8ac7efb701c2f6594c584d27e0", func := "tithing/tithinglaw16.FixpointLeast", spec := "fixpointLeast", inPlace := ["internal/bytealg.IndexByteString", "internal/bytealg.IndexString"], unfollowed := true, recurses := true, named := ["tithing/expr.table", "unicode/utf8.first", "unicode/utf8.acceptRanges", "internal/bytealg.MaxLen"], plainKeys := false, apart := false, laid := [("unicode/utf8.acceptRanges", laid_unicode_utf8_acceptRanges), ("tithing/expr.table", laid_tithing_expr_table), ("unicode/utf8.first", laid_unicode_utf8_first)], narrowed := true }
def FixpointLeastUptoSaid : Prop := fixpointLeastUptoRow.holds Tryz.pinned (OpenSpec.upto fixpointLeastSpec)

/-- 'tithinglaw16.FixpointMonotone', WHERE WHAT IT READS IS OF BULK AT MOST 1048576: true; the input reads as it did. -/
def fixpointMonotoneUptoRow : OpenClaim := { program := "ytcpedihclbogjaagreatdoor", sum := "2460be4280da2f7c039b4d853a5512fb47287b8ac7efb701c2f6594c584d27e0", func := "tithing/tithinglaw16.FixpointMonotone", spec := "fixpointMonotone", inPlace := ["internal/bytealg.IndexByteString", "internal/bytealg.IndexString"], unfollowed := true, recurses := true, named := ["tithing/expr.table", "unicode/utf8.first", "unicode/utf8.acceptRanges", "internal/bytealg.MaxLen"], plainKeys := false, apart := false, laid := [("unicode/utf8.acceptRanges", laid_unicode_utf8_acceptRanges), ("tithing/expr.table", laid_tithing_expr_table), ("unicode/utf8.first", laid_unicode_utf8_first)], narrowed := true }
def FixpointMonotoneUptoSaid : Prop := fixpointMonotoneUptoRow.holds Tryz.pinned (OpenSpec.upto fixpointMonotoneSpec)

/-- 'tithinglaw16.FixpointChains', WHERE WHAT IT READS IS OF BULK AT MOST 1048576: true; the input reads as it did. -/
def fixpointChainsUptoRow : OpenClaim := { program := "ytcpedihclbogjaagreatdoor", sum := "2460be4280da2f7c039b4d853a5512fb47287b8ac7efb701c2f6594c584d27e0", func := "tithing/tithinglaw16.FixpointChains", spec := "fixpointChains", inPlace := ["internal/bytealg.IndexByteString", "internal/bytealg.IndexString"], unfollowed := true, recurses := true, named := ["tithing/expr.table", "unicode/utf8.first", "unicode/utf8.acceptRanges", "internal/bytealg.MaxLen"], plainKeys := false, apart := false, laid := [("unicode/utf8.acceptRanges", laid_unicode_utf8_acceptRanges), ("tithing/expr.table", laid_tithing_expr_table), ("unicode/utf8.first", laid_unicode_utf8_first)], narrowed := true }
def FixpointChainsUptoSaid : Prop := fixpointChainsUptoRow.holds Tryz.pinned (OpenSpec.upto fixpointChainsSpec)

/-- 'tithinglaw16.FixpointGrows', WHERE WHAT IT READS IS OF BULK AT MOST 1048576: true; the input reads as it did. -/
def fixpointGrowsUptoRow : OpenClaim := { program := "ytcpedihclbogjaagreatdoor", sum := "2460be4280da2f7c039b4d853a5512fb47287b8ac7efb701c2f6594c584d27e0", func := "tithing/tithinglaw16.FixpointGrows", spec := "fixpointGrows", inPlace := ["internal/bytealg.IndexByteString", "internal/bytealg.IndexString"], unfollowed := true, recurses := true, named := ["tithing/expr.table", "unicode/utf8.first", "unicode/utf8.acceptRanges", "internal/bytealg.MaxLen"], plainKeys := false, apart := false, laid := [("unicode/utf8.acceptRanges", laid_unicode_utf8_acceptRanges), ("tithing/expr.table", laid_tithing_expr_table), ("unicode/utf8.first", laid_unicode_utf8_first)], narrowed := true }
def FixpointGrowsUptoSaid : Prop := fixpointGrowsUptoRow.holds Tryz.pinned (OpenSpec.upto fixpointGrowsSpec)

end Rows
end Go.Proofs.YtcpedihclbogjaaGreatDoor
