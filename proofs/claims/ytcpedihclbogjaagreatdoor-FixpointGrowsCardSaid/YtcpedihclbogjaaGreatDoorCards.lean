/-
  DERIVED. GIVEN WITH THE SEED: THE CARDS: each row of YtcpedihclbogjaaGreatDoorRows.lean that lists a variable, with what it lists TIED to the program's text (the seventh form; the later family's looks); each row that meets fmt, with fmt's text TOLD by the authors' own Lean function (tested against real Go, not proved from fmt's source: count such statements apart). THE CARD IS WHAT COUNTS. Prove the row's statement (the work); the ties are given (YtcpedihclbogjaaGreatDoorTie.lean); close each card by the builder's one call (the guide's Derived/Test/ToyasCard.lean, 'card_holds'). Laid BY PROGRAM, IN A SANDBOX (cutbox-door.mjs). By AI agents, Wed Nov 11 2026. No macro, syntax, notation, axiom, sorry.
-/
import Derived.Test.YtcpedihclbogjaaGreatDoorRows
import GoSem.ClaimSeven
namespace Go.Proofs.YtcpedihclbogjaaGreatDoor
namespace Rows

/-- THE TIED CARD OF 'tithinglaw16.FixpointChecks'. -/
def fixpointChecksCard : Claim7 := { stood := { row := fixpointChecksRow, standIns := [], harness := (true, "1ca9e41e63b913216814917f130c885c4a09a059705249b35677b8e09076564b"), looks := false }, kinds := [], alts := [], laidByText := true, laidKinds := [.data, .widerDeep, .pinned], laidTests := true, laidLooks := .later }
def FixpointChecksCardSaid : Prop := Claim7.holds Tryz.pinned (.plain (OpenSpec.ofChange fixpointChecksSpec)) fixpointChecksCard

/-- THE TIED CARD OF 'tithinglaw16.FixpointRounds'. -/
def fixpointRoundsCard : Claim7 := { stood := { row := fixpointRoundsRow, standIns := [], harness := (true, "1ca9e41e63b913216814917f130c885c4a09a059705249b35677b8e09076564b"), looks := false }, kinds := [], alts := [], laidByText := true, laidKinds := [.data, .widerDeep, .pinned], laidTests := true, laidLooks := .later }
def FixpointRoundsCardSaid : Prop := Claim7.holds Tryz.pinned (.plain (OpenSpec.ofChange fixpointRoundsSpec)) fixpointRoundsCard

/-- THE TIED CARD OF 'tithinglaw16.FixpointAccepts'. -/
def fixpointAcceptsCard : Claim7 := { stood := { row := fixpointAcceptsRow, standIns := [], harness := (true, "1ca9e41e63b913216814917f130c885c4a09a059705249b35677b8e09076564b"), looks := false }, kinds := [], alts := [], laidByText := true, laidKinds := [.data, .widerDeep, .pinned], laidTests := true, laidLooks := .later }
def FixpointAcceptsCardSaid : Prop := Claim7.holds Tryz.pinned (.plain (OpenSpec.ofChange fixpointAcceptsSpec)) fixpointAcceptsCard

/-- THE TIED CARD OF 'tithinglaw16.FixpointLeast'. -/
def fixpointLeastCard : Claim7 := { stood := { row := fixpointLeastRow, standIns := [], harness := (true, "1ca9e41e63b913216814917f130c885c4a09a059705249b35677b8e09076564b"), looks := false }, kinds := [], alts := [], laidByText := true, laidKinds := [.data, .widerDeep, .pinned], laidTests := true, laidLooks := .later }
def FixpointLeastCardSaid : Prop := Claim7.holds Tryz.pinned (.plain (OpenSpec.ofChange fixpointLeastSpec)) fixpointLeastCard

/-- THE TIED CARD OF 'tithinglaw16.FixpointMonotone'. -/
def fixpointMonotoneCard : Claim7 := { stood := { row := fixpointMonotoneRow, standIns := [], harness := (true, "1ca9e41e63b913216814917f130c885c4a09a059705249b35677b8e09076564b"), looks := false }, kinds := [], alts := [], laidByText := true, laidKinds := [.data, .widerDeep, .pinned], laidTests := true, laidLooks := .later }
def FixpointMonotoneCardSaid : Prop := Claim7.holds Tryz.pinned (.plain (OpenSpec.ofChange fixpointMonotoneSpec)) fixpointMonotoneCard

/-- THE TIED CARD OF 'tithinglaw16.FixpointChains'. -/
def fixpointChainsCard : Claim7 := { stood := { row := fixpointChainsRow, standIns := [], harness := (true, "1ca9e41e63b913216814917f130c885c4a09a059705249b35677b8e09076564b"), looks := false }, kinds := [], alts := [], laidByText := true, laidKinds := [.data, .widerDeep, .pinned], laidTests := true, laidLooks := .later }
def FixpointChainsCardSaid : Prop := Claim7.holds Tryz.pinned (.plain (OpenSpec.ofChange fixpointChainsSpec)) fixpointChainsCard

/-- THE TIED CARD OF 'tithinglaw16.FixpointGrows'. -/
def fixpointGrowsCard : Claim7 := { stood := { row := fixpointGrowsRow, standIns := [], harness := (true, "1ca9e41e63b913216814917f130c885c4a09a059705249b35677b8e09076564b"), looks := false }, kinds := [], alts := [], laidByText := true, laidKinds := [.data, .widerDeep, .pinned], laidTests := true, laidLooks := .later }
def FixpointGrowsCardSaid : Prop := Claim7.holds Tryz.pinned (.plain (OpenSpec.ofChange fixpointGrowsSpec)) fixpointGrowsCard

/-- THE SECOND FORM's CARD OF 'tithinglaw16.FixpointChecks'. -/
def fixpointChecksUptoCard : Claim7 := { stood := { row := fixpointChecksUptoRow, standIns := [], harness := (true, "1ca9e41e63b913216814917f130c885c4a09a059705249b35677b8e09076564b"), looks := false }, kinds := [], alts := [], laidByText := true, laidKinds := [.data, .widerDeep, .pinned], laidTests := true, laidLooks := .later }
def FixpointChecksUptoCardSaid : Prop := Claim7.holds Tryz.pinned (.plain (OpenSpec.upto fixpointChecksSpec)) fixpointChecksUptoCard

/-- THE SECOND FORM's CARD OF 'tithinglaw16.FixpointRounds'. -/
def fixpointRoundsUptoCard : Claim7 := { stood := { row := fixpointRoundsUptoRow, standIns := [], harness := (true, "1ca9e41e63b913216814917f130c885c4a09a059705249b35677b8e09076564b"), looks := false }, kinds := [], alts := [], laidByText := true, laidKinds := [.data, .widerDeep, .pinned], laidTests := true, laidLooks := .later }
def FixpointRoundsUptoCardSaid : Prop := Claim7.holds Tryz.pinned (.plain (OpenSpec.upto fixpointRoundsSpec)) fixpointRoundsUptoCard

/-- THE SECOND FORM's CARD OF 'tithinglaw16.FixpointAccepts'. -/
def fixpointAcceptsUptoCard : Claim7 := { stood := { row := fixpointAcceptsUptoRow, standIns := [], harness := (true, "1ca9e41e63b913216814917f130c885c4a09a059705249b35677b8e09076564b"), looks := false }, kinds := [], alts := [], laidByText := true, laidKinds := [.data, .widerDeep, .pinned], laidTests := true, laidLooks := .later }
def FixpointAcceptsUptoCardSaid : Prop := Claim7.holds Tryz.pinned (.plain (OpenSpec.upto fixpointAcceptsSpec)) fixpointAcceptsUptoCard

/-- THE SECOND FORM's CARD OF 'tithinglaw16.FixpointLeast'. -/
def fixpointLeastUptoCard : Claim7 := { stood := { row := fixpointLeastUptoRow, standIns := [], harness := (true, "1ca9e41e63b913216814917f130c885c4a09a059705249b35677b8e09076564b"), looks := false }, kinds := [], alts := [], laidByText := true, laidKinds := [.data, .widerDeep, .pinned], laidTests := true, laidLooks := .later }
def FixpointLeastUptoCardSaid : Prop := Claim7.holds Tryz.pinned (.plain (OpenSpec.upto fixpointLeastSpec)) fixpointLeastUptoCard

/-- THE SECOND FORM's CARD OF 'tithinglaw16.FixpointMonotone'. -/
def fixpointMonotoneUptoCard : Claim7 := { stood := { row := fixpointMonotoneUptoRow, standIns := [], harness := (true, "1ca9e41e63b913216814917f130c885c4a09a059705249b35677b8e09076564b"), looks := false }, kinds := [], alts := [], laidByText := true, laidKinds := [.data, .widerDeep, .pinned], laidTests := true, laidLooks := .later }
def FixpointMonotoneUptoCardSaid : Prop := Claim7.holds Tryz.pinned (.plain (OpenSpec.upto fixpointMonotoneSpec)) fixpointMonotoneUptoCard

/-- THE SECOND FORM's CARD OF 'tithinglaw16.FixpointChains'. -/
def fixpointChainsUptoCard : Claim7 := { stood := { row := fixpointChainsUptoRow, standIns := [], harness := (true, "1ca9e41e63b913216814917f130c885c4a09a059705249b35677b8e09076564b"), looks := false }, kinds := [], alts := [], laidByText := true, laidKinds := [.data, .widerDeep, .pinned], laidTests := true, laidLooks := .later }
def FixpointChainsUptoCardSaid : Prop := Claim7.holds Tryz.pinned (.plain (OpenSpec.upto fixpointChainsSpec)) fixpointChainsUptoCard

/-- THE SECOND FORM's CARD OF 'tithinglaw16.FixpointGrows'. -/
def fixpointGrowsUptoCard : Claim7 := { stood := { row := fixpointGrowsUptoRow, standIns := [], harness := (true, "1ca9e41e63b913216814917f130c885c4a09a059705249b35677b8e09076564b"), looks := false }, kinds := [], alts := [], laidByText := true, laidKinds := [.data, .widerDeep, .pinned], laidTests := true, laidLooks := .later }
def FixpointGrowsUptoCardSaid : Prop := Claim7.holds Tryz.pinned (.plain (OpenSpec.upto fixpointGrowsSpec)) fixpointGrowsUptoCard
end Rows
end Go.Proofs.YtcpedihclbogjaaGreatDoor
