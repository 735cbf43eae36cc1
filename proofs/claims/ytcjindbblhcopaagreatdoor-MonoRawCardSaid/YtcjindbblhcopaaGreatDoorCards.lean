/-
  DERIVED. GIVEN WITH THE SEED: THE CARDS: each row of YtcjindbblhcopaaGreatDoorRows.lean that lists a variable, with what it lists TIED to the program's text (the seventh form; the later family's looks); each row that meets fmt, with fmt's text TOLD by the authors' own Lean function (tested against real Go, not proved from fmt's source: count such statements apart). THE CARD IS WHAT COUNTS. Prove the row's statement (the work); the ties are given (YtcjindbblhcopaaGreatDoorTie.lean); close each card by the builder's one call (the guide's Derived/Test/ToyasCard.lean, 'card_holds'). Laid BY PROGRAM, IN A SANDBOX (cutbox-door.mjs). By AI agents, Wed Nov 11 2026. No macro, syntax, notation, axiom, sorry.
-/
import Derived.Test.YtcjindbblhcopaaGreatDoorRows
import GoSem.ClaimSeven
namespace Go.Proofs.YtcjindbblhcopaaGreatDoor
namespace Rows

/-- THE TIED CARD OF 'tithinglaw10.MonoSenses'. -/
def monoSensesCard : Claim7 := { stood := { row := monoSensesRow, standIns := [], harness := (true, "ce71223820ce88780235e5c77b2ff5dff83dfd873d7e256c3b389909960b045d"), looks := false }, kinds := [], alts := [], laidByText := true, laidKinds := [.data, .widerDeep, .pinned], laidTests := true, laidLooks := .later }
def MonoSensesCardSaid : Prop := Claim7.holds Tryz.pinned (.plain (OpenSpec.ofChange monoSensesSpec)) monoSensesCard

/-- THE TIED CARD OF 'tithinglaw10.MonoRaw'. -/
def monoRawCard : Claim7 := { stood := { row := monoRawRow, standIns := [], harness := (true, "ce71223820ce88780235e5c77b2ff5dff83dfd873d7e256c3b389909960b045d"), looks := false }, kinds := [], alts := [], laidByText := true, laidKinds := [.data, .widerDeep, .pinned], laidTests := true, laidLooks := .later }
def MonoRawCardSaid : Prop := Claim7.holds Tryz.pinned (.plain (OpenSpec.ofChange monoRawSpec)) monoRawCard

/-- THE TIED CARD OF 'tithinglaw10.MonoRises'. -/
def monoRisesCard : Claim7 := { stood := { row := monoRisesRow, standIns := [], harness := (true, "ce71223820ce88780235e5c77b2ff5dff83dfd873d7e256c3b389909960b045d"), looks := false }, kinds := [], alts := [], laidByText := true, laidKinds := [.data, .widerDeep, .pinned], laidTests := true, laidLooks := .later }
def MonoRisesCardSaid : Prop := Claim7.holds Tryz.pinned (.plain (OpenSpec.ofChange monoRisesSpec)) monoRisesCard

/-- THE TIED CARD OF 'tithinglaw10.MonoTurns'. -/
def monoTurnsCard : Claim7 := { stood := { row := monoTurnsRow, standIns := [], harness := (true, "ce71223820ce88780235e5c77b2ff5dff83dfd873d7e256c3b389909960b045d"), looks := false }, kinds := [], alts := [], laidByText := true, laidKinds := [.data, .widerDeep, .pinned], laidTests := true, laidLooks := .later }
def MonoTurnsCardSaid : Prop := Claim7.holds Tryz.pinned (.plain (OpenSpec.ofChange monoTurnsSpec)) monoTurnsCard

/-- THE TIED CARD OF 'tithinglaw10.MonoPlain'. -/
def monoPlainCard : Claim7 := { stood := { row := monoPlainRow, standIns := [], harness := (true, "ce71223820ce88780235e5c77b2ff5dff83dfd873d7e256c3b389909960b045d"), looks := false }, kinds := [], alts := [], laidByText := true, laidKinds := [.data, .widerDeep, .pinned], laidTests := true, laidLooks := .later }
def MonoPlainCardSaid : Prop := Claim7.holds Tryz.pinned (.plain (OpenSpec.ofChange monoPlainSpec)) monoPlainCard

/-- THE TIED CARD OF 'tithinglaw10.MonoSubsts'. -/
def monoSubstsCard : Claim7 := { stood := { row := monoSubstsRow, standIns := [], harness := (true, "ce71223820ce88780235e5c77b2ff5dff83dfd873d7e256c3b389909960b045d"), looks := false }, kinds := [], alts := [], laidByText := true, laidKinds := [.data, .widerDeep, .pinned], laidTests := true, laidLooks := .later }
def MonoSubstsCardSaid : Prop := Claim7.holds Tryz.pinned (.plain (OpenSpec.ofChange monoSubstsSpec)) monoSubstsCard

/-- THE TIED CARD OF 'tithinglaw10.MonoSound'. -/
def monoSoundCard : Claim7 := { stood := { row := monoSoundRow, standIns := [], harness := (true, "ce71223820ce88780235e5c77b2ff5dff83dfd873d7e256c3b389909960b045d"), looks := false }, kinds := [], alts := [], laidByText := true, laidKinds := [.data, .widerDeep, .pinned], laidTests := true, laidLooks := .later }
def MonoSoundCardSaid : Prop := Claim7.holds Tryz.pinned (.plain (OpenSpec.ofChange monoSoundSpec)) monoSoundCard

/-- THE SECOND FORM's CARD OF 'tithinglaw10.MonoSenses'. -/
def monoSensesUptoCard : Claim7 := { stood := { row := monoSensesUptoRow, standIns := [], harness := (true, "ce71223820ce88780235e5c77b2ff5dff83dfd873d7e256c3b389909960b045d"), looks := false }, kinds := [], alts := [], laidByText := true, laidKinds := [.data, .widerDeep, .pinned], laidTests := true, laidLooks := .later }
def MonoSensesUptoCardSaid : Prop := Claim7.holds Tryz.pinned (.plain (OpenSpec.upto monoSensesSpec)) monoSensesUptoCard

/-- THE SECOND FORM's CARD OF 'tithinglaw10.MonoRaw'. -/
def monoRawUptoCard : Claim7 := { stood := { row := monoRawUptoRow, standIns := [], harness := (true, "ce71223820ce88780235e5c77b2ff5dff83dfd873d7e256c3b389909960b045d"), looks := false }, kinds := [], alts := [], laidByText := true, laidKinds := [.data, .widerDeep, .pinned], laidTests := true, laidLooks := .later }
def MonoRawUptoCardSaid : Prop := Claim7.holds Tryz.pinned (.plain (OpenSpec.upto monoRawSpec)) monoRawUptoCard

/-- THE SECOND FORM's CARD OF 'tithinglaw10.MonoRises'. -/
def monoRisesUptoCard : Claim7 := { stood := { row := monoRisesUptoRow, standIns := [], harness := (true, "ce71223820ce88780235e5c77b2ff5dff83dfd873d7e256c3b389909960b045d"), looks := false }, kinds := [], alts := [], laidByText := true, laidKinds := [.data, .widerDeep, .pinned], laidTests := true, laidLooks := .later }
def MonoRisesUptoCardSaid : Prop := Claim7.holds Tryz.pinned (.plain (OpenSpec.upto monoRisesSpec)) monoRisesUptoCard

/-- THE SECOND FORM's CARD OF 'tithinglaw10.MonoTurns'. -/
def monoTurnsUptoCard : Claim7 := { stood := { row := monoTurnsUptoRow, standIns := [], harness := (true, "ce71223820ce88780235e5c77b2ff5dff83dfd873d7e256c3b389909960b045d"), looks := false }, kinds := [], alts := [], laidByText := true, laidKinds := [.data, .widerDeep, .pinned], laidTests := true, laidLooks := .later }
def MonoTurnsUptoCardSaid : Prop := Claim7.holds Tryz.pinned (.plain (OpenSpec.upto monoTurnsSpec)) monoTurnsUptoCard

/-- THE SECOND FORM's CARD OF 'tithinglaw10.MonoPlain'. -/
def monoPlainUptoCard : Claim7 := { stood := { row := monoPlainUptoRow, standIns := [], harness := (true, "ce71223820ce88780235e5c77b2ff5dff83dfd873d7e256c3b389909960b045d"), looks := false }, kinds := [], alts := [], laidByText := true, laidKinds := [.data, .widerDeep, .pinned], laidTests := true, laidLooks := .later }
def MonoPlainUptoCardSaid : Prop := Claim7.holds Tryz.pinned (.plain (OpenSpec.upto monoPlainSpec)) monoPlainUptoCard

/-- THE SECOND FORM's CARD OF 'tithinglaw10.MonoSubsts'. -/
def monoSubstsUptoCard : Claim7 := { stood := { row := monoSubstsUptoRow, standIns := [], harness := (true, "ce71223820ce88780235e5c77b2ff5dff83dfd873d7e256c3b389909960b045d"), looks := false }, kinds := [], alts := [], laidByText := true, laidKinds := [.data, .widerDeep, .pinned], laidTests := true, laidLooks := .later }
def MonoSubstsUptoCardSaid : Prop := Claim7.holds Tryz.pinned (.plain (OpenSpec.upto monoSubstsSpec)) monoSubstsUptoCard

/-- THE SECOND FORM's CARD OF 'tithinglaw10.MonoSound'. -/
def monoSoundUptoCard : Claim7 := { stood := { row := monoSoundUptoRow, standIns := [], harness := (true, "ce71223820ce88780235e5c77b2ff5dff83dfd873d7e256c3b389909960b045d"), looks := false }, kinds := [], alts := [], laidByText := true, laidKinds := [.data, .widerDeep, .pinned], laidTests := true, laidLooks := .later }
def MonoSoundUptoCardSaid : Prop := Claim7.holds Tryz.pinned (.plain (OpenSpec.upto monoSoundSpec)) monoSoundUptoCard
end Rows
end Go.Proofs.YtcjindbblhcopaaGreatDoor
