/-
  DERIVED. GIVEN WITH THE SEED: THE CARDS: each row of YtpjkeigmiooooaaGreatDoorRows.lean that lists a variable, with what it lists TIED to the program's text (the seventh form; the later family's looks); each row that meets fmt, with fmt's text TOLD by the authors' own Lean function (tested against real Go, not proved from fmt's source: count such statements apart). THE CARD IS WHAT COUNTS. Prove the row's statement (the work); the ties are given (YtpjkeigmiooooaaGreatDoorTie.lean); close each card by the builder's one call (the guide's Derived/Test/ToyasCard.lean, 'card_holds'). Laid BY PROGRAM, IN A SANDBOX (cutbox-door.mjs). By AI agents, Wed Nov 11 2026. No macro, syntax, notation, axiom, sorry.
-/
import Derived.Test.YtpjkeigmiooooaaGreatDoorRows
import GoSem.ClaimSeven
namespace Go.Proofs.YtpjkeigmiooooaaGreatDoor
namespace Rows

/-- THE TIED CARD OF 'tithinglaw08.CheckRaw'. -/
def checkRawCard : Claim7 := { stood := { row := checkRawRow, standIns := [], harness := (true, "98928fa99ade7c0833208f710d5bcd20442fe6a5d27bc5204a6e911679c0687a"), looks := true }, kinds := [], alts := [], laidByText := true, laidKinds := [.data, .widerDeep, .data, .data, .data, .data, .pinned], laidTests := true, laidLooks := .later }
def CheckRawCardSaid : Prop := Claim7.holds Tryz.pinned (.plain (OpenSpec.ofChange checkRawSpec)) checkRawCard

/-- THE TIED CARD OF 'tithinglaw08.CheckMade'. -/
def checkMadeCard : Claim7 := { stood := { row := checkMadeRow, standIns := [], harness := (true, "98928fa99ade7c0833208f710d5bcd20442fe6a5d27bc5204a6e911679c0687a"), looks := true }, kinds := [], alts := [], laidByText := true, laidKinds := [.data, .widerDeep, .data, .data, .data, .data, .pinned], laidTests := true, laidLooks := .later }
def CheckMadeCardSaid : Prop := Claim7.holds Tryz.pinned (.plain (OpenSpec.ofChange checkMadeSpec)) checkMadeCard

/-- THE TIED CARD OF 'tithinglaw08.CheckBroken'. -/
def checkBrokenCard : Claim7 := { stood := { row := checkBrokenRow, standIns := [], harness := (true, "98928fa99ade7c0833208f710d5bcd20442fe6a5d27bc5204a6e911679c0687a"), looks := true }, kinds := [], alts := [], laidByText := true, laidKinds := [.data, .widerDeep, .data, .data, .data, .data, .pinned], laidTests := true, laidLooks := .later }
def CheckBrokenCardSaid : Prop := Claim7.holds Tryz.pinned (.plain (OpenSpec.ofChange checkBrokenSpec)) checkBrokenCard

/-- THE TIED CARD OF 'tithinglaw08.CheckUnits'. -/
def checkUnitsCard : Claim7 := { stood := { row := checkUnitsRow, standIns := [], harness := (true, "98928fa99ade7c0833208f710d5bcd20442fe6a5d27bc5204a6e911679c0687a"), looks := true }, kinds := [], alts := [], laidByText := true, laidKinds := [.data, .widerDeep, .data, .data, .data, .data, .pinned], laidTests := true, laidLooks := .later }
def CheckUnitsCardSaid : Prop := Claim7.holds Tryz.pinned (.plain (OpenSpec.ofChange checkUnitsSpec)) checkUnitsCard

/-- THE TIED CARD OF 'tithinglaw08.CheckOperators'. -/
def checkOperatorsCard : Claim7 := { stood := { row := checkOperatorsRow, standIns := [], harness := (true, "98928fa99ade7c0833208f710d5bcd20442fe6a5d27bc5204a6e911679c0687a"), looks := true }, kinds := [], alts := [], laidByText := true, laidKinds := [.data, .widerDeep, .data, .data, .data, .data, .pinned], laidTests := true, laidLooks := .later }
def CheckOperatorsCardSaid : Prop := Claim7.holds Tryz.pinned (.plain (OpenSpec.ofChange checkOperatorsSpec)) checkOperatorsCard

/-- THE TIED CARD OF 'tithinglaw08.CheckParts'. -/
def checkPartsCard : Claim7 := { stood := { row := checkPartsRow, standIns := [], harness := (true, "98928fa99ade7c0833208f710d5bcd20442fe6a5d27bc5204a6e911679c0687a"), looks := true }, kinds := [], alts := [], laidByText := true, laidKinds := [.data, .widerDeep, .data, .data, .data, .data, .pinned], laidTests := true, laidLooks := .later }
def CheckPartsCardSaid : Prop := Claim7.holds Tryz.pinned (.plain (OpenSpec.ofChange checkPartsSpec)) checkPartsCard

/-- THE TIED CARD OF 'tithinglaw08.CheckSigs'. -/
def checkSigsCard : Claim7 := { stood := { row := checkSigsRow, standIns := [], harness := (true, "98928fa99ade7c0833208f710d5bcd20442fe6a5d27bc5204a6e911679c0687a"), looks := true }, kinds := [], alts := [], laidByText := true, laidKinds := [.data, .widerDeep, .data, .data, .data, .data, .pinned], laidTests := true, laidLooks := .later }
def CheckSigsCardSaid : Prop := Claim7.holds Tryz.pinned (.plain (OpenSpec.ofChange checkSigsSpec)) checkSigsCard

/-- THE TIED CARD OF 'tithinglaw08.CheckSubst'. -/
def checkSubstCard : Claim7 := { stood := { row := checkSubstRow, standIns := [], harness := (true, "98928fa99ade7c0833208f710d5bcd20442fe6a5d27bc5204a6e911679c0687a"), looks := true }, kinds := [], alts := [], laidByText := true, laidKinds := [.data, .widerDeep, .data, .data, .data, .data, .pinned], laidTests := true, laidLooks := .later }
def CheckSubstCardSaid : Prop := Claim7.holds Tryz.pinned (.plain (OpenSpec.ofChange checkSubstSpec)) checkSubstCard

/-- THE SECOND FORM's CARD OF 'tithinglaw08.CheckRaw'. -/
def checkRawUptoCard : Claim7 := { stood := { row := checkRawUptoRow, standIns := [], harness := (true, "98928fa99ade7c0833208f710d5bcd20442fe6a5d27bc5204a6e911679c0687a"), looks := true }, kinds := [], alts := [], laidByText := true, laidKinds := [.data, .widerDeep, .data, .data, .data, .data, .pinned], laidTests := true, laidLooks := .later }
def CheckRawUptoCardSaid : Prop := Claim7.holds Tryz.pinned (.plain (OpenSpec.upto checkRawSpec)) checkRawUptoCard

/-- THE SECOND FORM's CARD OF 'tithinglaw08.CheckMade'. -/
def checkMadeUptoCard : Claim7 := { stood := { row := checkMadeUptoRow, standIns := [], harness := (true, "98928fa99ade7c0833208f710d5bcd20442fe6a5d27bc5204a6e911679c0687a"), looks := true }, kinds := [], alts := [], laidByText := true, laidKinds := [.data, .widerDeep, .data, .data, .data, .data, .pinned], laidTests := true, laidLooks := .later }
def CheckMadeUptoCardSaid : Prop := Claim7.holds Tryz.pinned (.plain (OpenSpec.upto checkMadeSpec)) checkMadeUptoCard

/-- THE SECOND FORM's CARD OF 'tithinglaw08.CheckBroken'. -/
def checkBrokenUptoCard : Claim7 := { stood := { row := checkBrokenUptoRow, standIns := [], harness := (true, "98928fa99ade7c0833208f710d5bcd20442fe6a5d27bc5204a6e911679c0687a"), looks := true }, kinds := [], alts := [], laidByText := true, laidKinds := [.data, .widerDeep, .data, .data, .data, .data, .pinned], laidTests := true, laidLooks := .later }
def CheckBrokenUptoCardSaid : Prop := Claim7.holds Tryz.pinned (.plain (OpenSpec.upto checkBrokenSpec)) checkBrokenUptoCard

/-- THE SECOND FORM's CARD OF 'tithinglaw08.CheckUnits'. -/
def checkUnitsUptoCard : Claim7 := { stood := { row := checkUnitsUptoRow, standIns := [], harness := (true, "98928fa99ade7c0833208f710d5bcd20442fe6a5d27bc5204a6e911679c0687a"), looks := true }, kinds := [], alts := [], laidByText := true, laidKinds := [.data, .widerDeep, .data, .data, .data, .data, .pinned], laidTests := true, laidLooks := .later }
def CheckUnitsUptoCardSaid : Prop := Claim7.holds Tryz.pinned (.plain (OpenSpec.upto checkUnitsSpec)) checkUnitsUptoCard

/-- THE SECOND FORM's CARD OF 'tithinglaw08.CheckOperators'. -/
def checkOperatorsUptoCard : Claim7 := { stood := { row := checkOperatorsUptoRow, standIns := [], harness := (true, "98928fa99ade7c0833208f710d5bcd20442fe6a5d27bc5204a6e911679c0687a"), looks := true }, kinds := [], alts := [], laidByText := true, laidKinds := [.data, .widerDeep, .data, .data, .data, .data, .pinned], laidTests := true, laidLooks := .later }
def CheckOperatorsUptoCardSaid : Prop := Claim7.holds Tryz.pinned (.plain (OpenSpec.upto checkOperatorsSpec)) checkOperatorsUptoCard

/-- THE SECOND FORM's CARD OF 'tithinglaw08.CheckParts'. -/
def checkPartsUptoCard : Claim7 := { stood := { row := checkPartsUptoRow, standIns := [], harness := (true, "98928fa99ade7c0833208f710d5bcd20442fe6a5d27bc5204a6e911679c0687a"), looks := true }, kinds := [], alts := [], laidByText := true, laidKinds := [.data, .widerDeep, .data, .data, .data, .data, .pinned], laidTests := true, laidLooks := .later }
def CheckPartsUptoCardSaid : Prop := Claim7.holds Tryz.pinned (.plain (OpenSpec.upto checkPartsSpec)) checkPartsUptoCard

/-- THE SECOND FORM's CARD OF 'tithinglaw08.CheckSigs'. -/
def checkSigsUptoCard : Claim7 := { stood := { row := checkSigsUptoRow, standIns := [], harness := (true, "98928fa99ade7c0833208f710d5bcd20442fe6a5d27bc5204a6e911679c0687a"), looks := true }, kinds := [], alts := [], laidByText := true, laidKinds := [.data, .widerDeep, .data, .data, .data, .data, .pinned], laidTests := true, laidLooks := .later }
def CheckSigsUptoCardSaid : Prop := Claim7.holds Tryz.pinned (.plain (OpenSpec.upto checkSigsSpec)) checkSigsUptoCard

/-- THE SECOND FORM's CARD OF 'tithinglaw08.CheckSubst'. -/
def checkSubstUptoCard : Claim7 := { stood := { row := checkSubstUptoRow, standIns := [], harness := (true, "98928fa99ade7c0833208f710d5bcd20442fe6a5d27bc5204a6e911679c0687a"), looks := true }, kinds := [], alts := [], laidByText := true, laidKinds := [.data, .widerDeep, .data, .data, .data, .data, .pinned], laidTests := true, laidLooks := .later }
def CheckSubstUptoCardSaid : Prop := Claim7.holds Tryz.pinned (.plain (OpenSpec.upto checkSubstSpec)) checkSubstUptoCard
end Rows
end Go.Proofs.YtpjkeigmiooooaaGreatDoor
