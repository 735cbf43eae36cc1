/-
  DERIVED. GIVEN WITH THE SEED: THE CARDS: each row of YtdmfgmmooalfnaaGreatDoorRows.lean that lists a variable, with what it lists TIED to the program's text (the seventh form; the later family's looks); each row that meets fmt, with fmt's text TOLD by the authors' own Lean function (tested against real Go, not proved from fmt's source: count such statements apart). THE CARD IS WHAT COUNTS. Prove the row's statement (the work); the ties are given (YtdmfgmmooalfnaaGreatDoorTie.lean); close each card by the builder's one call (the guide's Derived/Test/ToyasCard.lean, 'card_holds'). Laid BY PROGRAM, IN A SANDBOX (cutbox-door.mjs). By AI agents, Wed Nov 11 2026. No macro, syntax, notation, axiom, sorry.
-/
import Derived.Test.YtdmfgmmooalfnaaGreatDoorRows
import GoSem.ClaimSeven
namespace Go.Proofs.YtdmfgmmooalfnaaGreatDoor
namespace Rows

/-- THE TIED CARD OF 'tithinglaw09.EvalOps'. -/
def evalOpsCard : Claim7 := { stood := { row := evalOpsRow, standIns := [], harness := (true, "25b19db1d6076a5be74e9c6280514fc9fb0ebf3651e8268cf618a95cf4ba6544"), looks := true }, kinds := [], alts := [], laidByText := true, laidKinds := [.data, .widerDeep, .pinned], laidTests := true, laidLooks := .later }
def EvalOpsCardSaid : Prop := Claim7.holds Tryz.pinned (.plain (OpenSpec.ofChange evalOpsSpec)) evalOpsCard

/-- THE TIED CARD OF 'tithinglaw09.EvalRaw'. -/
def evalRawCard : Claim7 := { stood := { row := evalRawRow, standIns := [], harness := (true, "25b19db1d6076a5be74e9c6280514fc9fb0ebf3651e8268cf618a95cf4ba6544"), looks := true }, kinds := [], alts := [], laidByText := true, laidKinds := [.data, .widerDeep, .pinned], laidTests := true, laidLooks := .later }
def EvalRawCardSaid : Prop := Claim7.holds Tryz.pinned (.plain (OpenSpec.ofChange evalRawSpec)) evalRawCard

/-- THE TIED CARD OF 'tithinglaw09.EvalTraces'. -/
def evalTracesCard : Claim7 := { stood := { row := evalTracesRow, standIns := [], harness := (true, "25b19db1d6076a5be74e9c6280514fc9fb0ebf3651e8268cf618a95cf4ba6544"), looks := true }, kinds := [], alts := [], laidByText := true, laidKinds := [.data, .widerDeep, .pinned], laidTests := true, laidLooks := .later }
def EvalTracesCardSaid : Prop := Claim7.holds Tryz.pinned (.plain (OpenSpec.ofChange evalTracesSpec)) evalTracesCard

/-- THE TIED CARD OF 'tithinglaw09.EvalNodes'. -/
def evalNodesCard : Claim7 := { stood := { row := evalNodesRow, standIns := [], harness := (true, "25b19db1d6076a5be74e9c6280514fc9fb0ebf3651e8268cf618a95cf4ba6544"), looks := true }, kinds := [], alts := [], laidByText := true, laidKinds := [.data, .widerDeep, .pinned], laidTests := true, laidLooks := .later }
def EvalNodesCardSaid : Prop := Claim7.holds Tryz.pinned (.plain (OpenSpec.ofChange evalNodesSpec)) evalNodesCard

/-- THE TIED CARD OF 'tithinglaw09.EvalParts'. -/
def evalPartsCard : Claim7 := { stood := { row := evalPartsRow, standIns := [], harness := (true, "25b19db1d6076a5be74e9c6280514fc9fb0ebf3651e8268cf618a95cf4ba6544"), looks := true }, kinds := [], alts := [], laidByText := true, laidKinds := [.data, .widerDeep, .pinned], laidTests := true, laidLooks := .later }
def EvalPartsCardSaid : Prop := Claim7.holds Tryz.pinned (.plain (OpenSpec.ofChange evalPartsSpec)) evalPartsCard

/-- THE TIED CARD OF 'tithinglaw09.EvalTaken'. -/
def evalTakenCard : Claim7 := { stood := { row := evalTakenRow, standIns := [], harness := (true, "25b19db1d6076a5be74e9c6280514fc9fb0ebf3651e8268cf618a95cf4ba6544"), looks := true }, kinds := [], alts := [], laidByText := true, laidKinds := [.data, .widerDeep, .pinned], laidTests := true, laidLooks := .later }
def EvalTakenCardSaid : Prop := Claim7.holds Tryz.pinned (.plain (OpenSpec.ofChange evalTakenSpec)) evalTakenCard

/-- THE TIED CARD OF 'tithinglaw09.EvalLinks'. -/
def evalLinksCard : Claim7 := { stood := { row := evalLinksRow, standIns := [], harness := (true, "25b19db1d6076a5be74e9c6280514fc9fb0ebf3651e8268cf618a95cf4ba6544"), looks := true }, kinds := [], alts := [], laidByText := true, laidKinds := [.data, .widerDeep, .pinned], laidTests := true, laidLooks := .later }
def EvalLinksCardSaid : Prop := Claim7.holds Tryz.pinned (.plain (OpenSpec.ofChange evalLinksSpec)) evalLinksCard

/-- THE TIED CARD OF 'tithinglaw09.EvalLogic'. -/
def evalLogicCard : Claim7 := { stood := { row := evalLogicRow, standIns := [], harness := (true, "25b19db1d6076a5be74e9c6280514fc9fb0ebf3651e8268cf618a95cf4ba6544"), looks := true }, kinds := [], alts := [], laidByText := true, laidKinds := [.data, .widerDeep, .pinned], laidTests := true, laidLooks := .later }
def EvalLogicCardSaid : Prop := Claim7.holds Tryz.pinned (.plain (OpenSpec.ofChange evalLogicSpec)) evalLogicCard

/-- THE TIED CARD OF 'tithinglaw09.EvalSubst'. -/
def evalSubstCard : Claim7 := { stood := { row := evalSubstRow, standIns := [], harness := (true, "25b19db1d6076a5be74e9c6280514fc9fb0ebf3651e8268cf618a95cf4ba6544"), looks := true }, kinds := [], alts := [], laidByText := true, laidKinds := [.data, .widerDeep, .pinned], laidTests := true, laidLooks := .later }
def EvalSubstCardSaid : Prop := Claim7.holds Tryz.pinned (.plain (OpenSpec.ofChange evalSubstSpec)) evalSubstCard

/-- THE TIED CARD OF 'tithinglaw09.EvalTyped'. -/
def evalTypedCard : Claim7 := { stood := { row := evalTypedRow, standIns := [], harness := (true, "25b19db1d6076a5be74e9c6280514fc9fb0ebf3651e8268cf618a95cf4ba6544"), looks := true }, kinds := [], alts := [], laidByText := true, laidKinds := [.data, .widerDeep, .data, .data, .data, .data, .pinned], laidTests := true, laidLooks := .later }
def EvalTypedCardSaid : Prop := Claim7.holds Tryz.pinned (.plain (OpenSpec.ofChange evalTypedSpec)) evalTypedCard

/-- THE SECOND FORM's CARD OF 'tithinglaw09.EvalOps'. -/
def evalOpsUptoCard : Claim7 := { stood := { row := evalOpsUptoRow, standIns := [], harness := (true, "25b19db1d6076a5be74e9c6280514fc9fb0ebf3651e8268cf618a95cf4ba6544"), looks := true }, kinds := [], alts := [], laidByText := true, laidKinds := [.data, .widerDeep, .pinned], laidTests := true, laidLooks := .later }
def EvalOpsUptoCardSaid : Prop := Claim7.holds Tryz.pinned (.plain (OpenSpec.upto evalOpsSpec)) evalOpsUptoCard

/-- THE SECOND FORM's CARD OF 'tithinglaw09.EvalRaw'. -/
def evalRawUptoCard : Claim7 := { stood := { row := evalRawUptoRow, standIns := [], harness := (true, "25b19db1d6076a5be74e9c6280514fc9fb0ebf3651e8268cf618a95cf4ba6544"), looks := true }, kinds := [], alts := [], laidByText := true, laidKinds := [.data, .widerDeep, .pinned], laidTests := true, laidLooks := .later }
def EvalRawUptoCardSaid : Prop := Claim7.holds Tryz.pinned (.plain (OpenSpec.upto evalRawSpec)) evalRawUptoCard

/-- THE SECOND FORM's CARD OF 'tithinglaw09.EvalTraces'. -/
def evalTracesUptoCard : Claim7 := { stood := { row := evalTracesUptoRow, standIns := [], harness := (true, "25b19db1d6076a5be74e9c6280514fc9fb0ebf3651e8268cf618a95cf4ba6544"), looks := true }, kinds := [], alts := [], laidByText := true, laidKinds := [.data, .widerDeep, .pinned], laidTests := true, laidLooks := .later }
def EvalTracesUptoCardSaid : Prop := Claim7.holds Tryz.pinned (.plain (OpenSpec.upto evalTracesSpec)) evalTracesUptoCard

/-- THE SECOND FORM's CARD OF 'tithinglaw09.EvalNodes'. -/
def evalNodesUptoCard : Claim7 := { stood := { row := evalNodesUptoRow, standIns := [], harness := (true, "25b19db1d6076a5be74e9c6280514fc9fb0ebf3651e8268cf618a95cf4ba6544"), looks := true }, kinds := [], alts := [], laidByText := true, laidKinds := [.data, .widerDeep, .pinned], laidTests := true, laidLooks := .later }
def EvalNodesUptoCardSaid : Prop := Claim7.holds Tryz.pinned (.plain (OpenSpec.upto evalNodesSpec)) evalNodesUptoCard

/-- THE SECOND FORM's CARD OF 'tithinglaw09.EvalParts'. -/
def evalPartsUptoCard : Claim7 := { stood := { row := evalPartsUptoRow, standIns := [], harness := (true, "25b19db1d6076a5be74e9c6280514fc9fb0ebf3651e8268cf618a95cf4ba6544"), looks := true }, kinds := [], alts := [], laidByText := true, laidKinds := [.data, .widerDeep, .pinned], laidTests := true, laidLooks := .later }
def EvalPartsUptoCardSaid : Prop := Claim7.holds Tryz.pinned (.plain (OpenSpec.upto evalPartsSpec)) evalPartsUptoCard

/-- THE SECOND FORM's CARD OF 'tithinglaw09.EvalTaken'. -/
def evalTakenUptoCard : Claim7 := { stood := { row := evalTakenUptoRow, standIns := [], harness := (true, "25b19db1d6076a5be74e9c6280514fc9fb0ebf3651e8268cf618a95cf4ba6544"), looks := true }, kinds := [], alts := [], laidByText := true, laidKinds := [.data, .widerDeep, .pinned], laidTests := true, laidLooks := .later }
def EvalTakenUptoCardSaid : Prop := Claim7.holds Tryz.pinned (.plain (OpenSpec.upto evalTakenSpec)) evalTakenUptoCard

/-- THE SECOND FORM's CARD OF 'tithinglaw09.EvalLinks'. -/
def evalLinksUptoCard : Claim7 := { stood := { row := evalLinksUptoRow, standIns := [], harness := (true, "25b19db1d6076a5be74e9c6280514fc9fb0ebf3651e8268cf618a95cf4ba6544"), looks := true }, kinds := [], alts := [], laidByText := true, laidKinds := [.data, .widerDeep, .pinned], laidTests := true, laidLooks := .later }
def EvalLinksUptoCardSaid : Prop := Claim7.holds Tryz.pinned (.plain (OpenSpec.upto evalLinksSpec)) evalLinksUptoCard

/-- THE SECOND FORM's CARD OF 'tithinglaw09.EvalLogic'. -/
def evalLogicUptoCard : Claim7 := { stood := { row := evalLogicUptoRow, standIns := [], harness := (true, "25b19db1d6076a5be74e9c6280514fc9fb0ebf3651e8268cf618a95cf4ba6544"), looks := true }, kinds := [], alts := [], laidByText := true, laidKinds := [.data, .widerDeep, .pinned], laidTests := true, laidLooks := .later }
def EvalLogicUptoCardSaid : Prop := Claim7.holds Tryz.pinned (.plain (OpenSpec.upto evalLogicSpec)) evalLogicUptoCard

/-- THE SECOND FORM's CARD OF 'tithinglaw09.EvalSubst'. -/
def evalSubstUptoCard : Claim7 := { stood := { row := evalSubstUptoRow, standIns := [], harness := (true, "25b19db1d6076a5be74e9c6280514fc9fb0ebf3651e8268cf618a95cf4ba6544"), looks := true }, kinds := [], alts := [], laidByText := true, laidKinds := [.data, .widerDeep, .pinned], laidTests := true, laidLooks := .later }
def EvalSubstUptoCardSaid : Prop := Claim7.holds Tryz.pinned (.plain (OpenSpec.upto evalSubstSpec)) evalSubstUptoCard

/-- THE SECOND FORM's CARD OF 'tithinglaw09.EvalTyped'. -/
def evalTypedUptoCard : Claim7 := { stood := { row := evalTypedUptoRow, standIns := [], harness := (true, "25b19db1d6076a5be74e9c6280514fc9fb0ebf3651e8268cf618a95cf4ba6544"), looks := true }, kinds := [], alts := [], laidByText := true, laidKinds := [.data, .widerDeep, .data, .data, .data, .data, .pinned], laidTests := true, laidLooks := .later }
def EvalTypedUptoCardSaid : Prop := Claim7.holds Tryz.pinned (.plain (OpenSpec.upto evalTypedSpec)) evalTypedUptoCard
end Rows
end Go.Proofs.YtdmfgmmooalfnaaGreatDoor
