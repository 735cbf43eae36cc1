/-
  DERIVED. GIVEN WITH THE SEED: THE CARDS: each row of YtokiomlellclkaaGreatDoorRows.lean that lists a variable, with what it lists TIED to the program's text (the seventh form; the later family's looks); each row that meets fmt, with fmt's text TOLD by the authors' own Lean function (tested against real Go, not proved from fmt's source: count such statements apart). THE CARD IS WHAT COUNTS. Prove the row's statement (the work); the ties are given (YtokiomlellclkaaGreatDoorTie.lean); close each card by the builder's one call (the guide's Derived/Test/ToyasCard.lean, 'card_holds'). Laid BY PROGRAM, IN A SANDBOX (cutbox-door.mjs). By AI agents, Wed Nov 11 2026. No macro, syntax, notation, axiom, sorry.
-/
import Derived.Test.YtokiomlellclkaaGreatDoorRows
import GoSem.ClaimSeven
namespace Go.Proofs.YtokiomlellclkaaGreatDoor
namespace Rows

/-- THE TIED CARD OF 'tithinglaw15.GraphUses'. -/
def graphUsesCard : Claim7 := { stood := { row := graphUsesRow, standIns := [], harness := (true, "d50f9cd262f80b3574f8f09071ac0358bf45dd1540881f7d70b7eba94f7e62f4"), looks := true }, kinds := [], alts := [], laidByText := true, laidKinds := [.data, .widerDeep, .data, .data, .data, .data, .data, .pinned], laidTests := true, laidLooks := .later }
def GraphUsesCardSaid : Prop := Claim7.holds Tryz.pinned (.plain (OpenSpec.ofChange graphUsesSpec)) graphUsesCard

/-- THE TIED CARD OF 'tithinglaw15.GraphSteps'. -/
def graphStepsCard : Claim7 := { stood := { row := graphStepsRow, standIns := [], harness := (true, "d50f9cd262f80b3574f8f09071ac0358bf45dd1540881f7d70b7eba94f7e62f4"), looks := true }, kinds := [], alts := [], laidByText := true, laidKinds := [.data, .widerDeep, .data, .data, .data, .data, .data, .pinned], laidTests := true, laidLooks := .later }
def GraphStepsCardSaid : Prop := Claim7.holds Tryz.pinned (.plain (OpenSpec.ofChange graphStepsSpec)) graphStepsCard

/-- THE TIED CARD OF 'tithinglaw15.GraphReach'. -/
def graphReachCard : Claim7 := { stood := { row := graphReachRow, standIns := [], harness := (true, "d50f9cd262f80b3574f8f09071ac0358bf45dd1540881f7d70b7eba94f7e62f4"), looks := true }, kinds := [], alts := [], laidByText := true, laidKinds := [.data, .widerDeep, .data, .data, .data, .data, .data, .pinned], laidTests := true, laidLooks := .later }
def GraphReachCardSaid : Prop := Claim7.holds Tryz.pinned (.plain (OpenSpec.ofChange graphReachSpec)) graphReachCard

/-- THE TIED CARD OF 'tithinglaw15.GraphAccept'. -/
def graphAcceptCard : Claim7 := { stood := { row := graphAcceptRow, standIns := [], harness := (true, "d50f9cd262f80b3574f8f09071ac0358bf45dd1540881f7d70b7eba94f7e62f4"), looks := true }, kinds := [], alts := [], laidByText := true, laidKinds := [.data, .widerDeep, .data, .data, .data, .data, .data, .pinned], laidTests := true, laidLooks := .later }
def GraphAcceptCardSaid : Prop := Claim7.holds Tryz.pinned (.plain (OpenSpec.ofChange graphAcceptSpec)) graphAcceptCard

/-- THE TIED CARD OF 'tithinglaw15.GraphOrder'. -/
def graphOrderCard : Claim7 := { stood := { row := graphOrderRow, standIns := [], harness := (true, "d50f9cd262f80b3574f8f09071ac0358bf45dd1540881f7d70b7eba94f7e62f4"), looks := true }, kinds := [], alts := [], laidByText := true, laidKinds := [.data, .widerDeep, .data, .data, .data, .data, .data, .pinned], laidTests := true, laidLooks := .later }
def GraphOrderCardSaid : Prop := Claim7.holds Tryz.pinned (.plain (OpenSpec.ofChange graphOrderSpec)) graphOrderCard

/-- THE TIED CARD OF 'tithinglaw15.GraphGroups'. -/
def graphGroupsCard : Claim7 := { stood := { row := graphGroupsRow, standIns := [], harness := (true, "d50f9cd262f80b3574f8f09071ac0358bf45dd1540881f7d70b7eba94f7e62f4"), looks := true }, kinds := [], alts := [], laidByText := true, laidKinds := [.data, .widerDeep, .data, .data, .data, .data, .data, .pinned], laidTests := true, laidLooks := .later }
def GraphGroupsCardSaid : Prop := Claim7.holds Tryz.pinned (.plain (OpenSpec.ofChange graphGroupsSpec)) graphGroupsCard

/-- THE TIED CARD OF 'tithinglaw15.GraphClosed'. -/
def graphClosedCard : Claim7 := { stood := { row := graphClosedRow, standIns := [], harness := (true, "d50f9cd262f80b3574f8f09071ac0358bf45dd1540881f7d70b7eba94f7e62f4"), looks := true }, kinds := [], alts := [], laidByText := true, laidKinds := [.data, .widerDeep, .data, .data, .data, .data, .data, .pinned], laidTests := true, laidLooks := .later }
def GraphClosedCardSaid : Prop := Claim7.holds Tryz.pinned (.plain (OpenSpec.ofChange graphClosedSpec)) graphClosedCard

/-- THE TIED CARD OF 'tithinglaw15.GraphSides'. -/
def graphSidesCard : Claim7 := { stood := { row := graphSidesRow, standIns := [], harness := (true, "d50f9cd262f80b3574f8f09071ac0358bf45dd1540881f7d70b7eba94f7e62f4"), looks := true }, kinds := [], alts := [], laidByText := true, laidKinds := [.data, .widerDeep, .data, .data, .data, .data, .data, .pinned], laidTests := true, laidLooks := .later }
def GraphSidesCardSaid : Prop := Claim7.holds Tryz.pinned (.plain (OpenSpec.ofChange graphSidesSpec)) graphSidesCard

/-- THE TIED CARD OF 'tithinglaw15.GraphCaps'. -/
def graphCapsCard : Claim7 := { stood := { row := graphCapsRow, standIns := [], harness := (true, "d50f9cd262f80b3574f8f09071ac0358bf45dd1540881f7d70b7eba94f7e62f4"), looks := true }, kinds := [], alts := [], laidByText := true, laidKinds := [.data, .widerDeep, .data, .data, .data, .data, .data, .pinned], laidTests := true, laidLooks := .later }
def GraphCapsCardSaid : Prop := Claim7.holds Tryz.pinned (.plain (OpenSpec.ofChange graphCapsSpec)) graphCapsCard

/-- THE TIED CARD OF 'tithinglaw15.GraphLocal'. -/
def graphLocalCard : Claim7 := { stood := { row := graphLocalRow, standIns := [], harness := (true, "d50f9cd262f80b3574f8f09071ac0358bf45dd1540881f7d70b7eba94f7e62f4"), looks := true }, kinds := [], alts := [], laidByText := true, laidKinds := [.data, .widerDeep, .data, .data, .data, .data, .data, .pinned], laidTests := true, laidLooks := .later }
def GraphLocalCardSaid : Prop := Claim7.holds Tryz.pinned (.plain (OpenSpec.ofChange graphLocalSpec)) graphLocalCard

/-- THE SECOND FORM's CARD OF 'tithinglaw15.GraphUses'. -/
def graphUsesUptoCard : Claim7 := { stood := { row := graphUsesUptoRow, standIns := [], harness := (true, "d50f9cd262f80b3574f8f09071ac0358bf45dd1540881f7d70b7eba94f7e62f4"), looks := true }, kinds := [], alts := [], laidByText := true, laidKinds := [.data, .widerDeep, .data, .data, .data, .data, .data, .pinned], laidTests := true, laidLooks := .later }
def GraphUsesUptoCardSaid : Prop := Claim7.holds Tryz.pinned (.plain (OpenSpec.upto graphUsesSpec)) graphUsesUptoCard

/-- THE SECOND FORM's CARD OF 'tithinglaw15.GraphSteps'. -/
def graphStepsUptoCard : Claim7 := { stood := { row := graphStepsUptoRow, standIns := [], harness := (true, "d50f9cd262f80b3574f8f09071ac0358bf45dd1540881f7d70b7eba94f7e62f4"), looks := true }, kinds := [], alts := [], laidByText := true, laidKinds := [.data, .widerDeep, .data, .data, .data, .data, .data, .pinned], laidTests := true, laidLooks := .later }
def GraphStepsUptoCardSaid : Prop := Claim7.holds Tryz.pinned (.plain (OpenSpec.upto graphStepsSpec)) graphStepsUptoCard

/-- THE SECOND FORM's CARD OF 'tithinglaw15.GraphReach'. -/
def graphReachUptoCard : Claim7 := { stood := { row := graphReachUptoRow, standIns := [], harness := (true, "d50f9cd262f80b3574f8f09071ac0358bf45dd1540881f7d70b7eba94f7e62f4"), looks := true }, kinds := [], alts := [], laidByText := true, laidKinds := [.data, .widerDeep, .data, .data, .data, .data, .data, .pinned], laidTests := true, laidLooks := .later }
def GraphReachUptoCardSaid : Prop := Claim7.holds Tryz.pinned (.plain (OpenSpec.upto graphReachSpec)) graphReachUptoCard

/-- THE SECOND FORM's CARD OF 'tithinglaw15.GraphAccept'. -/
def graphAcceptUptoCard : Claim7 := { stood := { row := graphAcceptUptoRow, standIns := [], harness := (true, "d50f9cd262f80b3574f8f09071ac0358bf45dd1540881f7d70b7eba94f7e62f4"), looks := true }, kinds := [], alts := [], laidByText := true, laidKinds := [.data, .widerDeep, .data, .data, .data, .data, .data, .pinned], laidTests := true, laidLooks := .later }
def GraphAcceptUptoCardSaid : Prop := Claim7.holds Tryz.pinned (.plain (OpenSpec.upto graphAcceptSpec)) graphAcceptUptoCard

/-- THE SECOND FORM's CARD OF 'tithinglaw15.GraphOrder'. -/
def graphOrderUptoCard : Claim7 := { stood := { row := graphOrderUptoRow, standIns := [], harness := (true, "d50f9cd262f80b3574f8f09071ac0358bf45dd1540881f7d70b7eba94f7e62f4"), looks := true }, kinds := [], alts := [], laidByText := true, laidKinds := [.data, .widerDeep, .data, .data, .data, .data, .data, .pinned], laidTests := true, laidLooks := .later }
def GraphOrderUptoCardSaid : Prop := Claim7.holds Tryz.pinned (.plain (OpenSpec.upto graphOrderSpec)) graphOrderUptoCard

/-- THE SECOND FORM's CARD OF 'tithinglaw15.GraphGroups'. -/
def graphGroupsUptoCard : Claim7 := { stood := { row := graphGroupsUptoRow, standIns := [], harness := (true, "d50f9cd262f80b3574f8f09071ac0358bf45dd1540881f7d70b7eba94f7e62f4"), looks := true }, kinds := [], alts := [], laidByText := true, laidKinds := [.data, .widerDeep, .data, .data, .data, .data, .data, .pinned], laidTests := true, laidLooks := .later }
def GraphGroupsUptoCardSaid : Prop := Claim7.holds Tryz.pinned (.plain (OpenSpec.upto graphGroupsSpec)) graphGroupsUptoCard

/-- THE SECOND FORM's CARD OF 'tithinglaw15.GraphClosed'. -/
def graphClosedUptoCard : Claim7 := { stood := { row := graphClosedUptoRow, standIns := [], harness := (true, "d50f9cd262f80b3574f8f09071ac0358bf45dd1540881f7d70b7eba94f7e62f4"), looks := true }, kinds := [], alts := [], laidByText := true, laidKinds := [.data, .widerDeep, .data, .data, .data, .data, .data, .pinned], laidTests := true, laidLooks := .later }
def GraphClosedUptoCardSaid : Prop := Claim7.holds Tryz.pinned (.plain (OpenSpec.upto graphClosedSpec)) graphClosedUptoCard

/-- THE SECOND FORM's CARD OF 'tithinglaw15.GraphSides'. -/
def graphSidesUptoCard : Claim7 := { stood := { row := graphSidesUptoRow, standIns := [], harness := (true, "d50f9cd262f80b3574f8f09071ac0358bf45dd1540881f7d70b7eba94f7e62f4"), looks := true }, kinds := [], alts := [], laidByText := true, laidKinds := [.data, .widerDeep, .data, .data, .data, .data, .data, .pinned], laidTests := true, laidLooks := .later }
def GraphSidesUptoCardSaid : Prop := Claim7.holds Tryz.pinned (.plain (OpenSpec.upto graphSidesSpec)) graphSidesUptoCard

/-- THE SECOND FORM's CARD OF 'tithinglaw15.GraphCaps'. -/
def graphCapsUptoCard : Claim7 := { stood := { row := graphCapsUptoRow, standIns := [], harness := (true, "d50f9cd262f80b3574f8f09071ac0358bf45dd1540881f7d70b7eba94f7e62f4"), looks := true }, kinds := [], alts := [], laidByText := true, laidKinds := [.data, .widerDeep, .data, .data, .data, .data, .data, .pinned], laidTests := true, laidLooks := .later }
def GraphCapsUptoCardSaid : Prop := Claim7.holds Tryz.pinned (.plain (OpenSpec.upto graphCapsSpec)) graphCapsUptoCard

/-- THE SECOND FORM's CARD OF 'tithinglaw15.GraphLocal'. -/
def graphLocalUptoCard : Claim7 := { stood := { row := graphLocalUptoRow, standIns := [], harness := (true, "d50f9cd262f80b3574f8f09071ac0358bf45dd1540881f7d70b7eba94f7e62f4"), looks := true }, kinds := [], alts := [], laidByText := true, laidKinds := [.data, .widerDeep, .data, .data, .data, .data, .data, .pinned], laidTests := true, laidLooks := .later }
def GraphLocalUptoCardSaid : Prop := Claim7.holds Tryz.pinned (.plain (OpenSpec.upto graphLocalSpec)) graphLocalUptoCard
end Rows
end Go.Proofs.YtokiomlellclkaaGreatDoor
