/-
  DERIVED. GIVEN WITH THE SEED: THE CARDS: each row of YtoagcglbkeomgaaGreatDoorRows.lean that lists a variable, with what it lists TIED to the program's text (the seventh form; the later family's looks); each row that meets fmt, with fmt's text TOLD by the authors' own Lean function (tested against real Go, not proved from fmt's source: count such statements apart). THE CARD IS WHAT COUNTS. Prove the row's statement (the work); the ties are given (YtoagcglbkeomgaaGreatDoorTie.lean); close each card by the builder's one call (the guide's Derived/Test/ToyasCard.lean, 'card_holds'). Laid BY PROGRAM, IN A SANDBOX (cutbox-door.mjs). By AI agents, Wed Nov 11 2026. No macro, syntax, notation, axiom, sorry.
-/
import Derived.Test.YtoagcglbkeomgaaGreatDoorRows
import GoSem.ClaimSeven
namespace Go.Proofs.YtoagcglbkeomgaaGreatDoor
namespace Rows

/-- THE TIED CARD OF 'cohesionlaw41.EngineKeeps'. -/
def engineKeepsCard : Claim7 := { stood := { row := engineKeepsRow, standIns := [], harness := (true, "49c029e58199178f87f421fac60f42b8747d230bb2679928bc6b23a08bde2022"), looks := false }, kinds := [], alts := [], laidByText := true, laidKinds := [.data], laidTests := true, laidLooks := .later }
def EngineKeepsCardSaid : Prop := Claim7.holds Tryz.pinned (.plain (OpenSpec.ofChange engineKeepsSpec)) engineKeepsCard

/-- THE TIED CARD OF 'cohesionlaw41.EngineSlides'. -/
def engineSlidesCard : Claim7 := { stood := { row := engineSlidesRow, standIns := [], harness := (true, "49c029e58199178f87f421fac60f42b8747d230bb2679928bc6b23a08bde2022"), looks := false }, kinds := [], alts := [], laidByText := true, laidKinds := [.data], laidTests := true, laidLooks := .later }
def EngineSlidesCardSaid : Prop := Claim7.holds Tryz.pinned (.plain (OpenSpec.ofChange engineSlidesSpec)) engineSlidesCard

/-- THE TIED CARD OF 'cohesionlaw41.EngineOrder'. -/
def engineOrderCard : Claim7 := { stood := { row := engineOrderRow, standIns := [], harness := (true, "49c029e58199178f87f421fac60f42b8747d230bb2679928bc6b23a08bde2022"), looks := false }, kinds := [], alts := [], laidByText := true, laidKinds := [.data], laidTests := true, laidLooks := .later }
def EngineOrderCardSaid : Prop := Claim7.holds Tryz.pinned (.plain (OpenSpec.ofChange engineOrderSpec)) engineOrderCard

/-- THE TIED CARD OF 'cohesionlaw41.EngineLate'. -/
def engineLateCard : Claim7 := { stood := { row := engineLateRow, standIns := [], harness := (true, "49c029e58199178f87f421fac60f42b8747d230bb2679928bc6b23a08bde2022"), looks := false }, kinds := [], alts := [], laidByText := true, laidKinds := [.data], laidTests := true, laidLooks := .later }
def EngineLateCardSaid : Prop := Claim7.holds Tryz.pinned (.plain (OpenSpec.ofChange engineLateSpec)) engineLateCard

/-- THE TIED CARD OF 'cohesionlaw41.EngineParts'. -/
def enginePartsCard : Claim7 := { stood := { row := enginePartsRow, standIns := [], harness := (true, "49c029e58199178f87f421fac60f42b8747d230bb2679928bc6b23a08bde2022"), looks := false }, kinds := [], alts := [], laidByText := true, laidKinds := [.data], laidTests := true, laidLooks := .later }
def EnginePartsCardSaid : Prop := Claim7.holds Tryz.pinned (.plain (OpenSpec.ofChange enginePartsSpec)) enginePartsCard

/-- THE TIED CARD OF 'cohesionlaw41.EngineApply'. -/
def engineApplyCard : Claim7 := { stood := { row := engineApplyRow, standIns := [], harness := (true, "49c029e58199178f87f421fac60f42b8747d230bb2679928bc6b23a08bde2022"), looks := false }, kinds := [], alts := [], laidByText := true, laidKinds := [.data], laidTests := true, laidLooks := .later }
def EngineApplyCardSaid : Prop := Claim7.holds Tryz.pinned (.plain (OpenSpec.ofChange engineApplySpec)) engineApplyCard

/-- THE TIED CARD OF 'cohesionlaw41.EngineLeaves'. -/
def engineLeavesCard : Claim7 := { stood := { row := engineLeavesRow, standIns := [], harness := (true, "49c029e58199178f87f421fac60f42b8747d230bb2679928bc6b23a08bde2022"), looks := false }, kinds := [], alts := [], laidByText := true, laidKinds := [.data], laidTests := true, laidLooks := .later }
def EngineLeavesCardSaid : Prop := Claim7.holds Tryz.pinned (.plain (OpenSpec.ofChange engineLeavesSpec)) engineLeavesCard

/-- THE SECOND FORM's CARD OF 'cohesionlaw41.EngineKeeps'. -/
def engineKeepsUptoCard : Claim7 := { stood := { row := engineKeepsUptoRow, standIns := [], harness := (true, "49c029e58199178f87f421fac60f42b8747d230bb2679928bc6b23a08bde2022"), looks := false }, kinds := [], alts := [], laidByText := true, laidKinds := [.data], laidTests := true, laidLooks := .later }
def EngineKeepsUptoCardSaid : Prop := Claim7.holds Tryz.pinned (.plain (OpenSpec.upto engineKeepsSpec)) engineKeepsUptoCard

/-- THE SECOND FORM's CARD OF 'cohesionlaw41.EngineSlides'. -/
def engineSlidesUptoCard : Claim7 := { stood := { row := engineSlidesUptoRow, standIns := [], harness := (true, "49c029e58199178f87f421fac60f42b8747d230bb2679928bc6b23a08bde2022"), looks := false }, kinds := [], alts := [], laidByText := true, laidKinds := [.data], laidTests := true, laidLooks := .later }
def EngineSlidesUptoCardSaid : Prop := Claim7.holds Tryz.pinned (.plain (OpenSpec.upto engineSlidesSpec)) engineSlidesUptoCard

/-- THE SECOND FORM's CARD OF 'cohesionlaw41.EngineOrder'. -/
def engineOrderUptoCard : Claim7 := { stood := { row := engineOrderUptoRow, standIns := [], harness := (true, "49c029e58199178f87f421fac60f42b8747d230bb2679928bc6b23a08bde2022"), looks := false }, kinds := [], alts := [], laidByText := true, laidKinds := [.data], laidTests := true, laidLooks := .later }
def EngineOrderUptoCardSaid : Prop := Claim7.holds Tryz.pinned (.plain (OpenSpec.upto engineOrderSpec)) engineOrderUptoCard

/-- THE SECOND FORM's CARD OF 'cohesionlaw41.EngineLate'. -/
def engineLateUptoCard : Claim7 := { stood := { row := engineLateUptoRow, standIns := [], harness := (true, "49c029e58199178f87f421fac60f42b8747d230bb2679928bc6b23a08bde2022"), looks := false }, kinds := [], alts := [], laidByText := true, laidKinds := [.data], laidTests := true, laidLooks := .later }
def EngineLateUptoCardSaid : Prop := Claim7.holds Tryz.pinned (.plain (OpenSpec.upto engineLateSpec)) engineLateUptoCard

/-- THE SECOND FORM's CARD OF 'cohesionlaw41.EngineParts'. -/
def enginePartsUptoCard : Claim7 := { stood := { row := enginePartsUptoRow, standIns := [], harness := (true, "49c029e58199178f87f421fac60f42b8747d230bb2679928bc6b23a08bde2022"), looks := false }, kinds := [], alts := [], laidByText := true, laidKinds := [.data], laidTests := true, laidLooks := .later }
def EnginePartsUptoCardSaid : Prop := Claim7.holds Tryz.pinned (.plain (OpenSpec.upto enginePartsSpec)) enginePartsUptoCard

/-- THE SECOND FORM's CARD OF 'cohesionlaw41.EngineApply'. -/
def engineApplyUptoCard : Claim7 := { stood := { row := engineApplyUptoRow, standIns := [], harness := (true, "49c029e58199178f87f421fac60f42b8747d230bb2679928bc6b23a08bde2022"), looks := false }, kinds := [], alts := [], laidByText := true, laidKinds := [.data], laidTests := true, laidLooks := .later }
def EngineApplyUptoCardSaid : Prop := Claim7.holds Tryz.pinned (.plain (OpenSpec.upto engineApplySpec)) engineApplyUptoCard

/-- THE SECOND FORM's CARD OF 'cohesionlaw41.EngineLeaves'. -/
def engineLeavesUptoCard : Claim7 := { stood := { row := engineLeavesUptoRow, standIns := [], harness := (true, "49c029e58199178f87f421fac60f42b8747d230bb2679928bc6b23a08bde2022"), looks := false }, kinds := [], alts := [], laidByText := true, laidKinds := [.data], laidTests := true, laidLooks := .later }
def EngineLeavesUptoCardSaid : Prop := Claim7.holds Tryz.pinned (.plain (OpenSpec.upto engineLeavesSpec)) engineLeavesUptoCard
end Rows
end Go.Proofs.YtoagcglbkeomgaaGreatDoor
