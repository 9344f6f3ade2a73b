/-
  DERIVED. GIVEN WITH THE SEED: THE CARDS: each row of YtnbkccjkdpolmaaGreatDoorRows.lean that lists a variable, with what it lists TIED to the program's text (the seventh form; the later family's looks); each row that meets fmt, with fmt's text TOLD by the authors' own Lean function (tested against real Go, not proved from fmt's source: count such statements apart). THE CARD IS WHAT COUNTS. Prove the row's statement (the work); the ties are given (YtnbkccjkdpolmaaGreatDoorTie.lean); close each card by the builder's one call (the guide's Derived/Test/ToyasCard.lean, 'card_holds'). Laid BY PROGRAM, IN A SANDBOX (cutbox-door.mjs). By AI agents, Wed Nov 11 2026. No macro, syntax, notation, axiom, sorry.
-/
import Derived.Test.YtnbkccjkdpolmaaGreatDoorRows
import GoSem.ClaimSeven
namespace Go.Proofs.YtnbkccjkdpolmaaGreatDoor
namespace Rows

/-- THE TIED CARD OF 'cohesionlaw45.AuditAccepts'. -/
def auditAcceptsCard : Claim7 := { stood := { row := auditAcceptsRow, standIns := [], harness := (true, "8e349fbb55faa4aa2764ebbd74576e43fe5b1d514e5c4b331b2db2ddb4c959db"), looks := false }, kinds := [], alts := [], laidByText := true, laidKinds := [.data], laidTests := true, laidLooks := .later }
def AuditAcceptsCardSaid : Prop := Claim7.holds Tryz.pinned (.plain (OpenSpec.ofChange auditAcceptsSpec)) auditAcceptsCard

/-- THE TIED CARD OF 'cohesionlaw45.AuditRefuses'. -/
def auditRefusesCard : Claim7 := { stood := { row := auditRefusesRow, standIns := [], harness := (true, "8e349fbb55faa4aa2764ebbd74576e43fe5b1d514e5c4b331b2db2ddb4c959db"), looks := false }, kinds := [], alts := [], laidByText := true, laidKinds := [.data], laidTests := true, laidLooks := .later }
def AuditRefusesCardSaid : Prop := Claim7.holds Tryz.pinned (.plain (OpenSpec.ofChange auditRefusesSpec)) auditRefusesCard

/-- THE TIED CARD OF 'cohesionlaw45.AuditAnswers'. -/
def auditAnswersCard : Claim7 := { stood := { row := auditAnswersRow, standIns := [], harness := (true, "8e349fbb55faa4aa2764ebbd74576e43fe5b1d514e5c4b331b2db2ddb4c959db"), looks := false }, kinds := [], alts := [], laidByText := true, laidKinds := [.data], laidTests := true, laidLooks := .later }
def AuditAnswersCardSaid : Prop := Claim7.holds Tryz.pinned (.plain (OpenSpec.ofChange auditAnswersSpec)) auditAnswersCard

/-- THE SECOND FORM's CARD OF 'cohesionlaw45.AuditAccepts'. -/
def auditAcceptsUptoCard : Claim7 := { stood := { row := auditAcceptsUptoRow, standIns := [], harness := (true, "8e349fbb55faa4aa2764ebbd74576e43fe5b1d514e5c4b331b2db2ddb4c959db"), looks := false }, kinds := [], alts := [], laidByText := true, laidKinds := [.data], laidTests := true, laidLooks := .later }
def AuditAcceptsUptoCardSaid : Prop := Claim7.holds Tryz.pinned (.plain (OpenSpec.upto auditAcceptsSpec)) auditAcceptsUptoCard

/-- THE SECOND FORM's CARD OF 'cohesionlaw45.AuditRefuses'. -/
def auditRefusesUptoCard : Claim7 := { stood := { row := auditRefusesUptoRow, standIns := [], harness := (true, "8e349fbb55faa4aa2764ebbd74576e43fe5b1d514e5c4b331b2db2ddb4c959db"), looks := false }, kinds := [], alts := [], laidByText := true, laidKinds := [.data], laidTests := true, laidLooks := .later }
def AuditRefusesUptoCardSaid : Prop := Claim7.holds Tryz.pinned (.plain (OpenSpec.upto auditRefusesSpec)) auditRefusesUptoCard

/-- THE SECOND FORM's CARD OF 'cohesionlaw45.AuditAnswers'. -/
def auditAnswersUptoCard : Claim7 := { stood := { row := auditAnswersUptoRow, standIns := [], harness := (true, "8e349fbb55faa4aa2764ebbd74576e43fe5b1d514e5c4b331b2db2ddb4c959db"), looks := false }, kinds := [], alts := [], laidByText := true, laidKinds := [.data], laidTests := true, laidLooks := .later }
def AuditAnswersUptoCardSaid : Prop := Claim7.holds Tryz.pinned (.plain (OpenSpec.upto auditAnswersSpec)) auditAnswersUptoCard
end Rows
end Go.Proofs.YtnbkccjkdpolmaaGreatDoor
