/-
  DERIVED. GIVEN WITH THE SEED: THE CARDS: each row of YtbimaodbcjjbfaaDoorRows.lean that lists a variable, with what it lists TIED to the program's text (the seventh form; the later family's looks); each row that meets fmt, with fmt's text TOLD by the authors' own Lean function (tested against real Go, not proved from fmt's source: count such statements apart). THE CARD IS WHAT COUNTS. Prove the row's statement (the work); the ties are given (YtbimaodbcjjbfaaDoorTie.lean); close each card by the builder's one call (the guide's Derived/Test/ToyasCard.lean, 'card_holds'). Laid BY PROGRAM, IN A SANDBOX (cutbox-door.mjs). By AI agents, Wed Nov 11 2026. No macro, syntax, notation, axiom, sorry.
-/
import Derived.Test.YtbimaodbcjjbfaaDoorRows
import GoSem.ClaimSeven
namespace Go.Proofs.YtbimaodbcjjbfaaDoor
namespace Rows

/-- THE TIED CARD OF 'cohesionlaw15.ConnectBlocks'. -/
def connectBlocksCard : Claim7 := { stood := { row := connectBlocksRow, standIns := [], harness := (true, "3f844f93a3f32290f77328516d3eb14c048b4e5db07b4a12ea14da95033fccd2"), looks := false }, kinds := [], alts := [], laidByText := true, laidKinds := [.data], laidTests := true, laidLooks := .later }
def ConnectBlocksCardSaid : Prop := Claim7.holds Tryd.pinned (.plain (OpenSpec.ofChange connectBlocksSpec)) connectBlocksCard

/-- THE TIED CARD OF 'cohesionlaw15.ConnectReach'. -/
def connectReachCard : Claim7 := { stood := { row := connectReachRow, standIns := [], harness := (true, "3f844f93a3f32290f77328516d3eb14c048b4e5db07b4a12ea14da95033fccd2"), looks := false }, kinds := [], alts := [], laidByText := true, laidKinds := [.data], laidTests := true, laidLooks := .later }
def ConnectReachCardSaid : Prop := Claim7.holds Tryd.pinned (.plain (OpenSpec.ofChange connectReachSpec)) connectReachCard

/-- THE TIED CARD OF 'cohesionlaw15.ConnectComponents'. -/
def connectComponentsCard : Claim7 := { stood := { row := connectComponentsRow, standIns := [], harness := (true, "3f844f93a3f32290f77328516d3eb14c048b4e5db07b4a12ea14da95033fccd2"), looks := false }, kinds := [], alts := [], laidByText := true, laidKinds := [.data], laidTests := true, laidLooks := .later }
def ConnectComponentsCardSaid : Prop := Claim7.holds Tryd.pinned (.plain (OpenSpec.ofChange connectComponentsSpec)) connectComponentsCard

/-- THE TIED CARD OF 'cohesionlaw15.ConnectParts'. -/
def connectPartsCard : Claim7 := { stood := { row := connectPartsRow, standIns := [], harness := (true, "3f844f93a3f32290f77328516d3eb14c048b4e5db07b4a12ea14da95033fccd2"), looks := false }, kinds := [], alts := [], laidByText := true, laidKinds := [.data], laidTests := true, laidLooks := .later }
def ConnectPartsCardSaid : Prop := Claim7.holds Tryd.pinned (.plain (OpenSpec.ofChange connectPartsSpec)) connectPartsCard

/-- THE TIED CARD OF 'cohesionlaw17.KedgeTriple'. -/
def kedgeTripleCard : Claim7 := { stood := { row := kedgeTripleRow, standIns := [], harness := (true, "3f844f93a3f32290f77328516d3eb14c048b4e5db07b4a12ea14da95033fccd2"), looks := false }, kinds := [], alts := [], laidByText := true, laidKinds := [.data], laidTests := true, laidLooks := .later }
def KedgeTripleCardSaid : Prop := Claim7.holds Tryd.pinned (.plain (OpenSpec.ofChange kedgeTripleSpec)) kedgeTripleCard

/-- THE TIED CARD OF 'cohesionlaw17.KedgeCuts'. -/
def kedgeCutsCard : Claim7 := { stood := { row := kedgeCutsRow, standIns := [], harness := (true, "3f844f93a3f32290f77328516d3eb14c048b4e5db07b4a12ea14da95033fccd2"), looks := false }, kinds := [], alts := [], laidByText := true, laidKinds := [.data], laidTests := true, laidLooks := .later }
def KedgeCutsCardSaid : Prop := Claim7.holds Tryd.pinned (.plain (OpenSpec.ofChange kedgeCutsSpec)) kedgeCutsCard

/-- THE TIED CARD OF 'cohesionlaw17.KedgeGroups'. -/
def kedgeGroupsCard : Claim7 := { stood := { row := kedgeGroupsRow, standIns := [], harness := (true, "3f844f93a3f32290f77328516d3eb14c048b4e5db07b4a12ea14da95033fccd2"), looks := false }, kinds := [], alts := [], laidByText := true, laidKinds := [.data], laidTests := true, laidLooks := .later }
def KedgeGroupsCardSaid : Prop := Claim7.holds Tryd.pinned (.plain (OpenSpec.ofChange kedgeGroupsSpec)) kedgeGroupsCard

/-- THE TIED CARD OF 'cohesionlaw17.KedgeInside'. -/
def kedgeInsideCard : Claim7 := { stood := { row := kedgeInsideRow, standIns := [], harness := (true, "3f844f93a3f32290f77328516d3eb14c048b4e5db07b4a12ea14da95033fccd2"), looks := false }, kinds := [], alts := [], laidByText := true, laidKinds := [.data], laidTests := true, laidLooks := .later }
def KedgeInsideCardSaid : Prop := Claim7.holds Tryd.pinned (.plain (OpenSpec.ofChange kedgeInsideSpec)) kedgeInsideCard

/-- THE TIED CARD OF 'cohesionlaw23.DirectedTurned'. -/
def directedTurnedCard : Claim7 := { stood := { row := directedTurnedRow, standIns := [], harness := (true, "3f844f93a3f32290f77328516d3eb14c048b4e5db07b4a12ea14da95033fccd2"), looks := false }, kinds := [], alts := [], laidByText := true, laidKinds := [.data], laidTests := true, laidLooks := .later }
def DirectedTurnedCardSaid : Prop := Claim7.holds Tryd.pinned (.plain (OpenSpec.ofChange directedTurnedSpec)) directedTurnedCard

/-- THE SECOND FORM's CARD OF 'cohesionlaw15.ConnectBlocks'. -/
def connectBlocksUptoCard : Claim7 := { stood := { row := connectBlocksUptoRow, standIns := [], harness := (true, "3f844f93a3f32290f77328516d3eb14c048b4e5db07b4a12ea14da95033fccd2"), looks := false }, kinds := [], alts := [], laidByText := true, laidKinds := [.data], laidTests := true, laidLooks := .later }
def ConnectBlocksUptoCardSaid : Prop := Claim7.holds Tryd.pinned (.plain (OpenSpec.upto connectBlocksSpec)) connectBlocksUptoCard

/-- THE SECOND FORM's CARD OF 'cohesionlaw15.ConnectReach'. -/
def connectReachUptoCard : Claim7 := { stood := { row := connectReachUptoRow, standIns := [], harness := (true, "3f844f93a3f32290f77328516d3eb14c048b4e5db07b4a12ea14da95033fccd2"), looks := false }, kinds := [], alts := [], laidByText := true, laidKinds := [.data], laidTests := true, laidLooks := .later }
def ConnectReachUptoCardSaid : Prop := Claim7.holds Tryd.pinned (.plain (OpenSpec.upto connectReachSpec)) connectReachUptoCard

/-- THE SECOND FORM's CARD OF 'cohesionlaw15.ConnectComponents'. -/
def connectComponentsUptoCard : Claim7 := { stood := { row := connectComponentsUptoRow, standIns := [], harness := (true, "3f844f93a3f32290f77328516d3eb14c048b4e5db07b4a12ea14da95033fccd2"), looks := false }, kinds := [], alts := [], laidByText := true, laidKinds := [.data], laidTests := true, laidLooks := .later }
def ConnectComponentsUptoCardSaid : Prop := Claim7.holds Tryd.pinned (.plain (OpenSpec.upto connectComponentsSpec)) connectComponentsUptoCard

/-- THE SECOND FORM's CARD OF 'cohesionlaw15.ConnectParts'. -/
def connectPartsUptoCard : Claim7 := { stood := { row := connectPartsUptoRow, standIns := [], harness := (true, "3f844f93a3f32290f77328516d3eb14c048b4e5db07b4a12ea14da95033fccd2"), looks := false }, kinds := [], alts := [], laidByText := true, laidKinds := [.data], laidTests := true, laidLooks := .later }
def ConnectPartsUptoCardSaid : Prop := Claim7.holds Tryd.pinned (.plain (OpenSpec.upto connectPartsSpec)) connectPartsUptoCard

/-- THE SECOND FORM's CARD OF 'cohesionlaw17.KedgeTriple'. -/
def kedgeTripleUptoCard : Claim7 := { stood := { row := kedgeTripleUptoRow, standIns := [], harness := (true, "3f844f93a3f32290f77328516d3eb14c048b4e5db07b4a12ea14da95033fccd2"), looks := false }, kinds := [], alts := [], laidByText := true, laidKinds := [.data], laidTests := true, laidLooks := .later }
def KedgeTripleUptoCardSaid : Prop := Claim7.holds Tryd.pinned (.plain (OpenSpec.upto kedgeTripleSpec)) kedgeTripleUptoCard

/-- THE SECOND FORM's CARD OF 'cohesionlaw17.KedgeCuts'. -/
def kedgeCutsUptoCard : Claim7 := { stood := { row := kedgeCutsUptoRow, standIns := [], harness := (true, "3f844f93a3f32290f77328516d3eb14c048b4e5db07b4a12ea14da95033fccd2"), looks := false }, kinds := [], alts := [], laidByText := true, laidKinds := [.data], laidTests := true, laidLooks := .later }
def KedgeCutsUptoCardSaid : Prop := Claim7.holds Tryd.pinned (.plain (OpenSpec.upto kedgeCutsSpec)) kedgeCutsUptoCard

/-- THE SECOND FORM's CARD OF 'cohesionlaw17.KedgeGroups'. -/
def kedgeGroupsUptoCard : Claim7 := { stood := { row := kedgeGroupsUptoRow, standIns := [], harness := (true, "3f844f93a3f32290f77328516d3eb14c048b4e5db07b4a12ea14da95033fccd2"), looks := false }, kinds := [], alts := [], laidByText := true, laidKinds := [.data], laidTests := true, laidLooks := .later }
def KedgeGroupsUptoCardSaid : Prop := Claim7.holds Tryd.pinned (.plain (OpenSpec.upto kedgeGroupsSpec)) kedgeGroupsUptoCard

/-- THE SECOND FORM's CARD OF 'cohesionlaw17.KedgeInside'. -/
def kedgeInsideUptoCard : Claim7 := { stood := { row := kedgeInsideUptoRow, standIns := [], harness := (true, "3f844f93a3f32290f77328516d3eb14c048b4e5db07b4a12ea14da95033fccd2"), looks := false }, kinds := [], alts := [], laidByText := true, laidKinds := [.data], laidTests := true, laidLooks := .later }
def KedgeInsideUptoCardSaid : Prop := Claim7.holds Tryd.pinned (.plain (OpenSpec.upto kedgeInsideSpec)) kedgeInsideUptoCard

/-- THE SECOND FORM's CARD OF 'cohesionlaw23.DirectedTurned'. -/
def directedTurnedUptoCard : Claim7 := { stood := { row := directedTurnedUptoRow, standIns := [], harness := (true, "3f844f93a3f32290f77328516d3eb14c048b4e5db07b4a12ea14da95033fccd2"), looks := false }, kinds := [], alts := [], laidByText := true, laidKinds := [.data], laidTests := true, laidLooks := .later }
def DirectedTurnedUptoCardSaid : Prop := Claim7.holds Tryd.pinned (.plain (OpenSpec.upto directedTurnedSpec)) directedTurnedUptoCard
end Rows
end Go.Proofs.YtbimaodbcjjbfaaDoor
