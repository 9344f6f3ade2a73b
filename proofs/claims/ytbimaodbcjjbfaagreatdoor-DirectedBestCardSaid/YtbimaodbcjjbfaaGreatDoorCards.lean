/-
  DERIVED. GIVEN WITH THE SEED: THE CARDS: each row of YtbimaodbcjjbfaaGreatDoorRows.lean that lists a variable, with what it lists TIED to the program's text (the seventh form; the later family's looks); each row that meets fmt, with fmt's text TOLD by the authors' own Lean function (tested against real Go, not proved from fmt's source: count such statements apart). THE CARD IS WHAT COUNTS. Prove the row's statement (the work); the ties are given (YtbimaodbcjjbfaaGreatDoorTie.lean); close each card by the builder's one call (the guide's Derived/Test/ToyasCard.lean, 'card_holds'). Laid BY PROGRAM, IN A SANDBOX (cutbox-door.mjs). By AI agents, Wed Nov 11 2026. No macro, syntax, notation, axiom, sorry.
-/
import Derived.Test.YtbimaodbcjjbfaaGreatDoorRows
import GoSem.ClaimSeven
namespace Go.Proofs.YtbimaodbcjjbfaaGreatDoor
namespace Rows

/-- THE TIED CARD OF 'cohesionlaw03.GraphLooks'. -/
def graphLooksCard : Claim7 := { stood := { row := graphLooksRow, standIns := [], harness := (true, "8843abd135f42638d1a5429137ac52fb6a54ff7798351f64c3e02626a5bc36c0"), looks := false }, kinds := [], alts := [], laidByText := true, laidKinds := [.data], laidTests := true, laidLooks := .later }
def GraphLooksCardSaid : Prop := Claim7.holds Tryz.pinned (.plain (OpenSpec.ofChange graphLooksSpec)) graphLooksCard

/-- THE TIED CARD OF 'cohesionlaw23.DirectedBoth'. -/
def directedBothCard : Claim7 := { stood := { row := directedBothRow, standIns := [], harness := (true, "8843abd135f42638d1a5429137ac52fb6a54ff7798351f64c3e02626a5bc36c0"), looks := false }, kinds := [], alts := [], laidByText := true, laidKinds := [.data], laidTests := true, laidLooks := .later }
def DirectedBothCardSaid : Prop := Claim7.holds Tryz.pinned (.plain (OpenSpec.ofChange directedBothSpec)) directedBothCard

/-- THE TIED CARD OF 'cohesionlaw23.DirectedBest'. -/
def directedBestCard : Claim7 := { stood := { row := directedBestRow, standIns := [], harness := (true, "8843abd135f42638d1a5429137ac52fb6a54ff7798351f64c3e02626a5bc36c0"), looks := false }, kinds := [], alts := [], laidByText := true, laidKinds := [.data], laidTests := true, laidLooks := .later }
def DirectedBestCardSaid : Prop := Claim7.holds Tryz.pinned (.plain (OpenSpec.ofChange directedBestSpec)) directedBestCard

/-- THE TIED CARD OF 'cohesionlaw23.DirectedGreatest'. -/
def directedGreatestCard : Claim7 := { stood := { row := directedGreatestRow, standIns := [], harness := (true, "8843abd135f42638d1a5429137ac52fb6a54ff7798351f64c3e02626a5bc36c0"), looks := false }, kinds := [], alts := [], laidByText := true, laidKinds := [.data], laidTests := true, laidLooks := .later }
def DirectedGreatestCardSaid : Prop := Claim7.holds Tryz.pinned (.plain (OpenSpec.ofChange directedGreatestSpec)) directedGreatestCard

/-- THE SECOND FORM's CARD OF 'cohesionlaw03.GraphLooks'. -/
def graphLooksUptoCard : Claim7 := { stood := { row := graphLooksUptoRow, standIns := [], harness := (true, "8843abd135f42638d1a5429137ac52fb6a54ff7798351f64c3e02626a5bc36c0"), looks := false }, kinds := [], alts := [], laidByText := true, laidKinds := [.data], laidTests := true, laidLooks := .later }
def GraphLooksUptoCardSaid : Prop := Claim7.holds Tryz.pinned (.plain (OpenSpec.upto graphLooksSpec)) graphLooksUptoCard

/-- THE SECOND FORM's CARD OF 'cohesionlaw23.DirectedBoth'. -/
def directedBothUptoCard : Claim7 := { stood := { row := directedBothUptoRow, standIns := [], harness := (true, "8843abd135f42638d1a5429137ac52fb6a54ff7798351f64c3e02626a5bc36c0"), looks := false }, kinds := [], alts := [], laidByText := true, laidKinds := [.data], laidTests := true, laidLooks := .later }
def DirectedBothUptoCardSaid : Prop := Claim7.holds Tryz.pinned (.plain (OpenSpec.upto directedBothSpec)) directedBothUptoCard

/-- THE SECOND FORM's CARD OF 'cohesionlaw23.DirectedBest'. -/
def directedBestUptoCard : Claim7 := { stood := { row := directedBestUptoRow, standIns := [], harness := (true, "8843abd135f42638d1a5429137ac52fb6a54ff7798351f64c3e02626a5bc36c0"), looks := false }, kinds := [], alts := [], laidByText := true, laidKinds := [.data], laidTests := true, laidLooks := .later }
def DirectedBestUptoCardSaid : Prop := Claim7.holds Tryz.pinned (.plain (OpenSpec.upto directedBestSpec)) directedBestUptoCard

/-- THE SECOND FORM's CARD OF 'cohesionlaw23.DirectedGreatest'. -/
def directedGreatestUptoCard : Claim7 := { stood := { row := directedGreatestUptoRow, standIns := [], harness := (true, "8843abd135f42638d1a5429137ac52fb6a54ff7798351f64c3e02626a5bc36c0"), looks := false }, kinds := [], alts := [], laidByText := true, laidKinds := [.data], laidTests := true, laidLooks := .later }
def DirectedGreatestUptoCardSaid : Prop := Claim7.holds Tryz.pinned (.plain (OpenSpec.upto directedGreatestSpec)) directedGreatestUptoCard
end Rows
end Go.Proofs.YtbimaodbcjjbfaaGreatDoor
