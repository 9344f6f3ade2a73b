/-
  No cell of these rows narrows 'for every input' (looked for: loops, veiled, ifaces, maps, wideKeys, modest, calm, conditions, laid).
  DERIVED. THE GIVEN ROWS OF THIS SEAT. 18 by the template 'for every input the law returns true; each argument reads behind the call as it read before'; 0 by the template 'total and deterministic' (their statements: YtbimaodbcjjbfaaTotals.lean).
  GIVEN WITH THE SEED: the statements are not yours to turn. If you find one false, say at which input.
  Laid BY PROGRAM, IN A SANDBOX (cutbox-rows.mjs): the forced cells as the released guide's own fill.sh prints them over the translation d38e521d1833c6c9… (all of the seat's roots in one cut). By AI agents, Wed Nov 11 2026. No macro, syntax, notation, axiom, sorry.
-/
import Derived.Test.YtbimaodbcjjbfaaChecked
import GoSem.Claim
import GoSem.ClaimJoined
import GoSem.ClaimMapViews
import Derived.JoinedTies
import Derived.KernelRfl
namespace Go.Proofs.Ytbimaodbcjjbfaa
/- THE CELL 'sum', in the pinned program and in every row, IS THE sha256 OF THE DUMP (.gsa) THAT YtbimaodbcjjbfaaProg.lean LOADS. Nothing in Lean hashes anything: it is a label: what it is worth is what the hold of that sum in a sandbox is worth. -/
noncomputable def Try.pinned : Pinned := { name := "ytbimaodbcjjbfaa", sum := "d38e521d1833c6c906fac8bbdac38d4576dd30ab5d20b646b24622a180fd6cdb", checked := Try.checked }
namespace Rows
def none {H : Type} : Left H := { results := [], args := [] }

/-- 'cohesionlaw16.FlowProves': WHATEVER THE INPUT: true; the input reads as it did. -/
def flowProvesSpec : ChangeSpec := { name := "flowProves", fn := fun _ => fun
  | [d1, d2] => { results := [.lit (.bool true)], args := [d1, d2] }
  | _ => none }
def flowProvesRow : OpenClaim := { program := "ytbimaodbcjjbfaa", sum := "d38e521d1833c6c906fac8bbdac38d4576dd30ab5d20b646b24622a180fd6cdb", func := "cohesion/cohesionlaw16.FlowProves", spec := "flowProves", unfollowed := true, recurses := true, apart := false }
def FlowProvesSaid : Prop := flowProvesRow.holds Try.pinned (OpenSpec.ofChange flowProvesSpec)

/-- ITS FALSE NEIGHBOUR: 'it returns false'. Refute it at one input. -/
def flowProvesWrong : ChangeSpec := { name := "flowProves", fn := fun _ => fun
  | [d1, d2] => { results := [.lit (.bool false)], args := [d1, d2] }
  | _ => none }
def FlowProvesWrongFalsely : Prop := flowProvesRow.holds Try.pinned (OpenSpec.ofChange flowProvesWrong)

/-- 'cohesionlaw16.FlowGrows': WHATEVER THE INPUT: true; the input reads as it did. -/
def flowGrowsSpec : ChangeSpec := { name := "flowGrows", fn := fun _ => fun
  | [d] => { results := [.lit (.bool true)], args := [d] }
  | _ => none }
def flowGrowsRow : OpenClaim := { program := "ytbimaodbcjjbfaa", sum := "d38e521d1833c6c906fac8bbdac38d4576dd30ab5d20b646b24622a180fd6cdb", func := "cohesion/cohesionlaw16.FlowGrows", spec := "flowGrows", unfollowed := true, recurses := true, apart := false }
def FlowGrowsSaid : Prop := flowGrowsRow.holds Try.pinned (OpenSpec.ofChange flowGrowsSpec)

/-- ITS FALSE NEIGHBOUR: 'it returns false'. Refute it at one input. -/
def flowGrowsWrong : ChangeSpec := { name := "flowGrows", fn := fun _ => fun
  | [d] => { results := [.lit (.bool false)], args := [d] }
  | _ => none }
def FlowGrowsWrongFalsely : Prop := flowGrowsRow.holds Try.pinned (OpenSpec.ofChange flowGrowsWrong)

/-- 'cohesionlaw16.FlowMax': WHATEVER THE INPUT: true; the input reads as it did. -/
def flowMaxSpec : ChangeSpec := { name := "flowMax", fn := fun _ => fun
  | [d1, d2, d3] => { results := [.lit (.bool true)], args := [d1, d2, d3] }
  | _ => none }
def flowMaxRow : OpenClaim := { program := "ytbimaodbcjjbfaa", sum := "d38e521d1833c6c906fac8bbdac38d4576dd30ab5d20b646b24622a180fd6cdb", func := "cohesion/cohesionlaw16.FlowMax", spec := "flowMax", unfollowed := true, recurses := true, apart := false }
def FlowMaxSaid : Prop := flowMaxRow.holds Try.pinned (OpenSpec.ofChange flowMaxSpec)

/-- ITS FALSE NEIGHBOUR: 'it returns false'. Refute it at one input. -/
def flowMaxWrong : ChangeSpec := { name := "flowMax", fn := fun _ => fun
  | [d1, d2, d3] => { results := [.lit (.bool false)], args := [d1, d2, d3] }
  | _ => none }
def FlowMaxWrongFalsely : Prop := flowMaxRow.holds Try.pinned (OpenSpec.ofChange flowMaxWrong)

/-- 'cohesionlaw16.FlowDual': WHATEVER THE INPUT: true; the input reads as it did. -/
def flowDualSpec : ChangeSpec := { name := "flowDual", fn := fun _ => fun
  | [d] => { results := [.lit (.bool true)], args := [d] }
  | _ => none }
def flowDualRow : OpenClaim := { program := "ytbimaodbcjjbfaa", sum := "d38e521d1833c6c906fac8bbdac38d4576dd30ab5d20b646b24622a180fd6cdb", func := "cohesion/cohesionlaw16.FlowDual", spec := "flowDual", unfollowed := true, recurses := true, apart := false }
def FlowDualSaid : Prop := flowDualRow.holds Try.pinned (OpenSpec.ofChange flowDualSpec)

/-- ITS FALSE NEIGHBOUR: 'it returns false'. Refute it at one input. -/
def flowDualWrong : ChangeSpec := { name := "flowDual", fn := fun _ => fun
  | [d] => { results := [.lit (.bool false)], args := [d] }
  | _ => none }
def FlowDualWrongFalsely : Prop := flowDualRow.holds Try.pinned (OpenSpec.ofChange flowDualWrong)

/-- 'cohesionlaw34.RunsFinds': WHATEVER THE INPUT: true; the input reads as it did. -/
def runsFindsSpec : ChangeSpec := { name := "runsFinds", fn := fun _ => fun
  | [d] => { results := [.lit (.bool true)], args := [d] }
  | _ => none }
def runsFindsRow : OpenClaim := { program := "ytbimaodbcjjbfaa", sum := "d38e521d1833c6c906fac8bbdac38d4576dd30ab5d20b646b24622a180fd6cdb", func := "cohesion/cohesionlaw34.RunsFinds", spec := "runsFinds", unfollowed := true, recurses := true, apart := false }
def RunsFindsSaid : Prop := runsFindsRow.holds Try.pinned (OpenSpec.ofChange runsFindsSpec)

/-- ITS FALSE NEIGHBOUR: 'it returns false'. Refute it at one input. -/
def runsFindsWrong : ChangeSpec := { name := "runsFinds", fn := fun _ => fun
  | [d] => { results := [.lit (.bool false)], args := [d] }
  | _ => none }
def RunsFindsWrongFalsely : Prop := runsFindsRow.holds Try.pinned (OpenSpec.ofChange runsFindsWrong)

/-- 'cohesionlaw34.RunsMerges': WHATEVER THE INPUT: true; the input reads as it did. -/
def runsMergesSpec : ChangeSpec := { name := "runsMerges", fn := fun _ => fun
  | [d1, d2] => { results := [.lit (.bool true)], args := [d1, d2] }
  | _ => none }
def runsMergesRow : OpenClaim := { program := "ytbimaodbcjjbfaa", sum := "d38e521d1833c6c906fac8bbdac38d4576dd30ab5d20b646b24622a180fd6cdb", func := "cohesion/cohesionlaw34.RunsMerges", spec := "runsMerges", unfollowed := true, recurses := true, apart := false }
def RunsMergesSaid : Prop := runsMergesRow.holds Try.pinned (OpenSpec.ofChange runsMergesSpec)

/-- ITS FALSE NEIGHBOUR: 'it returns false'. Refute it at one input. -/
def runsMergesWrong : ChangeSpec := { name := "runsMerges", fn := fun _ => fun
  | [d1, d2] => { results := [.lit (.bool false)], args := [d1, d2] }
  | _ => none }
def RunsMergesWrongFalsely : Prop := runsMergesRow.holds Try.pinned (OpenSpec.ofChange runsMergesWrong)

/-- 'cohesionlaw07.WindowPresent': WHATEVER THE INPUT: true; the input reads as it did. -/
def windowPresentSpec : ChangeSpec := { name := "windowPresent", fn := fun _ => fun
  | [d1, d2, d3, d4] => { results := [.lit (.bool true)], args := [d1, d2, d3, d4] }
  | _ => none }
def windowPresentRow : OpenClaim := { program := "ytbimaodbcjjbfaa", sum := "d38e521d1833c6c906fac8bbdac38d4576dd30ab5d20b646b24622a180fd6cdb", func := "cohesion/cohesionlaw07.WindowPresent", spec := "windowPresent", unfollowed := true, recurses := true, apart := false }
def WindowPresentSaid : Prop := windowPresentRow.holds Try.pinned (OpenSpec.ofChange windowPresentSpec)

/-- ITS FALSE NEIGHBOUR: 'it returns false'. Refute it at one input. -/
def windowPresentWrong : ChangeSpec := { name := "windowPresent", fn := fun _ => fun
  | [d1, d2, d3, d4] => { results := [.lit (.bool false)], args := [d1, d2, d3, d4] }
  | _ => none }
def WindowPresentWrongFalsely : Prop := windowPresentRow.holds Try.pinned (OpenSpec.ofChange windowPresentWrong)

/-- 'cohesionlaw34.RunsSort': WHATEVER THE INPUT: true; the input reads as it did. -/
def runsSortSpec : ChangeSpec := { name := "runsSort", fn := fun _ => fun
  | [d1, d2, d3] => { results := [.lit (.bool true)], args := [d1, d2, d3] }
  | _ => none }
def runsSortRow : OpenClaim := { program := "ytbimaodbcjjbfaa", sum := "d38e521d1833c6c906fac8bbdac38d4576dd30ab5d20b646b24622a180fd6cdb", func := "cohesion/cohesionlaw34.RunsSort", spec := "runsSort", unfollowed := true, recurses := true, apart := false }
def RunsSortSaid : Prop := runsSortRow.holds Try.pinned (OpenSpec.ofChange runsSortSpec)

/-- ITS FALSE NEIGHBOUR: 'it returns false'. Refute it at one input. -/
def runsSortWrong : ChangeSpec := { name := "runsSort", fn := fun _ => fun
  | [d1, d2, d3] => { results := [.lit (.bool false)], args := [d1, d2, d3] }
  | _ => none }
def RunsSortWrongFalsely : Prop := runsSortRow.holds Try.pinned (OpenSpec.ofChange runsSortWrong)

/-- 'cohesionlaw34.RunsPatches': WHATEVER THE INPUT: true; the input reads as it did. -/
def runsPatchesSpec : ChangeSpec := { name := "runsPatches", fn := fun _ => fun
  | [d] => { results := [.lit (.bool true)], args := [d] }
  | _ => none }
def runsPatchesRow : OpenClaim := { program := "ytbimaodbcjjbfaa", sum := "d38e521d1833c6c906fac8bbdac38d4576dd30ab5d20b646b24622a180fd6cdb", func := "cohesion/cohesionlaw34.RunsPatches", spec := "runsPatches", unfollowed := true, recurses := true, apart := false }
def RunsPatchesSaid : Prop := runsPatchesRow.holds Try.pinned (OpenSpec.ofChange runsPatchesSpec)

/-- ITS FALSE NEIGHBOUR: 'it returns false'. Refute it at one input. -/
def runsPatchesWrong : ChangeSpec := { name := "runsPatches", fn := fun _ => fun
  | [d] => { results := [.lit (.bool false)], args := [d] }
  | _ => none }
def RunsPatchesWrongFalsely : Prop := runsPatchesRow.holds Try.pinned (OpenSpec.ofChange runsPatchesWrong)

/-- 'cohesionlaw03.GraphChecks': WHATEVER THE INPUT: true; the input reads as it did. -/
def graphChecksSpec : ChangeSpec := { name := "graphChecks", fn := fun _ => fun
  | [d1, d2, d3] => { results := [.lit (.bool true)], args := [d1, d2, d3] }
  | _ => none }
def graphChecksRow : OpenClaim := { program := "ytbimaodbcjjbfaa", sum := "d38e521d1833c6c906fac8bbdac38d4576dd30ab5d20b646b24622a180fd6cdb", func := "cohesion/cohesionlaw03.GraphChecks", spec := "graphChecks", inPlace := ["math/bits.Sub64"], unfollowed := true, recurses := true, apart := false }
def GraphChecksSaid : Prop := graphChecksRow.holds Try.pinned (OpenSpec.ofChange graphChecksSpec)

/-- ITS FALSE NEIGHBOUR: 'it returns false'. Refute it at one input. -/
def graphChecksWrong : ChangeSpec := { name := "graphChecks", fn := fun _ => fun
  | [d1, d2, d3] => { results := [.lit (.bool false)], args := [d1, d2, d3] }
  | _ => none }
def GraphChecksWrongFalsely : Prop := graphChecksRow.holds Try.pinned (OpenSpec.ofChange graphChecksWrong)

/-- 'cohesionlaw03.GraphParts': WHATEVER THE INPUT: true; the input reads as it did. -/
def graphPartsSpec : ChangeSpec := { name := "graphParts", fn := fun _ => fun
  | [d] => { results := [.lit (.bool true)], args := [d] }
  | _ => none }
def graphPartsRow : OpenClaim := { program := "ytbimaodbcjjbfaa", sum := "d38e521d1833c6c906fac8bbdac38d4576dd30ab5d20b646b24622a180fd6cdb", func := "cohesion/cohesionlaw03.GraphParts", spec := "graphParts", inPlace := ["math/bits.Sub64"], unfollowed := true, recurses := true, apart := false }
def GraphPartsSaid : Prop := graphPartsRow.holds Try.pinned (OpenSpec.ofChange graphPartsSpec)

/-- ITS FALSE NEIGHBOUR: 'it returns false'. Refute it at one input. -/
def graphPartsWrong : ChangeSpec := { name := "graphParts", fn := fun _ => fun
  | [d] => { results := [.lit (.bool false)], args := [d] }
  | _ => none }
def GraphPartsWrongFalsely : Prop := graphPartsRow.holds Try.pinned (OpenSpec.ofChange graphPartsWrong)

/-- 'cohesionlaw34.RunsGraphs': WHATEVER THE INPUT: true; the input reads as it did. -/
def runsGraphsSpec : ChangeSpec := { name := "runsGraphs", fn := fun _ => fun
  | [d1, d2] => { results := [.lit (.bool true)], args := [d1, d2] }
  | _ => none }
def runsGraphsRow : OpenClaim := { program := "ytbimaodbcjjbfaa", sum := "d38e521d1833c6c906fac8bbdac38d4576dd30ab5d20b646b24622a180fd6cdb", func := "cohesion/cohesionlaw34.RunsGraphs", spec := "runsGraphs", inPlace := ["slices.overlaps[cohesion/api.Edge]"], unfollowed := true, recurses := true, apart := false }
def RunsGraphsSaid : Prop := runsGraphsRow.holds Try.pinned (OpenSpec.ofChange runsGraphsSpec)

/-- ITS FALSE NEIGHBOUR: 'it returns false'. Refute it at one input. -/
def runsGraphsWrong : ChangeSpec := { name := "runsGraphs", fn := fun _ => fun
  | [d1, d2] => { results := [.lit (.bool false)], args := [d1, d2] }
  | _ => none }
def RunsGraphsWrongFalsely : Prop := runsGraphsRow.holds Try.pinned (OpenSpec.ofChange runsGraphsWrong)

/-- 'cohesionlaw07.WindowSlides': WHATEVER THE INPUT: true; the input reads as it did. -/
def windowSlidesSpec : ChangeSpec := { name := "windowSlides", fn := fun _ => fun
  | [d1, d2, d3, d4] => { results := [.lit (.bool true)], args := [d1, d2, d3, d4] }
  | _ => none }
def windowSlidesRow : OpenClaim := { program := "ytbimaodbcjjbfaa", sum := "d38e521d1833c6c906fac8bbdac38d4576dd30ab5d20b646b24622a180fd6cdb", func := "cohesion/cohesionlaw07.WindowSlides", spec := "windowSlides", inPlace := ["slices.overlaps[cohesion/api.Link]"], unfollowed := true, recurses := true, apart := false }
def WindowSlidesSaid : Prop := windowSlidesRow.holds Try.pinned (OpenSpec.ofChange windowSlidesSpec)

/-- ITS FALSE NEIGHBOUR: 'it returns false'. Refute it at one input. -/
def windowSlidesWrong : ChangeSpec := { name := "windowSlides", fn := fun _ => fun
  | [d1, d2, d3, d4] => { results := [.lit (.bool false)], args := [d1, d2, d3, d4] }
  | _ => none }
def WindowSlidesWrongFalsely : Prop := windowSlidesRow.holds Try.pinned (OpenSpec.ofChange windowSlidesWrong)

/-- 'cohesionlaw07.WindowBehind': WHATEVER THE INPUT: true; the input reads as it did. -/
def windowBehindSpec : ChangeSpec := { name := "windowBehind", fn := fun _ => fun
  | [d1, d2] => { results := [.lit (.bool true)], args := [d1, d2] }
  | _ => none }
def windowBehindRow : OpenClaim := { program := "ytbimaodbcjjbfaa", sum := "d38e521d1833c6c906fac8bbdac38d4576dd30ab5d20b646b24622a180fd6cdb", func := "cohesion/cohesionlaw07.WindowBehind", spec := "windowBehind", inPlace := ["slices.overlaps[cohesion/api.Link]"], unfollowed := true, recurses := true, apart := false }
def WindowBehindSaid : Prop := windowBehindRow.holds Try.pinned (OpenSpec.ofChange windowBehindSpec)

/-- ITS FALSE NEIGHBOUR: 'it returns false'. Refute it at one input. -/
def windowBehindWrong : ChangeSpec := { name := "windowBehind", fn := fun _ => fun
  | [d1, d2] => { results := [.lit (.bool false)], args := [d1, d2] }
  | _ => none }
def WindowBehindWrongFalsely : Prop := windowBehindRow.holds Try.pinned (OpenSpec.ofChange windowBehindWrong)

/-- 'cohesionlaw07.WindowCounts': WHATEVER THE INPUT: true; the input reads as it did. -/
def windowCountsSpec : ChangeSpec := { name := "windowCounts", fn := fun _ => fun
  | [d1, d2] => { results := [.lit (.bool true)], args := [d1, d2] }
  | _ => none }
def windowCountsRow : OpenClaim := { program := "ytbimaodbcjjbfaa", sum := "d38e521d1833c6c906fac8bbdac38d4576dd30ab5d20b646b24622a180fd6cdb", func := "cohesion/cohesionlaw07.WindowCounts", spec := "windowCounts", inPlace := ["slices.overlaps[cohesion/api.Link]"], unfollowed := true, recurses := true, apart := false }
def WindowCountsSaid : Prop := windowCountsRow.holds Try.pinned (OpenSpec.ofChange windowCountsSpec)

/-- ITS FALSE NEIGHBOUR: 'it returns false'. Refute it at one input. -/
def windowCountsWrong : ChangeSpec := { name := "windowCounts", fn := fun _ => fun
  | [d1, d2] => { results := [.lit (.bool false)], args := [d1, d2] }
  | _ => none }
def WindowCountsWrongFalsely : Prop := windowCountsRow.holds Try.pinned (OpenSpec.ofChange windowCountsWrong)

/-- 'cohesionlaw07.WindowAll': WHATEVER THE INPUT: true; the input reads as it did. -/
def windowAllSpec : ChangeSpec := { name := "windowAll", fn := fun _ => fun
  | [d] => { results := [.lit (.bool true)], args := [d] }
  | _ => none }
def windowAllRow : OpenClaim := { program := "ytbimaodbcjjbfaa", sum := "d38e521d1833c6c906fac8bbdac38d4576dd30ab5d20b646b24622a180fd6cdb", func := "cohesion/cohesionlaw07.WindowAll", spec := "windowAll", inPlace := ["slices.overlaps[cohesion/api.Link]"], unfollowed := true, recurses := true, apart := false }
def WindowAllSaid : Prop := windowAllRow.holds Try.pinned (OpenSpec.ofChange windowAllSpec)

/-- ITS FALSE NEIGHBOUR: 'it returns false'. Refute it at one input. -/
def windowAllWrong : ChangeSpec := { name := "windowAll", fn := fun _ => fun
  | [d] => { results := [.lit (.bool false)], args := [d] }
  | _ => none }
def WindowAllWrongFalsely : Prop := windowAllRow.holds Try.pinned (OpenSpec.ofChange windowAllWrong)

/-- 'cohesionlaw03.GraphChanges': WHATEVER THE INPUT: true; the input reads as it did. -/
def graphChangesSpec : ChangeSpec := { name := "graphChanges", fn := fun _ => fun
  | [d1, d2, d3] => { results := [.lit (.bool true)], args := [d1, d2, d3] }
  | _ => none }
def graphChangesRow : OpenClaim := { program := "ytbimaodbcjjbfaa", sum := "d38e521d1833c6c906fac8bbdac38d4576dd30ab5d20b646b24622a180fd6cdb", func := "cohesion/cohesionlaw03.GraphChanges", spec := "graphChanges", inPlace := ["slices.overlaps[cohesion/api.Edge]", "math/bits.Sub64"], unfollowed := true, recurses := true, apart := false }
def GraphChangesSaid : Prop := graphChangesRow.holds Try.pinned (OpenSpec.ofChange graphChangesSpec)

/-- ITS FALSE NEIGHBOUR: 'it returns false'. Refute it at one input. -/
def graphChangesWrong : ChangeSpec := { name := "graphChanges", fn := fun _ => fun
  | [d1, d2, d3] => { results := [.lit (.bool false)], args := [d1, d2, d3] }
  | _ => none }
def GraphChangesWrongFalsely : Prop := graphChangesRow.holds Try.pinned (OpenSpec.ofChange graphChangesWrong)

/-- 'cohesionlaw03.GraphBack': WHATEVER THE INPUT: true; the input reads as it did. -/
def graphBackSpec : ChangeSpec := { name := "graphBack", fn := fun _ => fun
  | [d] => { results := [.lit (.bool true)], args := [d] }
  | _ => none }
def graphBackRow : OpenClaim := { program := "ytbimaodbcjjbfaa", sum := "d38e521d1833c6c906fac8bbdac38d4576dd30ab5d20b646b24622a180fd6cdb", func := "cohesion/cohesionlaw03.GraphBack", spec := "graphBack", inPlace := ["slices.overlaps[cohesion/api.Edge]", "math/bits.Sub64"], unfollowed := true, recurses := true, apart := false }
def GraphBackSaid : Prop := graphBackRow.holds Try.pinned (OpenSpec.ofChange graphBackSpec)

/-- ITS FALSE NEIGHBOUR: 'it returns false'. Refute it at one input. -/
def graphBackWrong : ChangeSpec := { name := "graphBack", fn := fun _ => fun
  | [d] => { results := [.lit (.bool false)], args := [d] }
  | _ => none }
def GraphBackWrongFalsely : Prop := graphBackRow.holds Try.pinned (OpenSpec.ofChange graphBackWrong)

/- THE SECOND FORM. 'bulk': how many values and letters a reading holds, each counted each time it is reached (what is shared counts as often as it is met; a slice's spare places count too). A statement '..UptoSaid' is the law's where the arguments, and the package variables that the reading takes, are together of bulk at most 1048576: NARROWER than '..Said'. Prove '..Said' where nothing that the law and all that it calls make is longer than what came in: it says more and counts as full. Else prove '..UptoSaid'. A law counts once. -/
mutual
def uptoBulk {H : Type} : DataW H → Nat
  | .lit (.string bytes) => bytes.length + 1
  | .lit _ => 1
  | .nil => 1
  | .ptr d => uptoBulk d + 1
  | .slice elems spare => uptoBulkAll elems + uptoBulkAll spare + 1
  | .agg parts => uptoBulkAll parts + 1
  | .iface _ d => uptoBulk d + 1
  | .map entries => uptoBulkEntries entries + 1
  | .held _ => 1
def uptoBulkAll {H : Type} : List (DataW H) → Nat
  | [] => 0
  | d :: r => uptoBulk d + uptoBulkAll r
def uptoBulkEntries {H : Type} : List (Lit × DataW H) → Nat
  | [] => 0
  | x :: r => uptoBulkEntry x + uptoBulkEntries r
def uptoBulkEntry {H : Type} : Lit × DataW H → Nat
  | (.string bytes, d) => bytes.length + uptoBulk d + 1
  | (_, d) => uptoBulk d + 1
 end
def uptoSmall : (H : Type) → List (DataW H) → Bool := fun _ ds => decide (uptoBulkAll ds ≤ 1048576)
def OpenSpec.upto (s : _root_.Go.ChangeSpec) : _root_.Go.OpenSpec := { _root_.Go.OpenSpec.ofChange s with cond := some uptoSmall }

/-- 'cohesionlaw16.FlowProves', WHERE WHAT IT READS IS OF BULK AT MOST 1048576: true; the input reads as it did. -/
def flowProvesUptoRow : OpenClaim := { program := "ytbimaodbcjjbfaa", sum := "d38e521d1833c6c906fac8bbdac38d4576dd30ab5d20b646b24622a180fd6cdb", func := "cohesion/cohesionlaw16.FlowProves", spec := "flowProves", unfollowed := true, recurses := true, apart := false, narrowed := true }
def FlowProvesUptoSaid : Prop := flowProvesUptoRow.holds Try.pinned (OpenSpec.upto flowProvesSpec)

/-- 'cohesionlaw16.FlowGrows', WHERE WHAT IT READS IS OF BULK AT MOST 1048576: true; the input reads as it did. -/
def flowGrowsUptoRow : OpenClaim := { program := "ytbimaodbcjjbfaa", sum := "d38e521d1833c6c906fac8bbdac38d4576dd30ab5d20b646b24622a180fd6cdb", func := "cohesion/cohesionlaw16.FlowGrows", spec := "flowGrows", unfollowed := true, recurses := true, apart := false, narrowed := true }
def FlowGrowsUptoSaid : Prop := flowGrowsUptoRow.holds Try.pinned (OpenSpec.upto flowGrowsSpec)

/-- 'cohesionlaw16.FlowMax', WHERE WHAT IT READS IS OF BULK AT MOST 1048576: true; the input reads as it did. -/
def flowMaxUptoRow : OpenClaim := { program := "ytbimaodbcjjbfaa", sum := "d38e521d1833c6c906fac8bbdac38d4576dd30ab5d20b646b24622a180fd6cdb", func := "cohesion/cohesionlaw16.FlowMax", spec := "flowMax", unfollowed := true, recurses := true, apart := false, narrowed := true }
def FlowMaxUptoSaid : Prop := flowMaxUptoRow.holds Try.pinned (OpenSpec.upto flowMaxSpec)

/-- 'cohesionlaw16.FlowDual', WHERE WHAT IT READS IS OF BULK AT MOST 1048576: true; the input reads as it did. -/
def flowDualUptoRow : OpenClaim := { program := "ytbimaodbcjjbfaa", sum := "d38e521d1833c6c906fac8bbdac38d4576dd30ab5d20b646b24622a180fd6cdb", func := "cohesion/cohesionlaw16.FlowDual", spec := "flowDual", unfollowed := true, recurses := true, apart := false, narrowed := true }
def FlowDualUptoSaid : Prop := flowDualUptoRow.holds Try.pinned (OpenSpec.upto flowDualSpec)

/-- 'cohesionlaw34.RunsFinds', WHERE WHAT IT READS IS OF BULK AT MOST 1048576: true; the input reads as it did. -/
def runsFindsUptoRow : OpenClaim := { program := "ytbimaodbcjjbfaa", sum := "d38e521d1833c6c906fac8bbdac38d4576dd30ab5d20b646b24622a180fd6cdb", func := "cohesion/cohesionlaw34.RunsFinds", spec := "runsFinds", unfollowed := true, recurses := true, apart := false, narrowed := true }
def RunsFindsUptoSaid : Prop := runsFindsUptoRow.holds Try.pinned (OpenSpec.upto runsFindsSpec)

/-- 'cohesionlaw34.RunsMerges', WHERE WHAT IT READS IS OF BULK AT MOST 1048576: true; the input reads as it did. -/
def runsMergesUptoRow : OpenClaim := { program := "ytbimaodbcjjbfaa", sum := "d38e521d1833c6c906fac8bbdac38d4576dd30ab5d20b646b24622a180fd6cdb", func := "cohesion/cohesionlaw34.RunsMerges", spec := "runsMerges", unfollowed := true, recurses := true, apart := false, narrowed := true }
def RunsMergesUptoSaid : Prop := runsMergesUptoRow.holds Try.pinned (OpenSpec.upto runsMergesSpec)

/-- 'cohesionlaw07.WindowPresent', WHERE WHAT IT READS IS OF BULK AT MOST 1048576: true; the input reads as it did. -/
def windowPresentUptoRow : OpenClaim := { program := "ytbimaodbcjjbfaa", sum := "d38e521d1833c6c906fac8bbdac38d4576dd30ab5d20b646b24622a180fd6cdb", func := "cohesion/cohesionlaw07.WindowPresent", spec := "windowPresent", unfollowed := true, recurses := true, apart := false, narrowed := true }
def WindowPresentUptoSaid : Prop := windowPresentUptoRow.holds Try.pinned (OpenSpec.upto windowPresentSpec)

/-- 'cohesionlaw34.RunsSort', WHERE WHAT IT READS IS OF BULK AT MOST 1048576: true; the input reads as it did. -/
def runsSortUptoRow : OpenClaim := { program := "ytbimaodbcjjbfaa", sum := "d38e521d1833c6c906fac8bbdac38d4576dd30ab5d20b646b24622a180fd6cdb", func := "cohesion/cohesionlaw34.RunsSort", spec := "runsSort", unfollowed := true, recurses := true, apart := false, narrowed := true }
def RunsSortUptoSaid : Prop := runsSortUptoRow.holds Try.pinned (OpenSpec.upto runsSortSpec)

/-- 'cohesionlaw34.RunsPatches', WHERE WHAT IT READS IS OF BULK AT MOST 1048576: true; the input reads as it did. -/
def runsPatchesUptoRow : OpenClaim := { program := "ytbimaodbcjjbfaa", sum := "d38e521d1833c6c906fac8bbdac38d4576dd30ab5d20b646b24622a180fd6cdb", func := "cohesion/cohesionlaw34.RunsPatches", spec := "runsPatches", unfollowed := true, recurses := true, apart := false, narrowed := true }
def RunsPatchesUptoSaid : Prop := runsPatchesUptoRow.holds Try.pinned (OpenSpec.upto runsPatchesSpec)

/-- 'cohesionlaw03.GraphChecks', WHERE WHAT IT READS IS OF BULK AT MOST 1048576: true; the input reads as it did. -/
def graphChecksUptoRow : OpenClaim := { program := "ytbimaodbcjjbfaa", sum := "d38e521d1833c6c906fac8bbdac38d4576dd30ab5d20b646b24622a180fd6cdb", func := "cohesion/cohesionlaw03.GraphChecks", spec := "graphChecks", inPlace := ["math/bits.Sub64"], unfollowed := true, recurses := true, apart := false, narrowed := true }
def GraphChecksUptoSaid : Prop := graphChecksUptoRow.holds Try.pinned (OpenSpec.upto graphChecksSpec)

/-- 'cohesionlaw03.GraphParts', WHERE WHAT IT READS IS OF BULK AT MOST 1048576: true; the input reads as it did. -/
def graphPartsUptoRow : OpenClaim := { program := "ytbimaodbcjjbfaa", sum := "d38e521d1833c6c906fac8bbdac38d4576dd30ab5d20b646b24622a180fd6cdb", func := "cohesion/cohesionlaw03.GraphParts", spec := "graphParts", inPlace := ["math/bits.Sub64"], unfollowed := true, recurses := true, apart := false, narrowed := true }
def GraphPartsUptoSaid : Prop := graphPartsUptoRow.holds Try.pinned (OpenSpec.upto graphPartsSpec)

/-- 'cohesionlaw34.RunsGraphs', WHERE WHAT IT READS IS OF BULK AT MOST 1048576: true; the input reads as it did. -/
def runsGraphsUptoRow : OpenClaim := { program := "ytbimaodbcjjbfaa", sum := "d38e521d1833c6c906fac8bbdac38d4576dd30ab5d20b646b24622a180fd6cdb", func := "cohesion/cohesionlaw34.RunsGraphs", spec := "runsGraphs", inPlace := ["slices.overlaps[cohesion/api.Edge]"], unfollowed := true, recurses := true, apart := false, narrowed := true }
def RunsGraphsUptoSaid : Prop := runsGraphsUptoRow.holds Try.pinned (OpenSpec.upto runsGraphsSpec)

/-- 'cohesionlaw07.WindowSlides', WHERE WHAT IT READS IS OF BULK AT MOST 1048576: true; the input reads as it did. -/
def windowSlidesUptoRow : OpenClaim := { program := "ytbimaodbcjjbfaa", sum := "d38e521d1833c6c906fac8bbdac38d4576dd30ab5d20b646b24622a180fd6cdb", func := "cohesion/cohesionlaw07.WindowSlides", spec := "windowSlides", inPlace := ["slices.overlaps[cohesion/api.Link]"], unfollowed := true, recurses := true, apart := false, narrowed := true }
def WindowSlidesUptoSaid : Prop := windowSlidesUptoRow.holds Try.pinned (OpenSpec.upto windowSlidesSpec)

/-- 'cohesionlaw07.WindowBehind', WHERE WHAT IT READS IS OF BULK AT MOST 1048576: true; the input reads as it did. -/
def windowBehindUptoRow : OpenClaim := { program := "ytbimaodbcjjbfaa", sum := "d38e521d1833c6c906fac8bbdac38d4576dd30ab5d20b646b24622a180fd6cdb", func := "cohesion/cohesionlaw07.WindowBehind", spec := "windowBehind", inPlace := ["slices.overlaps[cohesion/api.Link]"], unfollowed := true, recurses := true, apart := false, narrowed := true }
def WindowBehindUptoSaid : Prop := windowBehindUptoRow.holds Try.pinned (OpenSpec.upto windowBehindSpec)

/-- 'cohesionlaw07.WindowCounts', WHERE WHAT IT READS IS OF BULK AT MOST 1048576: true; the input reads as it did. -/
def windowCountsUptoRow : OpenClaim := { program := "ytbimaodbcjjbfaa", sum := "d38e521d1833c6c906fac8bbdac38d4576dd30ab5d20b646b24622a180fd6cdb", func := "cohesion/cohesionlaw07.WindowCounts", spec := "windowCounts", inPlace := ["slices.overlaps[cohesion/api.Link]"], unfollowed := true, recurses := true, apart := false, narrowed := true }
def WindowCountsUptoSaid : Prop := windowCountsUptoRow.holds Try.pinned (OpenSpec.upto windowCountsSpec)

/-- 'cohesionlaw07.WindowAll', WHERE WHAT IT READS IS OF BULK AT MOST 1048576: true; the input reads as it did. -/
def windowAllUptoRow : OpenClaim := { program := "ytbimaodbcjjbfaa", sum := "d38e521d1833c6c906fac8bbdac38d4576dd30ab5d20b646b24622a180fd6cdb", func := "cohesion/cohesionlaw07.WindowAll", spec := "windowAll", inPlace := ["slices.overlaps[cohesion/api.Link]"], unfollowed := true, recurses := true, apart := false, narrowed := true }
def WindowAllUptoSaid : Prop := windowAllUptoRow.holds Try.pinned (OpenSpec.upto windowAllSpec)

/-- 'cohesionlaw03.GraphChanges', WHERE WHAT IT READS IS OF BULK AT MOST 1048576: true; the input reads as it did. -/
def graphChangesUptoRow : OpenClaim := { program := "ytbimaodbcjjbfaa", sum := "d38e521d1833c6c906fac8bbdac38d4576dd30ab5d20b646b24622a180fd6cdb", func := "cohesion/cohesionlaw03.GraphChanges", spec := "graphChanges", inPlace := ["slices.overlaps[cohesion/api.Edge]", "math/bits.Sub64"], unfollowed := true, recurses := true, apart := false, narrowed := true }
def GraphChangesUptoSaid : Prop := graphChangesUptoRow.holds Try.pinned (OpenSpec.upto graphChangesSpec)

/-- 'cohesionlaw03.GraphBack', WHERE WHAT IT READS IS OF BULK AT MOST 1048576: true; the input reads as it did. -/
def graphBackUptoRow : OpenClaim := { program := "ytbimaodbcjjbfaa", sum := "d38e521d1833c6c906fac8bbdac38d4576dd30ab5d20b646b24622a180fd6cdb", func := "cohesion/cohesionlaw03.GraphBack", spec := "graphBack", inPlace := ["slices.overlaps[cohesion/api.Edge]", "math/bits.Sub64"], unfollowed := true, recurses := true, apart := false, narrowed := true }
def GraphBackUptoSaid : Prop := graphBackUptoRow.holds Try.pinned (OpenSpec.upto graphBackSpec)

end Rows
end Go.Proofs.Ytbimaodbcjjbfaa
