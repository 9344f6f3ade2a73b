/-
  NARROWER THAN 'FOR EVERY INPUT', by the rows' own cells (each row's printed sentence says how): ConnectBlocks: laid · ConnectReach: laid · ConnectComponents: laid · ConnectParts: laid · KedgeTriple: laid · KedgeCuts: laid · KedgeGroups: laid · KedgeInside: laid · DirectedTurned: laid.
  DERIVED. THE GIVEN ROWS OF THIS SEAT. 9 by the template 'for every input the law returns true; each argument reads behind the call as it read before'; 0 by the template 'total and deterministic' (their statements: YtbimaodbcjjbfaaDoorTotals.lean).
  GIVEN WITH THE SEED: the statements are not yours to turn. If you find one false, say at which input.
  Laid BY PROGRAM, IN A SANDBOX (cutbox-rows.mjs): the forced cells as the released guide's own fill.sh prints them over the translation 9b2f82a22bee385c… (all of the seat's roots in one cut). By AI agents, Wed Nov 11 2026. No macro, syntax, notation, axiom, sorry.
-/
import Derived.Test.YtbimaodbcjjbfaaDoorChecked
import GoSem.Claim
import GoSem.ClaimJoined
import GoSem.ClaimMapViews
import Derived.JoinedTies
import Derived.KernelRfl
namespace Go.Proofs.YtbimaodbcjjbfaaDoor
/- THE CELL 'sum', in the pinned program and in every row, IS THE sha256 OF THE DUMP (.gsa) THAT YtbimaodbcjjbfaaDoorProg.lean LOADS. Nothing in Lean hashes anything: it is a label: what it is worth is what the hold of that sum in a sandbox is worth. -/
noncomputable def Tryd.pinned : Pinned := { name := "ytbimaodbcjjbfaadoor", sum := "9b2f82a22bee385c454dd5966c99bffe8c1d699d6658e42974f2181eed8f737d", checked := Tryd.checked }
namespace Rows
def none {H : Type} : Left H := { results := [], args := [] }

/- WHAT THE LISTED PACKAGE-LEVEL VARIABLES READ AS WHEN THE CALL BEGINS. Each datum BY PROGRAM (the guide's laid-datum.mjs) off the statement by which the dump's own 'gosem.cut.vars' lays the variable. In a bare row this is a premise. The card (YtbimaodbcjjbfaaDoorCards.lean) ties it to the program's text. -/
def laid_math_bits_deBruijn64tab {H : Type} : DataW H := .agg [.lit (.int .u8 0), .lit (.int .u8 1), .lit (.int .u8 56), .lit (.int .u8 2), .lit (.int .u8 57), .lit (.int .u8 49), .lit (.int .u8 28), .lit (.int .u8 3), .lit (.int .u8 61), .lit (.int .u8 58), .lit (.int .u8 42), .lit (.int .u8 50), .lit (.int .u8 38), .lit (.int .u8 29), .lit (.int .u8 17), .lit (.int .u8 4), .lit (.int .u8 62), .lit (.int .u8 47), .lit (.int .u8 59), .lit (.int .u8 36), .lit (.int .u8 45), .lit (.int .u8 43), .lit (.int .u8 51), .lit (.int .u8 22), .lit (.int .u8 53), .lit (.int .u8 39), .lit (.int .u8 33), .lit (.int .u8 30), .lit (.int .u8 24), .lit (.int .u8 18), .lit (.int .u8 12), .lit (.int .u8 5), .lit (.int .u8 63), .lit (.int .u8 55), .lit (.int .u8 48), .lit (.int .u8 27), .lit (.int .u8 60), .lit (.int .u8 41), .lit (.int .u8 37), .lit (.int .u8 16), .lit (.int .u8 46), .lit (.int .u8 35), .lit (.int .u8 44), .lit (.int .u8 21), .lit (.int .u8 52), .lit (.int .u8 32), .lit (.int .u8 23), .lit (.int .u8 11), .lit (.int .u8 54), .lit (.int .u8 26), .lit (.int .u8 40), .lit (.int .u8 15), .lit (.int .u8 34), .lit (.int .u8 20), .lit (.int .u8 31), .lit (.int .u8 10), .lit (.int .u8 25), .lit (.int .u8 14), .lit (.int .u8 19), .lit (.int .u8 9), .lit (.int .u8 13), .lit (.int .u8 8), .lit (.int .u8 7), .lit (.int .u8 6)]

/-- 'cohesionlaw15.ConnectBlocks': WHATEVER THE INPUT: true; the input reads as it did. -/
def connectBlocksSpec : ChangeSpec := { name := "connectBlocks", fn := fun _ => fun
  | [d] => { results := [.lit (.bool true)], args := [d] }
  | _ => none }
def connectBlocksRow : OpenClaim := { program := "ytbimaodbcjjbfaadoor", sum := "9b2f82a22bee385c454dd5966c99bffe8c1d699d6658e42974f2181eed8f737d", func := "cohesion/cohesionlaw15.ConnectBlocks", spec := "connectBlocks", unfollowed := true, recurses := true, named := ["math/bits.deBruijn64tab"], apart := false, laid := [("math/bits.deBruijn64tab", laid_math_bits_deBruijn64tab)] }
def ConnectBlocksSaid : Prop := connectBlocksRow.holds Tryd.pinned (OpenSpec.ofChange connectBlocksSpec)

/-- ITS FALSE NEIGHBOUR: 'it returns false'. Refute it at one input. -/
def connectBlocksWrong : ChangeSpec := { name := "connectBlocks", fn := fun _ => fun
  | [d] => { results := [.lit (.bool false)], args := [d] }
  | _ => none }
def ConnectBlocksWrongFalsely : Prop := connectBlocksRow.holds Tryd.pinned (OpenSpec.ofChange connectBlocksWrong)

/-- 'cohesionlaw15.ConnectReach': WHATEVER THE INPUT: true; the input reads as it did. -/
def connectReachSpec : ChangeSpec := { name := "connectReach", fn := fun _ => fun
  | [d] => { results := [.lit (.bool true)], args := [d] }
  | _ => none }
def connectReachRow : OpenClaim := { program := "ytbimaodbcjjbfaadoor", sum := "9b2f82a22bee385c454dd5966c99bffe8c1d699d6658e42974f2181eed8f737d", func := "cohesion/cohesionlaw15.ConnectReach", spec := "connectReach", unfollowed := true, recurses := true, named := ["math/bits.deBruijn64tab"], apart := false, laid := [("math/bits.deBruijn64tab", laid_math_bits_deBruijn64tab)] }
def ConnectReachSaid : Prop := connectReachRow.holds Tryd.pinned (OpenSpec.ofChange connectReachSpec)

/-- ITS FALSE NEIGHBOUR: 'it returns false'. Refute it at one input. -/
def connectReachWrong : ChangeSpec := { name := "connectReach", fn := fun _ => fun
  | [d] => { results := [.lit (.bool false)], args := [d] }
  | _ => none }
def ConnectReachWrongFalsely : Prop := connectReachRow.holds Tryd.pinned (OpenSpec.ofChange connectReachWrong)

/-- 'cohesionlaw15.ConnectComponents': WHATEVER THE INPUT: true; the input reads as it did. -/
def connectComponentsSpec : ChangeSpec := { name := "connectComponents", fn := fun _ => fun
  | [d] => { results := [.lit (.bool true)], args := [d] }
  | _ => none }
def connectComponentsRow : OpenClaim := { program := "ytbimaodbcjjbfaadoor", sum := "9b2f82a22bee385c454dd5966c99bffe8c1d699d6658e42974f2181eed8f737d", func := "cohesion/cohesionlaw15.ConnectComponents", spec := "connectComponents", unfollowed := true, recurses := true, named := ["math/bits.deBruijn64tab"], apart := false, laid := [("math/bits.deBruijn64tab", laid_math_bits_deBruijn64tab)] }
def ConnectComponentsSaid : Prop := connectComponentsRow.holds Tryd.pinned (OpenSpec.ofChange connectComponentsSpec)

/-- ITS FALSE NEIGHBOUR: 'it returns false'. Refute it at one input. -/
def connectComponentsWrong : ChangeSpec := { name := "connectComponents", fn := fun _ => fun
  | [d] => { results := [.lit (.bool false)], args := [d] }
  | _ => none }
def ConnectComponentsWrongFalsely : Prop := connectComponentsRow.holds Tryd.pinned (OpenSpec.ofChange connectComponentsWrong)

/-- 'cohesionlaw15.ConnectParts': WHATEVER THE INPUT: true; the input reads as it did. -/
def connectPartsSpec : ChangeSpec := { name := "connectParts", fn := fun _ => fun
  | [d1, d2, d3, d4, d5, d6] => { results := [.lit (.bool true)], args := [d1, d2, d3, d4, d5, d6] }
  | _ => none }
def connectPartsRow : OpenClaim := { program := "ytbimaodbcjjbfaadoor", sum := "9b2f82a22bee385c454dd5966c99bffe8c1d699d6658e42974f2181eed8f737d", func := "cohesion/cohesionlaw15.ConnectParts", spec := "connectParts", unfollowed := true, recurses := true, named := ["math/bits.deBruijn64tab"], apart := false, laid := [("math/bits.deBruijn64tab", laid_math_bits_deBruijn64tab)] }
def ConnectPartsSaid : Prop := connectPartsRow.holds Tryd.pinned (OpenSpec.ofChange connectPartsSpec)

/-- ITS FALSE NEIGHBOUR: 'it returns false'. Refute it at one input. -/
def connectPartsWrong : ChangeSpec := { name := "connectParts", fn := fun _ => fun
  | [d1, d2, d3, d4, d5, d6] => { results := [.lit (.bool false)], args := [d1, d2, d3, d4, d5, d6] }
  | _ => none }
def ConnectPartsWrongFalsely : Prop := connectPartsRow.holds Tryd.pinned (OpenSpec.ofChange connectPartsWrong)

/-- 'cohesionlaw17.KedgeTriple': WHATEVER THE INPUT: true; the input reads as it did. -/
def kedgeTripleSpec : ChangeSpec := { name := "kedgeTriple", fn := fun _ => fun
  | [d] => { results := [.lit (.bool true)], args := [d] }
  | _ => none }
def kedgeTripleRow : OpenClaim := { program := "ytbimaodbcjjbfaadoor", sum := "9b2f82a22bee385c454dd5966c99bffe8c1d699d6658e42974f2181eed8f737d", func := "cohesion/cohesionlaw17.KedgeTriple", spec := "kedgeTriple", unfollowed := true, recurses := true, named := ["math/bits.deBruijn64tab"], apart := false, laid := [("math/bits.deBruijn64tab", laid_math_bits_deBruijn64tab)] }
def KedgeTripleSaid : Prop := kedgeTripleRow.holds Tryd.pinned (OpenSpec.ofChange kedgeTripleSpec)

/-- ITS FALSE NEIGHBOUR: 'it returns false'. Refute it at one input. -/
def kedgeTripleWrong : ChangeSpec := { name := "kedgeTriple", fn := fun _ => fun
  | [d] => { results := [.lit (.bool false)], args := [d] }
  | _ => none }
def KedgeTripleWrongFalsely : Prop := kedgeTripleRow.holds Tryd.pinned (OpenSpec.ofChange kedgeTripleWrong)

/-- 'cohesionlaw17.KedgeCuts': WHATEVER THE INPUT: true; the input reads as it did. -/
def kedgeCutsSpec : ChangeSpec := { name := "kedgeCuts", fn := fun _ => fun
  | [d1, d2, d3, d4, d5] => { results := [.lit (.bool true)], args := [d1, d2, d3, d4, d5] }
  | _ => none }
def kedgeCutsRow : OpenClaim := { program := "ytbimaodbcjjbfaadoor", sum := "9b2f82a22bee385c454dd5966c99bffe8c1d699d6658e42974f2181eed8f737d", func := "cohesion/cohesionlaw17.KedgeCuts", spec := "kedgeCuts", unfollowed := true, recurses := true, named := ["math/bits.deBruijn64tab"], apart := false, laid := [("math/bits.deBruijn64tab", laid_math_bits_deBruijn64tab)] }
def KedgeCutsSaid : Prop := kedgeCutsRow.holds Tryd.pinned (OpenSpec.ofChange kedgeCutsSpec)

/-- ITS FALSE NEIGHBOUR: 'it returns false'. Refute it at one input. -/
def kedgeCutsWrong : ChangeSpec := { name := "kedgeCuts", fn := fun _ => fun
  | [d1, d2, d3, d4, d5] => { results := [.lit (.bool false)], args := [d1, d2, d3, d4, d5] }
  | _ => none }
def KedgeCutsWrongFalsely : Prop := kedgeCutsRow.holds Tryd.pinned (OpenSpec.ofChange kedgeCutsWrong)

/-- 'cohesionlaw17.KedgeGroups': WHATEVER THE INPUT: true; the input reads as it did. -/
def kedgeGroupsSpec : ChangeSpec := { name := "kedgeGroups", fn := fun _ => fun
  | [d1, d2, d3] => { results := [.lit (.bool true)], args := [d1, d2, d3] }
  | _ => none }
def kedgeGroupsRow : OpenClaim := { program := "ytbimaodbcjjbfaadoor", sum := "9b2f82a22bee385c454dd5966c99bffe8c1d699d6658e42974f2181eed8f737d", func := "cohesion/cohesionlaw17.KedgeGroups", spec := "kedgeGroups", unfollowed := true, recurses := true, named := ["math/bits.deBruijn64tab"], apart := false, laid := [("math/bits.deBruijn64tab", laid_math_bits_deBruijn64tab)] }
def KedgeGroupsSaid : Prop := kedgeGroupsRow.holds Tryd.pinned (OpenSpec.ofChange kedgeGroupsSpec)

/-- ITS FALSE NEIGHBOUR: 'it returns false'. Refute it at one input. -/
def kedgeGroupsWrong : ChangeSpec := { name := "kedgeGroups", fn := fun _ => fun
  | [d1, d2, d3] => { results := [.lit (.bool false)], args := [d1, d2, d3] }
  | _ => none }
def KedgeGroupsWrongFalsely : Prop := kedgeGroupsRow.holds Tryd.pinned (OpenSpec.ofChange kedgeGroupsWrong)

/-- 'cohesionlaw17.KedgeInside': WHATEVER THE INPUT: true; the input reads as it did. -/
def kedgeInsideSpec : ChangeSpec := { name := "kedgeInside", fn := fun _ => fun
  | [d1, d2] => { results := [.lit (.bool true)], args := [d1, d2] }
  | _ => none }
def kedgeInsideRow : OpenClaim := { program := "ytbimaodbcjjbfaadoor", sum := "9b2f82a22bee385c454dd5966c99bffe8c1d699d6658e42974f2181eed8f737d", func := "cohesion/cohesionlaw17.KedgeInside", spec := "kedgeInside", unfollowed := true, recurses := true, named := ["math/bits.deBruijn64tab"], apart := false, laid := [("math/bits.deBruijn64tab", laid_math_bits_deBruijn64tab)] }
def KedgeInsideSaid : Prop := kedgeInsideRow.holds Tryd.pinned (OpenSpec.ofChange kedgeInsideSpec)

/-- ITS FALSE NEIGHBOUR: 'it returns false'. Refute it at one input. -/
def kedgeInsideWrong : ChangeSpec := { name := "kedgeInside", fn := fun _ => fun
  | [d1, d2] => { results := [.lit (.bool false)], args := [d1, d2] }
  | _ => none }
def KedgeInsideWrongFalsely : Prop := kedgeInsideRow.holds Tryd.pinned (OpenSpec.ofChange kedgeInsideWrong)

/-- 'cohesionlaw23.DirectedTurned': WHATEVER THE INPUT: true; the input reads as it did. -/
def directedTurnedSpec : ChangeSpec := { name := "directedTurned", fn := fun _ => fun
  | [d] => { results := [.lit (.bool true)], args := [d] }
  | _ => none }
def directedTurnedRow : OpenClaim := { program := "ytbimaodbcjjbfaadoor", sum := "9b2f82a22bee385c454dd5966c99bffe8c1d699d6658e42974f2181eed8f737d", func := "cohesion/cohesionlaw23.DirectedTurned", spec := "directedTurned", inPlace := ["math/bits.Sub64"], unfollowed := true, recurses := true, named := ["math/bits.deBruijn64tab"], apart := false, laid := [("math/bits.deBruijn64tab", laid_math_bits_deBruijn64tab)] }
def DirectedTurnedSaid : Prop := directedTurnedRow.holds Tryd.pinned (OpenSpec.ofChange directedTurnedSpec)

/-- ITS FALSE NEIGHBOUR: 'it returns false'. Refute it at one input. -/
def directedTurnedWrong : ChangeSpec := { name := "directedTurned", fn := fun _ => fun
  | [d] => { results := [.lit (.bool false)], args := [d] }
  | _ => none }
def DirectedTurnedWrongFalsely : Prop := directedTurnedRow.holds Tryd.pinned (OpenSpec.ofChange directedTurnedWrong)

/- THE SECOND FORM. 'bulk': how many values and letters a reading holds, each counted each time it is reached (what is shared counts as often as it is met; a slice's spare places count too). A statement '..UptoSaid' is the law's where the arguments, and the package variables that the reading takes, are together of bulk at most 1048576: NARROWER than '..Said'. Prove '..Said' where nothing that the law and all that it calls make is longer than what came in: it says more and counts as full. Else prove '..UptoSaid'. A law counts once. -/
mutual
def uptoBulk {H : Type} : DataW H → Nat
  | .lit (.string bytes) => bytes.length + 1
  | .lit _ => 1
  | .nil => 1
  | .ptr d => uptoBulk d + 1
  | .slice elems spare => uptoBulkAll elems + uptoBulkAll spare + 1
  | .agg parts => uptoBulkAll parts + 1
  | .iface _ d => uptoBulk d + 1
  | .map entries => uptoBulkEntries entries + 1
  | .held _ => 1
def uptoBulkAll {H : Type} : List (DataW H) → Nat
  | [] => 0
  | d :: r => uptoBulk d + uptoBulkAll r
def uptoBulkEntries {H : Type} : List (Lit × DataW H) → Nat
  | [] => 0
  | x :: r => uptoBulkEntry x + uptoBulkEntries r
def uptoBulkEntry {H : Type} : Lit × DataW H → Nat
  | (.string bytes, d) => bytes.length + uptoBulk d + 1
  | (_, d) => uptoBulk d + 1
 end
def uptoSmall : (H : Type) → List (DataW H) → Bool := fun _ ds => decide (uptoBulkAll ds ≤ 1048576)
def OpenSpec.upto (s : _root_.Go.ChangeSpec) : _root_.Go.OpenSpec := { _root_.Go.OpenSpec.ofChange s with cond := some uptoSmall }

/-- 'cohesionlaw15.ConnectBlocks', WHERE WHAT IT READS IS OF BULK AT MOST 1048576: true; the input reads as it did. -/
def connectBlocksUptoRow : OpenClaim := { program := "ytbimaodbcjjbfaadoor", sum := "9b2f82a22bee385c454dd5966c99bffe8c1d699d6658e42974f2181eed8f737d", func := "cohesion/cohesionlaw15.ConnectBlocks", spec := "connectBlocks", unfollowed := true, recurses := true, named := ["math/bits.deBruijn64tab"], apart := false, laid := [("math/bits.deBruijn64tab", laid_math_bits_deBruijn64tab)], narrowed := true }
def ConnectBlocksUptoSaid : Prop := connectBlocksUptoRow.holds Tryd.pinned (OpenSpec.upto connectBlocksSpec)

/-- 'cohesionlaw15.ConnectReach', WHERE WHAT IT READS IS OF BULK AT MOST 1048576: true; the input reads as it did. -/
def connectReachUptoRow : OpenClaim := { program := "ytbimaodbcjjbfaadoor", sum := "9b2f82a22bee385c454dd5966c99bffe8c1d699d6658e42974f2181eed8f737d", func := "cohesion/cohesionlaw15.ConnectReach", spec := "connectReach", unfollowed := true, recurses := true, named := ["math/bits.deBruijn64tab"], apart := false, laid := [("math/bits.deBruijn64tab", laid_math_bits_deBruijn64tab)], narrowed := true }
def ConnectReachUptoSaid : Prop := connectReachUptoRow.holds Tryd.pinned (OpenSpec.upto connectReachSpec)

/-- 'cohesionlaw15.ConnectComponents', WHERE WHAT IT READS IS OF BULK AT MOST 1048576: true; the input reads as it did. -/
def connectComponentsUptoRow : OpenClaim := { program := "ytbimaodbcjjbfaadoor", sum := "9b2f82a22bee385c454dd5966c99bffe8c1d699d6658e42974f2181eed8f737d", func := "cohesion/cohesionlaw15.ConnectComponents", spec := "connectComponents", unfollowed := true, recurses := true, named := ["math/bits.deBruijn64tab"], apart := false, laid := [("math/bits.deBruijn64tab", laid_math_bits_deBruijn64tab)], narrowed := true }
def ConnectComponentsUptoSaid : Prop := connectComponentsUptoRow.holds Tryd.pinned (OpenSpec.upto connectComponentsSpec)

/-- 'cohesionlaw15.ConnectParts', WHERE WHAT IT READS IS OF BULK AT MOST 1048576: true; the input reads as it did. -/
def connectPartsUptoRow : OpenClaim := { program := "ytbimaodbcjjbfaadoor", sum := "9b2f82a22bee385c454dd5966c99bffe8c1d699d6658e42974f2181eed8f737d", func := "cohesion/cohesionlaw15.ConnectParts", spec := "connectParts", unfollowed := true, recurses := true, named := ["math/bits.deBruijn64tab"], apart := false, laid := [("math/bits.deBruijn64tab", laid_math_bits_deBruijn64tab)], narrowed := true }
def ConnectPartsUptoSaid : Prop := connectPartsUptoRow.holds Tryd.pinned (OpenSpec.upto connectPartsSpec)

/-- 'cohesionlaw17.KedgeTriple', WHERE WHAT IT READS IS OF BULK AT MOST 1048576: true; the input reads as it did. -/
def kedgeTripleUptoRow : OpenClaim := { program := "ytbimaodbcjjbfaadoor", sum := "9b2f82a22bee385c454dd5966c99bffe8c1d699d6658e42974f2181eed8f737d", func := "cohesion/cohesionlaw17.KedgeTriple", spec := "kedgeTriple", unfollowed := true, recurses := true, named := ["math/bits.deBruijn64tab"], apart := false, laid := [("math/bits.deBruijn64tab", laid_math_bits_deBruijn64tab)], narrowed := true }
def KedgeTripleUptoSaid : Prop := kedgeTripleUptoRow.holds Tryd.pinned (OpenSpec.upto kedgeTripleSpec)

/-- 'cohesionlaw17.KedgeCuts', WHERE WHAT IT READS IS OF BULK AT MOST 1048576: true; the input reads as it did. -/
def kedgeCutsUptoRow : OpenClaim := { program := "ytbimaodbcjjbfaadoor", sum := "9b2f82a22bee385c454dd5966c99bffe8c1d699d6658e42974f2181eed8f737d", func := "cohesion/cohesionlaw17.KedgeCuts", spec := "kedgeCuts", unfollowed := true, recurses := true, named := ["math/bits.deBruijn64tab"], apart := false, laid := [("math/bits.deBruijn64tab", laid_math_bits_deBruijn64tab)], narrowed := true }
def KedgeCutsUptoSaid : Prop := kedgeCutsUptoRow.holds Tryd.pinned (OpenSpec.upto kedgeCutsSpec)

/-- 'cohesionlaw17.KedgeGroups', WHERE WHAT IT READS IS OF BULK AT MOST 1048576: true; the input reads as it did. -/
def kedgeGroupsUptoRow : OpenClaim := { program := "ytbimaodbcjjbfaadoor", sum := "9b2f82a22bee385c454dd5966c99bffe8c1d699d6658e42974f2181eed8f737d", func := "cohesion/cohesionlaw17.KedgeGroups", spec := "kedgeGroups", unfollowed := true, recurses := true, named := ["math/bits.deBruijn64tab"], apart := false, laid := [("math/bits.deBruijn64tab", laid_math_bits_deBruijn64tab)], narrowed := true }
def KedgeGroupsUptoSaid : Prop := kedgeGroupsUptoRow.holds Tryd.pinned (OpenSpec.upto kedgeGroupsSpec)

/-- 'cohesionlaw17.KedgeInside', WHERE WHAT IT READS IS OF BULK AT MOST 1048576: true; the input reads as it did. -/
def kedgeInsideUptoRow : OpenClaim := { program := "ytbimaodbcjjbfaadoor", sum := "9b2f82a22bee385c454dd5966c99bffe8c1d699d6658e42974f2181eed8f737d", func := "cohesion/cohesionlaw17.KedgeInside", spec := "kedgeInside", unfollowed := true, recurses := true, named := ["math/bits.deBruijn64tab"], apart := false, laid := [("math/bits.deBruijn64tab", laid_math_bits_deBruijn64tab)], narrowed := true }
def KedgeInsideUptoSaid : Prop := kedgeInsideUptoRow.holds Tryd.pinned (OpenSpec.upto kedgeInsideSpec)

/-- 'cohesionlaw23.DirectedTurned', WHERE WHAT IT READS IS OF BULK AT MOST 1048576: true; the input reads as it did. -/
def directedTurnedUptoRow : OpenClaim := { program := "ytbimaodbcjjbfaadoor", sum := "9b2f82a22bee385c454dd5966c99bffe8c1d699d6658e42974f2181eed8f737d", func := "cohesion/cohesionlaw23.DirectedTurned", spec := "directedTurned", inPlace := ["math/bits.Sub64"], unfollowed := true, recurses := true, named := ["math/bits.deBruijn64tab"], apart := false, laid := [("math/bits.deBruijn64tab", laid_math_bits_deBruijn64tab)], narrowed := true }
def DirectedTurnedUptoSaid : Prop := directedTurnedUptoRow.holds Tryd.pinned (OpenSpec.upto directedTurnedSpec)

end Rows
end Go.Proofs.YtbimaodbcjjbfaaDoor
