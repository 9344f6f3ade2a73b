/-
  NARROWER THAN 'FOR EVERY INPUT', by the rows' own cells (each row's printed sentence says how): EngineKeeps: laid · EngineSlides: laid · EngineOrder: laid · EngineLate: laid · EngineParts: laid · EngineApply: laid · EngineLeaves: laid.
  DERIVED. THE GIVEN ROWS OF THIS SEAT. 7 by the template 'for every input the law returns true; each argument reads behind the call as it read before'; 0 by the template 'total and deterministic' (their statements: YtoagcglbkeomgaaGreatDoorTotals.lean).
  GIVEN WITH THE SEED: the statements are not yours to turn. If you find one false, say at which input.
  Laid BY PROGRAM, IN A SANDBOX (cutbox-rows.mjs): the forced cells as the released guide's own fill.sh prints them over the translation 54589111139c42b8… (all of the seat's roots in one cut). By AI agents, Wed Nov 11 2026. No macro, syntax, notation, axiom, sorry.
-/
import Derived.Test.YtoagcglbkeomgaaGreatDoorChecked
import GoSem.Claim
import GoSem.ClaimJoined
import GoSem.ClaimMapViews
import Derived.JoinedTies
import Derived.KernelRfl
namespace Go.Proofs.YtoagcglbkeomgaaGreatDoor
/- THE CELL 'sum', in the pinned program and in every row, IS THE sha256 OF THE DUMP (.gsa) THAT YtoagcglbkeomgaaGreatDoorProg.lean LOADS. Nothing in Lean hashes anything: it is a label: what it is worth is what the hold of that sum in a sandbox is worth. -/
noncomputable def Tryz.pinned : Pinned := { name := "ytoagcglbkeomgaagreatdoor", sum := "54589111139c42b82d50cf7a4d142dc0a21983886c1974b7f818a598816098ec", checked := Tryz.checked }
namespace Rows
def none {H : Type} : Left H := { results := [], args := [] }

/- WHAT THE LISTED PACKAGE-LEVEL VARIABLES READ AS WHEN THE CALL BEGINS. Each datum BY PROGRAM (the guide's laid-datum.mjs) off the statement by which the dump's own 'gosem.cut.vars' lays the variable. In a bare row this is a premise. The card (YtoagcglbkeomgaaGreatDoorCards.lean) ties it to the program's text. -/
def laid_math_bits_deBruijn64tab {H : Type} : DataW H := .agg [.lit (.int .u8 0), .lit (.int .u8 1), .lit (.int .u8 56), .lit (.int .u8 2), .lit (.int .u8 57), .lit (.int .u8 49), .lit (.int .u8 28), .lit (.int .u8 3), .lit (.int .u8 61), .lit (.int .u8 58), .lit (.int .u8 42), .lit (.int .u8 50), .lit (.int .u8 38), .lit (.int .u8 29), .lit (.int .u8 17), .lit (.int .u8 4), .lit (.int .u8 62), .lit (.int .u8 47), .lit (.int .u8 59), .lit (.int .u8 36), .lit (.int .u8 45), .lit (.int .u8 43), .lit (.int .u8 51), .lit (.int .u8 22), .lit (.int .u8 53), .lit (.int .u8 39), .lit (.int .u8 33), .lit (.int .u8 30), .lit (.int .u8 24), .lit (.int .u8 18), .lit (.int .u8 12), .lit (.int .u8 5), .lit (.int .u8 63), .lit (.int .u8 55), .lit (.int .u8 48), .lit (.int .u8 27), .lit (.int .u8 60), .lit (.int .u8 41), .lit (.int .u8 37), .lit (.int .u8 16), .lit (.int .u8 46), .lit (.int .u8 35), .lit (.int .u8 44), .lit (.int .u8 21), .lit (.int .u8 52), .lit (.int .u8 32), .lit (.int .u8 23), .lit (.int .u8 11), .lit (.int .u8 54), .lit (.int .u8 26), .lit (.int .u8 40), .lit (.int .u8 15), .lit (.int .u8 34), .lit (.int .u8 20), .lit (.int .u8 31), .lit (.int .u8 10), .lit (.int .u8 25), .lit (.int .u8 14), .lit (.int .u8 19), .lit (.int .u8 9), .lit (.int .u8 13), .lit (.int .u8 8), .lit (.int .u8 7), .lit (.int .u8 6)]

/-- 'cohesionlaw41.EngineKeeps': WHATEVER THE INPUT: true; the input reads as it did. -/
def engineKeepsSpec : ChangeSpec := { name := "engineKeeps", fn := fun _ => fun
  | [d1, d2] => { results := [.lit (.bool true)], args := [d1, d2] }
  | _ => none }
def engineKeepsRow : OpenClaim := { program := "ytoagcglbkeomgaagreatdoor", sum := "54589111139c42b82d50cf7a4d142dc0a21983886c1974b7f818a598816098ec", func := "cohesion/cohesionlaw41.EngineKeeps", spec := "engineKeeps", inPlace := ["slices.overlaps[cohesion/api.Event]", "slices.overlaps[cohesion/api.Link]"], unfollowed := true, recurses := true, named := ["math/bits.deBruijn64tab"], plainKeys := false, apart := false, laid := [("math/bits.deBruijn64tab", laid_math_bits_deBruijn64tab)] }
def EngineKeepsSaid : Prop := engineKeepsRow.holds Tryz.pinned (OpenSpec.ofChange engineKeepsSpec)

/-- ITS FALSE NEIGHBOUR: 'it returns false'. Refute it at one input. -/
def engineKeepsWrong : ChangeSpec := { name := "engineKeeps", fn := fun _ => fun
  | [d1, d2] => { results := [.lit (.bool false)], args := [d1, d2] }
  | _ => none }
def EngineKeepsWrongFalsely : Prop := engineKeepsRow.holds Tryz.pinned (OpenSpec.ofChange engineKeepsWrong)

/-- 'cohesionlaw41.EngineSlides': WHATEVER THE INPUT: true; the input reads as it did. -/
def engineSlidesSpec : ChangeSpec := { name := "engineSlides", fn := fun _ => fun
  | [d1, d2] => { results := [.lit (.bool true)], args := [d1, d2] }
  | _ => none }
def engineSlidesRow : OpenClaim := { program := "ytoagcglbkeomgaagreatdoor", sum := "54589111139c42b82d50cf7a4d142dc0a21983886c1974b7f818a598816098ec", func := "cohesion/cohesionlaw41.EngineSlides", spec := "engineSlides", inPlace := ["slices.overlaps[cohesion/api.Event]", "slices.overlaps[cohesion/api.Link]"], unfollowed := true, recurses := true, named := ["math/bits.deBruijn64tab"], plainKeys := false, apart := false, laid := [("math/bits.deBruijn64tab", laid_math_bits_deBruijn64tab)] }
def EngineSlidesSaid : Prop := engineSlidesRow.holds Tryz.pinned (OpenSpec.ofChange engineSlidesSpec)

/-- ITS FALSE NEIGHBOUR: 'it returns false'. Refute it at one input. -/
def engineSlidesWrong : ChangeSpec := { name := "engineSlides", fn := fun _ => fun
  | [d1, d2] => { results := [.lit (.bool false)], args := [d1, d2] }
  | _ => none }
def EngineSlidesWrongFalsely : Prop := engineSlidesRow.holds Tryz.pinned (OpenSpec.ofChange engineSlidesWrong)

/-- 'cohesionlaw41.EngineOrder': WHATEVER THE INPUT: true; the input reads as it did. -/
def engineOrderSpec : ChangeSpec := { name := "engineOrder", fn := fun _ => fun
  | [d] => { results := [.lit (.bool true)], args := [d] }
  | _ => none }
def engineOrderRow : OpenClaim := { program := "ytoagcglbkeomgaagreatdoor", sum := "54589111139c42b82d50cf7a4d142dc0a21983886c1974b7f818a598816098ec", func := "cohesion/cohesionlaw41.EngineOrder", spec := "engineOrder", inPlace := ["slices.overlaps[cohesion/api.Event]", "slices.overlaps[cohesion/api.Link]"], unfollowed := true, recurses := true, named := ["math/bits.deBruijn64tab"], plainKeys := false, apart := false, laid := [("math/bits.deBruijn64tab", laid_math_bits_deBruijn64tab)] }
def EngineOrderSaid : Prop := engineOrderRow.holds Tryz.pinned (OpenSpec.ofChange engineOrderSpec)

/-- ITS FALSE NEIGHBOUR: 'it returns false'. Refute it at one input. -/
def engineOrderWrong : ChangeSpec := { name := "engineOrder", fn := fun _ => fun
  | [d] => { results := [.lit (.bool false)], args := [d] }
  | _ => none }
def EngineOrderWrongFalsely : Prop := engineOrderRow.holds Tryz.pinned (OpenSpec.ofChange engineOrderWrong)

/-- 'cohesionlaw41.EngineLate': WHATEVER THE INPUT: true; the input reads as it did. -/
def engineLateSpec : ChangeSpec := { name := "engineLate", fn := fun _ => fun
  | [d1, d2] => { results := [.lit (.bool true)], args := [d1, d2] }
  | _ => none }
def engineLateRow : OpenClaim := { program := "ytoagcglbkeomgaagreatdoor", sum := "54589111139c42b82d50cf7a4d142dc0a21983886c1974b7f818a598816098ec", func := "cohesion/cohesionlaw41.EngineLate", spec := "engineLate", inPlace := ["slices.overlaps[cohesion/api.Event]", "slices.overlaps[cohesion/api.Link]"], unfollowed := true, recurses := true, named := ["math/bits.deBruijn64tab"], plainKeys := false, apart := false, laid := [("math/bits.deBruijn64tab", laid_math_bits_deBruijn64tab)] }
def EngineLateSaid : Prop := engineLateRow.holds Tryz.pinned (OpenSpec.ofChange engineLateSpec)

/-- ITS FALSE NEIGHBOUR: 'it returns false'. Refute it at one input. -/
def engineLateWrong : ChangeSpec := { name := "engineLate", fn := fun _ => fun
  | [d1, d2] => { results := [.lit (.bool false)], args := [d1, d2] }
  | _ => none }
def EngineLateWrongFalsely : Prop := engineLateRow.holds Tryz.pinned (OpenSpec.ofChange engineLateWrong)

/-- 'cohesionlaw41.EngineParts': WHATEVER THE INPUT: true; the input reads as it did. -/
def enginePartsSpec : ChangeSpec := { name := "engineParts", fn := fun _ => fun
  | [d] => { results := [.lit (.bool true)], args := [d] }
  | _ => none }
def enginePartsRow : OpenClaim := { program := "ytoagcglbkeomgaagreatdoor", sum := "54589111139c42b82d50cf7a4d142dc0a21983886c1974b7f818a598816098ec", func := "cohesion/cohesionlaw41.EngineParts", spec := "engineParts", inPlace := ["slices.overlaps[cohesion/api.Event]", "slices.overlaps[cohesion/api.Link]"], unfollowed := true, recurses := true, named := ["math/bits.deBruijn64tab"], plainKeys := false, apart := false, laid := [("math/bits.deBruijn64tab", laid_math_bits_deBruijn64tab)] }
def EnginePartsSaid : Prop := enginePartsRow.holds Tryz.pinned (OpenSpec.ofChange enginePartsSpec)

/-- ITS FALSE NEIGHBOUR: 'it returns false'. Refute it at one input. -/
def enginePartsWrong : ChangeSpec := { name := "engineParts", fn := fun _ => fun
  | [d] => { results := [.lit (.bool false)], args := [d] }
  | _ => none }
def EnginePartsWrongFalsely : Prop := enginePartsRow.holds Tryz.pinned (OpenSpec.ofChange enginePartsWrong)

/-- 'cohesionlaw41.EngineApply': WHATEVER THE INPUT: true; the input reads as it did. -/
def engineApplySpec : ChangeSpec := { name := "engineApply", fn := fun _ => fun
  | [d] => { results := [.lit (.bool true)], args := [d] }
  | _ => none }
def engineApplyRow : OpenClaim := { program := "ytoagcglbkeomgaagreatdoor", sum := "54589111139c42b82d50cf7a4d142dc0a21983886c1974b7f818a598816098ec", func := "cohesion/cohesionlaw41.EngineApply", spec := "engineApply", inPlace := ["slices.overlaps[cohesion/api.Event]", "slices.overlaps[cohesion/api.Link]"], unfollowed := true, recurses := true, named := ["math/bits.deBruijn64tab"], plainKeys := false, apart := false, laid := [("math/bits.deBruijn64tab", laid_math_bits_deBruijn64tab)] }
def EngineApplySaid : Prop := engineApplyRow.holds Tryz.pinned (OpenSpec.ofChange engineApplySpec)

/-- ITS FALSE NEIGHBOUR: 'it returns false'. Refute it at one input. -/
def engineApplyWrong : ChangeSpec := { name := "engineApply", fn := fun _ => fun
  | [d] => { results := [.lit (.bool false)], args := [d] }
  | _ => none }
def EngineApplyWrongFalsely : Prop := engineApplyRow.holds Tryz.pinned (OpenSpec.ofChange engineApplyWrong)

/-- 'cohesionlaw41.EngineLeaves': WHATEVER THE INPUT: true; the input reads as it did. -/
def engineLeavesSpec : ChangeSpec := { name := "engineLeaves", fn := fun _ => fun
  | [d] => { results := [.lit (.bool true)], args := [d] }
  | _ => none }
def engineLeavesRow : OpenClaim := { program := "ytoagcglbkeomgaagreatdoor", sum := "54589111139c42b82d50cf7a4d142dc0a21983886c1974b7f818a598816098ec", func := "cohesion/cohesionlaw41.EngineLeaves", spec := "engineLeaves", inPlace := ["slices.overlaps[cohesion/api.Event]", "slices.overlaps[cohesion/api.Link]"], unfollowed := true, recurses := true, named := ["math/bits.deBruijn64tab"], plainKeys := false, apart := false, laid := [("math/bits.deBruijn64tab", laid_math_bits_deBruijn64tab)] }
def EngineLeavesSaid : Prop := engineLeavesRow.holds Tryz.pinned (OpenSpec.ofChange engineLeavesSpec)

/-- ITS FALSE NEIGHBOUR: 'it returns false'. Refute it at one input. -/
def engineLeavesWrong : ChangeSpec := { name := "engineLeaves", fn := fun _ => fun
  | [d] => { results := [.lit (.bool false)], args := [d] }
  | _ => none }
def EngineLeavesWrongFalsely : Prop := engineLeavesRow.holds Tryz.pinned (OpenSpec.ofChange engineLeavesWrong)

/- THE SECOND FORM. 'bulk': how many values and letters a reading holds, each counted each time it is reached (what is shared counts as often as it is met; a slice's spare places count too). A statement '..UptoSaid' is the law's where the arguments, and the package variables that the reading takes, are together of bulk at most 1048576: NARROWER than '..Said'. Prove '..Said' where nothing that the law and all that it calls make is longer than what came in: it says more and counts as full. Else prove '..UptoSaid'. A law counts once. -/
mutual
def uptoBulk {H : Type} : DataW H → Nat
  | .lit (.string bytes) => bytes.length + 1
  | .lit _ => 1
  | .nil => 1
  | .ptr d => uptoBulk d + 1
  | .slice elems spare => uptoBulkAll elems + uptoBulkAll spare + 1
  | .agg parts => uptoBulkAll parts + 1
  | .iface _ d => uptoBulk d + 1
  | .map entries => uptoBulkEntries entries + 1
  | .held _ => 1
def uptoBulkAll {H : Type} : List (DataW H) → Nat
  | [] => 0
  | d :: r => uptoBulk d + uptoBulkAll r
def uptoBulkEntries {H : Type} : List (Lit × DataW H) → Nat
  | [] => 0
  | x :: r => uptoBulkEntry x + uptoBulkEntries r
def uptoBulkEntry {H : Type} : Lit × DataW H → Nat
  | (.string bytes, d) => bytes.length + uptoBulk d + 1
  | (_, d) => uptoBulk d + 1
 end
def uptoSmall : (H : Type) → List (DataW H) → Bool := fun _ ds => decide (uptoBulkAll ds ≤ 1048576)
def OpenSpec.upto (s : _root_.Go.ChangeSpec) : _root_.Go.OpenSpec := { _root_.Go.OpenSpec.ofChange s with cond := some uptoSmall }

/-- 'cohesionlaw41.EngineKeeps', WHERE WHAT IT READS IS OF BULK AT MOST 1048576: true; the input reads as it did. -/
def engineKeepsUptoRow : OpenClaim := { program := "ytoagcglbkeomgaagreatdoor", sum := "54589111139c42b82d50cf7a4d142dc0a21983886c1974b7f818a598816098ec", func := "cohesion/cohesionlaw41.EngineKeeps", spec := "engineKeeps", inPlace := ["slices.overlaps[cohesion/api.Event]", "slices.overlaps[cohesion/api.Link]"], unfollowed := true, recurses := true, named := ["math/bits.deBruijn64tab"], plainKeys := false, apart := false, laid := [("math/bits.deBruijn64tab", laid_math_bits_deBruijn64tab)], narrowed := true }
def EngineKeepsUptoSaid : Prop := engineKeepsUptoRow.holds Tryz.pinned (OpenSpec.upto engineKeepsSpec)

/-- 'cohesionlaw41.EngineSlides', WHERE WHAT IT READS IS OF BULK AT MOST 1048576: true; the input reads as it did. -/
def engineSlidesUptoRow : OpenClaim := { program := "ytoagcglbkeomgaagreatdoor", sum := "54589111139c42b82d50cf7a4d142dc0a21983886c1974b7f818a598816098ec", func := "cohesion/cohesionlaw41.EngineSlides", spec := "engineSlides", inPlace := ["slices.overlaps[cohesion/api.Event]", "slices.overlaps[cohesion/api.Link]"], unfollowed := true, recurses := true, named := ["math/bits.deBruijn64tab"], plainKeys := false, apart := false, laid := [("math/bits.deBruijn64tab", laid_math_bits_deBruijn64tab)], narrowed := true }
def EngineSlidesUptoSaid : Prop := engineSlidesUptoRow.holds Tryz.pinned (OpenSpec.upto engineSlidesSpec)

/-- 'cohesionlaw41.EngineOrder', WHERE WHAT IT READS IS OF BULK AT MOST 1048576: true; the input reads as it did. -/
def engineOrderUptoRow : OpenClaim := { program := "ytoagcglbkeomgaagreatdoor", sum := "54589111139c42b82d50cf7a4d142dc0a21983886c1974b7f818a598816098ec", func := "cohesion/cohesionlaw41.EngineOrder", spec := "engineOrder", inPlace := ["slices.overlaps[cohesion/api.Event]", "slices.overlaps[cohesion/api.Link]"], unfollowed := true, recurses := true, named := ["math/bits.deBruijn64tab"], plainKeys := false, apart := false, laid := [("math/bits.deBruijn64tab", laid_math_bits_deBruijn64tab)], narrowed := true }
def EngineOrderUptoSaid : Prop := engineOrderUptoRow.holds Tryz.pinned (OpenSpec.upto engineOrderSpec)

/-- 'cohesionlaw41.EngineLate', WHERE WHAT IT READS IS OF BULK AT MOST 1048576: true; the input reads as it did. -/
def engineLateUptoRow : OpenClaim := { program := "ytoagcglbkeomgaagreatdoor", sum := "54589111139c42b82d50cf7a4d142dc0a21983886c1974b7f818a598816098ec", func := "cohesion/cohesionlaw41.EngineLate", spec := "engineLate", inPlace := ["slices.overlaps[cohesion/api.Event]", "slices.overlaps[cohesion/api.Link]"], unfollowed := true, recurses := true, named := ["math/bits.deBruijn64tab"], plainKeys := false, apart := false, laid := [("math/bits.deBruijn64tab", laid_math_bits_deBruijn64tab)], narrowed := true }
def EngineLateUptoSaid : Prop := engineLateUptoRow.holds Tryz.pinned (OpenSpec.upto engineLateSpec)

/-- 'cohesionlaw41.EngineParts', WHERE WHAT IT READS IS OF BULK AT MOST 1048576: true; the input reads as it did. -/
def enginePartsUptoRow : OpenClaim := { program := "ytoagcglbkeomgaagreatdoor", sum := "54589111139c42b82d50cf7a4d142dc0a21983886c1974b7f818a598816098ec", func := "cohesion/cohesionlaw41.EngineParts", spec := "engineParts", inPlace := ["slices.overlaps[cohesion/api.Event]", "slices.overlaps[cohesion/api.Link]"], unfollowed := true, recurses := true, named := ["math/bits.deBruijn64tab"], plainKeys := false, apart := false, laid := [("math/bits.deBruijn64tab", laid_math_bits_deBruijn64tab)], narrowed := true }
def EnginePartsUptoSaid : Prop := enginePartsUptoRow.holds Tryz.pinned (OpenSpec.upto enginePartsSpec)

/-- 'cohesionlaw41.EngineApply', WHERE WHAT IT READS IS OF BULK AT MOST 1048576: true; the input reads as it did. -/
def engineApplyUptoRow : OpenClaim := { program := "ytoagcglbkeomgaagreatdoor", sum := "54589111139c42b82d50cf7a4d142dc0a21983886c1974b7f818a598816098ec", func := "cohesion/cohesionlaw41.EngineApply", spec := "engineApply", inPlace := ["slices.overlaps[cohesion/api.Event]", "slices.overlaps[cohesion/api.Link]"], unfollowed := true, recurses := true, named := ["math/bits.deBruijn64tab"], plainKeys := false, apart := false, laid := [("math/bits.deBruijn64tab", laid_math_bits_deBruijn64tab)], narrowed := true }
def EngineApplyUptoSaid : Prop := engineApplyUptoRow.holds Tryz.pinned (OpenSpec.upto engineApplySpec)

/-- 'cohesionlaw41.EngineLeaves', WHERE WHAT IT READS IS OF BULK AT MOST 1048576: true; the input reads as it did. -/
def engineLeavesUptoRow : OpenClaim := { program := "ytoagcglbkeomgaagreatdoor", sum := "54589111139c42b82d50cf7a4d142dc0a21983886c1974b7f818a598816098ec", func := "cohesion/cohesionlaw41.EngineLeaves", spec := "engineLeaves", inPlace := ["slices.overlaps[cohesion/api.Event]", "slices.overlaps[cohesion/api.Link]"], unfollowed := true, recurses := true, named := ["math/bits.deBruijn64tab"], plainKeys := false, apart := false, laid := [("math/bits.deBruijn64tab", laid_math_bits_deBruijn64tab)], narrowed := true }
def EngineLeavesUptoSaid : Prop := engineLeavesUptoRow.holds Tryz.pinned (OpenSpec.upto engineLeavesSpec)

end Rows
end Go.Proofs.YtoagcglbkeomgaaGreatDoor
