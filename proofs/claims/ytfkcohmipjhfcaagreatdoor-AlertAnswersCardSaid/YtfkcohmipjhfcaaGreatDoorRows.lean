/-
  NARROWER THAN 'FOR EVERY INPUT', by the rows' own cells (each row's printed sentence says how): AlertRings: laid · AlertQuiet: laid · AlertLevels: laid · AlertAnswers: laid · AlertStates: laid · AnswerAnswers: laid · AnswerProves: laid · AnswerFirst: laid · AnswerTimes: laid · AnswerHistory: laid · AnswerAgrees: laid · AnswerTogether: laid · AnswerWindows: laid.
  DERIVED. THE GIVEN ROWS OF THIS SEAT. 13 by the template 'for every input the law returns true; each argument reads behind the call as it read before'; 0 by the template 'total and deterministic' (their statements: YtfkcohmipjhfcaaGreatDoorTotals.lean).
  GIVEN WITH THE SEED: the statements are not yours to turn. If you find one false, say at which input.
  Laid BY PROGRAM, IN A SANDBOX (cutbox-rows.mjs): the forced cells as the released guide's own fill.sh prints them over the translation a0bc4ebd7a8667d4… (all of the seat's roots in one cut). By AI agents, Wed Nov 11 2026. No macro, syntax, notation, axiom, sorry.
-/
import Derived.Test.YtfkcohmipjhfcaaGreatDoorChecked
import GoSem.Claim
import GoSem.ClaimJoined
import GoSem.ClaimMapViews
import Derived.JoinedTies
import Derived.KernelRfl
namespace Go.Proofs.YtfkcohmipjhfcaaGreatDoor
/- THE CELL 'sum', in the pinned program and in every row, IS THE sha256 OF THE DUMP (.gsa) THAT YtfkcohmipjhfcaaGreatDoorProg.lean LOADS. Nothing in Lean hashes anything: it is a label: what it is worth is what the hold of that sum in a sandbox is worth. -/
noncomputable def Tryz.pinned : Pinned := { name := "ytfkcohmipjhfcaagreatdoor", sum := "a0bc4ebd7a8667d40161afb5d25e16d8fb7f0cd3291ae662af1f294d16f2490d", checked := Tryz.checked }
namespace Rows
def none {H : Type} : Left H := { results := [], args := [] }

/- WHAT THE LISTED PACKAGE-LEVEL VARIABLES READ AS WHEN THE CALL BEGINS. Each datum BY PROGRAM (the guide's laid-datum.mjs) off the statement by which the dump's own 'gosem.cut.vars' lays the variable. In a bare row this is a premise. The card (YtfkcohmipjhfcaaGreatDoorCards.lean) ties it to the program's text. -/
def laid_math_bits_deBruijn64tab {H : Type} : DataW H := .agg [.lit (.int .u8 0), .lit (.int .u8 1), .lit (.int .u8 56), .lit (.int .u8 2), .lit (.int .u8 57), .lit (.int .u8 49), .lit (.int .u8 28), .lit (.int .u8 3), .lit (.int .u8 61), .lit (.int .u8 58), .lit (.int .u8 42), .lit (.int .u8 50), .lit (.int .u8 38), .lit (.int .u8 29), .lit (.int .u8 17), .lit (.int .u8 4), .lit (.int .u8 62), .lit (.int .u8 47), .lit (.int .u8 59), .lit (.int .u8 36), .lit (.int .u8 45), .lit (.int .u8 43), .lit (.int .u8 51), .lit (.int .u8 22), .lit (.int .u8 53), .lit (.int .u8 39), .lit (.int .u8 33), .lit (.int .u8 30), .lit (.int .u8 24), .lit (.int .u8 18), .lit (.int .u8 12), .lit (.int .u8 5), .lit (.int .u8 63), .lit (.int .u8 55), .lit (.int .u8 48), .lit (.int .u8 27), .lit (.int .u8 60), .lit (.int .u8 41), .lit (.int .u8 37), .lit (.int .u8 16), .lit (.int .u8 46), .lit (.int .u8 35), .lit (.int .u8 44), .lit (.int .u8 21), .lit (.int .u8 52), .lit (.int .u8 32), .lit (.int .u8 23), .lit (.int .u8 11), .lit (.int .u8 54), .lit (.int .u8 26), .lit (.int .u8 40), .lit (.int .u8 15), .lit (.int .u8 34), .lit (.int .u8 20), .lit (.int .u8 31), .lit (.int .u8 10), .lit (.int .u8 25), .lit (.int .u8 14), .lit (.int .u8 19), .lit (.int .u8 9), .lit (.int .u8 13), .lit (.int .u8 8), .lit (.int .u8 7), .lit (.int .u8 6)]

/-- 'cohesionlaw44.AlertRings': WHATEVER THE INPUT: true; the input reads as it did. -/
def alertRingsSpec : ChangeSpec := { name := "alertRings", fn := fun _ => fun
  | [d] => { results := [.lit (.bool true)], args := [d] }
  | _ => none }
def alertRingsRow : OpenClaim := { program := "ytfkcohmipjhfcaagreatdoor", sum := "a0bc4ebd7a8667d40161afb5d25e16d8fb7f0cd3291ae662af1f294d16f2490d", func := "cohesion/cohesionlaw44.AlertRings", spec := "alertRings", inPlace := ["math/bits.Sub64", "slices.overlaps[cohesion/api.Link]"], unfollowed := true, recurses := true, named := ["math/bits.deBruijn64tab"], plainKeys := false, apart := false, laid := [("math/bits.deBruijn64tab", laid_math_bits_deBruijn64tab)] }
def AlertRingsSaid : Prop := alertRingsRow.holds Tryz.pinned (OpenSpec.ofChange alertRingsSpec)

/-- ITS FALSE NEIGHBOUR: 'it returns false'. Refute it at one input. -/
def alertRingsWrong : ChangeSpec := { name := "alertRings", fn := fun _ => fun
  | [d] => { results := [.lit (.bool false)], args := [d] }
  | _ => none }
def AlertRingsWrongFalsely : Prop := alertRingsRow.holds Tryz.pinned (OpenSpec.ofChange alertRingsWrong)

/-- 'cohesionlaw44.AlertQuiet': WHATEVER THE INPUT: true; the input reads as it did. -/
def alertQuietSpec : ChangeSpec := { name := "alertQuiet", fn := fun _ => fun
  | [d] => { results := [.lit (.bool true)], args := [d] }
  | _ => none }
def alertQuietRow : OpenClaim := { program := "ytfkcohmipjhfcaagreatdoor", sum := "a0bc4ebd7a8667d40161afb5d25e16d8fb7f0cd3291ae662af1f294d16f2490d", func := "cohesion/cohesionlaw44.AlertQuiet", spec := "alertQuiet", inPlace := ["math/bits.Sub64", "slices.overlaps[cohesion/api.Link]"], unfollowed := true, recurses := true, named := ["math/bits.deBruijn64tab"], plainKeys := false, apart := false, laid := [("math/bits.deBruijn64tab", laid_math_bits_deBruijn64tab)] }
def AlertQuietSaid : Prop := alertQuietRow.holds Tryz.pinned (OpenSpec.ofChange alertQuietSpec)

/-- ITS FALSE NEIGHBOUR: 'it returns false'. Refute it at one input. -/
def alertQuietWrong : ChangeSpec := { name := "alertQuiet", fn := fun _ => fun
  | [d] => { results := [.lit (.bool false)], args := [d] }
  | _ => none }
def AlertQuietWrongFalsely : Prop := alertQuietRow.holds Tryz.pinned (OpenSpec.ofChange alertQuietWrong)

/-- 'cohesionlaw44.AlertLevels': WHATEVER THE INPUT: true; the input reads as it did. -/
def alertLevelsSpec : ChangeSpec := { name := "alertLevels", fn := fun _ => fun
  | [d1, d2] => { results := [.lit (.bool true)], args := [d1, d2] }
  | _ => none }
def alertLevelsRow : OpenClaim := { program := "ytfkcohmipjhfcaagreatdoor", sum := "a0bc4ebd7a8667d40161afb5d25e16d8fb7f0cd3291ae662af1f294d16f2490d", func := "cohesion/cohesionlaw44.AlertLevels", spec := "alertLevels", inPlace := ["math/bits.Sub64", "slices.overlaps[cohesion/api.Link]"], unfollowed := true, recurses := true, named := ["math/bits.deBruijn64tab"], plainKeys := false, apart := false, laid := [("math/bits.deBruijn64tab", laid_math_bits_deBruijn64tab)] }
def AlertLevelsSaid : Prop := alertLevelsRow.holds Tryz.pinned (OpenSpec.ofChange alertLevelsSpec)

/-- ITS FALSE NEIGHBOUR: 'it returns false'. Refute it at one input. -/
def alertLevelsWrong : ChangeSpec := { name := "alertLevels", fn := fun _ => fun
  | [d1, d2] => { results := [.lit (.bool false)], args := [d1, d2] }
  | _ => none }
def AlertLevelsWrongFalsely : Prop := alertLevelsRow.holds Tryz.pinned (OpenSpec.ofChange alertLevelsWrong)

/-- 'cohesionlaw44.AlertAnswers': WHATEVER THE INPUT: true; the input reads as it did. -/
def alertAnswersSpec : ChangeSpec := { name := "alertAnswers", fn := fun _ => fun
  | [d1, d2, d3, d4, d5, d6, d7] => { results := [.lit (.bool true)], args := [d1, d2, d3, d4, d5, d6, d7] }
  | _ => none }
def alertAnswersRow : OpenClaim := { program := "ytfkcohmipjhfcaagreatdoor", sum := "a0bc4ebd7a8667d40161afb5d25e16d8fb7f0cd3291ae662af1f294d16f2490d", func := "cohesion/cohesionlaw44.AlertAnswers", spec := "alertAnswers", inPlace := ["math/bits.Sub64", "slices.overlaps[cohesion/api.Link]"], unfollowed := true, recurses := true, named := ["math/bits.deBruijn64tab"], plainKeys := false, apart := false, laid := [("math/bits.deBruijn64tab", laid_math_bits_deBruijn64tab)] }
def AlertAnswersSaid : Prop := alertAnswersRow.holds Tryz.pinned (OpenSpec.ofChange alertAnswersSpec)

/-- ITS FALSE NEIGHBOUR: 'it returns false'. Refute it at one input. -/
def alertAnswersWrong : ChangeSpec := { name := "alertAnswers", fn := fun _ => fun
  | [d1, d2, d3, d4, d5, d6, d7] => { results := [.lit (.bool false)], args := [d1, d2, d3, d4, d5, d6, d7] }
  | _ => none }
def AlertAnswersWrongFalsely : Prop := alertAnswersRow.holds Tryz.pinned (OpenSpec.ofChange alertAnswersWrong)

/-- 'cohesionlaw44.AlertStates': WHATEVER THE INPUT: true; the input reads as it did. -/
def alertStatesSpec : ChangeSpec := { name := "alertStates", fn := fun _ => fun
  | [d1, d2] => { results := [.lit (.bool true)], args := [d1, d2] }
  | _ => none }
def alertStatesRow : OpenClaim := { program := "ytfkcohmipjhfcaagreatdoor", sum := "a0bc4ebd7a8667d40161afb5d25e16d8fb7f0cd3291ae662af1f294d16f2490d", func := "cohesion/cohesionlaw44.AlertStates", spec := "alertStates", inPlace := ["math/bits.Sub64", "slices.overlaps[cohesion/api.Link]"], unfollowed := true, recurses := true, named := ["math/bits.deBruijn64tab"], plainKeys := false, apart := false, laid := [("math/bits.deBruijn64tab", laid_math_bits_deBruijn64tab)] }
def AlertStatesSaid : Prop := alertStatesRow.holds Tryz.pinned (OpenSpec.ofChange alertStatesSpec)

/-- ITS FALSE NEIGHBOUR: 'it returns false'. Refute it at one input. -/
def alertStatesWrong : ChangeSpec := { name := "alertStates", fn := fun _ => fun
  | [d1, d2] => { results := [.lit (.bool false)], args := [d1, d2] }
  | _ => none }
def AlertStatesWrongFalsely : Prop := alertStatesRow.holds Tryz.pinned (OpenSpec.ofChange alertStatesWrong)

/-- 'cohesionlaw43.AnswerAnswers': WHATEVER THE INPUT: true; the input reads as it did. -/
def answerAnswersSpec : ChangeSpec := { name := "answerAnswers", fn := fun _ => fun
  | [d1, d2, d3, d4, d5, d6, d7, d8] => { results := [.lit (.bool true)], args := [d1, d2, d3, d4, d5, d6, d7, d8] }
  | _ => none }
def answerAnswersRow : OpenClaim := { program := "ytfkcohmipjhfcaagreatdoor", sum := "a0bc4ebd7a8667d40161afb5d25e16d8fb7f0cd3291ae662af1f294d16f2490d", func := "cohesion/cohesionlaw43.AnswerAnswers", spec := "answerAnswers", inPlace := ["slices.overlaps[cohesion/api.Link]", "math/bits.Sub64"], unfollowed := true, recurses := true, named := ["math/bits.deBruijn64tab"], plainKeys := false, apart := false, laid := [("math/bits.deBruijn64tab", laid_math_bits_deBruijn64tab)] }
def AnswerAnswersSaid : Prop := answerAnswersRow.holds Tryz.pinned (OpenSpec.ofChange answerAnswersSpec)

/-- ITS FALSE NEIGHBOUR: 'it returns false'. Refute it at one input. -/
def answerAnswersWrong : ChangeSpec := { name := "answerAnswers", fn := fun _ => fun
  | [d1, d2, d3, d4, d5, d6, d7, d8] => { results := [.lit (.bool false)], args := [d1, d2, d3, d4, d5, d6, d7, d8] }
  | _ => none }
def AnswerAnswersWrongFalsely : Prop := answerAnswersRow.holds Tryz.pinned (OpenSpec.ofChange answerAnswersWrong)

/-- 'cohesionlaw43.AnswerProves': WHATEVER THE INPUT: true; the input reads as it did. -/
def answerProvesSpec : ChangeSpec := { name := "answerProves", fn := fun _ => fun
  | [d] => { results := [.lit (.bool true)], args := [d] }
  | _ => none }
def answerProvesRow : OpenClaim := { program := "ytfkcohmipjhfcaagreatdoor", sum := "a0bc4ebd7a8667d40161afb5d25e16d8fb7f0cd3291ae662af1f294d16f2490d", func := "cohesion/cohesionlaw43.AnswerProves", spec := "answerProves", inPlace := ["slices.overlaps[cohesion/api.Link]", "math/bits.Sub64"], unfollowed := true, recurses := true, named := ["math/bits.deBruijn64tab"], plainKeys := false, apart := false, laid := [("math/bits.deBruijn64tab", laid_math_bits_deBruijn64tab)] }
def AnswerProvesSaid : Prop := answerProvesRow.holds Tryz.pinned (OpenSpec.ofChange answerProvesSpec)

/-- ITS FALSE NEIGHBOUR: 'it returns false'. Refute it at one input. -/
def answerProvesWrong : ChangeSpec := { name := "answerProves", fn := fun _ => fun
  | [d] => { results := [.lit (.bool false)], args := [d] }
  | _ => none }
def AnswerProvesWrongFalsely : Prop := answerProvesRow.holds Tryz.pinned (OpenSpec.ofChange answerProvesWrong)

/-- 'cohesionlaw43.AnswerFirst': WHATEVER THE INPUT: true; the input reads as it did. -/
def answerFirstSpec : ChangeSpec := { name := "answerFirst", fn := fun _ => fun
  | [d] => { results := [.lit (.bool true)], args := [d] }
  | _ => none }
def answerFirstRow : OpenClaim := { program := "ytfkcohmipjhfcaagreatdoor", sum := "a0bc4ebd7a8667d40161afb5d25e16d8fb7f0cd3291ae662af1f294d16f2490d", func := "cohesion/cohesionlaw43.AnswerFirst", spec := "answerFirst", inPlace := ["slices.overlaps[cohesion/api.Link]", "math/bits.Sub64"], unfollowed := true, recurses := true, named := ["math/bits.deBruijn64tab"], plainKeys := false, apart := false, laid := [("math/bits.deBruijn64tab", laid_math_bits_deBruijn64tab)] }
def AnswerFirstSaid : Prop := answerFirstRow.holds Tryz.pinned (OpenSpec.ofChange answerFirstSpec)

/-- ITS FALSE NEIGHBOUR: 'it returns false'. Refute it at one input. -/
def answerFirstWrong : ChangeSpec := { name := "answerFirst", fn := fun _ => fun
  | [d] => { results := [.lit (.bool false)], args := [d] }
  | _ => none }
def AnswerFirstWrongFalsely : Prop := answerFirstRow.holds Tryz.pinned (OpenSpec.ofChange answerFirstWrong)

/-- 'cohesionlaw43.AnswerTimes': WHATEVER THE INPUT: true; the input reads as it did. -/
def answerTimesSpec : ChangeSpec := { name := "answerTimes", fn := fun _ => fun
  | [d1, d2] => { results := [.lit (.bool true)], args := [d1, d2] }
  | _ => none }
def answerTimesRow : OpenClaim := { program := "ytfkcohmipjhfcaagreatdoor", sum := "a0bc4ebd7a8667d40161afb5d25e16d8fb7f0cd3291ae662af1f294d16f2490d", func := "cohesion/cohesionlaw43.AnswerTimes", spec := "answerTimes", inPlace := ["slices.overlaps[cohesion/api.Link]", "math/bits.Sub64"], unfollowed := true, recurses := true, named := ["math/bits.deBruijn64tab"], plainKeys := false, apart := false, laid := [("math/bits.deBruijn64tab", laid_math_bits_deBruijn64tab)] }
def AnswerTimesSaid : Prop := answerTimesRow.holds Tryz.pinned (OpenSpec.ofChange answerTimesSpec)

/-- ITS FALSE NEIGHBOUR: 'it returns false'. Refute it at one input. -/
def answerTimesWrong : ChangeSpec := { name := "answerTimes", fn := fun _ => fun
  | [d1, d2] => { results := [.lit (.bool false)], args := [d1, d2] }
  | _ => none }
def AnswerTimesWrongFalsely : Prop := answerTimesRow.holds Tryz.pinned (OpenSpec.ofChange answerTimesWrong)

/-- 'cohesionlaw43.AnswerHistory': WHATEVER THE INPUT: true; the input reads as it did. -/
def answerHistorySpec : ChangeSpec := { name := "answerHistory", fn := fun _ => fun
  | [d1, d2] => { results := [.lit (.bool true)], args := [d1, d2] }
  | _ => none }
def answerHistoryRow : OpenClaim := { program := "ytfkcohmipjhfcaagreatdoor", sum := "a0bc4ebd7a8667d40161afb5d25e16d8fb7f0cd3291ae662af1f294d16f2490d", func := "cohesion/cohesionlaw43.AnswerHistory", spec := "answerHistory", inPlace := ["slices.overlaps[cohesion/api.Link]", "math/bits.Sub64"], unfollowed := true, recurses := true, named := ["math/bits.deBruijn64tab"], plainKeys := false, apart := false, laid := [("math/bits.deBruijn64tab", laid_math_bits_deBruijn64tab)] }
def AnswerHistorySaid : Prop := answerHistoryRow.holds Tryz.pinned (OpenSpec.ofChange answerHistorySpec)

/-- ITS FALSE NEIGHBOUR: 'it returns false'. Refute it at one input. -/
def answerHistoryWrong : ChangeSpec := { name := "answerHistory", fn := fun _ => fun
  | [d1, d2] => { results := [.lit (.bool false)], args := [d1, d2] }
  | _ => none }
def AnswerHistoryWrongFalsely : Prop := answerHistoryRow.holds Tryz.pinned (OpenSpec.ofChange answerHistoryWrong)

/-- 'cohesionlaw43.AnswerAgrees': WHATEVER THE INPUT: true; the input reads as it did. -/
def answerAgreesSpec : ChangeSpec := { name := "answerAgrees", fn := fun _ => fun
  | [d] => { results := [.lit (.bool true)], args := [d] }
  | _ => none }
def answerAgreesRow : OpenClaim := { program := "ytfkcohmipjhfcaagreatdoor", sum := "a0bc4ebd7a8667d40161afb5d25e16d8fb7f0cd3291ae662af1f294d16f2490d", func := "cohesion/cohesionlaw43.AnswerAgrees", spec := "answerAgrees", inPlace := ["slices.overlaps[cohesion/api.Link]", "math/bits.Sub64"], unfollowed := true, recurses := true, named := ["math/bits.deBruijn64tab"], plainKeys := false, apart := false, laid := [("math/bits.deBruijn64tab", laid_math_bits_deBruijn64tab)] }
def AnswerAgreesSaid : Prop := answerAgreesRow.holds Tryz.pinned (OpenSpec.ofChange answerAgreesSpec)

/-- ITS FALSE NEIGHBOUR: 'it returns false'. Refute it at one input. -/
def answerAgreesWrong : ChangeSpec := { name := "answerAgrees", fn := fun _ => fun
  | [d] => { results := [.lit (.bool false)], args := [d] }
  | _ => none }
def AnswerAgreesWrongFalsely : Prop := answerAgreesRow.holds Tryz.pinned (OpenSpec.ofChange answerAgreesWrong)

/-- 'cohesionlaw43.AnswerTogether': WHATEVER THE INPUT: true; the input reads as it did. -/
def answerTogetherSpec : ChangeSpec := { name := "answerTogether", fn := fun _ => fun
  | [d1, d2] => { results := [.lit (.bool true)], args := [d1, d2] }
  | _ => none }
def answerTogetherRow : OpenClaim := { program := "ytfkcohmipjhfcaagreatdoor", sum := "a0bc4ebd7a8667d40161afb5d25e16d8fb7f0cd3291ae662af1f294d16f2490d", func := "cohesion/cohesionlaw43.AnswerTogether", spec := "answerTogether", inPlace := ["slices.overlaps[cohesion/api.Link]", "math/bits.Sub64"], unfollowed := true, recurses := true, named := ["math/bits.deBruijn64tab"], plainKeys := false, apart := false, laid := [("math/bits.deBruijn64tab", laid_math_bits_deBruijn64tab)] }
def AnswerTogetherSaid : Prop := answerTogetherRow.holds Tryz.pinned (OpenSpec.ofChange answerTogetherSpec)

/-- ITS FALSE NEIGHBOUR: 'it returns false'. Refute it at one input. -/
def answerTogetherWrong : ChangeSpec := { name := "answerTogether", fn := fun _ => fun
  | [d1, d2] => { results := [.lit (.bool false)], args := [d1, d2] }
  | _ => none }
def AnswerTogetherWrongFalsely : Prop := answerTogetherRow.holds Tryz.pinned (OpenSpec.ofChange answerTogetherWrong)

/-- 'cohesionlaw43.AnswerWindows': WHATEVER THE INPUT: true; the input reads as it did. -/
def answerWindowsSpec : ChangeSpec := { name := "answerWindows", fn := fun _ => fun
  | [d] => { results := [.lit (.bool true)], args := [d] }
  | _ => none }
def answerWindowsRow : OpenClaim := { program := "ytfkcohmipjhfcaagreatdoor", sum := "a0bc4ebd7a8667d40161afb5d25e16d8fb7f0cd3291ae662af1f294d16f2490d", func := "cohesion/cohesionlaw43.AnswerWindows", spec := "answerWindows", inPlace := ["slices.overlaps[cohesion/api.Link]", "math/bits.Sub64"], unfollowed := true, recurses := true, named := ["math/bits.deBruijn64tab"], plainKeys := false, apart := false, laid := [("math/bits.deBruijn64tab", laid_math_bits_deBruijn64tab)] }
def AnswerWindowsSaid : Prop := answerWindowsRow.holds Tryz.pinned (OpenSpec.ofChange answerWindowsSpec)

/-- ITS FALSE NEIGHBOUR: 'it returns false'. Refute it at one input. -/
def answerWindowsWrong : ChangeSpec := { name := "answerWindows", fn := fun _ => fun
  | [d] => { results := [.lit (.bool false)], args := [d] }
  | _ => none }
def AnswerWindowsWrongFalsely : Prop := answerWindowsRow.holds Tryz.pinned (OpenSpec.ofChange answerWindowsWrong)

/- THE SECOND FORM. 'bulk': how many values and letters a reading holds, each counted each time it is reached (what is shared counts as often as it is met; a slice's spare places count too). A statement '..UptoSaid' is the law's where the arguments, and the package variables that the reading takes, are together of bulk at most 1048576: NARROWER than '..Said'. Prove '..Said' where nothing that the law and all that it calls make is longer than what came in: it says more and counts as full. Else prove '..UptoSaid'. A law counts once. -/
mutual
def uptoBulk {H : Type} : DataW H → Nat
  | .lit (.string bytes) => bytes.length + 1
  | .lit _ => 1
  | .nil => 1
  | .ptr d => uptoBulk d + 1
  | .slice elems spare => uptoBulkAll elems + uptoBulkAll spare + 1
  | .agg parts => uptoBulkAll parts + 1
  | .iface _ d => uptoBulk d + 1
  | .map entries => uptoBulkEntries entries + 1
  | .held _ => 1
def uptoBulkAll {H : Type} : List (DataW H) → Nat
  | [] => 0
  | d :: r => uptoBulk d + uptoBulkAll r
def uptoBulkEntries {H : Type} : List (Lit × DataW H) → Nat
  | [] => 0
  | x :: r => uptoBulkEntry x + uptoBulkEntries r
def uptoBulkEntry {H : Type} : Lit × DataW H → Nat
  | (.string bytes, d) => bytes.length + uptoBulk d + 1
  | (_, d) => uptoBulk d + 1
 end
def uptoSmall : (H : Type) → List (DataW H) → Bool := fun _ ds => decide (uptoBulkAll ds ≤ 1048576)
def OpenSpec.upto (s : _root_.Go.ChangeSpec) : _root_.Go.OpenSpec := { _root_.Go.OpenSpec.ofChange s with cond := some uptoSmall }

/-- 'cohesionlaw44.AlertRings', WHERE WHAT IT READS IS OF BULK AT MOST 1048576: true; the input reads as it did. -/
def alertRingsUptoRow : OpenClaim := { program := "ytfkcohmipjhfcaagreatdoor", sum := "a0bc4ebd7a8667d40161afb5d25e16d8fb7f0cd3291ae662af1f294d16f2490d", func := "cohesion/cohesionlaw44.AlertRings", spec := "alertRings", inPlace := ["math/bits.Sub64", "slices.overlaps[cohesion/api.Link]"], unfollowed := true, recurses := true, named := ["math/bits.deBruijn64tab"], plainKeys := false, apart := false, laid := [("math/bits.deBruijn64tab", laid_math_bits_deBruijn64tab)], narrowed := true }
def AlertRingsUptoSaid : Prop := alertRingsUptoRow.holds Tryz.pinned (OpenSpec.upto alertRingsSpec)

/-- 'cohesionlaw44.AlertQuiet', WHERE WHAT IT READS IS OF BULK AT MOST 1048576: true; the input reads as it did. -/
def alertQuietUptoRow : OpenClaim := { program := "ytfkcohmipjhfcaagreatdoor", sum := "a0bc4ebd7a8667d40161afb5d25e16d8fb7f0cd3291ae662af1f294d16f2490d", func := "cohesion/cohesionlaw44.AlertQuiet", spec := "alertQuiet", inPlace := ["math/bits.Sub64", "slices.overlaps[cohesion/api.Link]"], unfollowed := true, recurses := true, named := ["math/bits.deBruijn64tab"], plainKeys := false, apart := false, laid := [("math/bits.deBruijn64tab", laid_math_bits_deBruijn64tab)], narrowed := true }
def AlertQuietUptoSaid : Prop := alertQuietUptoRow.holds Tryz.pinned (OpenSpec.upto alertQuietSpec)

/-- 'cohesionlaw44.AlertLevels', WHERE WHAT IT READS IS OF BULK AT MOST 1048576: true; the input reads as it did. -/
def alertLevelsUptoRow : OpenClaim := { program := "ytfkcohmipjhfcaagreatdoor", sum := "a0bc4ebd7a8667d40161afb5d25e16d8fb7f0cd3291ae662af1f294d16f2490d", func := "cohesion/cohesionlaw44.AlertLevels", spec := "alertLevels", inPlace := ["math/bits.Sub64", "slices.overlaps[cohesion/api.Link]"], unfollowed := true, recurses := true, named := ["math/bits.deBruijn64tab"], plainKeys := false, apart := false, laid := [("math/bits.deBruijn64tab", laid_math_bits_deBruijn64tab)], narrowed := true }
def AlertLevelsUptoSaid : Prop := alertLevelsUptoRow.holds Tryz.pinned (OpenSpec.upto alertLevelsSpec)

/-- 'cohesionlaw44.AlertAnswers', WHERE WHAT IT READS IS OF BULK AT MOST 1048576: true; the input reads as it did. -/
def alertAnswersUptoRow : OpenClaim := { program := "ytfkcohmipjhfcaagreatdoor", sum := "a0bc4ebd7a8667d40161afb5d25e16d8fb7f0cd3291ae662af1f294d16f2490d", func := "cohesion/cohesionlaw44.AlertAnswers", spec := "alertAnswers", inPlace := ["math/bits.Sub64", "slices.overlaps[cohesion/api.Link]"], unfollowed := true, recurses := true, named := ["math/bits.deBruijn64tab"], plainKeys := false, apart := false, laid := [("math/bits.deBruijn64tab", laid_math_bits_deBruijn64tab)], narrowed := true }
def AlertAnswersUptoSaid : Prop := alertAnswersUptoRow.holds Tryz.pinned (OpenSpec.upto alertAnswersSpec)

/-- 'cohesionlaw44.AlertStates', WHERE WHAT IT READS IS OF BULK AT MOST 1048576: true; the input reads as it did. -/
def alertStatesUptoRow : OpenClaim := { program := "ytfkcohmipjhfcaagreatdoor", sum := "a0bc4ebd7a8667d40161afb5d25e16d8fb7f0cd3291ae662af1f294d16f2490d", func := "cohesion/cohesionlaw44.AlertStates", spec := "alertStates", inPlace := ["math/bits.Sub64", "slices.overlaps[cohesion/api.Link]"], unfollowed := true, recurses := true, named := ["math/bits.deBruijn64tab"], plainKeys := false, apart := false, laid := [("math/bits.deBruijn64tab", laid_math_bits_deBruijn64tab)], narrowed := true }
def AlertStatesUptoSaid : Prop := alertStatesUptoRow.holds Tryz.pinned (OpenSpec.upto alertStatesSpec)

/-- 'cohesionlaw43.AnswerAnswers', WHERE WHAT IT READS IS OF BULK AT MOST 1048576: true; the input reads as it did. -/
def answerAnswersUptoRow : OpenClaim := { program := "ytfkcohmipjhfcaagreatdoor", sum := "a0bc4ebd7a8667d40161afb5d25e16d8fb7f0cd3291ae662af1f294d16f2490d", func := "cohesion/cohesionlaw43.AnswerAnswers", spec := "answerAnswers", inPlace := ["slices.overlaps[cohesion/api.Link]", "math/bits.Sub64"], unfollowed := true, recurses := true, named := ["math/bits.deBruijn64tab"], plainKeys := false, apart := false, laid := [("math/bits.deBruijn64tab", laid_math_bits_deBruijn64tab)], narrowed := true }
def AnswerAnswersUptoSaid : Prop := answerAnswersUptoRow.holds Tryz.pinned (OpenSpec.upto answerAnswersSpec)

/-- 'cohesionlaw43.AnswerProves', WHERE WHAT IT READS IS OF BULK AT MOST 1048576: true; the input reads as it did. -/
def answerProvesUptoRow : OpenClaim := { program := "ytfkcohmipjhfcaagreatdoor", sum := "a0bc4ebd7a8667d40161afb5d25e16d8fb7f0cd3291ae662af1f294d16f2490d", func := "cohesion/cohesionlaw43.AnswerProves", spec := "answerProves", inPlace := ["slices.overlaps[cohesion/api.Link]", "math/bits.Sub64"], unfollowed := true, recurses := true, named := ["math/bits.deBruijn64tab"], plainKeys := false, apart := false, laid := [("math/bits.deBruijn64tab", laid_math_bits_deBruijn64tab)], narrowed := true }
def AnswerProvesUptoSaid : Prop := answerProvesUptoRow.holds Tryz.pinned (OpenSpec.upto answerProvesSpec)

/-- 'cohesionlaw43.AnswerFirst', WHERE WHAT IT READS IS OF BULK AT MOST 1048576: true; the input reads as it did. -/
def answerFirstUptoRow : OpenClaim := { program := "ytfkcohmipjhfcaagreatdoor", sum := "a0bc4ebd7a8667d40161afb5d25e16d8fb7f0cd3291ae662af1f294d16f2490d", func := "cohesion/cohesionlaw43.AnswerFirst", spec := "answerFirst", inPlace := ["slices.overlaps[cohesion/api.Link]", "math/bits.Sub64"], unfollowed := true, recurses := true, named := ["math/bits.deBruijn64tab"], plainKeys := false, apart := false, laid := [("math/bits.deBruijn64tab", laid_math_bits_deBruijn64tab)], narrowed := true }
def AnswerFirstUptoSaid : Prop := answerFirstUptoRow.holds Tryz.pinned (OpenSpec.upto answerFirstSpec)

/-- 'cohesionlaw43.AnswerTimes', WHERE WHAT IT READS IS OF BULK AT MOST 1048576: true; the input reads as it did. -/
def answerTimesUptoRow : OpenClaim := { program := "ytfkcohmipjhfcaagreatdoor", sum := "a0bc4ebd7a8667d40161afb5d25e16d8fb7f0cd3291ae662af1f294d16f2490d", func := "cohesion/cohesionlaw43.AnswerTimes", spec := "answerTimes", inPlace := ["slices.overlaps[cohesion/api.Link]", "math/bits.Sub64"], unfollowed := true, recurses := true, named := ["math/bits.deBruijn64tab"], plainKeys := false, apart := false, laid := [("math/bits.deBruijn64tab", laid_math_bits_deBruijn64tab)], narrowed := true }
def AnswerTimesUptoSaid : Prop := answerTimesUptoRow.holds Tryz.pinned (OpenSpec.upto answerTimesSpec)

/-- 'cohesionlaw43.AnswerHistory', WHERE WHAT IT READS IS OF BULK AT MOST 1048576: true; the input reads as it did. -/
def answerHistoryUptoRow : OpenClaim := { program := "ytfkcohmipjhfcaagreatdoor", sum := "a0bc4ebd7a8667d40161afb5d25e16d8fb7f0cd3291ae662af1f294d16f2490d", func := "cohesion/cohesionlaw43.AnswerHistory", spec := "answerHistory", inPlace := ["slices.overlaps[cohesion/api.Link]", "math/bits.Sub64"], unfollowed := true, recurses := true, named := ["math/bits.deBruijn64tab"], plainKeys := false, apart := false, laid := [("math/bits.deBruijn64tab", laid_math_bits_deBruijn64tab)], narrowed := true }
def AnswerHistoryUptoSaid : Prop := answerHistoryUptoRow.holds Tryz.pinned (OpenSpec.upto answerHistorySpec)

/-- 'cohesionlaw43.AnswerAgrees', WHERE WHAT IT READS IS OF BULK AT MOST 1048576: true; the input reads as it did. -/
def answerAgreesUptoRow : OpenClaim := { program := "ytfkcohmipjhfcaagreatdoor", sum := "a0bc4ebd7a8667d40161afb5d25e16d8fb7f0cd3291ae662af1f294d16f2490d", func := "cohesion/cohesionlaw43.AnswerAgrees", spec := "answerAgrees", inPlace := ["slices.overlaps[cohesion/api.Link]", "math/bits.Sub64"], unfollowed := true, recurses := true, named := ["math/bits.deBruijn64tab"], plainKeys := false, apart := false, laid := [("math/bits.deBruijn64tab", laid_math_bits_deBruijn64tab)], narrowed := true }
def AnswerAgreesUptoSaid : Prop := answerAgreesUptoRow.holds Tryz.pinned (OpenSpec.upto answerAgreesSpec)

/-- 'cohesionlaw43.AnswerTogether', WHERE WHAT IT READS IS OF BULK AT MOST 1048576: true; the input reads as it did. -/
def answerTogetherUptoRow : OpenClaim := { program := "ytfkcohmipjhfcaagreatdoor", sum := "a0bc4ebd7a8667d40161afb5d25e16d8fb7f0cd3291ae662af1f294d16f2490d", func := "cohesion/cohesionlaw43.AnswerTogether", spec := "answerTogether", inPlace := ["slices.overlaps[cohesion/api.Link]", "math/bits.Sub64"], unfollowed := true, recurses := true, named := ["math/bits.deBruijn64tab"], plainKeys := false, apart := false, laid := [("math/bits.deBruijn64tab", laid_math_bits_deBruijn64tab)], narrowed := true }
def AnswerTogetherUptoSaid : Prop := answerTogetherUptoRow.holds Tryz.pinned (OpenSpec.upto answerTogetherSpec)

/-- 'cohesionlaw43.AnswerWindows', WHERE WHAT IT READS IS OF BULK AT MOST 1048576: true; the input reads as it did. -/
def answerWindowsUptoRow : OpenClaim := { program := "ytfkcohmipjhfcaagreatdoor", sum := "a0bc4ebd7a8667d40161afb5d25e16d8fb7f0cd3291ae662af1f294d16f2490d", func := "cohesion/cohesionlaw43.AnswerWindows", spec := "answerWindows", inPlace := ["slices.overlaps[cohesion/api.Link]", "math/bits.Sub64"], unfollowed := true, recurses := true, named := ["math/bits.deBruijn64tab"], plainKeys := false, apart := false, laid := [("math/bits.deBruijn64tab", laid_math_bits_deBruijn64tab)], narrowed := true }
def AnswerWindowsUptoSaid : Prop := answerWindowsUptoRow.holds Tryz.pinned (OpenSpec.upto answerWindowsSpec)

end Rows
end Go.Proofs.YtfkcohmipjhfcaaGreatDoor
