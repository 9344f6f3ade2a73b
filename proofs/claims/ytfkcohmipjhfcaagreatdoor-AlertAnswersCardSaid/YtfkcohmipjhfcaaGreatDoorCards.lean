/-
  DERIVED. GIVEN WITH THE SEED: THE CARDS: each row of YtfkcohmipjhfcaaGreatDoorRows.lean that lists a variable, with what it lists TIED to the program's text (the seventh form; the later family's looks); each row that meets fmt, with fmt's text TOLD by the authors' own Lean function (tested against real Go, not proved from fmt's source: count such statements apart). THE CARD IS WHAT COUNTS. Prove the row's statement (the work); the ties are given (YtfkcohmipjhfcaaGreatDoorTie.lean); close each card by the builder's one call (the guide's Derived/Test/ToyasCard.lean, 'card_holds'). Laid BY PROGRAM, IN A SANDBOX (cutbox-door.mjs). By AI agents, Wed Nov 11 2026. No macro, syntax, notation, axiom, sorry.
-/
import Derived.Test.YtfkcohmipjhfcaaGreatDoorRows
import GoSem.ClaimSeven
namespace Go.Proofs.YtfkcohmipjhfcaaGreatDoor
namespace Rows

/-- THE TIED CARD OF 'cohesionlaw44.AlertRings'. -/
def alertRingsCard : Claim7 := { stood := { row := alertRingsRow, standIns := [], harness := (true, "467fa26bfbaedd767c6340f682ae5caf2c065e57be24a9d96a5d52f4bc1287bb"), looks := false }, kinds := [], alts := [], laidByText := true, laidKinds := [.data], laidTests := true, laidLooks := .later }
def AlertRingsCardSaid : Prop := Claim7.holds Tryz.pinned (.plain (OpenSpec.ofChange alertRingsSpec)) alertRingsCard

/-- THE TIED CARD OF 'cohesionlaw44.AlertQuiet'. -/
def alertQuietCard : Claim7 := { stood := { row := alertQuietRow, standIns := [], harness := (true, "467fa26bfbaedd767c6340f682ae5caf2c065e57be24a9d96a5d52f4bc1287bb"), looks := false }, kinds := [], alts := [], laidByText := true, laidKinds := [.data], laidTests := true, laidLooks := .later }
def AlertQuietCardSaid : Prop := Claim7.holds Tryz.pinned (.plain (OpenSpec.ofChange alertQuietSpec)) alertQuietCard

/-- THE TIED CARD OF 'cohesionlaw44.AlertLevels'. -/
def alertLevelsCard : Claim7 := { stood := { row := alertLevelsRow, standIns := [], harness := (true, "467fa26bfbaedd767c6340f682ae5caf2c065e57be24a9d96a5d52f4bc1287bb"), looks := false }, kinds := [], alts := [], laidByText := true, laidKinds := [.data], laidTests := true, laidLooks := .later }
def AlertLevelsCardSaid : Prop := Claim7.holds Tryz.pinned (.plain (OpenSpec.ofChange alertLevelsSpec)) alertLevelsCard

/-- THE TIED CARD OF 'cohesionlaw44.AlertAnswers'. -/
def alertAnswersCard : Claim7 := { stood := { row := alertAnswersRow, standIns := [], harness := (true, "467fa26bfbaedd767c6340f682ae5caf2c065e57be24a9d96a5d52f4bc1287bb"), looks := false }, kinds := [], alts := [], laidByText := true, laidKinds := [.data], laidTests := true, laidLooks := .later }
def AlertAnswersCardSaid : Prop := Claim7.holds Tryz.pinned (.plain (OpenSpec.ofChange alertAnswersSpec)) alertAnswersCard

/-- THE TIED CARD OF 'cohesionlaw44.AlertStates'. -/
def alertStatesCard : Claim7 := { stood := { row := alertStatesRow, standIns := [], harness := (true, "467fa26bfbaedd767c6340f682ae5caf2c065e57be24a9d96a5d52f4bc1287bb"), looks := false }, kinds := [], alts := [], laidByText := true, laidKinds := [.data], laidTests := true, laidLooks := .later }
def AlertStatesCardSaid : Prop := Claim7.holds Tryz.pinned (.plain (OpenSpec.ofChange alertStatesSpec)) alertStatesCard

/-- THE TIED CARD OF 'cohesionlaw43.AnswerAnswers'. -/
def answerAnswersCard : Claim7 := { stood := { row := answerAnswersRow, standIns := [], harness := (true, "467fa26bfbaedd767c6340f682ae5caf2c065e57be24a9d96a5d52f4bc1287bb"), looks := false }, kinds := [], alts := [], laidByText := true, laidKinds := [.data], laidTests := true, laidLooks := .later }
def AnswerAnswersCardSaid : Prop := Claim7.holds Tryz.pinned (.plain (OpenSpec.ofChange answerAnswersSpec)) answerAnswersCard

/-- THE TIED CARD OF 'cohesionlaw43.AnswerProves'. -/
def answerProvesCard : Claim7 := { stood := { row := answerProvesRow, standIns := [], harness := (true, "467fa26bfbaedd767c6340f682ae5caf2c065e57be24a9d96a5d52f4bc1287bb"), looks := false }, kinds := [], alts := [], laidByText := true, laidKinds := [.data], laidTests := true, laidLooks := .later }
def AnswerProvesCardSaid : Prop := Claim7.holds Tryz.pinned (.plain (OpenSpec.ofChange answerProvesSpec)) answerProvesCard

/-- THE TIED CARD OF 'cohesionlaw43.AnswerFirst'. -/
def answerFirstCard : Claim7 := { stood := { row := answerFirstRow, standIns := [], harness := (true, "467fa26bfbaedd767c6340f682ae5caf2c065e57be24a9d96a5d52f4bc1287bb"), looks := false }, kinds := [], alts := [], laidByText := true, laidKinds := [.data], laidTests := true, laidLooks := .later }
def AnswerFirstCardSaid : Prop := Claim7.holds Tryz.pinned (.plain (OpenSpec.ofChange answerFirstSpec)) answerFirstCard

/-- THE TIED CARD OF 'cohesionlaw43.AnswerTimes'. -/
def answerTimesCard : Claim7 := { stood := { row := answerTimesRow, standIns := [], harness := (true, "467fa26bfbaedd767c6340f682ae5caf2c065e57be24a9d96a5d52f4bc1287bb"), looks := false }, kinds := [], alts := [], laidByText := true, laidKinds := [.data], laidTests := true, laidLooks := .later }
def AnswerTimesCardSaid : Prop := Claim7.holds Tryz.pinned (.plain (OpenSpec.ofChange answerTimesSpec)) answerTimesCard

/-- THE TIED CARD OF 'cohesionlaw43.AnswerHistory'. -/
def answerHistoryCard : Claim7 := { stood := { row := answerHistoryRow, standIns := [], harness := (true, "467fa26bfbaedd767c6340f682ae5caf2c065e57be24a9d96a5d52f4bc1287bb"), looks := false }, kinds := [], alts := [], laidByText := true, laidKinds := [.data], laidTests := true, laidLooks := .later }
def AnswerHistoryCardSaid : Prop := Claim7.holds Tryz.pinned (.plain (OpenSpec.ofChange answerHistorySpec)) answerHistoryCard

/-- THE TIED CARD OF 'cohesionlaw43.AnswerAgrees'. -/
def answerAgreesCard : Claim7 := { stood := { row := answerAgreesRow, standIns := [], harness := (true, "467fa26bfbaedd767c6340f682ae5caf2c065e57be24a9d96a5d52f4bc1287bb"), looks := false }, kinds := [], alts := [], laidByText := true, laidKinds := [.data], laidTests := true, laidLooks := .later }
def AnswerAgreesCardSaid : Prop := Claim7.holds Tryz.pinned (.plain (OpenSpec.ofChange answerAgreesSpec)) answerAgreesCard

/-- THE TIED CARD OF 'cohesionlaw43.AnswerTogether'. -/
def answerTogetherCard : Claim7 := { stood := { row := answerTogetherRow, standIns := [], harness := (true, "467fa26bfbaedd767c6340f682ae5caf2c065e57be24a9d96a5d52f4bc1287bb"), looks := false }, kinds := [], alts := [], laidByText := true, laidKinds := [.data], laidTests := true, laidLooks := .later }
def AnswerTogetherCardSaid : Prop := Claim7.holds Tryz.pinned (.plain (OpenSpec.ofChange answerTogetherSpec)) answerTogetherCard

/-- THE TIED CARD OF 'cohesionlaw43.AnswerWindows'. -/
def answerWindowsCard : Claim7 := { stood := { row := answerWindowsRow, standIns := [], harness := (true, "467fa26bfbaedd767c6340f682ae5caf2c065e57be24a9d96a5d52f4bc1287bb"), looks := false }, kinds := [], alts := [], laidByText := true, laidKinds := [.data], laidTests := true, laidLooks := .later }
def AnswerWindowsCardSaid : Prop := Claim7.holds Tryz.pinned (.plain (OpenSpec.ofChange answerWindowsSpec)) answerWindowsCard

/-- THE SECOND FORM's CARD OF 'cohesionlaw44.AlertRings'. -/
def alertRingsUptoCard : Claim7 := { stood := { row := alertRingsUptoRow, standIns := [], harness := (true, "467fa26bfbaedd767c6340f682ae5caf2c065e57be24a9d96a5d52f4bc1287bb"), looks := false }, kinds := [], alts := [], laidByText := true, laidKinds := [.data], laidTests := true, laidLooks := .later }
def AlertRingsUptoCardSaid : Prop := Claim7.holds Tryz.pinned (.plain (OpenSpec.upto alertRingsSpec)) alertRingsUptoCard

/-- THE SECOND FORM's CARD OF 'cohesionlaw44.AlertQuiet'. -/
def alertQuietUptoCard : Claim7 := { stood := { row := alertQuietUptoRow, standIns := [], harness := (true, "467fa26bfbaedd767c6340f682ae5caf2c065e57be24a9d96a5d52f4bc1287bb"), looks := false }, kinds := [], alts := [], laidByText := true, laidKinds := [.data], laidTests := true, laidLooks := .later }
def AlertQuietUptoCardSaid : Prop := Claim7.holds Tryz.pinned (.plain (OpenSpec.upto alertQuietSpec)) alertQuietUptoCard

/-- THE SECOND FORM's CARD OF 'cohesionlaw44.AlertLevels'. -/
def alertLevelsUptoCard : Claim7 := { stood := { row := alertLevelsUptoRow, standIns := [], harness := (true, "467fa26bfbaedd767c6340f682ae5caf2c065e57be24a9d96a5d52f4bc1287bb"), looks := false }, kinds := [], alts := [], laidByText := true, laidKinds := [.data], laidTests := true, laidLooks := .later }
def AlertLevelsUptoCardSaid : Prop := Claim7.holds Tryz.pinned (.plain (OpenSpec.upto alertLevelsSpec)) alertLevelsUptoCard

/-- THE SECOND FORM's CARD OF 'cohesionlaw44.AlertAnswers'. -/
def alertAnswersUptoCard : Claim7 := { stood := { row := alertAnswersUptoRow, standIns := [], harness := (true, "467fa26bfbaedd767c6340f682ae5caf2c065e57be24a9d96a5d52f4bc1287bb"), looks := false }, kinds := [], alts := [], laidByText := true, laidKinds := [.data], laidTests := true, laidLooks := .later }
def AlertAnswersUptoCardSaid : Prop := Claim7.holds Tryz.pinned (.plain (OpenSpec.upto alertAnswersSpec)) alertAnswersUptoCard

/-- THE SECOND FORM's CARD OF 'cohesionlaw44.AlertStates'. -/
def alertStatesUptoCard : Claim7 := { stood := { row := alertStatesUptoRow, standIns := [], harness := (true, "467fa26bfbaedd767c6340f682ae5caf2c065e57be24a9d96a5d52f4bc1287bb"), looks := false }, kinds := [], alts := [], laidByText := true, laidKinds := [.data], laidTests := true, laidLooks := .later }
def AlertStatesUptoCardSaid : Prop := Claim7.holds Tryz.pinned (.plain (OpenSpec.upto alertStatesSpec)) alertStatesUptoCard

/-- THE SECOND FORM's CARD OF 'cohesionlaw43.AnswerAnswers'. -/
def answerAnswersUptoCard : Claim7 := { stood := { row := answerAnswersUptoRow, standIns := [], harness := (true, "467fa26bfbaedd767c6340f682ae5caf2c065e57be24a9d96a5d52f4bc1287bb"), looks := false }, kinds := [], alts := [], laidByText := true, laidKinds := [.data], laidTests := true, laidLooks := .later }
def AnswerAnswersUptoCardSaid : Prop := Claim7.holds Tryz.pinned (.plain (OpenSpec.upto answerAnswersSpec)) answerAnswersUptoCard

/-- THE SECOND FORM's CARD OF 'cohesionlaw43.AnswerProves'. -/
def answerProvesUptoCard : Claim7 := { stood := { row := answerProvesUptoRow, standIns := [], harness := (true, "467fa26bfbaedd767c6340f682ae5caf2c065e57be24a9d96a5d52f4bc1287bb"), looks := false }, kinds := [], alts := [], laidByText := true, laidKinds := [.data], laidTests := true, laidLooks := .later }
def AnswerProvesUptoCardSaid : Prop := Claim7.holds Tryz.pinned (.plain (OpenSpec.upto answerProvesSpec)) answerProvesUptoCard

/-- THE SECOND FORM's CARD OF 'cohesionlaw43.AnswerFirst'. -/
def answerFirstUptoCard : Claim7 := { stood := { row := answerFirstUptoRow, standIns := [], harness := (true, "467fa26bfbaedd767c6340f682ae5caf2c065e57be24a9d96a5d52f4bc1287bb"), looks := false }, kinds := [], alts := [], laidByText := true, laidKinds := [.data], laidTests := true, laidLooks := .later }
def AnswerFirstUptoCardSaid : Prop := Claim7.holds Tryz.pinned (.plain (OpenSpec.upto answerFirstSpec)) answerFirstUptoCard

/-- THE SECOND FORM's CARD OF 'cohesionlaw43.AnswerTimes'. -/
def answerTimesUptoCard : Claim7 := { stood := { row := answerTimesUptoRow, standIns := [], harness := (true, "467fa26bfbaedd767c6340f682ae5caf2c065e57be24a9d96a5d52f4bc1287bb"), looks := false }, kinds := [], alts := [], laidByText := true, laidKinds := [.data], laidTests := true, laidLooks := .later }
def AnswerTimesUptoCardSaid : Prop := Claim7.holds Tryz.pinned (.plain (OpenSpec.upto answerTimesSpec)) answerTimesUptoCard

/-- THE SECOND FORM's CARD OF 'cohesionlaw43.AnswerHistory'. -/
def answerHistoryUptoCard : Claim7 := { stood := { row := answerHistoryUptoRow, standIns := [], harness := (true, "467fa26bfbaedd767c6340f682ae5caf2c065e57be24a9d96a5d52f4bc1287bb"), looks := false }, kinds := [], alts := [], laidByText := true, laidKinds := [.data], laidTests := true, laidLooks := .later }
def AnswerHistoryUptoCardSaid : Prop := Claim7.holds Tryz.pinned (.plain (OpenSpec.upto answerHistorySpec)) answerHistoryUptoCard

/-- THE SECOND FORM's CARD OF 'cohesionlaw43.AnswerAgrees'. -/
def answerAgreesUptoCard : Claim7 := { stood := { row := answerAgreesUptoRow, standIns := [], harness := (true, "467fa26bfbaedd767c6340f682ae5caf2c065e57be24a9d96a5d52f4bc1287bb"), looks := false }, kinds := [], alts := [], laidByText := true, laidKinds := [.data], laidTests := true, laidLooks := .later }
def AnswerAgreesUptoCardSaid : Prop := Claim7.holds Tryz.pinned (.plain (OpenSpec.upto answerAgreesSpec)) answerAgreesUptoCard

/-- THE SECOND FORM's CARD OF 'cohesionlaw43.AnswerTogether'. -/
def answerTogetherUptoCard : Claim7 := { stood := { row := answerTogetherUptoRow, standIns := [], harness := (true, "467fa26bfbaedd767c6340f682ae5caf2c065e57be24a9d96a5d52f4bc1287bb"), looks := false }, kinds := [], alts := [], laidByText := true, laidKinds := [.data], laidTests := true, laidLooks := .later }
def AnswerTogetherUptoCardSaid : Prop := Claim7.holds Tryz.pinned (.plain (OpenSpec.upto answerTogetherSpec)) answerTogetherUptoCard

/-- THE SECOND FORM's CARD OF 'cohesionlaw43.AnswerWindows'. -/
def answerWindowsUptoCard : Claim7 := { stood := { row := answerWindowsUptoRow, standIns := [], harness := (true, "467fa26bfbaedd767c6340f682ae5caf2c065e57be24a9d96a5d52f4bc1287bb"), looks := false }, kinds := [], alts := [], laidByText := true, laidKinds := [.data], laidTests := true, laidLooks := .later }
def AnswerWindowsUptoCardSaid : Prop := Claim7.holds Tryz.pinned (.plain (OpenSpec.upto answerWindowsSpec)) answerWindowsUptoCard
end Rows
end Go.Proofs.YtfkcohmipjhfcaaGreatDoor
