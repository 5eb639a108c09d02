/-
  DERIVED. GIVEN WITH THE SEED: THE CARDS: each row of YtbnaknakgbbadaaGreatDoorRows.lean that lists a variable, with what it lists TIED to the program's text (the seventh form; the later family's looks); each row that meets fmt, with fmt's text TOLD by the authors' own Lean function (tested against real Go, not proved from fmt's source: count such statements apart). THE CARD IS WHAT COUNTS. Prove the row's statement (the work); the ties are given (YtbnaknakgbbadaaGreatDoorTie.lean); close each card by the builder's one call (the guide's Derived/Test/ToyasCard.lean, 'card_holds'). Laid BY PROGRAM, IN A SANDBOX (cutbox-door.mjs). By AI agents, Wed Nov 11 2026. No macro, syntax, notation, axiom, sorry.
-/
import Derived.Test.YtbnaknakgbbadaaGreatDoorRows
import GoSem.ClaimSeven
namespace Go.Proofs.YtbnaknakgbbadaaGreatDoor
namespace Rows

/-- THE TIED CARD OF 'grapnellaw14.SurveySorts'. -/
def surveySortsCard : Claim7 := { stood := { row := surveySortsRow, standIns := [], harness := (true, "9d6ffce0ef731b9499a04309972c7f3e1a68e809867dc5f7680ed8db4f1e8d5d"), looks := true }, kinds := [], alts := [], laidByText := true, laidKinds := [.data, .handle, .pinned], laidTests := true, laidLooks := .later }
def SurveySortsCardSaid : Prop := Claim7.holds Tryz.pinned (.plain (OpenSpec.ofChange surveySortsSpec)) surveySortsCard

/-- THE TIED CARD OF 'grapnellaw14.SurveyOvers'. -/
def surveyOversCard : Claim7 := { stood := { row := surveyOversRow, standIns := [], harness := (true, "9d6ffce0ef731b9499a04309972c7f3e1a68e809867dc5f7680ed8db4f1e8d5d"), looks := true }, kinds := [], alts := [], laidByText := true, laidKinds := [.data, .handle, .pinned], laidTests := true, laidLooks := .later }
def SurveyOversCardSaid : Prop := Claim7.holds Tryz.pinned (.plain (OpenSpec.ofChange surveyOversSpec)) surveyOversCard

/-- THE TIED CARD OF 'grapnellaw14.SurveyNobody'. -/
def surveyNobodyCard : Claim7 := { stood := { row := surveyNobodyRow, standIns := [], harness := (true, "9d6ffce0ef731b9499a04309972c7f3e1a68e809867dc5f7680ed8db4f1e8d5d"), looks := true }, kinds := [], alts := [], laidByText := true, laidKinds := [.data, .handle, .pinned], laidTests := true, laidLooks := .later }
def SurveyNobodyCardSaid : Prop := Claim7.holds Tryz.pinned (.plain (OpenSpec.ofChange surveyNobodySpec)) surveyNobodyCard

/-- THE SECOND FORM's CARD OF 'grapnellaw14.SurveySorts'. -/
def surveySortsUptoCard : Claim7 := { stood := { row := surveySortsUptoRow, standIns := [], harness := (true, "9d6ffce0ef731b9499a04309972c7f3e1a68e809867dc5f7680ed8db4f1e8d5d"), looks := true }, kinds := [], alts := [], laidByText := true, laidKinds := [.data, .handle, .pinned], laidTests := true, laidLooks := .later }
def SurveySortsUptoCardSaid : Prop := Claim7.holds Tryz.pinned (.plain (OpenSpec.upto surveySortsSpec)) surveySortsUptoCard

/-- THE SECOND FORM's CARD OF 'grapnellaw14.SurveyOvers'. -/
def surveyOversUptoCard : Claim7 := { stood := { row := surveyOversUptoRow, standIns := [], harness := (true, "9d6ffce0ef731b9499a04309972c7f3e1a68e809867dc5f7680ed8db4f1e8d5d"), looks := true }, kinds := [], alts := [], laidByText := true, laidKinds := [.data, .handle, .pinned], laidTests := true, laidLooks := .later }
def SurveyOversUptoCardSaid : Prop := Claim7.holds Tryz.pinned (.plain (OpenSpec.upto surveyOversSpec)) surveyOversUptoCard

/-- THE SECOND FORM's CARD OF 'grapnellaw14.SurveyNobody'. -/
def surveyNobodyUptoCard : Claim7 := { stood := { row := surveyNobodyUptoRow, standIns := [], harness := (true, "9d6ffce0ef731b9499a04309972c7f3e1a68e809867dc5f7680ed8db4f1e8d5d"), looks := true }, kinds := [], alts := [], laidByText := true, laidKinds := [.data, .handle, .pinned], laidTests := true, laidLooks := .later }
def SurveyNobodyUptoCardSaid : Prop := Claim7.holds Tryz.pinned (.plain (OpenSpec.upto surveyNobodySpec)) surveyNobodyUptoCard
end Rows
end Go.Proofs.YtbnaknakgbbadaaGreatDoor
