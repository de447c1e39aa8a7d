/-
  DERIVED. GIVEN WITH THE SEED: THE CARDS: each row of YtbopmiclcimjgaaGreatDoorRows.lean that lists a variable, with what it lists TIED to the program's text (the seventh form; the later family's looks); each row that meets fmt, with fmt's text TOLD by the authors' own Lean function (tested against real Go, not proved from fmt's source: count such statements apart). THE CARD IS WHAT COUNTS. Prove the row's statement (the work); the ties are given (YtbopmiclcimjgaaGreatDoorTie.lean); close each card by the builder's one call (the guide's Derived/Test/ToyasCard.lean, 'card_holds'). Laid BY PROGRAM, IN A SANDBOX (cutbox-door.mjs). By AI agents, Wed Nov 11 2026. No macro, syntax, notation, axiom, sorry.
-/
import Derived.Test.YtbopmiclcimjgaaGreatDoorRows
import GoSem.ClaimSeven
namespace Go.Proofs.YtbopmiclcimjgaaGreatDoor
namespace Rows

/-- THE TIED CARD OF 'tactuslaw10.NotateWords'. -/
def notateWordsCard : Claim7 := { stood := { row := notateWordsRow, standIns := [], harness := (true, "fbd97b025ac2911ae4f3aeed05b1afb878a6012eeb9fb7b920e23136aace6ecd"), looks := false }, kinds := [], alts := [], laidByText := true, laidKinds := [.data, .data, .data, .data, .data, .pinned], laidTests := true, laidLooks := .later }
def NotateWordsCardSaid : Prop := Claim7.holds Tryz.pinned (.plain (OpenSpec.ofChange notateWordsSpec)) notateWordsCard

/-- THE TIED CARD OF 'tactuslaw10.NotateTexts'. -/
def notateTextsCard : Claim7 := { stood := { row := notateTextsRow, standIns := [], harness := (true, "fbd97b025ac2911ae4f3aeed05b1afb878a6012eeb9fb7b920e23136aace6ecd"), looks := false }, kinds := [], alts := [], laidByText := true, laidKinds := [.data, .data, .data, .data, .data, .pinned], laidTests := true, laidLooks := .later }
def NotateTextsCardSaid : Prop := Claim7.holds Tryz.pinned (.plain (OpenSpec.ofChange notateTextsSpec)) notateTextsCard

/-- THE TIED CARD OF 'tactuslaw10.NotateParses'. -/
def notateParsesCard : Claim7 := { stood := { row := notateParsesRow, standIns := [], harness := (true, "fbd97b025ac2911ae4f3aeed05b1afb878a6012eeb9fb7b920e23136aace6ecd"), looks := false }, kinds := [], alts := [], laidByText := true, laidKinds := [.data, .data, .data, .data, .data, .pinned], laidTests := true, laidLooks := .later }
def NotateParsesCardSaid : Prop := Claim7.holds Tryz.pinned (.plain (OpenSpec.ofChange notateParsesSpec)) notateParsesCard

/-- THE TIED CARD OF 'tactuslaw10.NotateBack'. -/
def notateBackCard : Claim7 := { stood := { row := notateBackRow, standIns := [], harness := (true, "fbd97b025ac2911ae4f3aeed05b1afb878a6012eeb9fb7b920e23136aace6ecd"), looks := false }, kinds := [], alts := [], laidByText := true, laidKinds := [.data, .data, .data, .data, .data, .pinned], laidTests := true, laidLooks := .later }
def NotateBackCardSaid : Prop := Claim7.holds Tryz.pinned (.plain (OpenSpec.ofChange notateBackSpec)) notateBackCard

/-- THE TIED CARD OF 'tactuslaw10.NotateLoose'. -/
def notateLooseCard : Claim7 := { stood := { row := notateLooseRow, standIns := [], harness := (true, "fbd97b025ac2911ae4f3aeed05b1afb878a6012eeb9fb7b920e23136aace6ecd"), looks := false }, kinds := [], alts := [], laidByText := true, laidKinds := [.data, .data, .data, .data, .data, .pinned], laidTests := true, laidLooks := .later }
def NotateLooseCardSaid : Prop := Claim7.holds Tryz.pinned (.plain (OpenSpec.ofChange notateLooseSpec)) notateLooseCard

/-- THE TIED CARD OF 'tactuslaw10.NotateLetters'. -/
def notateLettersCard : Claim7 := { stood := { row := notateLettersRow, standIns := [], harness := (true, "fbd97b025ac2911ae4f3aeed05b1afb878a6012eeb9fb7b920e23136aace6ecd"), looks := false }, kinds := [], alts := [], laidByText := true, laidKinds := [.data, .data, .data, .data, .data, .pinned], laidTests := true, laidLooks := .later }
def NotateLettersCardSaid : Prop := Claim7.holds Tryz.pinned (.plain (OpenSpec.ofChange notateLettersSpec)) notateLettersCard

/-- THE SECOND FORM's CARD OF 'tactuslaw10.NotateWords'. -/
def notateWordsUptoCard : Claim7 := { stood := { row := notateWordsUptoRow, standIns := [], harness := (true, "fbd97b025ac2911ae4f3aeed05b1afb878a6012eeb9fb7b920e23136aace6ecd"), looks := false }, kinds := [], alts := [], laidByText := true, laidKinds := [.data, .data, .data, .data, .data, .pinned], laidTests := true, laidLooks := .later }
def NotateWordsUptoCardSaid : Prop := Claim7.holds Tryz.pinned (.plain (OpenSpec.upto notateWordsSpec)) notateWordsUptoCard

/-- THE SECOND FORM's CARD OF 'tactuslaw10.NotateTexts'. -/
def notateTextsUptoCard : Claim7 := { stood := { row := notateTextsUptoRow, standIns := [], harness := (true, "fbd97b025ac2911ae4f3aeed05b1afb878a6012eeb9fb7b920e23136aace6ecd"), looks := false }, kinds := [], alts := [], laidByText := true, laidKinds := [.data, .data, .data, .data, .data, .pinned], laidTests := true, laidLooks := .later }
def NotateTextsUptoCardSaid : Prop := Claim7.holds Tryz.pinned (.plain (OpenSpec.upto notateTextsSpec)) notateTextsUptoCard

/-- THE SECOND FORM's CARD OF 'tactuslaw10.NotateParses'. -/
def notateParsesUptoCard : Claim7 := { stood := { row := notateParsesUptoRow, standIns := [], harness := (true, "fbd97b025ac2911ae4f3aeed05b1afb878a6012eeb9fb7b920e23136aace6ecd"), looks := false }, kinds := [], alts := [], laidByText := true, laidKinds := [.data, .data, .data, .data, .data, .pinned], laidTests := true, laidLooks := .later }
def NotateParsesUptoCardSaid : Prop := Claim7.holds Tryz.pinned (.plain (OpenSpec.upto notateParsesSpec)) notateParsesUptoCard

/-- THE SECOND FORM's CARD OF 'tactuslaw10.NotateBack'. -/
def notateBackUptoCard : Claim7 := { stood := { row := notateBackUptoRow, standIns := [], harness := (true, "fbd97b025ac2911ae4f3aeed05b1afb878a6012eeb9fb7b920e23136aace6ecd"), looks := false }, kinds := [], alts := [], laidByText := true, laidKinds := [.data, .data, .data, .data, .data, .pinned], laidTests := true, laidLooks := .later }
def NotateBackUptoCardSaid : Prop := Claim7.holds Tryz.pinned (.plain (OpenSpec.upto notateBackSpec)) notateBackUptoCard

/-- THE SECOND FORM's CARD OF 'tactuslaw10.NotateLoose'. -/
def notateLooseUptoCard : Claim7 := { stood := { row := notateLooseUptoRow, standIns := [], harness := (true, "fbd97b025ac2911ae4f3aeed05b1afb878a6012eeb9fb7b920e23136aace6ecd"), looks := false }, kinds := [], alts := [], laidByText := true, laidKinds := [.data, .data, .data, .data, .data, .pinned], laidTests := true, laidLooks := .later }
def NotateLooseUptoCardSaid : Prop := Claim7.holds Tryz.pinned (.plain (OpenSpec.upto notateLooseSpec)) notateLooseUptoCard

/-- THE SECOND FORM's CARD OF 'tactuslaw10.NotateLetters'. -/
def notateLettersUptoCard : Claim7 := { stood := { row := notateLettersUptoRow, standIns := [], harness := (true, "fbd97b025ac2911ae4f3aeed05b1afb878a6012eeb9fb7b920e23136aace6ecd"), looks := false }, kinds := [], alts := [], laidByText := true, laidKinds := [.data, .data, .data, .data, .data, .pinned], laidTests := true, laidLooks := .later }
def NotateLettersUptoCardSaid : Prop := Claim7.holds Tryz.pinned (.plain (OpenSpec.upto notateLettersSpec)) notateLettersUptoCard
end Rows
end Go.Proofs.YtbopmiclcimjgaaGreatDoor
