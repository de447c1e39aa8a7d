/-
  DERIVED. GIVEN WITH THE SEED: THE CARDS: each row of YtofmpipjklcjhaaDoorRows.lean that lists a variable, with what it lists TIED to the program's text (the seventh form; the later family's looks); each row that meets fmt, with fmt's text TOLD by the authors' own Lean function (tested against real Go, not proved from fmt's source: count such statements apart). THE CARD IS WHAT COUNTS. Prove the row's statement (the work); the ties are given (YtofmpipjklcjhaaDoorTie.lean); close each card by the builder's one call (the guide's Derived/Test/ToyasCard.lean, 'card_holds'). Laid BY PROGRAM, IN A SANDBOX (cutbox-door.mjs). By AI agents, Wed Nov 11 2026. No macro, syntax, notation, axiom, sorry.
-/
import Derived.Test.YtofmpipjklcjhaaDoorRows
import GoSem.ClaimSeven
namespace Go.Proofs.YtofmpipjklcjhaaDoor
namespace Rows

/-- THE TIED CARD OF 'tactuslaw02.WordsRows'. -/
def wordsRowsCard : Claim7 := { stood := { row := wordsRowsRow, standIns := [], harness := (true, "83e3f30c4321f5d0a460802efa64ec32b19e45c10f2990e498f57705c0b939fe"), looks := false }, kinds := [], alts := [], laidByText := true, laidKinds := [.data, .pinned], laidTests := true, laidLooks := .later }
def WordsRowsCardSaid : Prop := Claim7.holds Tryd.pinned (.plain (OpenSpec.ofChange wordsRowsSpec)) wordsRowsCard

/-- THE TIED CARD OF 'tactuslaw02.WordsTexts'. -/
def wordsTextsCard : Claim7 := { stood := { row := wordsTextsRow, standIns := [], harness := (true, "83e3f30c4321f5d0a460802efa64ec32b19e45c10f2990e498f57705c0b939fe"), looks := false }, kinds := [], alts := [], laidByText := true, laidKinds := [.data, .pinned], laidTests := true, laidLooks := .later }
def WordsTextsCardSaid : Prop := Claim7.holds Tryd.pinned (.plain (OpenSpec.ofChange wordsTextsSpec)) wordsTextsCard

/-- THE TIED CARD OF 'tactuslaw02.WordsBack'. -/
def wordsBackCard : Claim7 := { stood := { row := wordsBackRow, standIns := [], harness := (true, "83e3f30c4321f5d0a460802efa64ec32b19e45c10f2990e498f57705c0b939fe"), looks := false }, kinds := [], alts := [], laidByText := true, laidKinds := [.data, .pinned], laidTests := true, laidLooks := .later }
def WordsBackCardSaid : Prop := Claim7.holds Tryd.pinned (.plain (OpenSpec.ofChange wordsBackSpec)) wordsBackCard

/-- THE TIED CARD OF 'tactuslaw02.WordsLoose'. -/
def wordsLooseCard : Claim7 := { stood := { row := wordsLooseRow, standIns := [], harness := (true, "83e3f30c4321f5d0a460802efa64ec32b19e45c10f2990e498f57705c0b939fe"), looks := false }, kinds := [], alts := [], laidByText := true, laidKinds := [.data, .pinned], laidTests := true, laidLooks := .later }
def WordsLooseCardSaid : Prop := Claim7.holds Tryd.pinned (.plain (OpenSpec.ofChange wordsLooseSpec)) wordsLooseCard

/-- THE SECOND FORM's CARD OF 'tactuslaw02.WordsRows'. -/
def wordsRowsUptoCard : Claim7 := { stood := { row := wordsRowsUptoRow, standIns := [], harness := (true, "83e3f30c4321f5d0a460802efa64ec32b19e45c10f2990e498f57705c0b939fe"), looks := false }, kinds := [], alts := [], laidByText := true, laidKinds := [.data, .pinned], laidTests := true, laidLooks := .later }
def WordsRowsUptoCardSaid : Prop := Claim7.holds Tryd.pinned (.plain (OpenSpec.upto wordsRowsSpec)) wordsRowsUptoCard

/-- THE SECOND FORM's CARD OF 'tactuslaw02.WordsTexts'. -/
def wordsTextsUptoCard : Claim7 := { stood := { row := wordsTextsUptoRow, standIns := [], harness := (true, "83e3f30c4321f5d0a460802efa64ec32b19e45c10f2990e498f57705c0b939fe"), looks := false }, kinds := [], alts := [], laidByText := true, laidKinds := [.data, .pinned], laidTests := true, laidLooks := .later }
def WordsTextsUptoCardSaid : Prop := Claim7.holds Tryd.pinned (.plain (OpenSpec.upto wordsTextsSpec)) wordsTextsUptoCard

/-- THE SECOND FORM's CARD OF 'tactuslaw02.WordsBack'. -/
def wordsBackUptoCard : Claim7 := { stood := { row := wordsBackUptoRow, standIns := [], harness := (true, "83e3f30c4321f5d0a460802efa64ec32b19e45c10f2990e498f57705c0b939fe"), looks := false }, kinds := [], alts := [], laidByText := true, laidKinds := [.data, .pinned], laidTests := true, laidLooks := .later }
def WordsBackUptoCardSaid : Prop := Claim7.holds Tryd.pinned (.plain (OpenSpec.upto wordsBackSpec)) wordsBackUptoCard

/-- THE SECOND FORM's CARD OF 'tactuslaw02.WordsLoose'. -/
def wordsLooseUptoCard : Claim7 := { stood := { row := wordsLooseUptoRow, standIns := [], harness := (true, "83e3f30c4321f5d0a460802efa64ec32b19e45c10f2990e498f57705c0b939fe"), looks := false }, kinds := [], alts := [], laidByText := true, laidKinds := [.data, .pinned], laidTests := true, laidLooks := .later }
def WordsLooseUptoCardSaid : Prop := Claim7.holds Tryd.pinned (.plain (OpenSpec.upto wordsLooseSpec)) wordsLooseUptoCard
end Rows
end Go.Proofs.YtofmpipjklcjhaaDoor
