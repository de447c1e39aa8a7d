/-
  DERIVED. GIVEN WITH THE SEED: THE CARDS: each row of YtfejmlnkochjfaaGreatDoorRows.lean that lists a variable, with what it lists TIED to the program's text (the seventh form; the later family's looks); each row that meets fmt, with fmt's text TOLD by the authors' own Lean function (tested against real Go, not proved from fmt's source: count such statements apart). THE CARD IS WHAT COUNTS. Prove the row's statement (the work); the ties are given (YtfejmlnkochjfaaGreatDoorTie.lean); close each card by the builder's one call (the guide's Derived/Test/ToyasCard.lean, 'card_holds'). Laid BY PROGRAM, IN A SANDBOX (cutbox-door.mjs). By AI agents, Wed Nov 11 2026. No macro, syntax, notation, axiom, sorry.
-/
import Derived.Test.YtfejmlnkochjfaaGreatDoorRows
import GoSem.ClaimSeven
namespace Go.Proofs.YtfejmlnkochjfaaGreatDoor
namespace Rows

/-- THE TIED CARD OF 'tactuslaw10.NotateKnown'. -/
def notateKnownCard : Claim7 := { stood := { row := notateKnownRow, standIns := [], harness := (true, "840a6306cd7cefaf6039d7259f028f5b6c6bf3da7c4075596fe5a6488af1a979"), looks := false }, kinds := [], alts := [], laidByText := true, laidKinds := [.data, .data, .data, .data, .data, .pinned], laidTests := true, laidLooks := .later }
def NotateKnownCardSaid : Prop := Claim7.holds Tryz.pinned (.plain (OpenSpec.ofChange notateKnownSpec)) notateKnownCard

/-- THE SECOND FORM's CARD OF 'tactuslaw10.NotateKnown'. -/
def notateKnownUptoCard : Claim7 := { stood := { row := notateKnownUptoRow, standIns := [], harness := (true, "840a6306cd7cefaf6039d7259f028f5b6c6bf3da7c4075596fe5a6488af1a979"), looks := false }, kinds := [], alts := [], laidByText := true, laidKinds := [.data, .data, .data, .data, .data, .pinned], laidTests := true, laidLooks := .later }
def NotateKnownUptoCardSaid : Prop := Claim7.holds Tryz.pinned (.plain (OpenSpec.upto notateKnownSpec)) notateKnownUptoCard
end Rows
end Go.Proofs.YtfejmlnkochjfaaGreatDoor
