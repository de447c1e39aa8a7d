/-
  DERIVED. GIVEN WITH THE SEED: THE CARDS: each row of YtpdphcekmhajdaaGreatDoorRows.lean that lists a variable, with what it lists TIED to the program's text (the seventh form; the later family's looks); each row that meets fmt, with fmt's text TOLD by the authors' own Lean function (tested against real Go, not proved from fmt's source: count such statements apart). THE CARD IS WHAT COUNTS. Prove the row's statement (the work); the ties are given (YtpdphcekmhajdaaGreatDoorTie.lean); close each card by the builder's one call (the guide's Derived/Test/ToyasCard.lean, 'card_holds'). Laid BY PROGRAM, IN A SANDBOX (cutbox-door.mjs). By AI agents, Wed Nov 11 2026. No macro, syntax, notation, axiom, sorry.
-/
import Derived.Test.YtpdphcekmhajdaaGreatDoorRows
import GoSem.ClaimSeven
namespace Go.Proofs.YtpdphcekmhajdaaGreatDoor
namespace Rows

/-- THE TIED CARD OF 'tactuslaw39.BookRound'. -/
def bookRoundCard : Claim7 := { stood := { row := bookRoundRow, standIns := [], harness := (true, "199fc164f0a617688dd4a0302f2ec0e80c922184539cf02375efe462543f9d9d"), looks := false }, kinds := [], alts := [], laidByText := true, laidKinds := [.data, .data, .data, .data, .data, .pinned], laidTests := true, laidLooks := .later }
def BookRoundCardSaid : Prop := Claim7.holds Tryz.pinned (.plain (OpenSpec.ofChange bookRoundSpec)) bookRoundCard

/-- THE SECOND FORM's CARD OF 'tactuslaw39.BookRound'. -/
def bookRoundUptoCard : Claim7 := { stood := { row := bookRoundUptoRow, standIns := [], harness := (true, "199fc164f0a617688dd4a0302f2ec0e80c922184539cf02375efe462543f9d9d"), looks := false }, kinds := [], alts := [], laidByText := true, laidKinds := [.data, .data, .data, .data, .data, .pinned], laidTests := true, laidLooks := .later }
def BookRoundUptoCardSaid : Prop := Claim7.holds Tryz.pinned (.plain (OpenSpec.upto bookRoundSpec)) bookRoundUptoCard
end Rows
end Go.Proofs.YtpdphcekmhajdaaGreatDoor
