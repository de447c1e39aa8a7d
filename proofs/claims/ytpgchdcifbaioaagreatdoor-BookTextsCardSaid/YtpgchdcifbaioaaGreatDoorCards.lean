/-
  DERIVED. GIVEN WITH THE SEED: THE CARDS: each row of YtpgchdcifbaioaaGreatDoorRows.lean that lists a variable, with what it lists TIED to the program's text (the seventh form; the later family's looks); each row that meets fmt, with fmt's text TOLD by the authors' own Lean function (tested against real Go, not proved from fmt's source: count such statements apart). THE CARD IS WHAT COUNTS. Prove the row's statement (the work); the ties are given (YtpgchdcifbaioaaGreatDoorTie.lean); close each card by the builder's one call (the guide's Derived/Test/ToyasCard.lean, 'card_holds'). Laid BY PROGRAM, IN A SANDBOX (cutbox-door.mjs). By AI agents, Wed Nov 11 2026. No macro, syntax, notation, axiom, sorry.
-/
import Derived.Test.YtpgchdcifbaioaaGreatDoorRows
import GoSem.ClaimSeven
namespace Go.Proofs.YtpgchdcifbaioaaGreatDoor
namespace Rows

/-- THE TIED CARD OF 'tactuslaw39.BookTexts'. -/
def bookTextsCard : Claim7 := { stood := { row := bookTextsRow, standIns := [], harness := (true, "b7230351e5ca396e5e73d488d92171909c85ce70ae1fd5dc646ec0fceec62e46"), looks := false }, kinds := [], alts := [], laidByText := true, laidKinds := [.data, .data, .data, .data, .data, .pinned], laidTests := true, laidLooks := .later }
def BookTextsCardSaid : Prop := Claim7.holds Tryz.pinned (.plain (OpenSpec.ofChange bookTextsSpec)) bookTextsCard

/-- THE SECOND FORM's CARD OF 'tactuslaw39.BookTexts'. -/
def bookTextsUptoCard : Claim7 := { stood := { row := bookTextsUptoRow, standIns := [], harness := (true, "b7230351e5ca396e5e73d488d92171909c85ce70ae1fd5dc646ec0fceec62e46"), looks := false }, kinds := [], alts := [], laidByText := true, laidKinds := [.data, .data, .data, .data, .data, .pinned], laidTests := true, laidLooks := .later }
def BookTextsUptoCardSaid : Prop := Claim7.holds Tryz.pinned (.plain (OpenSpec.upto bookTextsSpec)) bookTextsUptoCard
end Rows
end Go.Proofs.YtpgchdcifbaioaaGreatDoor
