/-
  DERIVED. GIVEN WITH THE SEED: THE CARDS: each row of YtpofmogdhigakaaGreatDoorRows.lean that lists a variable, with what it lists TIED to the program's text (the seventh form; the later family's looks); each row that meets fmt, with fmt's text TOLD by the authors' own Lean function (tested against real Go, not proved from fmt's source: count such statements apart). THE CARD IS WHAT COUNTS. Prove the row's statement (the work); the ties are given (YtpofmogdhigakaaGreatDoorTie.lean); close each card by the builder's one call (the guide's Derived/Test/ToyasCard.lean, 'card_holds'). Laid BY PROGRAM, IN A SANDBOX (cutbox-door.mjs). By AI agents, Wed Nov 11 2026. No macro, syntax, notation, axiom, sorry.
-/
import Derived.Test.YtpofmogdhigakaaGreatDoorRows
import GoSem.ClaimSeven
namespace Go.Proofs.YtpofmogdhigakaaGreatDoor
namespace Rows

/-- THE TIED CARD OF 'tactuslaw19.SolveTimes'. -/
def solveTimesCard : Claim7 := { stood := { row := solveTimesRow, standIns := [], harness := (true, "1f821ec9cfc5a9334685fe8f4a283bb92e6989eb9243804c40101a690ba3459a"), looks := true }, kinds := [], alts := [], laidByText := true, laidKinds := [.data, .data, .data], laidTests := true, laidLooks := .later }
def SolveTimesCardSaid : Prop := Claim7.holds Tryz.pinned (.plain (OpenSpec.ofChange solveTimesSpec)) solveTimesCard

/-- THE SECOND FORM's CARD OF 'tactuslaw19.SolveTimes'. -/
def solveTimesUptoCard : Claim7 := { stood := { row := solveTimesUptoRow, standIns := [], harness := (true, "1f821ec9cfc5a9334685fe8f4a283bb92e6989eb9243804c40101a690ba3459a"), looks := true }, kinds := [], alts := [], laidByText := true, laidKinds := [.data, .data, .data], laidTests := true, laidLooks := .later }
def SolveTimesUptoCardSaid : Prop := Claim7.holds Tryz.pinned (.plain (OpenSpec.upto solveTimesSpec)) solveTimesUptoCard
end Rows
end Go.Proofs.YtpofmogdhigakaaGreatDoor
