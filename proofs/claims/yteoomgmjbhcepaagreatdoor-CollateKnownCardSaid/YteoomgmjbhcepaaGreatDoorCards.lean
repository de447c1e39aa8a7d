/-
  DERIVED. GIVEN WITH THE SEED: THE CARDS: each row of YteoomgmjbhcepaaGreatDoorRows.lean that lists a variable, with what it lists TIED to the program's text (the seventh form; the later family's looks); each row that meets fmt, with fmt's text TOLD by the authors' own Lean function (tested against real Go, not proved from fmt's source: count such statements apart). THE CARD IS WHAT COUNTS. Prove the row's statement (the work); the ties are given (YteoomgmjbhcepaaGreatDoorTie.lean); close each card by the builder's one call (the guide's Derived/Test/ToyasCard.lean, 'card_holds'). Laid BY PROGRAM, IN A SANDBOX (cutbox-door.mjs). By AI agents, Wed Nov 11 2026. No macro, syntax, notation, axiom, sorry.
-/
import Derived.Test.YteoomgmjbhcepaaGreatDoorRows
import GoSem.ClaimSeven
namespace Go.Proofs.YteoomgmjbhcepaaGreatDoor
namespace Rows

/-- THE TIED CARD OF 'tactuslaw42.CollateKnown'. -/
def collateKnownCard : Claim7 := { stood := { row := collateKnownRow, standIns := [], harness := (true, "5dfedb473426fc2bbfe248f627b8c0691acb17d70690318d641d04d030caf173"), looks := true }, kinds := [], alts := [], laidByText := true, laidKinds := [.data, .data, .data], laidTests := true, laidLooks := .later }
def CollateKnownCardSaid : Prop := Claim7.holds Tryz.pinned (.plain (OpenSpec.ofChange collateKnownSpec)) collateKnownCard

/-- THE SECOND FORM's CARD OF 'tactuslaw42.CollateKnown'. -/
def collateKnownUptoCard : Claim7 := { stood := { row := collateKnownUptoRow, standIns := [], harness := (true, "5dfedb473426fc2bbfe248f627b8c0691acb17d70690318d641d04d030caf173"), looks := true }, kinds := [], alts := [], laidByText := true, laidKinds := [.data, .data, .data], laidTests := true, laidLooks := .later }
def CollateKnownUptoCardSaid : Prop := Claim7.holds Tryz.pinned (.plain (OpenSpec.upto collateKnownSpec)) collateKnownUptoCard
end Rows
end Go.Proofs.YteoomgmjbhcepaaGreatDoor
