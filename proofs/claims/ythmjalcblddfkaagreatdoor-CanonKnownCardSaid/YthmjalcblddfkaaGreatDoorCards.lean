/-
  DERIVED. GIVEN WITH THE SEED: THE CARDS: each row of YthmjalcblddfkaaGreatDoorRows.lean that lists a variable, with what it lists TIED to the program's text (the seventh form; the later family's looks); each row that meets fmt, with fmt's text TOLD by the authors' own Lean function (tested against real Go, not proved from fmt's source: count such statements apart). THE CARD IS WHAT COUNTS. Prove the row's statement (the work); the ties are given (YthmjalcblddfkaaGreatDoorTie.lean); close each card by the builder's one call (the guide's Derived/Test/ToyasCard.lean, 'card_holds'). Laid BY PROGRAM, IN A SANDBOX (cutbox-door.mjs). By AI agents, Wed Nov 11 2026. No macro, syntax, notation, axiom, sorry.
-/
import Derived.Test.YthmjalcblddfkaaGreatDoorRows
import GoSem.ClaimSeven
namespace Go.Proofs.YthmjalcblddfkaaGreatDoor
namespace Rows

/-- THE TIED CARD OF 'tactuslaw26.CanonKnown'. -/
def canonKnownCard : Claim7 := { stood := { row := canonKnownRow, standIns := [], harness := (true, "c666da612bdb3ad4c983b34fd460f2aa417fb4035aff8dad290cb011fca7d867"), looks := true }, kinds := [], alts := [], laidByText := true, laidKinds := [.data, .data, .data, .data], laidTests := true, laidLooks := .later }
def CanonKnownCardSaid : Prop := Claim7.holds Tryz.pinned (.plain (OpenSpec.ofChange canonKnownSpec)) canonKnownCard

/-- THE SECOND FORM's CARD OF 'tactuslaw26.CanonKnown'. -/
def canonKnownUptoCard : Claim7 := { stood := { row := canonKnownUptoRow, standIns := [], harness := (true, "c666da612bdb3ad4c983b34fd460f2aa417fb4035aff8dad290cb011fca7d867"), looks := true }, kinds := [], alts := [], laidByText := true, laidKinds := [.data, .data, .data, .data], laidTests := true, laidLooks := .later }
def CanonKnownUptoCardSaid : Prop := Claim7.holds Tryz.pinned (.plain (OpenSpec.upto canonKnownSpec)) canonKnownUptoCard
end Rows
end Go.Proofs.YthmjalcblddfkaaGreatDoor
