/-
  DERIVED. GIVEN WITH THE SEED: THE CARDS: each row of YtgfgkindlbpkmaaGreatDoorRows.lean that lists a variable, with what it lists TIED to the program's text (the seventh form; the later family's looks); each row that meets fmt, with fmt's text TOLD by the authors' own Lean function (tested against real Go, not proved from fmt's source: count such statements apart). THE CARD IS WHAT COUNTS. Prove the row's statement (the work); the ties are given (YtgfgkindlbpkmaaGreatDoorTie.lean); close each card by the builder's one call (the guide's Derived/Test/ToyasCard.lean, 'card_holds'). Laid BY PROGRAM, IN A SANDBOX (cutbox-door.mjs). By AI agents, Wed Nov 11 2026. No macro, syntax, notation, axiom, sorry.
-/
import Derived.Test.YtgfgkindlbpkmaaGreatDoorRows
import GoSem.ClaimSeven
namespace Go.Proofs.YtgfgkindlbpkmaaGreatDoor
namespace Rows

/-- THE TIED CARD OF 'tactuslaw40.SingerKnown'. -/
def singerKnownCard : Claim7 := { stood := { row := singerKnownRow, standIns := [], harness := (true, "0f3cad13cd93b66b207264714f7be72562010d0f7a4a80ae02faf5b78268ae28"), looks := true }, kinds := [], alts := [], laidByText := true, laidKinds := [.data, .data, .data], laidTests := true, laidLooks := .later }
def SingerKnownCardSaid : Prop := Claim7.holds Tryz.pinned (.plain (OpenSpec.ofChange singerKnownSpec)) singerKnownCard

/-- THE SECOND FORM's CARD OF 'tactuslaw40.SingerKnown'. -/
def singerKnownUptoCard : Claim7 := { stood := { row := singerKnownUptoRow, standIns := [], harness := (true, "0f3cad13cd93b66b207264714f7be72562010d0f7a4a80ae02faf5b78268ae28"), looks := true }, kinds := [], alts := [], laidByText := true, laidKinds := [.data, .data, .data], laidTests := true, laidLooks := .later }
def SingerKnownUptoCardSaid : Prop := Claim7.holds Tryz.pinned (.plain (OpenSpec.upto singerKnownSpec)) singerKnownUptoCard
end Rows
end Go.Proofs.YtgfgkindlbpkmaaGreatDoor
