/-
  DERIVED. GIVEN WITH THE SEED: THE CARDS: each row of YtcnoipglgpkpeaaGreatDoorRows.lean that lists a variable, with what it lists TIED to the program's text (the seventh form; the later family's looks); each row that meets fmt, with fmt's text TOLD by the authors' own Lean function (tested against real Go, not proved from fmt's source: count such statements apart). THE CARD IS WHAT COUNTS. Prove the row's statement (the work); the ties are given (YtcnoipglgpkpeaaGreatDoorTie.lean); close each card by the builder's one call (the guide's Derived/Test/ToyasCard.lean, 'card_holds'). Laid BY PROGRAM, IN A SANDBOX (cutbox-door.mjs). By AI agents, Wed Nov 11 2026. No macro, syntax, notation, axiom, sorry.
-/
import Derived.Test.YtcnoipglgpkpeaaGreatDoorRows
import GoSem.ClaimSeven
namespace Go.Proofs.YtcnoipglgpkpeaaGreatDoor
namespace Rows

/-- THE TIED CARD OF 'tactuslaw26.CanonTwice'. -/
def canonTwiceCard : Claim7 := { stood := { row := canonTwiceRow, standIns := [], harness := (true, "ded4dd07bddd6261575ccfc9b2b8fb3f8417852cfee77158f270f43821fea96d"), looks := true }, kinds := [], alts := [], laidByText := true, laidKinds := [.data, .data, .data], laidTests := true, laidLooks := .later }
def CanonTwiceCardSaid : Prop := Claim7.holds Tryz.pinned (.plain (OpenSpec.ofChange canonTwiceSpec)) canonTwiceCard

/-- THE TIED CARD OF 'tactuslaw26.CanonMakes'. -/
def canonMakesCard : Claim7 := { stood := { row := canonMakesRow, standIns := [], harness := (true, "ded4dd07bddd6261575ccfc9b2b8fb3f8417852cfee77158f270f43821fea96d"), looks := true }, kinds := [], alts := [], laidByText := true, laidKinds := [.data, .data, .data, .data], laidTests := true, laidLooks := .later }
def CanonMakesCardSaid : Prop := Claim7.holds Tryz.pinned (.plain (OpenSpec.ofChange canonMakesSpec)) canonMakesCard

/-- THE TIED CARD OF 'tactuslaw26.CanonMatches'. -/
def canonMatchesCard : Claim7 := { stood := { row := canonMatchesRow, standIns := [], harness := (true, "ded4dd07bddd6261575ccfc9b2b8fb3f8417852cfee77158f270f43821fea96d"), looks := true }, kinds := [], alts := [], laidByText := true, laidKinds := [.data, .data, .data, .data], laidTests := true, laidLooks := .later }
def CanonMatchesCardSaid : Prop := Claim7.holds Tryz.pinned (.plain (OpenSpec.ofChange canonMatchesSpec)) canonMatchesCard

/-- THE SECOND FORM's CARD OF 'tactuslaw26.CanonTwice'. -/
def canonTwiceUptoCard : Claim7 := { stood := { row := canonTwiceUptoRow, standIns := [], harness := (true, "ded4dd07bddd6261575ccfc9b2b8fb3f8417852cfee77158f270f43821fea96d"), looks := true }, kinds := [], alts := [], laidByText := true, laidKinds := [.data, .data, .data], laidTests := true, laidLooks := .later }
def CanonTwiceUptoCardSaid : Prop := Claim7.holds Tryz.pinned (.plain (OpenSpec.upto canonTwiceSpec)) canonTwiceUptoCard

/-- THE SECOND FORM's CARD OF 'tactuslaw26.CanonMakes'. -/
def canonMakesUptoCard : Claim7 := { stood := { row := canonMakesUptoRow, standIns := [], harness := (true, "ded4dd07bddd6261575ccfc9b2b8fb3f8417852cfee77158f270f43821fea96d"), looks := true }, kinds := [], alts := [], laidByText := true, laidKinds := [.data, .data, .data, .data], laidTests := true, laidLooks := .later }
def CanonMakesUptoCardSaid : Prop := Claim7.holds Tryz.pinned (.plain (OpenSpec.upto canonMakesSpec)) canonMakesUptoCard

/-- THE SECOND FORM's CARD OF 'tactuslaw26.CanonMatches'. -/
def canonMatchesUptoCard : Claim7 := { stood := { row := canonMatchesUptoRow, standIns := [], harness := (true, "ded4dd07bddd6261575ccfc9b2b8fb3f8417852cfee77158f270f43821fea96d"), looks := true }, kinds := [], alts := [], laidByText := true, laidKinds := [.data, .data, .data, .data], laidTests := true, laidLooks := .later }
def CanonMatchesUptoCardSaid : Prop := Claim7.holds Tryz.pinned (.plain (OpenSpec.upto canonMatchesSpec)) canonMatchesUptoCard
end Rows
end Go.Proofs.YtcnoipglgpkpeaaGreatDoor
