/-
  DERIVED. GIVEN WITH THE SEED: THE CARDS: each row of YtnhamonadkmgeaaGreatDoorRows.lean that lists a variable, with what it lists TIED to the program's text (the seventh form; the later family's looks); each row that meets fmt, with fmt's text TOLD by the authors' own Lean function (tested against real Go, not proved from fmt's source: count such statements apart). THE CARD IS WHAT COUNTS. Prove the row's statement (the work); the ties are given (YtnhamonadkmgeaaGreatDoorTie.lean); close each card by the builder's one call (the guide's Derived/Test/ToyasCard.lean, 'card_holds'). Laid BY PROGRAM, IN A SANDBOX (cutbox-door.mjs). By AI agents, Wed Nov 11 2026. No macro, syntax, notation, axiom, sorry.
-/
import Derived.Test.YtnhamonadkmgeaaGreatDoorRows
import GoSem.ClaimSeven
namespace Go.Proofs.YtnhamonadkmgeaaGreatDoor
namespace Rows

/-- THE TIED CARD OF 'tactuslaw41.ChoirKnown'. -/
def choirKnownCard : Claim7 := { stood := { row := choirKnownRow, standIns := [], harness := (true, "a575914e665a2f1d3e376e8b68588506b4ae214fe630bc41975f62b6fb519bc1"), looks := true }, kinds := [], alts := [], laidByText := true, laidKinds := [.data, .data, .data], laidTests := true, laidLooks := .later }
def ChoirKnownCardSaid : Prop := Claim7.holds Tryz.pinned (.plain (OpenSpec.ofChange choirKnownSpec)) choirKnownCard

/-- THE TIED CARD OF 'tactuslaw41.ChoirNone'. -/
def choirNoneCard : Claim7 := { stood := { row := choirNoneRow, standIns := [], harness := (true, "a575914e665a2f1d3e376e8b68588506b4ae214fe630bc41975f62b6fb519bc1"), looks := true }, kinds := [], alts := [], laidByText := true, laidKinds := [.data, .data, .data], laidTests := true, laidLooks := .later }
def ChoirNoneCardSaid : Prop := Claim7.holds Tryz.pinned (.plain (OpenSpec.ofChange choirNoneSpec)) choirNoneCard

/-- THE SECOND FORM's CARD OF 'tactuslaw41.ChoirKnown'. -/
def choirKnownUptoCard : Claim7 := { stood := { row := choirKnownUptoRow, standIns := [], harness := (true, "a575914e665a2f1d3e376e8b68588506b4ae214fe630bc41975f62b6fb519bc1"), looks := true }, kinds := [], alts := [], laidByText := true, laidKinds := [.data, .data, .data], laidTests := true, laidLooks := .later }
def ChoirKnownUptoCardSaid : Prop := Claim7.holds Tryz.pinned (.plain (OpenSpec.upto choirKnownSpec)) choirKnownUptoCard

/-- THE SECOND FORM's CARD OF 'tactuslaw41.ChoirNone'. -/
def choirNoneUptoCard : Claim7 := { stood := { row := choirNoneUptoRow, standIns := [], harness := (true, "a575914e665a2f1d3e376e8b68588506b4ae214fe630bc41975f62b6fb519bc1"), looks := true }, kinds := [], alts := [], laidByText := true, laidKinds := [.data, .data, .data], laidTests := true, laidLooks := .later }
def ChoirNoneUptoCardSaid : Prop := Claim7.holds Tryz.pinned (.plain (OpenSpec.upto choirNoneSpec)) choirNoneUptoCard
end Rows
end Go.Proofs.YtnhamonadkmgeaaGreatDoor
