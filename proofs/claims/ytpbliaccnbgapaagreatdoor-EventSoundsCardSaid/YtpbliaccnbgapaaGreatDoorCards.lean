/-
  DERIVED. GIVEN WITH THE SEED: THE CARDS: each row of YtpbliaccnbgapaaGreatDoorRows.lean that lists a variable, with what it lists TIED to the program's text (the seventh form; the later family's looks); each row that meets fmt, with fmt's text TOLD by the authors' own Lean function (tested against real Go, not proved from fmt's source: count such statements apart). THE CARD IS WHAT COUNTS. Prove the row's statement (the work); the ties are given (YtpbliaccnbgapaaGreatDoorTie.lean); close each card by the builder's one call (the guide's Derived/Test/ToyasCard.lean, 'card_holds'). Laid BY PROGRAM, IN A SANDBOX (cutbox-door.mjs). By AI agents, Wed Nov 11 2026. No macro, syntax, notation, axiom, sorry.
-/
import Derived.Test.YtpbliaccnbgapaaGreatDoorRows
import GoSem.ClaimSeven
namespace Go.Proofs.YtpbliaccnbgapaaGreatDoor
namespace Rows

/-- THE TIED CARD OF 'tactuslaw21.EventTexts'. -/
def eventTextsCard : Claim7 := { stood := { row := eventTextsRow, standIns := [], harness := (true, "a9b8c138fca7aedb82feedadeaa668d47c335099fcb43bed0fc1c0c5b5af7e46"), looks := true }, kinds := [], alts := [], laidByText := true, laidKinds := [.data, .data, .data, .data, .data, .data, .pinned], laidTests := true, laidLooks := .later }
def EventTextsCardSaid : Prop := Claim7.holds Tryz.pinned (.plain (OpenSpec.ofChange eventTextsSpec)) eventTextsCard

/-- THE TIED CARD OF 'tactuslaw21.EventSounds'. -/
def eventSoundsCard : Claim7 := { stood := { row := eventSoundsRow, standIns := [], harness := (true, "a9b8c138fca7aedb82feedadeaa668d47c335099fcb43bed0fc1c0c5b5af7e46"), looks := true }, kinds := [], alts := [], laidByText := true, laidKinds := [.data, .data, .data, .data, .data, .data, .data, .pinned], laidTests := true, laidLooks := .later }
def EventSoundsCardSaid : Prop := Claim7.holds Tryz.pinned (.plain (OpenSpec.ofChange eventSoundsSpec)) eventSoundsCard

/-- THE SECOND FORM's CARD OF 'tactuslaw21.EventTexts'. -/
def eventTextsUptoCard : Claim7 := { stood := { row := eventTextsUptoRow, standIns := [], harness := (true, "a9b8c138fca7aedb82feedadeaa668d47c335099fcb43bed0fc1c0c5b5af7e46"), looks := true }, kinds := [], alts := [], laidByText := true, laidKinds := [.data, .data, .data, .data, .data, .data, .pinned], laidTests := true, laidLooks := .later }
def EventTextsUptoCardSaid : Prop := Claim7.holds Tryz.pinned (.plain (OpenSpec.upto eventTextsSpec)) eventTextsUptoCard

/-- THE SECOND FORM's CARD OF 'tactuslaw21.EventSounds'. -/
def eventSoundsUptoCard : Claim7 := { stood := { row := eventSoundsUptoRow, standIns := [], harness := (true, "a9b8c138fca7aedb82feedadeaa668d47c335099fcb43bed0fc1c0c5b5af7e46"), looks := true }, kinds := [], alts := [], laidByText := true, laidKinds := [.data, .data, .data, .data, .data, .data, .data, .pinned], laidTests := true, laidLooks := .later }
def EventSoundsUptoCardSaid : Prop := Claim7.holds Tryz.pinned (.plain (OpenSpec.upto eventSoundsSpec)) eventSoundsUptoCard
end Rows
end Go.Proofs.YtpbliaccnbgapaaGreatDoor
