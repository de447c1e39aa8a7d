/-
  DERIVED. GIVEN WITH THE SEED: THE CARDS: each row of YtlkfjinaiepocaaDoorRows.lean that lists a variable, with what it lists TIED to the program's text (the seventh form; the later family's looks); each row that meets fmt, with fmt's text TOLD by the authors' own Lean function (tested against real Go, not proved from fmt's source: count such statements apart). THE CARD IS WHAT COUNTS. Prove the row's statement (the work); the ties are given (YtlkfjinaiepocaaDoorTie.lean); close each card by the builder's one call (the guide's Derived/Test/ToyasCard.lean, 'card_holds'). Laid BY PROGRAM, IN A SANDBOX (cutbox-door.mjs). By AI agents, Wed Nov 11 2026. No macro, syntax, notation, axiom, sorry.
-/
import Derived.Test.YtlkfjinaiepocaaDoorRows
import GoSem.ClaimSeven
namespace Go.Proofs.YtlkfjinaiepocaaDoor
namespace Rows

/-- THE TIED CARD OF 'tactuslaw39.BookMakes'. -/
def bookMakesCard : Claim7 := { stood := { row := bookMakesRow, standIns := [], harness := (true, "f958cf85f3c4f697c01f271db0e845f370e8d80b62a500185b3a411e442379a3"), looks := false }, kinds := [], alts := [], laidByText := true, laidKinds := [.data], laidTests := true, laidLooks := .later }
def BookMakesCardSaid : Prop := Claim7.holds Tryd.pinned (.plain (OpenSpec.ofChange bookMakesSpec)) bookMakesCard

/-- THE TIED CARD OF 'tactuslaw39.BookChecks'. -/
def bookChecksCard : Claim7 := { stood := { row := bookChecksRow, standIns := [], harness := (true, "f958cf85f3c4f697c01f271db0e845f370e8d80b62a500185b3a411e442379a3"), looks := false }, kinds := [], alts := [], laidByText := true, laidKinds := [.data], laidTests := true, laidLooks := .later }
def BookChecksCardSaid : Prop := Claim7.holds Tryd.pinned (.plain (OpenSpec.ofChange bookChecksSpec)) bookChecksCard

/-- THE TIED CARD OF 'tactuslaw39.BookBack'. -/
def bookBackCard : Claim7 := { stood := { row := bookBackRow, standIns := [], harness := (true, "f958cf85f3c4f697c01f271db0e845f370e8d80b62a500185b3a411e442379a3"), looks := false }, kinds := [], alts := [], laidByText := true, laidKinds := [.data], laidTests := true, laidLooks := .later }
def BookBackCardSaid : Prop := Claim7.holds Tryd.pinned (.plain (OpenSpec.ofChange bookBackSpec)) bookBackCard

/-- THE TIED CARD OF 'tactuslaw39.BookTurns'. -/
def bookTurnsCard : Claim7 := { stood := { row := bookTurnsRow, standIns := [], harness := (true, "f958cf85f3c4f697c01f271db0e845f370e8d80b62a500185b3a411e442379a3"), looks := false }, kinds := [], alts := [], laidByText := true, laidKinds := [.data], laidTests := true, laidLooks := .later }
def BookTurnsCardSaid : Prop := Claim7.holds Tryd.pinned (.plain (OpenSpec.ofChange bookTurnsSpec)) bookTurnsCard

/-- THE SECOND FORM's CARD OF 'tactuslaw39.BookMakes'. -/
def bookMakesUptoCard : Claim7 := { stood := { row := bookMakesUptoRow, standIns := [], harness := (true, "f958cf85f3c4f697c01f271db0e845f370e8d80b62a500185b3a411e442379a3"), looks := false }, kinds := [], alts := [], laidByText := true, laidKinds := [.data], laidTests := true, laidLooks := .later }
def BookMakesUptoCardSaid : Prop := Claim7.holds Tryd.pinned (.plain (OpenSpec.upto bookMakesSpec)) bookMakesUptoCard

/-- THE SECOND FORM's CARD OF 'tactuslaw39.BookChecks'. -/
def bookChecksUptoCard : Claim7 := { stood := { row := bookChecksUptoRow, standIns := [], harness := (true, "f958cf85f3c4f697c01f271db0e845f370e8d80b62a500185b3a411e442379a3"), looks := false }, kinds := [], alts := [], laidByText := true, laidKinds := [.data], laidTests := true, laidLooks := .later }
def BookChecksUptoCardSaid : Prop := Claim7.holds Tryd.pinned (.plain (OpenSpec.upto bookChecksSpec)) bookChecksUptoCard

/-- THE SECOND FORM's CARD OF 'tactuslaw39.BookBack'. -/
def bookBackUptoCard : Claim7 := { stood := { row := bookBackUptoRow, standIns := [], harness := (true, "f958cf85f3c4f697c01f271db0e845f370e8d80b62a500185b3a411e442379a3"), looks := false }, kinds := [], alts := [], laidByText := true, laidKinds := [.data], laidTests := true, laidLooks := .later }
def BookBackUptoCardSaid : Prop := Claim7.holds Tryd.pinned (.plain (OpenSpec.upto bookBackSpec)) bookBackUptoCard

/-- THE SECOND FORM's CARD OF 'tactuslaw39.BookTurns'. -/
def bookTurnsUptoCard : Claim7 := { stood := { row := bookTurnsUptoRow, standIns := [], harness := (true, "f958cf85f3c4f697c01f271db0e845f370e8d80b62a500185b3a411e442379a3"), looks := false }, kinds := [], alts := [], laidByText := true, laidKinds := [.data], laidTests := true, laidLooks := .later }
def BookTurnsUptoCardSaid : Prop := Claim7.holds Tryd.pinned (.plain (OpenSpec.upto bookTurnsSpec)) bookTurnsUptoCard
end Rows
end Go.Proofs.YtlkfjinaiepocaaDoor
