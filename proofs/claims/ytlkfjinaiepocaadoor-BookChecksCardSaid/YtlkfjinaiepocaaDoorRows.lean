/-
  NARROWER THAN 'FOR EVERY INPUT', by the rows' own cells (each row's printed sentence says how): BookMakes: laid · BookChecks: laid · BookBack: laid · BookTurns: laid.
  DERIVED. THE GIVEN ROWS OF THIS SEAT. 4 by the template 'for every input the law returns true; each argument reads behind the call as it read before'; 0 by the template 'total and deterministic' (their statements: YtlkfjinaiepocaaDoorTotals.lean).
  GIVEN WITH THE SEED: the statements are not yours to turn. If you find one false, say at which input.
  Laid BY PROGRAM, IN A SANDBOX (cutbox-rows.mjs): the forced cells as the released guide's own fill.sh prints them over the translation 3e99f11310ed058d… (all of the seat's roots in one cut). By AI agents, Wed Nov 11 2026. No macro, syntax, notation, axiom, sorry.
-/
import Derived.Test.YtlkfjinaiepocaaDoorChecked
import GoSem.Claim
import GoSem.ClaimJoined
import GoSem.ClaimMapViews
import Derived.JoinedTies
import Derived.KernelRfl
namespace Go.Proofs.YtlkfjinaiepocaaDoor
/- THE CELL 'sum', in the pinned program and in every row, IS THE sha256 OF THE DUMP (.gsa) THAT YtlkfjinaiepocaaDoorProg.lean LOADS. Nothing in Lean hashes anything: it is a label: what it is worth is what the hold of that sum in a sandbox is worth. -/
noncomputable def Tryd.pinned : Pinned := { name := "ytlkfjinaiepocaadoor", sum := "3e99f11310ed058d87d06a33de09f4acfcebf38008a29acb3590f46be5f4e6e3", checked := Tryd.checked }
namespace Rows
def none {H : Type} : Left H := { results := [], args := [] }

/- WHAT THE LISTED PACKAGE-LEVEL VARIABLES READ AS WHEN THE CALL BEGINS. Each datum BY PROGRAM (the guide's laid-datum.mjs) off the statement by which the dump's own 'gosem.cut.vars' lays the variable. In a bare row this is a premise. The card (YtlkfjinaiepocaaDoorCards.lean) ties it to the program's text. -/
def laid_tactus_sign_uses {H : Type} : DataW H := .agg [.agg [.lit (.bool false), .lit (.bool false), .lit (.bool false), .lit (.bool false), .lit (.bool false), .lit (.bool false), .lit (.bool false), .lit (.bool false), .lit (.bool false), .lit (.bool false), .lit (.bool false), .lit (.bool false)], .agg [.lit (.bool true), .lit (.bool true), .lit (.bool true), .lit (.bool true), .lit (.bool false), .lit (.bool false), .lit (.bool false), .lit (.bool false), .lit (.bool false), .lit (.bool false), .lit (.bool false), .lit (.bool false)], .agg [.lit (.bool true), .lit (.bool false), .lit (.bool false), .lit (.bool false), .lit (.bool false), .lit (.bool false), .lit (.bool false), .lit (.bool false), .lit (.bool false), .lit (.bool false), .lit (.bool false), .lit (.bool false)], .agg [.lit (.bool false), .lit (.bool false), .lit (.bool false), .lit (.bool false), .lit (.bool false), .lit (.bool false), .lit (.bool false), .lit (.bool false), .lit (.bool false), .lit (.bool false), .lit (.bool false), .lit (.bool false)], .agg [.lit (.bool false), .lit (.bool true), .lit (.bool true), .lit (.bool true), .lit (.bool true), .lit (.bool true), .lit (.bool true), .lit (.bool false), .lit (.bool false), .lit (.bool false), .lit (.bool false), .lit (.bool false)], .agg [.lit (.bool false), .lit (.bool false), .lit (.bool false), .lit (.bool false), .lit (.bool false), .lit (.bool false), .lit (.bool false), .lit (.bool true), .lit (.bool true), .lit (.bool false), .lit (.bool false), .lit (.bool false)], .agg [.lit (.bool false), .lit (.bool false), .lit (.bool false), .lit (.bool false), .lit (.bool false), .lit (.bool false), .lit (.bool false), .lit (.bool false), .lit (.bool false), .lit (.bool true), .lit (.bool true), .lit (.bool false)], .agg [.lit (.bool false), .lit (.bool false), .lit (.bool false), .lit (.bool false), .lit (.bool false), .lit (.bool false), .lit (.bool false), .lit (.bool false), .lit (.bool false), .lit (.bool false), .lit (.bool false), .lit (.bool true)], .agg [.lit (.bool false), .lit (.bool false), .lit (.bool false), .lit (.bool false), .lit (.bool false), .lit (.bool false), .lit (.bool false), .lit (.bool false), .lit (.bool false), .lit (.bool true), .lit (.bool false), .lit (.bool false)], .agg [.lit (.bool false), .lit (.bool false), .lit (.bool false), .lit (.bool false), .lit (.bool false), .lit (.bool false), .lit (.bool false), .lit (.bool false), .lit (.bool false), .lit (.bool false), .lit (.bool false), .lit (.bool false)], .agg [.lit (.bool false), .lit (.bool false), .lit (.bool false), .lit (.bool false), .lit (.bool false), .lit (.bool false), .lit (.bool false), .lit (.bool false), .lit (.bool false), .lit (.bool true), .lit (.bool false), .lit (.bool false)], .agg [.lit (.bool false), .lit (.bool false), .lit (.bool false), .lit (.bool false), .lit (.bool false), .lit (.bool false), .lit (.bool false), .lit (.bool false), .lit (.bool false), .lit (.bool false), .lit (.bool false), .lit (.bool false)], .agg [.lit (.bool false), .lit (.bool false), .lit (.bool false), .lit (.bool false), .lit (.bool false), .lit (.bool false), .lit (.bool false), .lit (.bool false), .lit (.bool false), .lit (.bool false), .lit (.bool false), .lit (.bool false)]]

/-- 'tactuslaw39.BookMakes': WHATEVER THE INPUT: true; the input reads as it did. -/
def bookMakesSpec : ChangeSpec := { name := "bookMakes", fn := fun _ => fun
  | [d1, d2, d3] => { results := [.lit (.bool true)], args := [d1, d2, d3] }
  | _ => none }
def bookMakesRow : OpenClaim := { program := "ytlkfjinaiepocaadoor", sum := "3e99f11310ed058d87d06a33de09f4acfcebf38008a29acb3590f46be5f4e6e3", func := "tactus/tactuslaw39.BookMakes", spec := "bookMakes", unfollowed := true, recurses := true, named := ["tactus/sign.uses"], apart := false, laid := [("tactus/sign.uses", laid_tactus_sign_uses)] }
def BookMakesSaid : Prop := bookMakesRow.holds Tryd.pinned (OpenSpec.ofChange bookMakesSpec)

/-- ITS FALSE NEIGHBOUR: 'it returns false'. Refute it at one input. -/
def bookMakesWrong : ChangeSpec := { name := "bookMakes", fn := fun _ => fun
  | [d1, d2, d3] => { results := [.lit (.bool false)], args := [d1, d2, d3] }
  | _ => none }
def BookMakesWrongFalsely : Prop := bookMakesRow.holds Tryd.pinned (OpenSpec.ofChange bookMakesWrong)

/-- 'tactuslaw39.BookChecks': WHATEVER THE INPUT: true; the input reads as it did. -/
def bookChecksSpec : ChangeSpec := { name := "bookChecks", fn := fun _ => fun
  | [d1, d2] => { results := [.lit (.bool true)], args := [d1, d2] }
  | _ => none }
def bookChecksRow : OpenClaim := { program := "ytlkfjinaiepocaadoor", sum := "3e99f11310ed058d87d06a33de09f4acfcebf38008a29acb3590f46be5f4e6e3", func := "tactus/tactuslaw39.BookChecks", spec := "bookChecks", unfollowed := true, recurses := true, named := ["tactus/sign.uses"], apart := false, laid := [("tactus/sign.uses", laid_tactus_sign_uses)] }
def BookChecksSaid : Prop := bookChecksRow.holds Tryd.pinned (OpenSpec.ofChange bookChecksSpec)

/-- ITS FALSE NEIGHBOUR: 'it returns false'. Refute it at one input. -/
def bookChecksWrong : ChangeSpec := { name := "bookChecks", fn := fun _ => fun
  | [d1, d2] => { results := [.lit (.bool false)], args := [d1, d2] }
  | _ => none }
def BookChecksWrongFalsely : Prop := bookChecksRow.holds Tryd.pinned (OpenSpec.ofChange bookChecksWrong)

/-- 'tactuslaw39.BookBack': WHATEVER THE INPUT: true; the input reads as it did. -/
def bookBackSpec : ChangeSpec := { name := "bookBack", fn := fun _ => fun
  | [d1, d2, d3] => { results := [.lit (.bool true)], args := [d1, d2, d3] }
  | _ => none }
def bookBackRow : OpenClaim := { program := "ytlkfjinaiepocaadoor", sum := "3e99f11310ed058d87d06a33de09f4acfcebf38008a29acb3590f46be5f4e6e3", func := "tactus/tactuslaw39.BookBack", spec := "bookBack", unfollowed := true, recurses := true, named := ["tactus/sign.uses"], apart := false, laid := [("tactus/sign.uses", laid_tactus_sign_uses)] }
def BookBackSaid : Prop := bookBackRow.holds Tryd.pinned (OpenSpec.ofChange bookBackSpec)

/-- ITS FALSE NEIGHBOUR: 'it returns false'. Refute it at one input. -/
def bookBackWrong : ChangeSpec := { name := "bookBack", fn := fun _ => fun
  | [d1, d2, d3] => { results := [.lit (.bool false)], args := [d1, d2, d3] }
  | _ => none }
def BookBackWrongFalsely : Prop := bookBackRow.holds Tryd.pinned (OpenSpec.ofChange bookBackWrong)

/-- 'tactuslaw39.BookTurns': WHATEVER THE INPUT: true; the input reads as it did. -/
def bookTurnsSpec : ChangeSpec := { name := "bookTurns", fn := fun _ => fun
  | [d1, d2, d3] => { results := [.lit (.bool true)], args := [d1, d2, d3] }
  | _ => none }
def bookTurnsRow : OpenClaim := { program := "ytlkfjinaiepocaadoor", sum := "3e99f11310ed058d87d06a33de09f4acfcebf38008a29acb3590f46be5f4e6e3", func := "tactus/tactuslaw39.BookTurns", spec := "bookTurns", unfollowed := true, recurses := true, named := ["tactus/sign.uses"], apart := false, laid := [("tactus/sign.uses", laid_tactus_sign_uses)] }
def BookTurnsSaid : Prop := bookTurnsRow.holds Tryd.pinned (OpenSpec.ofChange bookTurnsSpec)

/-- ITS FALSE NEIGHBOUR: 'it returns false'. Refute it at one input. -/
def bookTurnsWrong : ChangeSpec := { name := "bookTurns", fn := fun _ => fun
  | [d1, d2, d3] => { results := [.lit (.bool false)], args := [d1, d2, d3] }
  | _ => none }
def BookTurnsWrongFalsely : Prop := bookTurnsRow.holds Tryd.pinned (OpenSpec.ofChange bookTurnsWrong)

/- THE SECOND FORM. 'bulk': how many values and letters a reading holds, each counted each time it is reached (what is shared counts as often as it is met; a slice's spare places count too). A statement '..UptoSaid' is the law's where the arguments, and the package variables that the reading takes, are together of bulk at most 1048576: NARROWER than '..Said'. Prove '..Said' where nothing that the law and all that it calls make is longer than what came in: it says more and counts as full. Else prove '..UptoSaid'. A law counts once. -/
mutual
def uptoBulk {H : Type} : DataW H → Nat
  | .lit (.string bytes) => bytes.length + 1
  | .lit _ => 1
  | .nil => 1
  | .ptr d => uptoBulk d + 1
  | .slice elems spare => uptoBulkAll elems + uptoBulkAll spare + 1
  | .agg parts => uptoBulkAll parts + 1
  | .iface _ d => uptoBulk d + 1
  | .map entries => uptoBulkEntries entries + 1
  | .held _ => 1
def uptoBulkAll {H : Type} : List (DataW H) → Nat
  | [] => 0
  | d :: r => uptoBulk d + uptoBulkAll r
def uptoBulkEntries {H : Type} : List (Lit × DataW H) → Nat
  | [] => 0
  | x :: r => uptoBulkEntry x + uptoBulkEntries r
def uptoBulkEntry {H : Type} : Lit × DataW H → Nat
  | (.string bytes, d) => bytes.length + uptoBulk d + 1
  | (_, d) => uptoBulk d + 1
 end
def uptoSmall : (H : Type) → List (DataW H) → Bool := fun _ ds => decide (uptoBulkAll ds ≤ 1048576)
def OpenSpec.upto (s : _root_.Go.ChangeSpec) : _root_.Go.OpenSpec := { _root_.Go.OpenSpec.ofChange s with cond := some uptoSmall }

/-- 'tactuslaw39.BookMakes', WHERE WHAT IT READS IS OF BULK AT MOST 1048576: true; the input reads as it did. -/
def bookMakesUptoRow : OpenClaim := { program := "ytlkfjinaiepocaadoor", sum := "3e99f11310ed058d87d06a33de09f4acfcebf38008a29acb3590f46be5f4e6e3", func := "tactus/tactuslaw39.BookMakes", spec := "bookMakes", unfollowed := true, recurses := true, named := ["tactus/sign.uses"], apart := false, laid := [("tactus/sign.uses", laid_tactus_sign_uses)], narrowed := true }
def BookMakesUptoSaid : Prop := bookMakesUptoRow.holds Tryd.pinned (OpenSpec.upto bookMakesSpec)

/-- 'tactuslaw39.BookChecks', WHERE WHAT IT READS IS OF BULK AT MOST 1048576: true; the input reads as it did. -/
def bookChecksUptoRow : OpenClaim := { program := "ytlkfjinaiepocaadoor", sum := "3e99f11310ed058d87d06a33de09f4acfcebf38008a29acb3590f46be5f4e6e3", func := "tactus/tactuslaw39.BookChecks", spec := "bookChecks", unfollowed := true, recurses := true, named := ["tactus/sign.uses"], apart := false, laid := [("tactus/sign.uses", laid_tactus_sign_uses)], narrowed := true }
def BookChecksUptoSaid : Prop := bookChecksUptoRow.holds Tryd.pinned (OpenSpec.upto bookChecksSpec)

/-- 'tactuslaw39.BookBack', WHERE WHAT IT READS IS OF BULK AT MOST 1048576: true; the input reads as it did. -/
def bookBackUptoRow : OpenClaim := { program := "ytlkfjinaiepocaadoor", sum := "3e99f11310ed058d87d06a33de09f4acfcebf38008a29acb3590f46be5f4e6e3", func := "tactus/tactuslaw39.BookBack", spec := "bookBack", unfollowed := true, recurses := true, named := ["tactus/sign.uses"], apart := false, laid := [("tactus/sign.uses", laid_tactus_sign_uses)], narrowed := true }
def BookBackUptoSaid : Prop := bookBackUptoRow.holds Tryd.pinned (OpenSpec.upto bookBackSpec)

/-- 'tactuslaw39.BookTurns', WHERE WHAT IT READS IS OF BULK AT MOST 1048576: true; the input reads as it did. -/
def bookTurnsUptoRow : OpenClaim := { program := "ytlkfjinaiepocaadoor", sum := "3e99f11310ed058d87d06a33de09f4acfcebf38008a29acb3590f46be5f4e6e3", func := "tactus/tactuslaw39.BookTurns", spec := "bookTurns", unfollowed := true, recurses := true, named := ["tactus/sign.uses"], apart := false, laid := [("tactus/sign.uses", laid_tactus_sign_uses)], narrowed := true }
def BookTurnsUptoSaid : Prop := bookTurnsUptoRow.holds Tryd.pinned (OpenSpec.upto bookTurnsSpec)

end Rows
end Go.Proofs.YtlkfjinaiepocaaDoor
