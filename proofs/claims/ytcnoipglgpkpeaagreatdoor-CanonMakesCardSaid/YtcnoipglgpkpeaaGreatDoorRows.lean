/-
  NARROWER THAN 'FOR EVERY INPUT', by the rows' own cells (each row's printed sentence says how): CanonTwice: laid · CanonMakes: laid · CanonMatches: laid.
  DERIVED. THE GIVEN ROWS OF THIS SEAT. 3 by the template 'for every input the law returns true; each argument reads behind the call as it read before'; 0 by the template 'total and deterministic' (their statements: YtcnoipglgpkpeaaGreatDoorTotals.lean).
  GIVEN WITH THE SEED: the statements are not yours to turn. If you find one false, say at which input.
  Laid BY PROGRAM, IN A SANDBOX (cutbox-rows.mjs): the forced cells as the released guide's own fill.sh prints them over the translation 1c698239b74de32b… (all of the seat's roots in one cut). By AI agents, Wed Nov 11 2026. No macro, syntax, notation, axiom, sorry.
-/
import Derived.Test.YtcnoipglgpkpeaaGreatDoorChecked
import GoSem.Claim
import GoSem.ClaimJoined
import GoSem.ClaimMapViews
import Derived.JoinedTies
import Derived.KernelRfl
namespace Go.Proofs.YtcnoipglgpkpeaaGreatDoor
/- THE CELL 'sum', in the pinned program and in every row, IS THE sha256 OF THE DUMP (.gsa) THAT YtcnoipglgpkpeaaGreatDoorProg.lean LOADS. Nothing in Lean hashes anything: it is a label: what it is worth is what the hold of that sum in a sandbox is worth. -/
noncomputable def Tryz.pinned : Pinned := { name := "ytcnoipglgpkpeaagreatdoor", sum := "1c698239b74de32b78ad36fbe3d835c7600b638102ab4d2a9c8ba2b3e5bdb32c", checked := Tryz.checked }
namespace Rows
def none {H : Type} : Left H := { results := [], args := [] }

/- WHAT THE LISTED PACKAGE-LEVEL VARIABLES READ AS WHEN THE CALL BEGINS. Each datum BY PROGRAM (the guide's laid-datum.mjs) off the statement by which the dump's own 'gosem.cut.vars' lays the variable. In a bare row this is a premise. The card (YtcnoipglgpkpeaaGreatDoorCards.lean) ties it to the program's text. -/
def laid_tactus_item_half {H : Type} : DataW H := .agg [.lit (.int .i64 3), .lit (.int .i64 2)]
def laid_tactus_sign_uses {H : Type} : DataW H := .agg [.agg [.lit (.bool false), .lit (.bool false), .lit (.bool false), .lit (.bool false), .lit (.bool false), .lit (.bool false), .lit (.bool false), .lit (.bool false), .lit (.bool false), .lit (.bool false), .lit (.bool false), .lit (.bool false)], .agg [.lit (.bool true), .lit (.bool true), .lit (.bool true), .lit (.bool true), .lit (.bool false), .lit (.bool false), .lit (.bool false), .lit (.bool false), .lit (.bool false), .lit (.bool false), .lit (.bool false), .lit (.bool false)], .agg [.lit (.bool true), .lit (.bool false), .lit (.bool false), .lit (.bool false), .lit (.bool false), .lit (.bool false), .lit (.bool false), .lit (.bool false), .lit (.bool false), .lit (.bool false), .lit (.bool false), .lit (.bool false)], .agg [.lit (.bool false), .lit (.bool false), .lit (.bool false), .lit (.bool false), .lit (.bool false), .lit (.bool false), .lit (.bool false), .lit (.bool false), .lit (.bool false), .lit (.bool false), .lit (.bool false), .lit (.bool false)], .agg [.lit (.bool false), .lit (.bool true), .lit (.bool true), .lit (.bool true), .lit (.bool true), .lit (.bool true), .lit (.bool true), .lit (.bool false), .lit (.bool false), .lit (.bool false), .lit (.bool false), .lit (.bool false)], .agg [.lit (.bool false), .lit (.bool false), .lit (.bool false), .lit (.bool false), .lit (.bool false), .lit (.bool false), .lit (.bool false), .lit (.bool true), .lit (.bool true), .lit (.bool false), .lit (.bool false), .lit (.bool false)], .agg [.lit (.bool false), .lit (.bool false), .lit (.bool false), .lit (.bool false), .lit (.bool false), .lit (.bool false), .lit (.bool false), .lit (.bool false), .lit (.bool false), .lit (.bool true), .lit (.bool true), .lit (.bool false)], .agg [.lit (.bool false), .lit (.bool false), .lit (.bool false), .lit (.bool false), .lit (.bool false), .lit (.bool false), .lit (.bool false), .lit (.bool false), .lit (.bool false), .lit (.bool false), .lit (.bool false), .lit (.bool true)], .agg [.lit (.bool false), .lit (.bool false), .lit (.bool false), .lit (.bool false), .lit (.bool false), .lit (.bool false), .lit (.bool false), .lit (.bool false), .lit (.bool false), .lit (.bool true), .lit (.bool false), .lit (.bool false)], .agg [.lit (.bool false), .lit (.bool false), .lit (.bool false), .lit (.bool false), .lit (.bool false), .lit (.bool false), .lit (.bool false), .lit (.bool false), .lit (.bool false), .lit (.bool false), .lit (.bool false), .lit (.bool false)], .agg [.lit (.bool false), .lit (.bool false), .lit (.bool false), .lit (.bool false), .lit (.bool false), .lit (.bool false), .lit (.bool false), .lit (.bool false), .lit (.bool false), .lit (.bool true), .lit (.bool false), .lit (.bool false)], .agg [.lit (.bool false), .lit (.bool false), .lit (.bool false), .lit (.bool false), .lit (.bool false), .lit (.bool false), .lit (.bool false), .lit (.bool false), .lit (.bool false), .lit (.bool false), .lit (.bool false), .lit (.bool false)], .agg [.lit (.bool false), .lit (.bool false), .lit (.bool false), .lit (.bool false), .lit (.bool false), .lit (.bool false), .lit (.bool false), .lit (.bool false), .lit (.bool false), .lit (.bool false), .lit (.bool false), .lit (.bool false)]]
def laid_tactus_sign_classes {H : Type} : DataW H := .agg [.lit (.int .i64 0), .lit (.int .i64 1), .lit (.int .i64 1), .lit (.int .i64 2), .lit (.int .i64 1), .lit (.int .i64 3), .lit (.int .i64 3), .lit (.int .i64 4), .lit (.int .i64 4), .lit (.int .i64 3), .lit (.int .i64 3), .lit (.int .i64 4), .lit (.int .i64 4)]
def laid_tactus_pitch_halves {H : Type} : DataW H := .agg [.lit (.int .i64 0), .lit (.int .i64 2), .lit (.int .i64 4), .lit (.int .i64 5), .lit (.int .i64 7), .lit (.int .i64 9), .lit (.int .i64 11)]

/-- 'tactuslaw26.CanonTwice': WHATEVER THE INPUT: true; the input reads as it did. -/
def canonTwiceSpec : ChangeSpec := { name := "canonTwice", fn := fun _ => fun
  | [d] => { results := [.lit (.bool true)], args := [d] }
  | _ => none }
def canonTwiceRow : OpenClaim := { program := "ytcnoipglgpkpeaagreatdoor", sum := "1c698239b74de32b78ad36fbe3d835c7600b638102ab4d2a9c8ba2b3e5bdb32c", func := "tactus/tactuslaw26.CanonTwice", spec := "canonTwice", unfollowed := true, recurses := true, named := ["tactus/sign.uses", "tactus/sign.classes", "tactus/item.half"], apart := false, laid := [("tactus/item.half", laid_tactus_item_half), ("tactus/sign.uses", laid_tactus_sign_uses), ("tactus/sign.classes", laid_tactus_sign_classes)] }
def CanonTwiceSaid : Prop := canonTwiceRow.holds Tryz.pinned (OpenSpec.ofChange canonTwiceSpec)

/-- ITS FALSE NEIGHBOUR: 'it returns false'. Refute it at one input. -/
def canonTwiceWrong : ChangeSpec := { name := "canonTwice", fn := fun _ => fun
  | [d] => { results := [.lit (.bool false)], args := [d] }
  | _ => none }
def CanonTwiceWrongFalsely : Prop := canonTwiceRow.holds Tryz.pinned (OpenSpec.ofChange canonTwiceWrong)

/-- 'tactuslaw26.CanonMakes': WHATEVER THE INPUT: true; the input reads as it did. -/
def canonMakesSpec : ChangeSpec := { name := "canonMakes", fn := fun _ => fun
  | [d1, d2, d3] => { results := [.lit (.bool true)], args := [d1, d2, d3] }
  | _ => none }
def canonMakesRow : OpenClaim := { program := "ytcnoipglgpkpeaagreatdoor", sum := "1c698239b74de32b78ad36fbe3d835c7600b638102ab4d2a9c8ba2b3e5bdb32c", func := "tactus/tactuslaw26.CanonMakes", spec := "canonMakes", unfollowed := true, recurses := true, named := ["tactus/sign.uses", "tactus/sign.classes", "tactus/item.half", "tactus/pitch.halves"], apart := false, laid := [("tactus/item.half", laid_tactus_item_half), ("tactus/pitch.halves", laid_tactus_pitch_halves), ("tactus/sign.uses", laid_tactus_sign_uses), ("tactus/sign.classes", laid_tactus_sign_classes)] }
def CanonMakesSaid : Prop := canonMakesRow.holds Tryz.pinned (OpenSpec.ofChange canonMakesSpec)

/-- ITS FALSE NEIGHBOUR: 'it returns false'. Refute it at one input. -/
def canonMakesWrong : ChangeSpec := { name := "canonMakes", fn := fun _ => fun
  | [d1, d2, d3] => { results := [.lit (.bool false)], args := [d1, d2, d3] }
  | _ => none }
def CanonMakesWrongFalsely : Prop := canonMakesRow.holds Tryz.pinned (OpenSpec.ofChange canonMakesWrong)

/-- 'tactuslaw26.CanonMatches': WHATEVER THE INPUT: true; the input reads as it did. -/
def canonMatchesSpec : ChangeSpec := { name := "canonMatches", fn := fun _ => fun
  | [d1, d2] => { results := [.lit (.bool true)], args := [d1, d2] }
  | _ => none }
def canonMatchesRow : OpenClaim := { program := "ytcnoipglgpkpeaagreatdoor", sum := "1c698239b74de32b78ad36fbe3d835c7600b638102ab4d2a9c8ba2b3e5bdb32c", func := "tactus/tactuslaw26.CanonMatches", spec := "canonMatches", unfollowed := true, recurses := true, named := ["tactus/sign.uses", "tactus/sign.classes", "tactus/item.half", "tactus/pitch.halves"], apart := false, laid := [("tactus/item.half", laid_tactus_item_half), ("tactus/pitch.halves", laid_tactus_pitch_halves), ("tactus/sign.uses", laid_tactus_sign_uses), ("tactus/sign.classes", laid_tactus_sign_classes)] }
def CanonMatchesSaid : Prop := canonMatchesRow.holds Tryz.pinned (OpenSpec.ofChange canonMatchesSpec)

/-- ITS FALSE NEIGHBOUR: 'it returns false'. Refute it at one input. -/
def canonMatchesWrong : ChangeSpec := { name := "canonMatches", fn := fun _ => fun
  | [d1, d2] => { results := [.lit (.bool false)], args := [d1, d2] }
  | _ => none }
def CanonMatchesWrongFalsely : Prop := canonMatchesRow.holds Tryz.pinned (OpenSpec.ofChange canonMatchesWrong)

/- THE SECOND FORM. 'bulk': how many values and letters a reading holds, each counted each time it is reached (what is shared counts as often as it is met; a slice's spare places count too). A statement '..UptoSaid' is the law's where the arguments, and the package variables that the reading takes, are together of bulk at most 1048576: NARROWER than '..Said'. Prove '..Said' where nothing that the law and all that it calls make is longer than what came in: it says more and counts as full. Else prove '..UptoSaid'. A law counts once. -/
mutual
def uptoBulk {H : Type} : DataW H → Nat
  | .lit (.string bytes) => bytes.length + 1
  | .lit _ => 1
  | .nil => 1
  | .ptr d => uptoBulk d + 1
  | .slice elems spare => uptoBulkAll elems + uptoBulkAll spare + 1
  | .agg parts => uptoBulkAll parts + 1
  | .iface _ d => uptoBulk d + 1
  | .map entries => uptoBulkEntries entries + 1
  | .held _ => 1
def uptoBulkAll {H : Type} : List (DataW H) → Nat
  | [] => 0
  | d :: r => uptoBulk d + uptoBulkAll r
def uptoBulkEntries {H : Type} : List (Lit × DataW H) → Nat
  | [] => 0
  | x :: r => uptoBulkEntry x + uptoBulkEntries r
def uptoBulkEntry {H : Type} : Lit × DataW H → Nat
  | (.string bytes, d) => bytes.length + uptoBulk d + 1
  | (_, d) => uptoBulk d + 1
 end
def uptoSmall : (H : Type) → List (DataW H) → Bool := fun _ ds => decide (uptoBulkAll ds ≤ 1048576)
def OpenSpec.upto (s : _root_.Go.ChangeSpec) : _root_.Go.OpenSpec := { _root_.Go.OpenSpec.ofChange s with cond := some uptoSmall }

/-- 'tactuslaw26.CanonTwice', WHERE WHAT IT READS IS OF BULK AT MOST 1048576: true; the input reads as it did. -/
def canonTwiceUptoRow : OpenClaim := { program := "ytcnoipglgpkpeaagreatdoor", sum := "1c698239b74de32b78ad36fbe3d835c7600b638102ab4d2a9c8ba2b3e5bdb32c", func := "tactus/tactuslaw26.CanonTwice", spec := "canonTwice", unfollowed := true, recurses := true, named := ["tactus/sign.uses", "tactus/sign.classes", "tactus/item.half"], apart := false, laid := [("tactus/item.half", laid_tactus_item_half), ("tactus/sign.uses", laid_tactus_sign_uses), ("tactus/sign.classes", laid_tactus_sign_classes)], narrowed := true }
def CanonTwiceUptoSaid : Prop := canonTwiceUptoRow.holds Tryz.pinned (OpenSpec.upto canonTwiceSpec)

/-- 'tactuslaw26.CanonMakes', WHERE WHAT IT READS IS OF BULK AT MOST 1048576: true; the input reads as it did. -/
def canonMakesUptoRow : OpenClaim := { program := "ytcnoipglgpkpeaagreatdoor", sum := "1c698239b74de32b78ad36fbe3d835c7600b638102ab4d2a9c8ba2b3e5bdb32c", func := "tactus/tactuslaw26.CanonMakes", spec := "canonMakes", unfollowed := true, recurses := true, named := ["tactus/sign.uses", "tactus/sign.classes", "tactus/item.half", "tactus/pitch.halves"], apart := false, laid := [("tactus/item.half", laid_tactus_item_half), ("tactus/pitch.halves", laid_tactus_pitch_halves), ("tactus/sign.uses", laid_tactus_sign_uses), ("tactus/sign.classes", laid_tactus_sign_classes)], narrowed := true }
def CanonMakesUptoSaid : Prop := canonMakesUptoRow.holds Tryz.pinned (OpenSpec.upto canonMakesSpec)

/-- 'tactuslaw26.CanonMatches', WHERE WHAT IT READS IS OF BULK AT MOST 1048576: true; the input reads as it did. -/
def canonMatchesUptoRow : OpenClaim := { program := "ytcnoipglgpkpeaagreatdoor", sum := "1c698239b74de32b78ad36fbe3d835c7600b638102ab4d2a9c8ba2b3e5bdb32c", func := "tactus/tactuslaw26.CanonMatches", spec := "canonMatches", unfollowed := true, recurses := true, named := ["tactus/sign.uses", "tactus/sign.classes", "tactus/item.half", "tactus/pitch.halves"], apart := false, laid := [("tactus/item.half", laid_tactus_item_half), ("tactus/pitch.halves", laid_tactus_pitch_halves), ("tactus/sign.uses", laid_tactus_sign_uses), ("tactus/sign.classes", laid_tactus_sign_classes)], narrowed := true }
def CanonMatchesUptoSaid : Prop := canonMatchesUptoRow.holds Tryz.pinned (OpenSpec.upto canonMatchesSpec)

end Rows
end Go.Proofs.YtcnoipglgpkpeaaGreatDoor
