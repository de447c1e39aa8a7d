/- THE CONDITIONS of the functions on signs, parts, books, as E3 computes them. Made by program (vc.py). -/
import Derived.Test.YtlkfjinaiepocaaDoorInv
import Derived.Test.YtlkfjinaiepocaaDoorCfg
namespace Go.Proofs.YtlkfjinaiepocaaDoor
open Go Go.E2 Go.E3
set_option maxRecDepth 100000
variable {sp : Nat → Option (List V → Heap → Option (CR × Heap))}

def ct49 : Ct KT := ([.one (.str)], fun ns => match ns with
  | [.s a0] => some ((ln a0 ≤ 9223372036854775806), .sb 0 false ((nameB a0)) ((nameB a0) = true) ((nameB a0) = false))
  | _ => none)
def ct80 : Ct KT := ([.agg [.int .i64, .int .i64, .int .i64, .int .i64]], fun ns => match ns with
  | [.i a0, .i a1, .i a2, .i a3] => some (True, .int .i64 none ((mensC a0 a1 a2 a3)))
  | _ => none)
def ct60 : Ct KT := ([.agg [.int .i64, .int .i64, .int .i64, .int .i64, .bool, .int .i64, .bool, .bool, .int .i64, .int .i64, .int .i64, .int .i64, .bool, .int .i64, .int .i64, .int .i64, .int .i64]], fun ns => match ns with
  | [.i a0, .i a1, .i a2, .i a3, .b a4, .i a5, .b a6, .b a7, .i a8, .i a9, .i a10, .i a11, .b a12, .i a13, .i a14, .i a15, .i a16] => some (True, .int .i64 none ((oneC (Sign.mk a0 a1 a2 a3 a4 a5 a6 a7 a8 a9 a10 a11 a12 a13 a14 a15 a16))))
  | _ => none)
def ct34 : Ct KT := ([.agg [.str, .list 4 false false]], fun ns => match ns with
  | [.s a0, .l 4 a1] => some ((ln a0 ≤ 1000000000 ∧ ln a1 ≤ 1000000000), .tuple [.int .i64 none (((checkC a0 a1).1)), .int .i64 none (((checkC a0 a1).2))])
  | _ => none)
def ct52 : Ct KT := ([.one (.str)], fun ns => match ns with
  | [.s a0] => some ((ln a0 ≤ 9223372036854775806), .sb 0 false ((nameB a0)) ((nameB a0) = true) ((nameB a0) = false))
  | _ => none)
def ct84 : Ct KT := ([.agg [.int .i64, .int .i64, .int .i64, .int .i64]], fun ns => match ns with
  | [.i a0, .i a1, .i a2, .i a3] => some (True, .int .i64 none ((mensC a0 a1 a2 a3)))
  | _ => none)
def ct83 : Ct KT := ([.agg [.int .i64, .int .i64, .int .i64, .int .i64, .bool, .int .i64, .bool, .bool, .int .i64, .int .i64, .int .i64, .int .i64, .bool, .int .i64, .int .i64, .int .i64, .int .i64]], fun ns => match ns with
  | [.i a0, .i a1, .i a2, .i a3, .b a4, .i a5, .b a6, .b a7, .i a8, .i a9, .i a10, .i a11, .b a12, .i a13, .i a14, .i a15, .i a16] => some (True, .agg [.int .i64 none (((usedS (Sign.mk a0 a1 a2 a3 a4 a5 a6 a7 a8 a9 a10 a11 a12 a13 a14 a15 a16)).Kind)), .int .i64 none (((usedS (Sign.mk a0 a1 a2 a3 a4 a5 a6 a7 a8 a9 a10 a11 a12 a13 a14 a15 a16)).Value)), .int .i64 none (((usedS (Sign.mk a0 a1 a2 a3 a4 a5 a6 a7 a8 a9 a10 a11 a12 a13 a14 a15 a16)).Place)), .int .i64 none (((usedS (Sign.mk a0 a1 a2 a3 a4 a5 a6 a7 a8 a9 a10 a11 a12 a13 a14 a15 a16)).Acc)), .sb 0 false (((usedS (Sign.mk a0 a1 a2 a3 a4 a5 a6 a7 a8 a9 a10 a11 a12 a13 a14 a15 a16)).Color)) (((usedS (Sign.mk a0 a1 a2 a3 a4 a5 a6 a7 a8 a9 a10 a11 a12 a13 a14 a15 a16)).Color) = true) (((usedS (Sign.mk a0 a1 a2 a3 a4 a5 a6 a7 a8 a9 a10 a11 a12 a13 a14 a15 a16)).Color) = false), .int .i64 none (((usedS (Sign.mk a0 a1 a2 a3 a4 a5 a6 a7 a8 a9 a10 a11 a12 a13 a14 a15 a16)).Stem)), .sb 0 false (((usedS (Sign.mk a0 a1 a2 a3 a4 a5 a6 a7 a8 a9 a10 a11 a12 a13 a14 a15 a16)).Oblique)) (((usedS (Sign.mk a0 a1 a2 a3 a4 a5 a6 a7 a8 a9 a10 a11 a12 a13 a14 a15 a16)).Oblique) = true) (((usedS (Sign.mk a0 a1 a2 a3 a4 a5 a6 a7 a8 a9 a10 a11 a12 a13 a14 a15 a16)).Oblique) = false), .sb 0 false (((usedS (Sign.mk a0 a1 a2 a3 a4 a5 a6 a7 a8 a9 a10 a11 a12 a13 a14 a15 a16)).Last)) (((usedS (Sign.mk a0 a1 a2 a3 a4 a5 a6 a7 a8 a9 a10 a11 a12 a13 a14 a15 a16)).Last) = true) (((usedS (Sign.mk a0 a1 a2 a3 a4 a5 a6 a7 a8 a9 a10 a11 a12 a13 a14 a15 a16)).Last) = false), .int .i64 none (((usedS (Sign.mk a0 a1 a2 a3 a4 a5 a6 a7 a8 a9 a10 a11 a12 a13 a14 a15 a16)).MensMax)), .int .i64 none (((usedS (Sign.mk a0 a1 a2 a3 a4 a5 a6 a7 a8 a9 a10 a11 a12 a13 a14 a15 a16)).MensMod)), .int .i64 none (((usedS (Sign.mk a0 a1 a2 a3 a4 a5 a6 a7 a8 a9 a10 a11 a12 a13 a14 a15 a16)).MensTem)), .int .i64 none (((usedS (Sign.mk a0 a1 a2 a3 a4 a5 a6 a7 a8 a9 a10 a11 a12 a13 a14 a15 a16)).MensPro)), .sb 0 false (((usedS (Sign.mk a0 a1 a2 a3 a4 a5 a6 a7 a8 a9 a10 a11 a12 a13 a14 a15 a16)).Stroke)) (((usedS (Sign.mk a0 a1 a2 a3 a4 a5 a6 a7 a8 a9 a10 a11 a12 a13 a14 a15 a16)).Stroke) = true) (((usedS (Sign.mk a0 a1 a2 a3 a4 a5 a6 a7 a8 a9 a10 a11 a12 a13 a14 a15 a16)).Stroke) = false), .int .i64 none (((usedS (Sign.mk a0 a1 a2 a3 a4 a5 a6 a7 a8 a9 a10 a11 a12 a13 a14 a15 a16)).N)), .int .i64 none (((usedS (Sign.mk a0 a1 a2 a3 a4 a5 a6 a7 a8 a9 a10 a11 a12 a13 a14 a15 a16)).D)), .int .i64 none (((usedS (Sign.mk a0 a1 a2 a3 a4 a5 a6 a7 a8 a9 a10 a11 a12 a13 a14 a15 a16)).ClefStep)), .int .i64 none (((usedS (Sign.mk a0 a1 a2 a3 a4 a5 a6 a7 a8 a9 a10 a11 a12 a13 a14 a15 a16)).ClefLine))])
  | _ => none)
def ct85 : Ct KT := ([.agg [.int .i64, .int .i64, .int .i64, .int .i64, .bool, .int .i64, .bool, .bool, .int .i64, .int .i64, .int .i64, .int .i64, .bool, .int .i64, .int .i64, .int .i64, .int .i64]], fun ns => match ns with
  | [.i a0, .i a1, .i a2, .i a3, .b a4, .i a5, .b a6, .b a7, .i a8, .i a9, .i a10, .i a11, .b a12, .i a13, .i a14, .i a15, .i a16] => some (True, .sb 0 false ((decide (rangeC (Sign.mk a0 a1 a2 a3 a4 a5 a6 a7 a8 a9 a10 a11 a12 a13 a14 a15 a16)))) ((decide (rangeC (Sign.mk a0 a1 a2 a3 a4 a5 a6 a7 a8 a9 a10 a11 a12 a13 a14 a15 a16))) = true) ((decide (rangeC (Sign.mk a0 a1 a2 a3 a4 a5 a6 a7 a8 a9 a10 a11 a12 a13 a14 a15 a16))) = false))
  | _ => none)
def ct63 : Ct KT := ([.agg [.int .i64, .int .i64, .int .i64, .int .i64, .bool, .int .i64, .bool, .bool, .int .i64, .int .i64, .int .i64, .int .i64, .bool, .int .i64, .int .i64, .int .i64, .int .i64]], fun ns => match ns with
  | [.i a0, .i a1, .i a2, .i a3, .b a4, .i a5, .b a6, .b a7, .i a8, .i a9, .i a10, .i a11, .b a12, .i a13, .i a14, .i a15, .i a16] => some (True, .int .i64 none ((oneC (Sign.mk a0 a1 a2 a3 a4 a5 a6 a7 a8 a9 a10 a11 a12 a13 a14 a15 a16))))
  | _ => none)
def ct43 : Ct KT := ([.agg [.str, .list 4 false false]], fun ns => match ns with
  | [.s a0, .l 4 a1] => some ((ln a0 ≤ 1000000000 ∧ ln a1 ≤ 1000000000), .tuple [.int .i64 none (((checkC a0 a1).1)), .int .i64 none (((checkC a0 a1).2))])
  | _ => none)
def ct7 : Ct KT := ([.agg [.str, .list 4 false false], .one (.int .i64)], fun ns => match ns with
  | [.s a0, .l 4 a1, .i a2] => some ((ln a0 ≤ 9223372036854775807 ∧ ln a1 ≤ 9223372036854775807), .sb 0 false ((lightP a0 a1 a2)) ((lightP a0 a1 a2) = true) ((lightP a0 a1 a2) = false))
  | _ => none)
def ct33 : Ct KT := ([.one (.list 4 false false)], fun ns => match ns with
  | [.l 4 a0] => some ((ln a0 ≤ 10000000), .list 4 ((a0)) none)
  | _ => none)
def ct9 : Ct KT := ([.agg [.str, .list 4 false false]], fun ns => match ns with
  | [.s a0, .l 4 a1] => some ((ln a1 ≤ 10000000), .agg [.str ((a0)), .list 4 ((a1)) none])
  | _ => none)
def ct32 : Ct KT := ([.one (.list 4 false false), .one (.list 4 false false)], fun ns => match ns with
  | [.l 4 a0, .l 4 a1] => some ((ln a0 ≤ 10000000), .sb 0 false ((sameS a0 a1)) ((sameS a0 a1) = true) ((sameS a0 a1) = false))
  | _ => none)
def ct13 : Ct KT := ([.agg [.str, .list 4 false false], .agg [.str, .list 4 false false]], fun ns => match ns with
  | [.s a0, .l 4 a1, .s a2, .l 4 a3] => some ((ln a1 ≤ 10000000), .sb 0 false ((sameP a0 a1 a2 a3)) ((sameP a0 a1 a2 a3) = true) ((sameP a0 a1 a2 a3) = false))
  | _ => none)
def ct48 : Ct KT := ([.agg [.list 4 false false, .int .i64, .bool, .int .i64], .agg [.list 4 false false, .int .i64, .bool, .int .i64]], fun ns => match ns with
  | [.l 4 a0, .i a1, .b a2, .i a3, .l 4 a4, .i a5, .b a6, .i a7] => some ((ln a0 ≤ 10000000), .sb 0 false ((sameSt (Staff.mk a0 a1 a2 a3) (Staff.mk a4 a5 a6 a7))) ((sameSt (Staff.mk a0 a1 a2 a3) (Staff.mk a4 a5 a6 a7)) = true) ((sameSt (Staff.mk a0 a1 a2 a3) (Staff.mk a4 a5 a6 a7)) = false))
  | _ => none)
def ct12 : Ct KT := ([.agg [.str, .list 8 false false], .agg [.str, .list 8 false false]], fun ns => match ns with
  | [.s a0, .l 8 a1, .s a2, .l 8 a3] => some ((ln a1 ≤ 500 ∧ okB a1), .sb 0 false ((sameB a0 a1 a2 a3)) ((sameB a0 a1 a2 a3) = true) ((sameB a0 a1 a2 a3) = false))
  | _ => none)
def ct42 : Ct KT := ([.one (.list 4 false false)], fun ns => match ns with
  | [.l 4 a0] => some ((ln a0 ≤ 10000000), .list 4 ((a0)) (some (0, 0)))
  | _ => none)
def ct38 : Ct KT := ([.agg [.list 4 false false, .list 4 false false]], fun ns => match ns with
  | [.l 4 a0, .l 4 a1] => some ((ln a0 ≤ 1 ∧ ln a1 ≤ 1), .list 4 (((a0 ++ a1))) (some (0, 0)))
  | _ => none)
def ct40 : Ct KT := ([.agg [.list 4 false false, .list 4 false false], .agg [.int .i64, .int .i64, .int .i64, .int .i64, .bool, .int .i64, .bool, .bool, .int .i64, .int .i64, .int .i64, .int .i64, .bool, .int .i64, .int .i64, .int .i64, .int .i64]], fun ns => match ns with
  | [.l 4 a0, .l 4 a1, .i a2, .i a3, .i a4, .i a5, .b a6, .i a7, .b a8, .b a9, .i a10, .i a11, .i a12, .i a13, .b a14, .i a15, .i a16, .i a17, .i a18] => some (True, .agg [.list 4 (((afterF a0 a1 (Sign.mk a2 a3 a4 a5 a6 a7 a8 a9 a10 a11 a12 a13 a14 a15 a16 a17 a18)).1)) none, .list 4 (((afterF a0 a1 (Sign.mk a2 a3 a4 a5 a6 a7 a8 a9 a10 a11 a12 a13 a14 a15 a16 a17 a18)).2)) none])
  | _ => none)
def ct41 : Ct KT := ([.one (.list 4 false false)], fun ns => match ns with
  | [.l 4 a0] => some ((ln a0 ≤ 1000000000), .tuple [.sb 0 false (((catchL a0).1)) (((catchL a0).1) = true) (((catchL a0).1) = false), .int .i64 none (((catchL a0).2))])
  | _ => none)
def ct39 : Ct KT := ([.one (.list 4 false false), .one (.int .i64), .one (.bool)], fun ns => match ns with
  | [.l 4 a0, .i a1, .b a2] => some ((ln a0 ≤ 500), .int .i64 none ((fillL a0 a1 a2)))
  | _ => none)
def ct10 : Ct KT := ([.agg [.str, .list 4 false false], .one (.int .i64), .one (.int .i64)], fun ns => match ns with
  | [.s a0, .l 4 a1, .i a2, .i a3] => some ((ln a0 ≤ 1000000000 ∧ ln a1 ≤ 500), .tuple [.agg [.str (((mkB a0 a1 a2 a3).1)), .list 8 (((mkB a0 a1 a2 a3).2.1)) none], .int .i64 none (((mkB a0 a1 a2 a3).2.2))])
  | _ => none)
def ct45 : Ct KT := ([.one (.list 4 false false)], fun ns => match ns with
  | [.l 4 a0] => some ((ln a0 ≤ 1000000000), .list 10 ((groupsL a0)) none)
  | _ => none)
def ct46 : Ct KT := ([.one (.list 4 false false), .one (.int .i64)], fun ns => match ns with
  | [.l 4 a0, .i a1] => some ((0 ≤ a1 ∧ a1 ≤ ln a0 ∧ ln a0 ≤ 1000000000), .list 4 ((leadL a0 a1)) (some (0, 0)))
  | _ => none)
def ct47 : Ct KT := ([.one (.list 4 false false), .one (.int .i64)], fun ns => match ns with
  | [.l 4 a0, .i a1] => some ((0 ≤ a1 ∧ a1 ≤ ln a0 ∧ ln a0 ≤ 1000000000), .tuple [.sb 0 false (((catchP a0 a1).1)) (((catchP a0 a1).1) = true) (((catchP a0 a1).1) = false), .int .i64 none (((catchP a0 a1).2))])
  | _ => none)
def ct44 : Ct KT := ([.one (.list 4 false false)], fun ns => match ns with
  | [.l 4 a0] => some ((ln a0 ≤ 1000000000), .int .i64 none ((turnI a0)))
  | _ => none)
def ct11 : Ct KT := ([.agg [.str, .list 4 false false], .one (.int .i64), .one (.int .i64)], fun ns => match ns with
  | [.s a0, .l 4 a1, .i a2, .i a3] => some ((ln a0 ≤ 1000000000 ∧ ln a1 ≤ 500), .tuple [.agg [.str (((mkB a0 a1 a2 a3).1)), .list 8 (((mkB a0 a1 a2 a3).2.1)) none], .int .i64 none (((mkB a0 a1 a2 a3).2.2))])
  | _ => none)
def ct8 : Ct KT := ([], fun ns => match ns with
  | [] => some (True, .sb 0 false ((true)) ((true) = true) ((true) = false))
  | _ => none)
def ct3 : Ct KT := ([.agg [.str, .list 4 false false], .one (.int .i64), .one (.int .i64)], fun ns => match ns with
  | [.s a0, .l 4 a1, .i a2, .i a3] => some ((ln a0 ≤ 9223372036854775807 ∧ ln a1 ≤ 9223372036854775807), .sb 0 false ((true)) ((true) = true) ((true) = false))
  | _ => none)
abbrev known_res : PV KT := .sb 0 false ((true)) ((true) = true) ((true) = false)
def NameW_tbl : List (Nat × Ct KT) := []
abbrev NameW_res (a0 : List UInt8) : PV KT := .sb 0 false ((nameB a0)) ((nameB a0) = true) ((nameB a0) = false)
abbrev NameW_VC (a0 : List UInt8) : Prop :=
(((ln a0) = 0 →
(false = (nameB a0)) ∧
 True)) ∧
((ln a0) ≠ 0 →
((20 < (ln a0) →
(false = (nameB a0)) ∧
  True)) ∧
((ln a0) ≤ 20 →
(Wn 0 (ln a0)) ∧
(((bx a0 0) < 97 →
(false = (nameB a0)) ∧
   True)) ∧
(97 ≤ (bx a0 0) →
(Wn 0 (ln a0)) ∧
((122 < (bx a0 0) →
(false = (nameB a0)) ∧
    True)) ∧
((bx a0 0) ≤ 122 →
(inv_NameW_0 a0 0) ∧
(∀ x4 : Int,
(inv_NameW_0 a0 x4 →
((x4 < (ln a0) →
(Wn x4 (ln a0)) ∧
(((bx a0 x4) < 97 →
(((bx a0 x4) < 48 →
(((bx a0 x4) ≠ 45 →
(false = (nameB a0)) ∧
          True)) ∧
((bx a0 x4) = 45 →
(I64 (x4 + 1)) ∧
(inv_NameW_0 a0 (x4 + 1)) ∧
 minv_NameW_0 a0 (x4 + 1) < minv_NameW_0 a0 x4))) ∧
(48 ≤ (bx a0 x4) →
((57 < (bx a0 x4) →
(((bx a0 x4) ≠ 45 →
(false = (nameB a0)) ∧
           True)) ∧
((bx a0 x4) = 45 →
(I64 (x4 + 1)) ∧
(inv_NameW_0 a0 (x4 + 1)) ∧
 minv_NameW_0 a0 (x4 + 1) < minv_NameW_0 a0 x4))) ∧
((bx a0 x4) ≤ 57 →
(I64 (x4 + 1)) ∧
(inv_NameW_0 a0 (x4 + 1)) ∧
 minv_NameW_0 a0 (x4 + 1) < minv_NameW_0 a0 x4)))) ∧
(97 ≤ (bx a0 x4) →
((122 < (bx a0 x4) →
(((bx a0 x4) < 48 →
(((bx a0 x4) ≠ 45 →
(false = (nameB a0)) ∧
           True)) ∧
((bx a0 x4) = 45 →
(I64 (x4 + 1)) ∧
(inv_NameW_0 a0 (x4 + 1)) ∧
 minv_NameW_0 a0 (x4 + 1) < minv_NameW_0 a0 x4))) ∧
(48 ≤ (bx a0 x4) →
((57 < (bx a0 x4) →
(((bx a0 x4) ≠ 45 →
(false = (nameB a0)) ∧
            True)) ∧
((bx a0 x4) = 45 →
(I64 (x4 + 1)) ∧
(inv_NameW_0 a0 (x4 + 1)) ∧
 minv_NameW_0 a0 (x4 + 1) < minv_NameW_0 a0 x4))) ∧
((bx a0 x4) ≤ 57 →
(I64 (x4 + 1)) ∧
(inv_NameW_0 a0 (x4 + 1)) ∧
 minv_NameW_0 a0 (x4 + 1) < minv_NameW_0 a0 x4)))) ∧
((bx a0 x4) ≤ 122 →
(I64 (x4 + 1)) ∧
(inv_NameW_0 a0 (x4 + 1)) ∧
 minv_NameW_0 a0 (x4 + 1) < minv_NameW_0 a0 x4)))) ∧
((ln a0) ≤ x4 →
(true = (nameB a0)) ∧
       True)))))))
theorem NameW_vc (a0 : List UInt8) : wpTop (stdA XK (tblOf NameW_tbl) (fun j ns => match j, ns with | 0, [.i y0] => inv_NameW_0 a0 y0 | _, _ => False) (fun j ns => match j, ns with | 0, [.i y0] => minv_NameW_0 a0 y0 | _, _ => 0)) { cfg sp with ann := annOf [(49, 58, .inv 0 [.one 25 (.int .i64)] [])] } 3 49 [.str (a0)] (NameW_res a0) = NameW_VC a0 := by kernel_rfl
def CheckM_tbl : List (Nat × Ct KT) := []
abbrev CheckM_res (a0 : Int) (a1 : Int) (a2 : Int) (a3 : Int) : PV KT := .int .i64 none ((mensC a0 a1 a2 a3))
abbrev CheckM_VC (a0 : Int) (a1 : Int) (a2 : Int) (a3 : Int) : Prop :=
(inv_CheckM_0 a0 a1 a2 a3 0) ∧
(∀ x0 : Int,
(inv_CheckM_0 a0 a1 a2 a3 x0 →
((x0 < 4 →
(Wn x0 4) ∧
(((x0 : Int) = 0 →
((a0 ≠ 2 →
((a0 ≠ 3 →
((12 : Int) = (mensC a0 a1 a2 a3)) ∧
      True)) ∧
(a0 = 3 →
(I64 (x0 + 1)) ∧
((a0 : Int) = a0) ∧
((a1 : Int) = a1) ∧
((a2 : Int) = a2) ∧
((a3 : Int) = a3) ∧
((a0 : Int) = a0) ∧
((a1 : Int) = a1) ∧
((a2 : Int) = a2) ∧
((a3 : Int) = a3) ∧
((a0 : Int) = a0) ∧
((a1 : Int) = a1) ∧
((a2 : Int) = a2) ∧
((a3 : Int) = a3) ∧
(inv_CheckM_0 a0 a1 a2 a3 (x0 + 1)) ∧
 minv_CheckM_0 a0 a1 a2 a3 (x0 + 1) < minv_CheckM_0 a0 a1 a2 a3 x0))) ∧
(a0 = 2 →
(I64 (x0 + 1)) ∧
((a0 : Int) = a0) ∧
((a1 : Int) = a1) ∧
((a2 : Int) = a2) ∧
((a3 : Int) = a3) ∧
((a0 : Int) = a0) ∧
((a1 : Int) = a1) ∧
((a2 : Int) = a2) ∧
((a3 : Int) = a3) ∧
((a0 : Int) = a0) ∧
((a1 : Int) = a1) ∧
((a2 : Int) = a2) ∧
((a3 : Int) = a3) ∧
(inv_CheckM_0 a0 a1 a2 a3 (x0 + 1)) ∧
 minv_CheckM_0 a0 a1 a2 a3 (x0 + 1) < minv_CheckM_0 a0 a1 a2 a3 x0))) ∧
(((x0 : Int) = 1 →
((a1 ≠ 2 →
((a1 ≠ 3 →
((12 : Int) = (mensC a0 a1 a2 a3)) ∧
      True)) ∧
(a1 = 3 →
(I64 (x0 + 1)) ∧
((a0 : Int) = a0) ∧
((a1 : Int) = a1) ∧
((a2 : Int) = a2) ∧
((a3 : Int) = a3) ∧
((a0 : Int) = a0) ∧
((a1 : Int) = a1) ∧
((a2 : Int) = a2) ∧
((a3 : Int) = a3) ∧
((a0 : Int) = a0) ∧
((a1 : Int) = a1) ∧
((a2 : Int) = a2) ∧
((a3 : Int) = a3) ∧
(inv_CheckM_0 a0 a1 a2 a3 (x0 + 1)) ∧
 minv_CheckM_0 a0 a1 a2 a3 (x0 + 1) < minv_CheckM_0 a0 a1 a2 a3 x0))) ∧
(a1 = 2 →
(I64 (x0 + 1)) ∧
((a0 : Int) = a0) ∧
((a1 : Int) = a1) ∧
((a2 : Int) = a2) ∧
((a3 : Int) = a3) ∧
((a0 : Int) = a0) ∧
((a1 : Int) = a1) ∧
((a2 : Int) = a2) ∧
((a3 : Int) = a3) ∧
((a0 : Int) = a0) ∧
((a1 : Int) = a1) ∧
((a2 : Int) = a2) ∧
((a3 : Int) = a3) ∧
(inv_CheckM_0 a0 a1 a2 a3 (x0 + 1)) ∧
 minv_CheckM_0 a0 a1 a2 a3 (x0 + 1) < minv_CheckM_0 a0 a1 a2 a3 x0))) ∧
(((x0 : Int) = 2 →
((a2 ≠ 2 →
((a2 ≠ 3 →
((12 : Int) = (mensC a0 a1 a2 a3)) ∧
      True)) ∧
(a2 = 3 →
(I64 (x0 + 1)) ∧
((a0 : Int) = a0) ∧
((a1 : Int) = a1) ∧
((a2 : Int) = a2) ∧
((a3 : Int) = a3) ∧
((a0 : Int) = a0) ∧
((a1 : Int) = a1) ∧
((a2 : Int) = a2) ∧
((a3 : Int) = a3) ∧
((a0 : Int) = a0) ∧
((a1 : Int) = a1) ∧
((a2 : Int) = a2) ∧
((a3 : Int) = a3) ∧
(inv_CheckM_0 a0 a1 a2 a3 (x0 + 1)) ∧
 minv_CheckM_0 a0 a1 a2 a3 (x0 + 1) < minv_CheckM_0 a0 a1 a2 a3 x0))) ∧
(a2 = 2 →
(I64 (x0 + 1)) ∧
((a0 : Int) = a0) ∧
((a1 : Int) = a1) ∧
((a2 : Int) = a2) ∧
((a3 : Int) = a3) ∧
((a0 : Int) = a0) ∧
((a1 : Int) = a1) ∧
((a2 : Int) = a2) ∧
((a3 : Int) = a3) ∧
((a0 : Int) = a0) ∧
((a1 : Int) = a1) ∧
((a2 : Int) = a2) ∧
((a3 : Int) = a3) ∧
(inv_CheckM_0 a0 a1 a2 a3 (x0 + 1)) ∧
 minv_CheckM_0 a0 a1 a2 a3 (x0 + 1) < minv_CheckM_0 a0 a1 a2 a3 x0))) ∧
(((x0 : Int) = 3 →
((a3 ≠ 2 →
((a3 ≠ 3 →
((12 : Int) = (mensC a0 a1 a2 a3)) ∧
      True)) ∧
(a3 = 3 →
(I64 (x0 + 1)) ∧
((a0 : Int) = a0) ∧
((a1 : Int) = a1) ∧
((a2 : Int) = a2) ∧
((a3 : Int) = a3) ∧
((a0 : Int) = a0) ∧
((a1 : Int) = a1) ∧
((a2 : Int) = a2) ∧
((a3 : Int) = a3) ∧
((a0 : Int) = a0) ∧
((a1 : Int) = a1) ∧
((a2 : Int) = a2) ∧
((a3 : Int) = a3) ∧
(inv_CheckM_0 a0 a1 a2 a3 (x0 + 1)) ∧
 minv_CheckM_0 a0 a1 a2 a3 (x0 + 1) < minv_CheckM_0 a0 a1 a2 a3 x0))) ∧
(a3 = 2 →
(I64 (x0 + 1)) ∧
((a0 : Int) = a0) ∧
((a1 : Int) = a1) ∧
((a2 : Int) = a2) ∧
((a3 : Int) = a3) ∧
((a0 : Int) = a0) ∧
((a1 : Int) = a1) ∧
((a2 : Int) = a2) ∧
((a3 : Int) = a3) ∧
((a0 : Int) = a0) ∧
((a1 : Int) = a1) ∧
((a2 : Int) = a2) ∧
((a3 : Int) = a3) ∧
(inv_CheckM_0 a0 a1 a2 a3 (x0 + 1)) ∧
 minv_CheckM_0 a0 a1 a2 a3 (x0 + 1) < minv_CheckM_0 a0 a1 a2 a3 x0))) ∧
   True)) ∧
(4 ≤ x0 →
((0 : Int) = (mensC a0 a1 a2 a3)) ∧
   True)))
theorem CheckM_vc (a0 : Int) (a1 : Int) (a2 : Int) (a3 : Int) : wpTop (stdA XK (tblOf CheckM_tbl) (fun j ns => match j, ns with | 0, [.i y0] => inv_CheckM_0 a0 a1 a2 a3 y0 | _, _ => False) (fun j ns => match j, ns with | 0, [.i y0] => minv_CheckM_0 a0 a1 a2 a3 y0 | _, _ => 0)) { cfg sp with ann := annOf [(80, 26, .inv 0 [.one 7 (.int .i64)] [])] } 3 80 [.agg [.int .i64 none (a0), .int .i64 none (a1), .int .i64 none (a2), .int .i64 none (a3)]] (CheckM_res a0 a1 a2 a3) = CheckM_VC a0 a1 a2 a3 := by kernel_rfl
def OneS_tbl : List (Nat × Ct KT) := [(80, ct80)]
abbrev OneS_res (a0 : Int) (a1 : Int) (a2 : Int) (a3 : Int) (a4 : Bool) (a5 : Int) (a6 : Bool) (a7 : Bool) (a8 : Int) (a9 : Int) (a10 : Int) (a11 : Int) (a12 : Bool) (a13 : Int) (a14 : Int) (a15 : Int) (a16 : Int) : PV KT := .int .i64 none ((oneC (Sign.mk a0 a1 a2 a3 a4 a5 a6 a7 a8 a9 a10 a11 a12 a13 a14 a15 a16)))
abbrev OneS_VC (a0 : Int) (a1 : Int) (a2 : Int) (a3 : Int) (a4 : Bool) (a5 : Int) (a6 : Bool) (a7 : Bool) (a8 : Int) (a9 : Int) (a10 : Int) (a11 : Int) (a12 : Bool) (a13 : Int) (a14 : Int) (a15 : Int) (a16 : Int) : Prop :=
((a0 < 1 →
((8 : Int) = (oneC (Sign.mk a0 a1 a2 a3 a4 a5 a6 a7 a8 a9 a10 a11 a12 a13 a14 a15 a16))) ∧
 True)) ∧
(1 ≤ a0 →
((12 < a0 →
((8 : Int) = (oneC (Sign.mk a0 a1 a2 a3 a4 a5 a6 a7 a8 a9 a10 a11 a12 a13 a14 a15 a16))) ∧
  True)) ∧
(a0 ≤ 12 →
(Wn a0 13) ∧
(((a0 : Int) = 0 →
(((a0 ≠ a0 ∨ (a1 ≠ 0 ∨ (a2 ≠ 0 ∨ (a3 ≠ 0 ∨ (a4 ≠ false ∨ (a5 ≠ 0 ∨ (a6 ≠ false ∨ (a7 ≠ false ∨ (a8 ≠ 0 ∨ (a9 ≠ 0 ∨ (a10 ≠ 0 ∨ (a11 ≠ 0 ∨ (a12 ≠ false ∨ (a13 ≠ 0 ∨ (a14 ≠ 0 ∨ (a15 ≠ 0 ∨ a16 ≠ 0)))))))))))))))) →
((3 : Int) = (oneC (Sign.mk a0 a1 a2 a3 a4 a5 a6 a7 a8 a9 a10 a11 a12 a13 a14 a15 a16))) ∧
    True)) ∧
((a0 = a0 ∧ (a1 = 0 ∧ (a2 = 0 ∧ (a3 = 0 ∧ (a4 = false ∧ (a5 = 0 ∧ (a6 = false ∧ (a7 = false ∧ (a8 = 0 ∧ (a9 = 0 ∧ (a10 = 0 ∧ (a11 = 0 ∧ (a12 = false ∧ (a13 = 0 ∧ (a14 = 0 ∧ (a15 = 0 ∧ a16 = 0)))))))))))))))) →
((a0 = 8 →
((0 ≤ a13 →
((2 < a13 →
((2 : Int) = (oneC (Sign.mk a0 a1 a2 a3 a4 a5 a6 a7 a8 a9 a10 a11 a12 a13 a14 a15 a16))) ∧
       True)) ∧
(a13 ≤ 2 →
((a0 = 10 →
((2 ≤ a13 →
((4 < a13 →
((2 : Int) = (oneC (Sign.mk a0 a1 a2 a3 a4 a5 a6 a7 a8 a9 a10 a11 a12 a13 a14 a15 a16))) ∧
          True)) ∧
(a13 ≤ 4 →
((a6 = true →
((a7 = true →
((3 : Int) = (oneC (Sign.mk a0 a1 a2 a3 a4 a5 a6 a7 a8 a9 a10 a11 a12 a13 a14 a15 a16))) ∧
            True)) ∧
(a7 = false →
((0 : Int) = (oneC (Sign.mk a0 a1 a2 a3 a4 a5 a6 a7 a8 a9 a10 a11 a12 a13 a14 a15 a16))) ∧
            True))) ∧
(a6 = false →
((0 : Int) = (oneC (Sign.mk a0 a1 a2 a3 a4 a5 a6 a7 a8 a9 a10 a11 a12 a13 a14 a15 a16))) ∧
           True)))) ∧
(a13 < 2 →
((2 : Int) = (oneC (Sign.mk a0 a1 a2 a3 a4 a5 a6 a7 a8 a9 a10 a11 a12 a13 a14 a15 a16))) ∧
         True))) ∧
(a0 ≠ 10 →
((a6 = true →
((a7 = true →
((3 : Int) = (oneC (Sign.mk a0 a1 a2 a3 a4 a5 a6 a7 a8 a9 a10 a11 a12 a13 a14 a15 a16))) ∧
          True)) ∧
(a7 = false →
((0 : Int) = (oneC (Sign.mk a0 a1 a2 a3 a4 a5 a6 a7 a8 a9 a10 a11 a12 a13 a14 a15 a16))) ∧
          True))) ∧
(a6 = false →
((0 : Int) = (oneC (Sign.mk a0 a1 a2 a3 a4 a5 a6 a7 a8 a9 a10 a11 a12 a13 a14 a15 a16))) ∧
         True))))) ∧
(a13 < 0 →
((2 : Int) = (oneC (Sign.mk a0 a1 a2 a3 a4 a5 a6 a7 a8 a9 a10 a11 a12 a13 a14 a15 a16))) ∧
      True))) ∧
(a0 ≠ 8 →
((a0 = 10 →
((2 ≤ a13 →
((4 < a13 →
((2 : Int) = (oneC (Sign.mk a0 a1 a2 a3 a4 a5 a6 a7 a8 a9 a10 a11 a12 a13 a14 a15 a16))) ∧
        True)) ∧
(a13 ≤ 4 →
((a6 = true →
((a7 = true →
((3 : Int) = (oneC (Sign.mk a0 a1 a2 a3 a4 a5 a6 a7 a8 a9 a10 a11 a12 a13 a14 a15 a16))) ∧
          True)) ∧
(a7 = false →
((0 : Int) = (oneC (Sign.mk a0 a1 a2 a3 a4 a5 a6 a7 a8 a9 a10 a11 a12 a13 a14 a15 a16))) ∧
          True))) ∧
(a6 = false →
((0 : Int) = (oneC (Sign.mk a0 a1 a2 a3 a4 a5 a6 a7 a8 a9 a10 a11 a12 a13 a14 a15 a16))) ∧
         True)))) ∧
(a13 < 2 →
((2 : Int) = (oneC (Sign.mk a0 a1 a2 a3 a4 a5 a6 a7 a8 a9 a10 a11 a12 a13 a14 a15 a16))) ∧
       True))) ∧
(a0 ≠ 10 →
((a6 = true →
((a7 = true →
((3 : Int) = (oneC (Sign.mk a0 a1 a2 a3 a4 a5 a6 a7 a8 a9 a10 a11 a12 a13 a14 a15 a16))) ∧
        True)) ∧
(a7 = false →
((0 : Int) = (oneC (Sign.mk a0 a1 a2 a3 a4 a5 a6 a7 a8 a9 a10 a11 a12 a13 a14 a15 a16))) ∧
        True))) ∧
(a6 = false →
((0 : Int) = (oneC (Sign.mk a0 a1 a2 a3 a4 a5 a6 a7 a8 a9 a10 a11 a12 a13 a14 a15 a16))) ∧
       True)))))) ∧
(((a0 : Int) = 1 →
(((a0 ≠ a0 ∨ (a1 ≠ a1 ∨ (a2 ≠ a2 ∨ (a3 ≠ a3 ∨ (a4 ≠ a4 ∨ (a5 ≠ 0 ∨ (a6 ≠ false ∨ (a7 ≠ false ∨ (a8 ≠ 0 ∨ (a9 ≠ 0 ∨ (a10 ≠ 0 ∨ (a11 ≠ 0 ∨ (a12 ≠ false ∨ (a13 ≠ 0 ∨ (a14 ≠ 0 ∨ (a15 ≠ 0 ∨ a16 ≠ 0)))))))))))))))) →
((3 : Int) = (oneC (Sign.mk a0 a1 a2 a3 a4 a5 a6 a7 a8 a9 a10 a11 a12 a13 a14 a15 a16))) ∧
    True)) ∧
((a0 = a0 ∧ (a1 = a1 ∧ (a2 = a2 ∧ (a3 = a3 ∧ (a4 = a4 ∧ (a5 = 0 ∧ (a6 = false ∧ (a7 = false ∧ (a8 = 0 ∧ (a9 = 0 ∧ (a10 = 0 ∧ (a11 = 0 ∧ (a12 = false ∧ (a13 = 0 ∧ (a14 = 0 ∧ (a15 = 0 ∧ a16 = 0)))))))))))))))) →
((1 ≤ a1 →
((8 < a1 →
((2 : Int) = (oneC (Sign.mk a0 a1 a2 a3 a4 a5 a6 a7 a8 a9 a10 a11 a12 a13 a14 a15 a16))) ∧
      True)) ∧
(a1 ≤ 8 →
(((-4) ≤ a2 →
((12 < a2 →
((2 : Int) = (oneC (Sign.mk a0 a1 a2 a3 a4 a5 a6 a7 a8 a9 a10 a11 a12 a13 a14 a15 a16))) ∧
        True)) ∧
(a2 ≤ 12 →
(((-1) ≤ a3 →
((2 < a3 →
((2 : Int) = (oneC (Sign.mk a0 a1 a2 a3 a4 a5 a6 a7 a8 a9 a10 a11 a12 a13 a14 a15 a16))) ∧
          True)) ∧
(a3 ≤ 2 →
((a0 = 8 →
((0 ≤ a13 →
((2 < a13 →
((2 : Int) = (oneC (Sign.mk a0 a1 a2 a3 a4 a5 a6 a7 a8 a9 a10 a11 a12 a13 a14 a15 a16))) ∧
             True)) ∧
(a13 ≤ 2 →
((a0 = 10 →
((2 ≤ a13 →
((4 < a13 →
((2 : Int) = (oneC (Sign.mk a0 a1 a2 a3 a4 a5 a6 a7 a8 a9 a10 a11 a12 a13 a14 a15 a16))) ∧
                True)) ∧
(a13 ≤ 4 →
((a6 = true →
((a7 = true →
((3 : Int) = (oneC (Sign.mk a0 a1 a2 a3 a4 a5 a6 a7 a8 a9 a10 a11 a12 a13 a14 a15 a16))) ∧
                  True)) ∧
(a7 = false →
((0 : Int) = (oneC (Sign.mk a0 a1 a2 a3 a4 a5 a6 a7 a8 a9 a10 a11 a12 a13 a14 a15 a16))) ∧
                  True))) ∧
(a6 = false →
((0 : Int) = (oneC (Sign.mk a0 a1 a2 a3 a4 a5 a6 a7 a8 a9 a10 a11 a12 a13 a14 a15 a16))) ∧
                 True)))) ∧
(a13 < 2 →
((2 : Int) = (oneC (Sign.mk a0 a1 a2 a3 a4 a5 a6 a7 a8 a9 a10 a11 a12 a13 a14 a15 a16))) ∧
               True))) ∧
(a0 ≠ 10 →
((a6 = true →
((a7 = true →
((3 : Int) = (oneC (Sign.mk a0 a1 a2 a3 a4 a5 a6 a7 a8 a9 a10 a11 a12 a13 a14 a15 a16))) ∧
                True)) ∧
(a7 = false →
((0 : Int) = (oneC (Sign.mk a0 a1 a2 a3 a4 a5 a6 a7 a8 a9 a10 a11 a12 a13 a14 a15 a16))) ∧
                True))) ∧
(a6 = false →
((0 : Int) = (oneC (Sign.mk a0 a1 a2 a3 a4 a5 a6 a7 a8 a9 a10 a11 a12 a13 a14 a15 a16))) ∧
               True))))) ∧
(a13 < 0 →
((2 : Int) = (oneC (Sign.mk a0 a1 a2 a3 a4 a5 a6 a7 a8 a9 a10 a11 a12 a13 a14 a15 a16))) ∧
            True))) ∧
(a0 ≠ 8 →
((a0 = 10 →
((2 ≤ a13 →
((4 < a13 →
((2 : Int) = (oneC (Sign.mk a0 a1 a2 a3 a4 a5 a6 a7 a8 a9 a10 a11 a12 a13 a14 a15 a16))) ∧
              True)) ∧
(a13 ≤ 4 →
((a6 = true →
((a7 = true →
((3 : Int) = (oneC (Sign.mk a0 a1 a2 a3 a4 a5 a6 a7 a8 a9 a10 a11 a12 a13 a14 a15 a16))) ∧
                True)) ∧
(a7 = false →
((0 : Int) = (oneC (Sign.mk a0 a1 a2 a3 a4 a5 a6 a7 a8 a9 a10 a11 a12 a13 a14 a15 a16))) ∧
                True))) ∧
(a6 = false →
((0 : Int) = (oneC (Sign.mk a0 a1 a2 a3 a4 a5 a6 a7 a8 a9 a10 a11 a12 a13 a14 a15 a16))) ∧
               True)))) ∧
(a13 < 2 →
((2 : Int) = (oneC (Sign.mk a0 a1 a2 a3 a4 a5 a6 a7 a8 a9 a10 a11 a12 a13 a14 a15 a16))) ∧
             True))) ∧
(a0 ≠ 10 →
((a6 = true →
((a7 = true →
((3 : Int) = (oneC (Sign.mk a0 a1 a2 a3 a4 a5 a6 a7 a8 a9 a10 a11 a12 a13 a14 a15 a16))) ∧
              True)) ∧
(a7 = false →
((0 : Int) = (oneC (Sign.mk a0 a1 a2 a3 a4 a5 a6 a7 a8 a9 a10 a11 a12 a13 a14 a15 a16))) ∧
              True))) ∧
(a6 = false →
((0 : Int) = (oneC (Sign.mk a0 a1 a2 a3 a4 a5 a6 a7 a8 a9 a10 a11 a12 a13 a14 a15 a16))) ∧
             True)))))) ∧
(a3 < (-1) →
((2 : Int) = (oneC (Sign.mk a0 a1 a2 a3 a4 a5 a6 a7 a8 a9 a10 a11 a12 a13 a14 a15 a16))) ∧
         True)))) ∧
(a2 < (-4) →
((2 : Int) = (oneC (Sign.mk a0 a1 a2 a3 a4 a5 a6 a7 a8 a9 a10 a11 a12 a13 a14 a15 a16))) ∧
       True)))) ∧
(a1 < 1 →
((2 : Int) = (oneC (Sign.mk a0 a1 a2 a3 a4 a5 a6 a7 a8 a9 a10 a11 a12 a13 a14 a15 a16))) ∧
     True)))) ∧
(((a0 : Int) = 2 →
(((a0 ≠ a0 ∨ (a1 ≠ a1 ∨ (a2 ≠ 0 ∨ (a3 ≠ 0 ∨ (a4 ≠ false ∨ (a5 ≠ 0 ∨ (a6 ≠ false ∨ (a7 ≠ false ∨ (a8 ≠ 0 ∨ (a9 ≠ 0 ∨ (a10 ≠ 0 ∨ (a11 ≠ 0 ∨ (a12 ≠ false ∨ (a13 ≠ 0 ∨ (a14 ≠ 0 ∨ (a15 ≠ 0 ∨ a16 ≠ 0)))))))))))))))) →
((3 : Int) = (oneC (Sign.mk a0 a1 a2 a3 a4 a5 a6 a7 a8 a9 a10 a11 a12 a13 a14 a15 a16))) ∧
    True)) ∧
((a0 = a0 ∧ (a1 = a1 ∧ (a2 = 0 ∧ (a3 = 0 ∧ (a4 = false ∧ (a5 = 0 ∧ (a6 = false ∧ (a7 = false ∧ (a8 = 0 ∧ (a9 = 0 ∧ (a10 = 0 ∧ (a11 = 0 ∧ (a12 = false ∧ (a13 = 0 ∧ (a14 = 0 ∧ (a15 = 0 ∧ a16 = 0)))))))))))))))) →
((1 ≤ a1 →
((8 < a1 →
((2 : Int) = (oneC (Sign.mk a0 a1 a2 a3 a4 a5 a6 a7 a8 a9 a10 a11 a12 a13 a14 a15 a16))) ∧
      True)) ∧
(a1 ≤ 8 →
((a0 = 8 →
((0 ≤ a13 →
((2 < a13 →
((2 : Int) = (oneC (Sign.mk a0 a1 a2 a3 a4 a5 a6 a7 a8 a9 a10 a11 a12 a13 a14 a15 a16))) ∧
         True)) ∧
(a13 ≤ 2 →
((a0 = 10 →
((2 ≤ a13 →
((4 < a13 →
((2 : Int) = (oneC (Sign.mk a0 a1 a2 a3 a4 a5 a6 a7 a8 a9 a10 a11 a12 a13 a14 a15 a16))) ∧
            True)) ∧
(a13 ≤ 4 →
((a6 = true →
((a7 = true →
((3 : Int) = (oneC (Sign.mk a0 a1 a2 a3 a4 a5 a6 a7 a8 a9 a10 a11 a12 a13 a14 a15 a16))) ∧
              True)) ∧
(a7 = false →
((0 : Int) = (oneC (Sign.mk a0 a1 a2 a3 a4 a5 a6 a7 a8 a9 a10 a11 a12 a13 a14 a15 a16))) ∧
              True))) ∧
(a6 = false →
((0 : Int) = (oneC (Sign.mk a0 a1 a2 a3 a4 a5 a6 a7 a8 a9 a10 a11 a12 a13 a14 a15 a16))) ∧
             True)))) ∧
(a13 < 2 →
((2 : Int) = (oneC (Sign.mk a0 a1 a2 a3 a4 a5 a6 a7 a8 a9 a10 a11 a12 a13 a14 a15 a16))) ∧
           True))) ∧
(a0 ≠ 10 →
((a6 = true →
((a7 = true →
((3 : Int) = (oneC (Sign.mk a0 a1 a2 a3 a4 a5 a6 a7 a8 a9 a10 a11 a12 a13 a14 a15 a16))) ∧
            True)) ∧
(a7 = false →
((0 : Int) = (oneC (Sign.mk a0 a1 a2 a3 a4 a5 a6 a7 a8 a9 a10 a11 a12 a13 a14 a15 a16))) ∧
            True))) ∧
(a6 = false →
((0 : Int) = (oneC (Sign.mk a0 a1 a2 a3 a4 a5 a6 a7 a8 a9 a10 a11 a12 a13 a14 a15 a16))) ∧
           True))))) ∧
(a13 < 0 →
((2 : Int) = (oneC (Sign.mk a0 a1 a2 a3 a4 a5 a6 a7 a8 a9 a10 a11 a12 a13 a14 a15 a16))) ∧
        True))) ∧
(a0 ≠ 8 →
((a0 = 10 →
((2 ≤ a13 →
((4 < a13 →
((2 : Int) = (oneC (Sign.mk a0 a1 a2 a3 a4 a5 a6 a7 a8 a9 a10 a11 a12 a13 a14 a15 a16))) ∧
          True)) ∧
(a13 ≤ 4 →
((a6 = true →
((a7 = true →
((3 : Int) = (oneC (Sign.mk a0 a1 a2 a3 a4 a5 a6 a7 a8 a9 a10 a11 a12 a13 a14 a15 a16))) ∧
            True)) ∧
(a7 = false →
((0 : Int) = (oneC (Sign.mk a0 a1 a2 a3 a4 a5 a6 a7 a8 a9 a10 a11 a12 a13 a14 a15 a16))) ∧
            True))) ∧
(a6 = false →
((0 : Int) = (oneC (Sign.mk a0 a1 a2 a3 a4 a5 a6 a7 a8 a9 a10 a11 a12 a13 a14 a15 a16))) ∧
           True)))) ∧
(a13 < 2 →
((2 : Int) = (oneC (Sign.mk a0 a1 a2 a3 a4 a5 a6 a7 a8 a9 a10 a11 a12 a13 a14 a15 a16))) ∧
         True))) ∧
(a0 ≠ 10 →
((a6 = true →
((a7 = true →
((3 : Int) = (oneC (Sign.mk a0 a1 a2 a3 a4 a5 a6 a7 a8 a9 a10 a11 a12 a13 a14 a15 a16))) ∧
          True)) ∧
(a7 = false →
((0 : Int) = (oneC (Sign.mk a0 a1 a2 a3 a4 a5 a6 a7 a8 a9 a10 a11 a12 a13 a14 a15 a16))) ∧
          True))) ∧
(a6 = false →
((0 : Int) = (oneC (Sign.mk a0 a1 a2 a3 a4 a5 a6 a7 a8 a9 a10 a11 a12 a13 a14 a15 a16))) ∧
         True)))))) ∧
(a1 < 1 →
((2 : Int) = (oneC (Sign.mk a0 a1 a2 a3 a4 a5 a6 a7 a8 a9 a10 a11 a12 a13 a14 a15 a16))) ∧
     True)))) ∧
(((a0 : Int) = 3 →
(((a0 ≠ a0 ∨ (a1 ≠ 0 ∨ (a2 ≠ 0 ∨ (a3 ≠ 0 ∨ (a4 ≠ false ∨ (a5 ≠ 0 ∨ (a6 ≠ false ∨ (a7 ≠ false ∨ (a8 ≠ 0 ∨ (a9 ≠ 0 ∨ (a10 ≠ 0 ∨ (a11 ≠ 0 ∨ (a12 ≠ false ∨ (a13 ≠ 0 ∨ (a14 ≠ 0 ∨ (a15 ≠ 0 ∨ a16 ≠ 0)))))))))))))))) →
((3 : Int) = (oneC (Sign.mk a0 a1 a2 a3 a4 a5 a6 a7 a8 a9 a10 a11 a12 a13 a14 a15 a16))) ∧
    True)) ∧
((a0 = a0 ∧ (a1 = 0 ∧ (a2 = 0 ∧ (a3 = 0 ∧ (a4 = false ∧ (a5 = 0 ∧ (a6 = false ∧ (a7 = false ∧ (a8 = 0 ∧ (a9 = 0 ∧ (a10 = 0 ∧ (a11 = 0 ∧ (a12 = false ∧ (a13 = 0 ∧ (a14 = 0 ∧ (a15 = 0 ∧ a16 = 0)))))))))))))))) →
((a0 = 8 →
((0 ≤ a13 →
((2 < a13 →
((2 : Int) = (oneC (Sign.mk a0 a1 a2 a3 a4 a5 a6 a7 a8 a9 a10 a11 a12 a13 a14 a15 a16))) ∧
       True)) ∧
(a13 ≤ 2 →
((a0 = 10 →
((2 ≤ a13 →
((4 < a13 →
((2 : Int) = (oneC (Sign.mk a0 a1 a2 a3 a4 a5 a6 a7 a8 a9 a10 a11 a12 a13 a14 a15 a16))) ∧
          True)) ∧
(a13 ≤ 4 →
((a6 = true →
((a7 = true →
((3 : Int) = (oneC (Sign.mk a0 a1 a2 a3 a4 a5 a6 a7 a8 a9 a10 a11 a12 a13 a14 a15 a16))) ∧
            True)) ∧
(a7 = false →
((0 : Int) = (oneC (Sign.mk a0 a1 a2 a3 a4 a5 a6 a7 a8 a9 a10 a11 a12 a13 a14 a15 a16))) ∧
            True))) ∧
(a6 = false →
((0 : Int) = (oneC (Sign.mk a0 a1 a2 a3 a4 a5 a6 a7 a8 a9 a10 a11 a12 a13 a14 a15 a16))) ∧
           True)))) ∧
(a13 < 2 →
((2 : Int) = (oneC (Sign.mk a0 a1 a2 a3 a4 a5 a6 a7 a8 a9 a10 a11 a12 a13 a14 a15 a16))) ∧
         True))) ∧
(a0 ≠ 10 →
((a6 = true →
((a7 = true →
((3 : Int) = (oneC (Sign.mk a0 a1 a2 a3 a4 a5 a6 a7 a8 a9 a10 a11 a12 a13 a14 a15 a16))) ∧
          True)) ∧
(a7 = false →
((0 : Int) = (oneC (Sign.mk a0 a1 a2 a3 a4 a5 a6 a7 a8 a9 a10 a11 a12 a13 a14 a15 a16))) ∧
          True))) ∧
(a6 = false →
((0 : Int) = (oneC (Sign.mk a0 a1 a2 a3 a4 a5 a6 a7 a8 a9 a10 a11 a12 a13 a14 a15 a16))) ∧
         True))))) ∧
(a13 < 0 →
((2 : Int) = (oneC (Sign.mk a0 a1 a2 a3 a4 a5 a6 a7 a8 a9 a10 a11 a12 a13 a14 a15 a16))) ∧
      True))) ∧
(a0 ≠ 8 →
((a0 = 10 →
((2 ≤ a13 →
((4 < a13 →
((2 : Int) = (oneC (Sign.mk a0 a1 a2 a3 a4 a5 a6 a7 a8 a9 a10 a11 a12 a13 a14 a15 a16))) ∧
        True)) ∧
(a13 ≤ 4 →
((a6 = true →
((a7 = true →
((3 : Int) = (oneC (Sign.mk a0 a1 a2 a3 a4 a5 a6 a7 a8 a9 a10 a11 a12 a13 a14 a15 a16))) ∧
          True)) ∧
(a7 = false →
((0 : Int) = (oneC (Sign.mk a0 a1 a2 a3 a4 a5 a6 a7 a8 a9 a10 a11 a12 a13 a14 a15 a16))) ∧
          True))) ∧
(a6 = false →
((0 : Int) = (oneC (Sign.mk a0 a1 a2 a3 a4 a5 a6 a7 a8 a9 a10 a11 a12 a13 a14 a15 a16))) ∧
         True)))) ∧
(a13 < 2 →
((2 : Int) = (oneC (Sign.mk a0 a1 a2 a3 a4 a5 a6 a7 a8 a9 a10 a11 a12 a13 a14 a15 a16))) ∧
       True))) ∧
(a0 ≠ 10 →
((a6 = true →
((a7 = true →
((3 : Int) = (oneC (Sign.mk a0 a1 a2 a3 a4 a5 a6 a7 a8 a9 a10 a11 a12 a13 a14 a15 a16))) ∧
        True)) ∧
(a7 = false →
((0 : Int) = (oneC (Sign.mk a0 a1 a2 a3 a4 a5 a6 a7 a8 a9 a10 a11 a12 a13 a14 a15 a16))) ∧
        True))) ∧
(a6 = false →
((0 : Int) = (oneC (Sign.mk a0 a1 a2 a3 a4 a5 a6 a7 a8 a9 a10 a11 a12 a13 a14 a15 a16))) ∧
       True)))))) ∧
(((a0 : Int) = 4 →
(((a0 ≠ a0 ∨ (a1 ≠ 0 ∨ (a2 ≠ a2 ∨ (a3 ≠ a3 ∨ (a4 ≠ a4 ∨ (a5 ≠ a5 ∨ (a6 ≠ a6 ∨ (a7 ≠ a7 ∨ (a8 ≠ 0 ∨ (a9 ≠ 0 ∨ (a10 ≠ 0 ∨ (a11 ≠ 0 ∨ (a12 ≠ false ∨ (a13 ≠ 0 ∨ (a14 ≠ 0 ∨ (a15 ≠ 0 ∨ a16 ≠ 0)))))))))))))))) →
((3 : Int) = (oneC (Sign.mk a0 a1 a2 a3 a4 a5 a6 a7 a8 a9 a10 a11 a12 a13 a14 a15 a16))) ∧
    True)) ∧
((a0 = a0 ∧ (a1 = 0 ∧ (a2 = a2 ∧ (a3 = a3 ∧ (a4 = a4 ∧ (a5 = a5 ∧ (a6 = a6 ∧ (a7 = a7 ∧ (a8 = 0 ∧ (a9 = 0 ∧ (a10 = 0 ∧ (a11 = 0 ∧ (a12 = false ∧ (a13 = 0 ∧ (a14 = 0 ∧ (a15 = 0 ∧ a16 = 0)))))))))))))))) →
(((-4) ≤ a2 →
((12 < a2 →
((2 : Int) = (oneC (Sign.mk a0 a1 a2 a3 a4 a5 a6 a7 a8 a9 a10 a11 a12 a13 a14 a15 a16))) ∧
      True)) ∧
(a2 ≤ 12 →
(((-1) ≤ a3 →
((2 < a3 →
((2 : Int) = (oneC (Sign.mk a0 a1 a2 a3 a4 a5 a6 a7 a8 a9 a10 a11 a12 a13 a14 a15 a16))) ∧
        True)) ∧
(a3 ≤ 2 →
((0 ≤ a5 →
((3 < a5 →
((2 : Int) = (oneC (Sign.mk a0 a1 a2 a3 a4 a5 a6 a7 a8 a9 a10 a11 a12 a13 a14 a15 a16))) ∧
          True)) ∧
(a5 ≤ 3 →
((a0 = 8 →
((0 ≤ a13 →
((2 < a13 →
((2 : Int) = (oneC (Sign.mk a0 a1 a2 a3 a4 a5 a6 a7 a8 a9 a10 a11 a12 a13 a14 a15 a16))) ∧
             True)) ∧
(a13 ≤ 2 →
((a0 = 10 →
((2 ≤ a13 →
((4 < a13 →
((2 : Int) = (oneC (Sign.mk a0 a1 a2 a3 a4 a5 a6 a7 a8 a9 a10 a11 a12 a13 a14 a15 a16))) ∧
                True)) ∧
(a13 ≤ 4 →
((a6 = true →
((a7 = true →
((3 : Int) = (oneC (Sign.mk a0 a1 a2 a3 a4 a5 a6 a7 a8 a9 a10 a11 a12 a13 a14 a15 a16))) ∧
                  True)) ∧
(a7 = false →
((0 : Int) = (oneC (Sign.mk a0 a1 a2 a3 a4 a5 a6 a7 a8 a9 a10 a11 a12 a13 a14 a15 a16))) ∧
                  True))) ∧
(a6 = false →
((0 : Int) = (oneC (Sign.mk a0 a1 a2 a3 a4 a5 a6 a7 a8 a9 a10 a11 a12 a13 a14 a15 a16))) ∧
                 True)))) ∧
(a13 < 2 →
((2 : Int) = (oneC (Sign.mk a0 a1 a2 a3 a4 a5 a6 a7 a8 a9 a10 a11 a12 a13 a14 a15 a16))) ∧
               True))) ∧
(a0 ≠ 10 →
((a6 = true →
((a7 = true →
((3 : Int) = (oneC (Sign.mk a0 a1 a2 a3 a4 a5 a6 a7 a8 a9 a10 a11 a12 a13 a14 a15 a16))) ∧
                True)) ∧
(a7 = false →
((0 : Int) = (oneC (Sign.mk a0 a1 a2 a3 a4 a5 a6 a7 a8 a9 a10 a11 a12 a13 a14 a15 a16))) ∧
                True))) ∧
(a6 = false →
((0 : Int) = (oneC (Sign.mk a0 a1 a2 a3 a4 a5 a6 a7 a8 a9 a10 a11 a12 a13 a14 a15 a16))) ∧
               True))))) ∧
(a13 < 0 →
((2 : Int) = (oneC (Sign.mk a0 a1 a2 a3 a4 a5 a6 a7 a8 a9 a10 a11 a12 a13 a14 a15 a16))) ∧
            True))) ∧
(a0 ≠ 8 →
((a0 = 10 →
((2 ≤ a13 →
((4 < a13 →
((2 : Int) = (oneC (Sign.mk a0 a1 a2 a3 a4 a5 a6 a7 a8 a9 a10 a11 a12 a13 a14 a15 a16))) ∧
              True)) ∧
(a13 ≤ 4 →
((a6 = true →
((a7 = true →
((3 : Int) = (oneC (Sign.mk a0 a1 a2 a3 a4 a5 a6 a7 a8 a9 a10 a11 a12 a13 a14 a15 a16))) ∧
                True)) ∧
(a7 = false →
((0 : Int) = (oneC (Sign.mk a0 a1 a2 a3 a4 a5 a6 a7 a8 a9 a10 a11 a12 a13 a14 a15 a16))) ∧
                True))) ∧
(a6 = false →
((0 : Int) = (oneC (Sign.mk a0 a1 a2 a3 a4 a5 a6 a7 a8 a9 a10 a11 a12 a13 a14 a15 a16))) ∧
               True)))) ∧
(a13 < 2 →
((2 : Int) = (oneC (Sign.mk a0 a1 a2 a3 a4 a5 a6 a7 a8 a9 a10 a11 a12 a13 a14 a15 a16))) ∧
             True))) ∧
(a0 ≠ 10 →
((a6 = true →
((a7 = true →
((3 : Int) = (oneC (Sign.mk a0 a1 a2 a3 a4 a5 a6 a7 a8 a9 a10 a11 a12 a13 a14 a15 a16))) ∧
              True)) ∧
(a7 = false →
((0 : Int) = (oneC (Sign.mk a0 a1 a2 a3 a4 a5 a6 a7 a8 a9 a10 a11 a12 a13 a14 a15 a16))) ∧
              True))) ∧
(a6 = false →
((0 : Int) = (oneC (Sign.mk a0 a1 a2 a3 a4 a5 a6 a7 a8 a9 a10 a11 a12 a13 a14 a15 a16))) ∧
             True)))))) ∧
(a5 < 0 →
((2 : Int) = (oneC (Sign.mk a0 a1 a2 a3 a4 a5 a6 a7 a8 a9 a10 a11 a12 a13 a14 a15 a16))) ∧
         True)))) ∧
(a3 < (-1) →
((2 : Int) = (oneC (Sign.mk a0 a1 a2 a3 a4 a5 a6 a7 a8 a9 a10 a11 a12 a13 a14 a15 a16))) ∧
       True)))) ∧
(a2 < (-4) →
((2 : Int) = (oneC (Sign.mk a0 a1 a2 a3 a4 a5 a6 a7 a8 a9 a10 a11 a12 a13 a14 a15 a16))) ∧
     True)))) ∧
(((a0 : Int) = 5 →
(((a0 ≠ a0 ∨ (a1 ≠ 0 ∨ (a2 ≠ 0 ∨ (a3 ≠ 0 ∨ (a4 ≠ false ∨ (a5 ≠ 0 ∨ (a6 ≠ false ∨ (a7 ≠ false ∨ (a8 ≠ a8 ∨ (a9 ≠ a9 ∨ (a10 ≠ a10 ∨ (a11 ≠ a11 ∨ (a12 ≠ a12 ∨ (a13 ≠ 0 ∨ (a14 ≠ 0 ∨ (a15 ≠ 0 ∨ a16 ≠ 0)))))))))))))))) →
((3 : Int) = (oneC (Sign.mk a0 a1 a2 a3 a4 a5 a6 a7 a8 a9 a10 a11 a12 a13 a14 a15 a16))) ∧
    True)) ∧
((a0 = a0 ∧ (a1 = 0 ∧ (a2 = 0 ∧ (a3 = 0 ∧ (a4 = false ∧ (a5 = 0 ∧ (a6 = false ∧ (a7 = false ∧ (a8 = a8 ∧ (a9 = a9 ∧ (a10 = a10 ∧ (a11 = a11 ∧ (a12 = a12 ∧ (a13 = 0 ∧ (a14 = 0 ∧ (a15 = 0 ∧ a16 = 0)))))))))))))))) →
(True) ∧
(((mensC a8 a9 a10 a11) ≠ 0 →
((12 : Int) = (oneC (Sign.mk a0 a1 a2 a3 a4 a5 a6 a7 a8 a9 a10 a11 a12 a13 a14 a15 a16))) ∧
     True)) ∧
((mensC a8 a9 a10 a11) = 0 →
((a0 = 8 →
((0 ≤ a13 →
((2 < a13 →
((2 : Int) = (oneC (Sign.mk a0 a1 a2 a3 a4 a5 a6 a7 a8 a9 a10 a11 a12 a13 a14 a15 a16))) ∧
        True)) ∧
(a13 ≤ 2 →
((a0 = 10 →
((2 ≤ a13 →
((4 < a13 →
((2 : Int) = (oneC (Sign.mk a0 a1 a2 a3 a4 a5 a6 a7 a8 a9 a10 a11 a12 a13 a14 a15 a16))) ∧
           True)) ∧
(a13 ≤ 4 →
((a6 = true →
((a7 = true →
((3 : Int) = (oneC (Sign.mk a0 a1 a2 a3 a4 a5 a6 a7 a8 a9 a10 a11 a12 a13 a14 a15 a16))) ∧
             True)) ∧
(a7 = false →
((0 : Int) = (oneC (Sign.mk a0 a1 a2 a3 a4 a5 a6 a7 a8 a9 a10 a11 a12 a13 a14 a15 a16))) ∧
             True))) ∧
(a6 = false →
((0 : Int) = (oneC (Sign.mk a0 a1 a2 a3 a4 a5 a6 a7 a8 a9 a10 a11 a12 a13 a14 a15 a16))) ∧
            True)))) ∧
(a13 < 2 →
((2 : Int) = (oneC (Sign.mk a0 a1 a2 a3 a4 a5 a6 a7 a8 a9 a10 a11 a12 a13 a14 a15 a16))) ∧
          True))) ∧
(a0 ≠ 10 →
((a6 = true →
((a7 = true →
((3 : Int) = (oneC (Sign.mk a0 a1 a2 a3 a4 a5 a6 a7 a8 a9 a10 a11 a12 a13 a14 a15 a16))) ∧
           True)) ∧
(a7 = false →
((0 : Int) = (oneC (Sign.mk a0 a1 a2 a3 a4 a5 a6 a7 a8 a9 a10 a11 a12 a13 a14 a15 a16))) ∧
           True))) ∧
(a6 = false →
((0 : Int) = (oneC (Sign.mk a0 a1 a2 a3 a4 a5 a6 a7 a8 a9 a10 a11 a12 a13 a14 a15 a16))) ∧
          True))))) ∧
(a13 < 0 →
((2 : Int) = (oneC (Sign.mk a0 a1 a2 a3 a4 a5 a6 a7 a8 a9 a10 a11 a12 a13 a14 a15 a16))) ∧
       True))) ∧
(a0 ≠ 8 →
((a0 = 10 →
((2 ≤ a13 →
((4 < a13 →
((2 : Int) = (oneC (Sign.mk a0 a1 a2 a3 a4 a5 a6 a7 a8 a9 a10 a11 a12 a13 a14 a15 a16))) ∧
         True)) ∧
(a13 ≤ 4 →
((a6 = true →
((a7 = true →
((3 : Int) = (oneC (Sign.mk a0 a1 a2 a3 a4 a5 a6 a7 a8 a9 a10 a11 a12 a13 a14 a15 a16))) ∧
           True)) ∧
(a7 = false →
((0 : Int) = (oneC (Sign.mk a0 a1 a2 a3 a4 a5 a6 a7 a8 a9 a10 a11 a12 a13 a14 a15 a16))) ∧
           True))) ∧
(a6 = false →
((0 : Int) = (oneC (Sign.mk a0 a1 a2 a3 a4 a5 a6 a7 a8 a9 a10 a11 a12 a13 a14 a15 a16))) ∧
          True)))) ∧
(a13 < 2 →
((2 : Int) = (oneC (Sign.mk a0 a1 a2 a3 a4 a5 a6 a7 a8 a9 a10 a11 a12 a13 a14 a15 a16))) ∧
        True))) ∧
(a0 ≠ 10 →
((a6 = true →
((a7 = true →
((3 : Int) = (oneC (Sign.mk a0 a1 a2 a3 a4 a5 a6 a7 a8 a9 a10 a11 a12 a13 a14 a15 a16))) ∧
         True)) ∧
(a7 = false →
((0 : Int) = (oneC (Sign.mk a0 a1 a2 a3 a4 a5 a6 a7 a8 a9 a10 a11 a12 a13 a14 a15 a16))) ∧
         True))) ∧
(a6 = false →
((0 : Int) = (oneC (Sign.mk a0 a1 a2 a3 a4 a5 a6 a7 a8 a9 a10 a11 a12 a13 a14 a15 a16))) ∧
        True))))))) ∧
(((a0 : Int) = 6 →
(((a0 ≠ a0 ∨ (a1 ≠ 0 ∨ (a2 ≠ 0 ∨ (a3 ≠ 0 ∨ (a4 ≠ false ∨ (a5 ≠ 0 ∨ (a6 ≠ false ∨ (a7 ≠ false ∨ (a8 ≠ 0 ∨ (a9 ≠ 0 ∨ (a10 ≠ 0 ∨ (a11 ≠ 0 ∨ (a12 ≠ false ∨ (a13 ≠ a13 ∨ (a14 ≠ a14 ∨ (a15 ≠ 0 ∨ a16 ≠ 0)))))))))))))))) →
((3 : Int) = (oneC (Sign.mk a0 a1 a2 a3 a4 a5 a6 a7 a8 a9 a10 a11 a12 a13 a14 a15 a16))) ∧
    True)) ∧
((a0 = a0 ∧ (a1 = 0 ∧ (a2 = 0 ∧ (a3 = 0 ∧ (a4 = false ∧ (a5 = 0 ∧ (a6 = false ∧ (a7 = false ∧ (a8 = 0 ∧ (a9 = 0 ∧ (a10 = 0 ∧ (a11 = 0 ∧ (a12 = false ∧ (a13 = a13 ∧ (a14 = a14 ∧ (a15 = 0 ∧ a16 = 0)))))))))))))))) →
((1 ≤ a13 →
((100 < a13 →
((2 : Int) = (oneC (Sign.mk a0 a1 a2 a3 a4 a5 a6 a7 a8 a9 a10 a11 a12 a13 a14 a15 a16))) ∧
      True)) ∧
(a13 ≤ 100 →
((1 ≤ a14 →
((100 < a14 →
((2 : Int) = (oneC (Sign.mk a0 a1 a2 a3 a4 a5 a6 a7 a8 a9 a10 a11 a12 a13 a14 a15 a16))) ∧
        True)) ∧
(a14 ≤ 100 →
((a0 = 8 →
((0 ≤ a13 →
((2 < a13 →
((2 : Int) = (oneC (Sign.mk a0 a1 a2 a3 a4 a5 a6 a7 a8 a9 a10 a11 a12 a13 a14 a15 a16))) ∧
           True)) ∧
(a13 ≤ 2 →
((a0 = 10 →
((2 ≤ a13 →
((4 < a13 →
((2 : Int) = (oneC (Sign.mk a0 a1 a2 a3 a4 a5 a6 a7 a8 a9 a10 a11 a12 a13 a14 a15 a16))) ∧
              True)) ∧
(a13 ≤ 4 →
((a6 = true →
((a7 = true →
((3 : Int) = (oneC (Sign.mk a0 a1 a2 a3 a4 a5 a6 a7 a8 a9 a10 a11 a12 a13 a14 a15 a16))) ∧
                True)) ∧
(a7 = false →
((0 : Int) = (oneC (Sign.mk a0 a1 a2 a3 a4 a5 a6 a7 a8 a9 a10 a11 a12 a13 a14 a15 a16))) ∧
                True))) ∧
(a6 = false →
((0 : Int) = (oneC (Sign.mk a0 a1 a2 a3 a4 a5 a6 a7 a8 a9 a10 a11 a12 a13 a14 a15 a16))) ∧
               True)))) ∧
(a13 < 2 →
((2 : Int) = (oneC (Sign.mk a0 a1 a2 a3 a4 a5 a6 a7 a8 a9 a10 a11 a12 a13 a14 a15 a16))) ∧
             True))) ∧
(a0 ≠ 10 →
((a6 = true →
((a7 = true →
((3 : Int) = (oneC (Sign.mk a0 a1 a2 a3 a4 a5 a6 a7 a8 a9 a10 a11 a12 a13 a14 a15 a16))) ∧
              True)) ∧
(a7 = false →
((0 : Int) = (oneC (Sign.mk a0 a1 a2 a3 a4 a5 a6 a7 a8 a9 a10 a11 a12 a13 a14 a15 a16))) ∧
              True))) ∧
(a6 = false →
((0 : Int) = (oneC (Sign.mk a0 a1 a2 a3 a4 a5 a6 a7 a8 a9 a10 a11 a12 a13 a14 a15 a16))) ∧
             True))))) ∧
(a13 < 0 →
((2 : Int) = (oneC (Sign.mk a0 a1 a2 a3 a4 a5 a6 a7 a8 a9 a10 a11 a12 a13 a14 a15 a16))) ∧
          True))) ∧
(a0 ≠ 8 →
((a0 = 10 →
((2 ≤ a13 →
((4 < a13 →
((2 : Int) = (oneC (Sign.mk a0 a1 a2 a3 a4 a5 a6 a7 a8 a9 a10 a11 a12 a13 a14 a15 a16))) ∧
            True)) ∧
(a13 ≤ 4 →
((a6 = true →
((a7 = true →
((3 : Int) = (oneC (Sign.mk a0 a1 a2 a3 a4 a5 a6 a7 a8 a9 a10 a11 a12 a13 a14 a15 a16))) ∧
              True)) ∧
(a7 = false →
((0 : Int) = (oneC (Sign.mk a0 a1 a2 a3 a4 a5 a6 a7 a8 a9 a10 a11 a12 a13 a14 a15 a16))) ∧
              True))) ∧
(a6 = false →
((0 : Int) = (oneC (Sign.mk a0 a1 a2 a3 a4 a5 a6 a7 a8 a9 a10 a11 a12 a13 a14 a15 a16))) ∧
             True)))) ∧
(a13 < 2 →
((2 : Int) = (oneC (Sign.mk a0 a1 a2 a3 a4 a5 a6 a7 a8 a9 a10 a11 a12 a13 a14 a15 a16))) ∧
           True))) ∧
(a0 ≠ 10 →
((a6 = true →
((a7 = true →
((3 : Int) = (oneC (Sign.mk a0 a1 a2 a3 a4 a5 a6 a7 a8 a9 a10 a11 a12 a13 a14 a15 a16))) ∧
            True)) ∧
(a7 = false →
((0 : Int) = (oneC (Sign.mk a0 a1 a2 a3 a4 a5 a6 a7 a8 a9 a10 a11 a12 a13 a14 a15 a16))) ∧
            True))) ∧
(a6 = false →
((0 : Int) = (oneC (Sign.mk a0 a1 a2 a3 a4 a5 a6 a7 a8 a9 a10 a11 a12 a13 a14 a15 a16))) ∧
           True)))))) ∧
(a14 < 1 →
((2 : Int) = (oneC (Sign.mk a0 a1 a2 a3 a4 a5 a6 a7 a8 a9 a10 a11 a12 a13 a14 a15 a16))) ∧
       True)))) ∧
(a13 < 1 →
((2 : Int) = (oneC (Sign.mk a0 a1 a2 a3 a4 a5 a6 a7 a8 a9 a10 a11 a12 a13 a14 a15 a16))) ∧
     True)))) ∧
(((a0 : Int) = 7 →
(((a0 ≠ a0 ∨ (a1 ≠ 0 ∨ (a2 ≠ 0 ∨ (a3 ≠ 0 ∨ (a4 ≠ false ∨ (a5 ≠ 0 ∨ (a6 ≠ false ∨ (a7 ≠ false ∨ (a8 ≠ 0 ∨ (a9 ≠ 0 ∨ (a10 ≠ 0 ∨ (a11 ≠ 0 ∨ (a12 ≠ false ∨ (a13 ≠ 0 ∨ (a14 ≠ 0 ∨ (a15 ≠ a15 ∨ a16 ≠ a16)))))))))))))))) →
((3 : Int) = (oneC (Sign.mk a0 a1 a2 a3 a4 a5 a6 a7 a8 a9 a10 a11 a12 a13 a14 a15 a16))) ∧
    True)) ∧
((a0 = a0 ∧ (a1 = 0 ∧ (a2 = 0 ∧ (a3 = 0 ∧ (a4 = false ∧ (a5 = 0 ∧ (a6 = false ∧ (a7 = false ∧ (a8 = 0 ∧ (a9 = 0 ∧ (a10 = 0 ∧ (a11 = 0 ∧ (a12 = false ∧ (a13 = 0 ∧ (a14 = 0 ∧ (a15 = a15 ∧ a16 = a16)))))))))))))))) →
((a15 ≠ 0 →
((a15 ≠ 3 →
((a15 ≠ 4 →
((2 : Int) = (oneC (Sign.mk a0 a1 a2 a3 a4 a5 a6 a7 a8 a9 a10 a11 a12 a13 a14 a15 a16))) ∧
       True)) ∧
(a15 = 4 →
((1 ≤ a16 →
((5 < a16 →
((2 : Int) = (oneC (Sign.mk a0 a1 a2 a3 a4 a5 a6 a7 a8 a9 a10 a11 a12 a13 a14 a15 a16))) ∧
         True)) ∧
(a16 ≤ 5 →
((a0 = 8 →
((0 ≤ a13 →
((2 < a13 →
((2 : Int) = (oneC (Sign.mk a0 a1 a2 a3 a4 a5 a6 a7 a8 a9 a10 a11 a12 a13 a14 a15 a16))) ∧
            True)) ∧
(a13 ≤ 2 →
((a0 = 10 →
((2 ≤ a13 →
((4 < a13 →
((2 : Int) = (oneC (Sign.mk a0 a1 a2 a3 a4 a5 a6 a7 a8 a9 a10 a11 a12 a13 a14 a15 a16))) ∧
               True)) ∧
(a13 ≤ 4 →
((a6 = true →
((a7 = true →
((3 : Int) = (oneC (Sign.mk a0 a1 a2 a3 a4 a5 a6 a7 a8 a9 a10 a11 a12 a13 a14 a15 a16))) ∧
                 True)) ∧
(a7 = false →
((0 : Int) = (oneC (Sign.mk a0 a1 a2 a3 a4 a5 a6 a7 a8 a9 a10 a11 a12 a13 a14 a15 a16))) ∧
                 True))) ∧
(a6 = false →
((0 : Int) = (oneC (Sign.mk a0 a1 a2 a3 a4 a5 a6 a7 a8 a9 a10 a11 a12 a13 a14 a15 a16))) ∧
                True)))) ∧
(a13 < 2 →
((2 : Int) = (oneC (Sign.mk a0 a1 a2 a3 a4 a5 a6 a7 a8 a9 a10 a11 a12 a13 a14 a15 a16))) ∧
              True))) ∧
(a0 ≠ 10 →
((a6 = true →
((a7 = true →
((3 : Int) = (oneC (Sign.mk a0 a1 a2 a3 a4 a5 a6 a7 a8 a9 a10 a11 a12 a13 a14 a15 a16))) ∧
               True)) ∧
(a7 = false →
((0 : Int) = (oneC (Sign.mk a0 a1 a2 a3 a4 a5 a6 a7 a8 a9 a10 a11 a12 a13 a14 a15 a16))) ∧
               True))) ∧
(a6 = false →
((0 : Int) = (oneC (Sign.mk a0 a1 a2 a3 a4 a5 a6 a7 a8 a9 a10 a11 a12 a13 a14 a15 a16))) ∧
              True))))) ∧
(a13 < 0 →
((2 : Int) = (oneC (Sign.mk a0 a1 a2 a3 a4 a5 a6 a7 a8 a9 a10 a11 a12 a13 a14 a15 a16))) ∧
           True))) ∧
(a0 ≠ 8 →
((a0 = 10 →
((2 ≤ a13 →
((4 < a13 →
((2 : Int) = (oneC (Sign.mk a0 a1 a2 a3 a4 a5 a6 a7 a8 a9 a10 a11 a12 a13 a14 a15 a16))) ∧
             True)) ∧
(a13 ≤ 4 →
((a6 = true →
((a7 = true →
((3 : Int) = (oneC (Sign.mk a0 a1 a2 a3 a4 a5 a6 a7 a8 a9 a10 a11 a12 a13 a14 a15 a16))) ∧
               True)) ∧
(a7 = false →
((0 : Int) = (oneC (Sign.mk a0 a1 a2 a3 a4 a5 a6 a7 a8 a9 a10 a11 a12 a13 a14 a15 a16))) ∧
               True))) ∧
(a6 = false →
((0 : Int) = (oneC (Sign.mk a0 a1 a2 a3 a4 a5 a6 a7 a8 a9 a10 a11 a12 a13 a14 a15 a16))) ∧
              True)))) ∧
(a13 < 2 →
((2 : Int) = (oneC (Sign.mk a0 a1 a2 a3 a4 a5 a6 a7 a8 a9 a10 a11 a12 a13 a14 a15 a16))) ∧
            True))) ∧
(a0 ≠ 10 →
((a6 = true →
((a7 = true →
((3 : Int) = (oneC (Sign.mk a0 a1 a2 a3 a4 a5 a6 a7 a8 a9 a10 a11 a12 a13 a14 a15 a16))) ∧
             True)) ∧
(a7 = false →
((0 : Int) = (oneC (Sign.mk a0 a1 a2 a3 a4 a5 a6 a7 a8 a9 a10 a11 a12 a13 a14 a15 a16))) ∧
             True))) ∧
(a6 = false →
((0 : Int) = (oneC (Sign.mk a0 a1 a2 a3 a4 a5 a6 a7 a8 a9 a10 a11 a12 a13 a14 a15 a16))) ∧
            True)))))) ∧
(a16 < 1 →
((2 : Int) = (oneC (Sign.mk a0 a1 a2 a3 a4 a5 a6 a7 a8 a9 a10 a11 a12 a13 a14 a15 a16))) ∧
        True)))) ∧
(a15 = 3 →
((1 ≤ a16 →
((5 < a16 →
((2 : Int) = (oneC (Sign.mk a0 a1 a2 a3 a4 a5 a6 a7 a8 a9 a10 a11 a12 a13 a14 a15 a16))) ∧
        True)) ∧
(a16 ≤ 5 →
((a0 = 8 →
((0 ≤ a13 →
((2 < a13 →
((2 : Int) = (oneC (Sign.mk a0 a1 a2 a3 a4 a5 a6 a7 a8 a9 a10 a11 a12 a13 a14 a15 a16))) ∧
           True)) ∧
(a13 ≤ 2 →
((a0 = 10 →
((2 ≤ a13 →
((4 < a13 →
((2 : Int) = (oneC (Sign.mk a0 a1 a2 a3 a4 a5 a6 a7 a8 a9 a10 a11 a12 a13 a14 a15 a16))) ∧
              True)) ∧
(a13 ≤ 4 →
((a6 = true →
((a7 = true →
((3 : Int) = (oneC (Sign.mk a0 a1 a2 a3 a4 a5 a6 a7 a8 a9 a10 a11 a12 a13 a14 a15 a16))) ∧
                True)) ∧
(a7 = false →
((0 : Int) = (oneC (Sign.mk a0 a1 a2 a3 a4 a5 a6 a7 a8 a9 a10 a11 a12 a13 a14 a15 a16))) ∧
                True))) ∧
(a6 = false →
((0 : Int) = (oneC (Sign.mk a0 a1 a2 a3 a4 a5 a6 a7 a8 a9 a10 a11 a12 a13 a14 a15 a16))) ∧
               True)))) ∧
(a13 < 2 →
((2 : Int) = (oneC (Sign.mk a0 a1 a2 a3 a4 a5 a6 a7 a8 a9 a10 a11 a12 a13 a14 a15 a16))) ∧
             True))) ∧
(a0 ≠ 10 →
((a6 = true →
((a7 = true →
((3 : Int) = (oneC (Sign.mk a0 a1 a2 a3 a4 a5 a6 a7 a8 a9 a10 a11 a12 a13 a14 a15 a16))) ∧
              True)) ∧
(a7 = false →
((0 : Int) = (oneC (Sign.mk a0 a1 a2 a3 a4 a5 a6 a7 a8 a9 a10 a11 a12 a13 a14 a15 a16))) ∧
              True))) ∧
(a6 = false →
((0 : Int) = (oneC (Sign.mk a0 a1 a2 a3 a4 a5 a6 a7 a8 a9 a10 a11 a12 a13 a14 a15 a16))) ∧
             True))))) ∧
(a13 < 0 →
((2 : Int) = (oneC (Sign.mk a0 a1 a2 a3 a4 a5 a6 a7 a8 a9 a10 a11 a12 a13 a14 a15 a16))) ∧
          True))) ∧
(a0 ≠ 8 →
((a0 = 10 →
((2 ≤ a13 →
((4 < a13 →
((2 : Int) = (oneC (Sign.mk a0 a1 a2 a3 a4 a5 a6 a7 a8 a9 a10 a11 a12 a13 a14 a15 a16))) ∧
            True)) ∧
(a13 ≤ 4 →
((a6 = true →
((a7 = true →
((3 : Int) = (oneC (Sign.mk a0 a1 a2 a3 a4 a5 a6 a7 a8 a9 a10 a11 a12 a13 a14 a15 a16))) ∧
              True)) ∧
(a7 = false →
((0 : Int) = (oneC (Sign.mk a0 a1 a2 a3 a4 a5 a6 a7 a8 a9 a10 a11 a12 a13 a14 a15 a16))) ∧
              True))) ∧
(a6 = false →
((0 : Int) = (oneC (Sign.mk a0 a1 a2 a3 a4 a5 a6 a7 a8 a9 a10 a11 a12 a13 a14 a15 a16))) ∧
             True)))) ∧
(a13 < 2 →
((2 : Int) = (oneC (Sign.mk a0 a1 a2 a3 a4 a5 a6 a7 a8 a9 a10 a11 a12 a13 a14 a15 a16))) ∧
           True))) ∧
(a0 ≠ 10 →
((a6 = true →
((a7 = true →
((3 : Int) = (oneC (Sign.mk a0 a1 a2 a3 a4 a5 a6 a7 a8 a9 a10 a11 a12 a13 a14 a15 a16))) ∧
            True)) ∧
(a7 = false →
((0 : Int) = (oneC (Sign.mk a0 a1 a2 a3 a4 a5 a6 a7 a8 a9 a10 a11 a12 a13 a14 a15 a16))) ∧
            True))) ∧
(a6 = false →
((0 : Int) = (oneC (Sign.mk a0 a1 a2 a3 a4 a5 a6 a7 a8 a9 a10 a11 a12 a13 a14 a15 a16))) ∧
           True)))))) ∧
(a16 < 1 →
((2 : Int) = (oneC (Sign.mk a0 a1 a2 a3 a4 a5 a6 a7 a8 a9 a10 a11 a12 a13 a14 a15 a16))) ∧
       True)))) ∧
(a15 = 0 →
((1 ≤ a16 →
((5 < a16 →
((2 : Int) = (oneC (Sign.mk a0 a1 a2 a3 a4 a5 a6 a7 a8 a9 a10 a11 a12 a13 a14 a15 a16))) ∧
       True)) ∧
(a16 ≤ 5 →
((a0 = 8 →
((0 ≤ a13 →
((2 < a13 →
((2 : Int) = (oneC (Sign.mk a0 a1 a2 a3 a4 a5 a6 a7 a8 a9 a10 a11 a12 a13 a14 a15 a16))) ∧
          True)) ∧
(a13 ≤ 2 →
((a0 = 10 →
((2 ≤ a13 →
((4 < a13 →
((2 : Int) = (oneC (Sign.mk a0 a1 a2 a3 a4 a5 a6 a7 a8 a9 a10 a11 a12 a13 a14 a15 a16))) ∧
             True)) ∧
(a13 ≤ 4 →
((a6 = true →
((a7 = true →
((3 : Int) = (oneC (Sign.mk a0 a1 a2 a3 a4 a5 a6 a7 a8 a9 a10 a11 a12 a13 a14 a15 a16))) ∧
               True)) ∧
(a7 = false →
((0 : Int) = (oneC (Sign.mk a0 a1 a2 a3 a4 a5 a6 a7 a8 a9 a10 a11 a12 a13 a14 a15 a16))) ∧
               True))) ∧
(a6 = false →
((0 : Int) = (oneC (Sign.mk a0 a1 a2 a3 a4 a5 a6 a7 a8 a9 a10 a11 a12 a13 a14 a15 a16))) ∧
              True)))) ∧
(a13 < 2 →
((2 : Int) = (oneC (Sign.mk a0 a1 a2 a3 a4 a5 a6 a7 a8 a9 a10 a11 a12 a13 a14 a15 a16))) ∧
            True))) ∧
(a0 ≠ 10 →
((a6 = true →
((a7 = true →
((3 : Int) = (oneC (Sign.mk a0 a1 a2 a3 a4 a5 a6 a7 a8 a9 a10 a11 a12 a13 a14 a15 a16))) ∧
             True)) ∧
(a7 = false →
((0 : Int) = (oneC (Sign.mk a0 a1 a2 a3 a4 a5 a6 a7 a8 a9 a10 a11 a12 a13 a14 a15 a16))) ∧
             True))) ∧
(a6 = false →
((0 : Int) = (oneC (Sign.mk a0 a1 a2 a3 a4 a5 a6 a7 a8 a9 a10 a11 a12 a13 a14 a15 a16))) ∧
            True))))) ∧
(a13 < 0 →
((2 : Int) = (oneC (Sign.mk a0 a1 a2 a3 a4 a5 a6 a7 a8 a9 a10 a11 a12 a13 a14 a15 a16))) ∧
         True))) ∧
(a0 ≠ 8 →
((a0 = 10 →
((2 ≤ a13 →
((4 < a13 →
((2 : Int) = (oneC (Sign.mk a0 a1 a2 a3 a4 a5 a6 a7 a8 a9 a10 a11 a12 a13 a14 a15 a16))) ∧
           True)) ∧
(a13 ≤ 4 →
((a6 = true →
((a7 = true →
((3 : Int) = (oneC (Sign.mk a0 a1 a2 a3 a4 a5 a6 a7 a8 a9 a10 a11 a12 a13 a14 a15 a16))) ∧
             True)) ∧
(a7 = false →
((0 : Int) = (oneC (Sign.mk a0 a1 a2 a3 a4 a5 a6 a7 a8 a9 a10 a11 a12 a13 a14 a15 a16))) ∧
             True))) ∧
(a6 = false →
((0 : Int) = (oneC (Sign.mk a0 a1 a2 a3 a4 a5 a6 a7 a8 a9 a10 a11 a12 a13 a14 a15 a16))) ∧
            True)))) ∧
(a13 < 2 →
((2 : Int) = (oneC (Sign.mk a0 a1 a2 a3 a4 a5 a6 a7 a8 a9 a10 a11 a12 a13 a14 a15 a16))) ∧
          True))) ∧
(a0 ≠ 10 →
((a6 = true →
((a7 = true →
((3 : Int) = (oneC (Sign.mk a0 a1 a2 a3 a4 a5 a6 a7 a8 a9 a10 a11 a12 a13 a14 a15 a16))) ∧
           True)) ∧
(a7 = false →
((0 : Int) = (oneC (Sign.mk a0 a1 a2 a3 a4 a5 a6 a7 a8 a9 a10 a11 a12 a13 a14 a15 a16))) ∧
           True))) ∧
(a6 = false →
((0 : Int) = (oneC (Sign.mk a0 a1 a2 a3 a4 a5 a6 a7 a8 a9 a10 a11 a12 a13 a14 a15 a16))) ∧
          True)))))) ∧
(a16 < 1 →
((2 : Int) = (oneC (Sign.mk a0 a1 a2 a3 a4 a5 a6 a7 a8 a9 a10 a11 a12 a13 a14 a15 a16))) ∧
      True))))) ∧
(((a0 : Int) = 8 →
(((a0 ≠ a0 ∨ (a1 ≠ 0 ∨ (a2 ≠ 0 ∨ (a3 ≠ 0 ∨ (a4 ≠ false ∨ (a5 ≠ 0 ∨ (a6 ≠ false ∨ (a7 ≠ false ∨ (a8 ≠ 0 ∨ (a9 ≠ 0 ∨ (a10 ≠ 0 ∨ (a11 ≠ 0 ∨ (a12 ≠ false ∨ (a13 ≠ a13 ∨ (a14 ≠ 0 ∨ (a15 ≠ 0 ∨ a16 ≠ 0)))))))))))))))) →
((3 : Int) = (oneC (Sign.mk a0 a1 a2 a3 a4 a5 a6 a7 a8 a9 a10 a11 a12 a13 a14 a15 a16))) ∧
    True)) ∧
((a0 = a0 ∧ (a1 = 0 ∧ (a2 = 0 ∧ (a3 = 0 ∧ (a4 = false ∧ (a5 = 0 ∧ (a6 = false ∧ (a7 = false ∧ (a8 = 0 ∧ (a9 = 0 ∧ (a10 = 0 ∧ (a11 = 0 ∧ (a12 = false ∧ (a13 = a13 ∧ (a14 = 0 ∧ (a15 = 0 ∧ a16 = 0)))))))))))))))) →
((a0 = 8 →
((0 ≤ a13 →
((2 < a13 →
((2 : Int) = (oneC (Sign.mk a0 a1 a2 a3 a4 a5 a6 a7 a8 a9 a10 a11 a12 a13 a14 a15 a16))) ∧
       True)) ∧
(a13 ≤ 2 →
((a0 = 10 →
((2 ≤ a13 →
((4 < a13 →
((2 : Int) = (oneC (Sign.mk a0 a1 a2 a3 a4 a5 a6 a7 a8 a9 a10 a11 a12 a13 a14 a15 a16))) ∧
          True)) ∧
(a13 ≤ 4 →
((a6 = true →
((a7 = true →
((3 : Int) = (oneC (Sign.mk a0 a1 a2 a3 a4 a5 a6 a7 a8 a9 a10 a11 a12 a13 a14 a15 a16))) ∧
            True)) ∧
(a7 = false →
((0 : Int) = (oneC (Sign.mk a0 a1 a2 a3 a4 a5 a6 a7 a8 a9 a10 a11 a12 a13 a14 a15 a16))) ∧
            True))) ∧
(a6 = false →
((0 : Int) = (oneC (Sign.mk a0 a1 a2 a3 a4 a5 a6 a7 a8 a9 a10 a11 a12 a13 a14 a15 a16))) ∧
           True)))) ∧
(a13 < 2 →
((2 : Int) = (oneC (Sign.mk a0 a1 a2 a3 a4 a5 a6 a7 a8 a9 a10 a11 a12 a13 a14 a15 a16))) ∧
         True))) ∧
(a0 ≠ 10 →
((a6 = true →
((a7 = true →
((3 : Int) = (oneC (Sign.mk a0 a1 a2 a3 a4 a5 a6 a7 a8 a9 a10 a11 a12 a13 a14 a15 a16))) ∧
          True)) ∧
(a7 = false →
((0 : Int) = (oneC (Sign.mk a0 a1 a2 a3 a4 a5 a6 a7 a8 a9 a10 a11 a12 a13 a14 a15 a16))) ∧
          True))) ∧
(a6 = false →
((0 : Int) = (oneC (Sign.mk a0 a1 a2 a3 a4 a5 a6 a7 a8 a9 a10 a11 a12 a13 a14 a15 a16))) ∧
         True))))) ∧
(a13 < 0 →
((2 : Int) = (oneC (Sign.mk a0 a1 a2 a3 a4 a5 a6 a7 a8 a9 a10 a11 a12 a13 a14 a15 a16))) ∧
      True))) ∧
(a0 ≠ 8 →
((a0 = 10 →
((2 ≤ a13 →
((4 < a13 →
((2 : Int) = (oneC (Sign.mk a0 a1 a2 a3 a4 a5 a6 a7 a8 a9 a10 a11 a12 a13 a14 a15 a16))) ∧
        True)) ∧
(a13 ≤ 4 →
((a6 = true →
((a7 = true →
((3 : Int) = (oneC (Sign.mk a0 a1 a2 a3 a4 a5 a6 a7 a8 a9 a10 a11 a12 a13 a14 a15 a16))) ∧
          True)) ∧
(a7 = false →
((0 : Int) = (oneC (Sign.mk a0 a1 a2 a3 a4 a5 a6 a7 a8 a9 a10 a11 a12 a13 a14 a15 a16))) ∧
          True))) ∧
(a6 = false →
((0 : Int) = (oneC (Sign.mk a0 a1 a2 a3 a4 a5 a6 a7 a8 a9 a10 a11 a12 a13 a14 a15 a16))) ∧
         True)))) ∧
(a13 < 2 →
((2 : Int) = (oneC (Sign.mk a0 a1 a2 a3 a4 a5 a6 a7 a8 a9 a10 a11 a12 a13 a14 a15 a16))) ∧
       True))) ∧
(a0 ≠ 10 →
((a6 = true →
((a7 = true →
((3 : Int) = (oneC (Sign.mk a0 a1 a2 a3 a4 a5 a6 a7 a8 a9 a10 a11 a12 a13 a14 a15 a16))) ∧
        True)) ∧
(a7 = false →
((0 : Int) = (oneC (Sign.mk a0 a1 a2 a3 a4 a5 a6 a7 a8 a9 a10 a11 a12 a13 a14 a15 a16))) ∧
        True))) ∧
(a6 = false →
((0 : Int) = (oneC (Sign.mk a0 a1 a2 a3 a4 a5 a6 a7 a8 a9 a10 a11 a12 a13 a14 a15 a16))) ∧
       True)))))) ∧
(((a0 : Int) = 9 →
(((a0 ≠ a0 ∨ (a1 ≠ 0 ∨ (a2 ≠ 0 ∨ (a3 ≠ 0 ∨ (a4 ≠ false ∨ (a5 ≠ 0 ∨ (a6 ≠ false ∨ (a7 ≠ false ∨ (a8 ≠ 0 ∨ (a9 ≠ 0 ∨ (a10 ≠ 0 ∨ (a11 ≠ 0 ∨ (a12 ≠ false ∨ (a13 ≠ 0 ∨ (a14 ≠ 0 ∨ (a15 ≠ 0 ∨ a16 ≠ 0)))))))))))))))) →
((3 : Int) = (oneC (Sign.mk a0 a1 a2 a3 a4 a5 a6 a7 a8 a9 a10 a11 a12 a13 a14 a15 a16))) ∧
    True)) ∧
((a0 = a0 ∧ (a1 = 0 ∧ (a2 = 0 ∧ (a3 = 0 ∧ (a4 = false ∧ (a5 = 0 ∧ (a6 = false ∧ (a7 = false ∧ (a8 = 0 ∧ (a9 = 0 ∧ (a10 = 0 ∧ (a11 = 0 ∧ (a12 = false ∧ (a13 = 0 ∧ (a14 = 0 ∧ (a15 = 0 ∧ a16 = 0)))))))))))))))) →
((a0 = 8 →
((0 ≤ a13 →
((2 < a13 →
((2 : Int) = (oneC (Sign.mk a0 a1 a2 a3 a4 a5 a6 a7 a8 a9 a10 a11 a12 a13 a14 a15 a16))) ∧
       True)) ∧
(a13 ≤ 2 →
((a0 = 10 →
((2 ≤ a13 →
((4 < a13 →
((2 : Int) = (oneC (Sign.mk a0 a1 a2 a3 a4 a5 a6 a7 a8 a9 a10 a11 a12 a13 a14 a15 a16))) ∧
          True)) ∧
(a13 ≤ 4 →
((a6 = true →
((a7 = true →
((3 : Int) = (oneC (Sign.mk a0 a1 a2 a3 a4 a5 a6 a7 a8 a9 a10 a11 a12 a13 a14 a15 a16))) ∧
            True)) ∧
(a7 = false →
((0 : Int) = (oneC (Sign.mk a0 a1 a2 a3 a4 a5 a6 a7 a8 a9 a10 a11 a12 a13 a14 a15 a16))) ∧
            True))) ∧
(a6 = false →
((0 : Int) = (oneC (Sign.mk a0 a1 a2 a3 a4 a5 a6 a7 a8 a9 a10 a11 a12 a13 a14 a15 a16))) ∧
           True)))) ∧
(a13 < 2 →
((2 : Int) = (oneC (Sign.mk a0 a1 a2 a3 a4 a5 a6 a7 a8 a9 a10 a11 a12 a13 a14 a15 a16))) ∧
         True))) ∧
(a0 ≠ 10 →
((a6 = true →
((a7 = true →
((3 : Int) = (oneC (Sign.mk a0 a1 a2 a3 a4 a5 a6 a7 a8 a9 a10 a11 a12 a13 a14 a15 a16))) ∧
          True)) ∧
(a7 = false →
((0 : Int) = (oneC (Sign.mk a0 a1 a2 a3 a4 a5 a6 a7 a8 a9 a10 a11 a12 a13 a14 a15 a16))) ∧
          True))) ∧
(a6 = false →
((0 : Int) = (oneC (Sign.mk a0 a1 a2 a3 a4 a5 a6 a7 a8 a9 a10 a11 a12 a13 a14 a15 a16))) ∧
         True))))) ∧
(a13 < 0 →
((2 : Int) = (oneC (Sign.mk a0 a1 a2 a3 a4 a5 a6 a7 a8 a9 a10 a11 a12 a13 a14 a15 a16))) ∧
      True))) ∧
(a0 ≠ 8 →
((a0 = 10 →
((2 ≤ a13 →
((4 < a13 →
((2 : Int) = (oneC (Sign.mk a0 a1 a2 a3 a4 a5 a6 a7 a8 a9 a10 a11 a12 a13 a14 a15 a16))) ∧
        True)) ∧
(a13 ≤ 4 →
((a6 = true →
((a7 = true →
((3 : Int) = (oneC (Sign.mk a0 a1 a2 a3 a4 a5 a6 a7 a8 a9 a10 a11 a12 a13 a14 a15 a16))) ∧
          True)) ∧
(a7 = false →
((0 : Int) = (oneC (Sign.mk a0 a1 a2 a3 a4 a5 a6 a7 a8 a9 a10 a11 a12 a13 a14 a15 a16))) ∧
          True))) ∧
(a6 = false →
((0 : Int) = (oneC (Sign.mk a0 a1 a2 a3 a4 a5 a6 a7 a8 a9 a10 a11 a12 a13 a14 a15 a16))) ∧
         True)))) ∧
(a13 < 2 →
((2 : Int) = (oneC (Sign.mk a0 a1 a2 a3 a4 a5 a6 a7 a8 a9 a10 a11 a12 a13 a14 a15 a16))) ∧
       True))) ∧
(a0 ≠ 10 →
((a6 = true →
((a7 = true →
((3 : Int) = (oneC (Sign.mk a0 a1 a2 a3 a4 a5 a6 a7 a8 a9 a10 a11 a12 a13 a14 a15 a16))) ∧
        True)) ∧
(a7 = false →
((0 : Int) = (oneC (Sign.mk a0 a1 a2 a3 a4 a5 a6 a7 a8 a9 a10 a11 a12 a13 a14 a15 a16))) ∧
        True))) ∧
(a6 = false →
((0 : Int) = (oneC (Sign.mk a0 a1 a2 a3 a4 a5 a6 a7 a8 a9 a10 a11 a12 a13 a14 a15 a16))) ∧
       True)))))) ∧
(((a0 : Int) = 10 →
(((a0 ≠ a0 ∨ (a1 ≠ 0 ∨ (a2 ≠ 0 ∨ (a3 ≠ 0 ∨ (a4 ≠ false ∨ (a5 ≠ 0 ∨ (a6 ≠ false ∨ (a7 ≠ false ∨ (a8 ≠ 0 ∨ (a9 ≠ 0 ∨ (a10 ≠ 0 ∨ (a11 ≠ 0 ∨ (a12 ≠ false ∨ (a13 ≠ a13 ∨ (a14 ≠ 0 ∨ (a15 ≠ 0 ∨ a16 ≠ 0)))))))))))))))) →
((3 : Int) = (oneC (Sign.mk a0 a1 a2 a3 a4 a5 a6 a7 a8 a9 a10 a11 a12 a13 a14 a15 a16))) ∧
    True)) ∧
((a0 = a0 ∧ (a1 = 0 ∧ (a2 = 0 ∧ (a3 = 0 ∧ (a4 = false ∧ (a5 = 0 ∧ (a6 = false ∧ (a7 = false ∧ (a8 = 0 ∧ (a9 = 0 ∧ (a10 = 0 ∧ (a11 = 0 ∧ (a12 = false ∧ (a13 = a13 ∧ (a14 = 0 ∧ (a15 = 0 ∧ a16 = 0)))))))))))))))) →
((a0 = 8 →
((0 ≤ a13 →
((2 < a13 →
((2 : Int) = (oneC (Sign.mk a0 a1 a2 a3 a4 a5 a6 a7 a8 a9 a10 a11 a12 a13 a14 a15 a16))) ∧
       True)) ∧
(a13 ≤ 2 →
((a0 = 10 →
((2 ≤ a13 →
((4 < a13 →
((2 : Int) = (oneC (Sign.mk a0 a1 a2 a3 a4 a5 a6 a7 a8 a9 a10 a11 a12 a13 a14 a15 a16))) ∧
          True)) ∧
(a13 ≤ 4 →
((a6 = true →
((a7 = true →
((3 : Int) = (oneC (Sign.mk a0 a1 a2 a3 a4 a5 a6 a7 a8 a9 a10 a11 a12 a13 a14 a15 a16))) ∧
            True)) ∧
(a7 = false →
((0 : Int) = (oneC (Sign.mk a0 a1 a2 a3 a4 a5 a6 a7 a8 a9 a10 a11 a12 a13 a14 a15 a16))) ∧
            True))) ∧
(a6 = false →
((0 : Int) = (oneC (Sign.mk a0 a1 a2 a3 a4 a5 a6 a7 a8 a9 a10 a11 a12 a13 a14 a15 a16))) ∧
           True)))) ∧
(a13 < 2 →
((2 : Int) = (oneC (Sign.mk a0 a1 a2 a3 a4 a5 a6 a7 a8 a9 a10 a11 a12 a13 a14 a15 a16))) ∧
         True))) ∧
(a0 ≠ 10 →
((a6 = true →
((a7 = true →
((3 : Int) = (oneC (Sign.mk a0 a1 a2 a3 a4 a5 a6 a7 a8 a9 a10 a11 a12 a13 a14 a15 a16))) ∧
          True)) ∧
(a7 = false →
((0 : Int) = (oneC (Sign.mk a0 a1 a2 a3 a4 a5 a6 a7 a8 a9 a10 a11 a12 a13 a14 a15 a16))) ∧
          True))) ∧
(a6 = false →
((0 : Int) = (oneC (Sign.mk a0 a1 a2 a3 a4 a5 a6 a7 a8 a9 a10 a11 a12 a13 a14 a15 a16))) ∧
         True))))) ∧
(a13 < 0 →
((2 : Int) = (oneC (Sign.mk a0 a1 a2 a3 a4 a5 a6 a7 a8 a9 a10 a11 a12 a13 a14 a15 a16))) ∧
      True))) ∧
(a0 ≠ 8 →
((a0 = 10 →
((2 ≤ a13 →
((4 < a13 →
((2 : Int) = (oneC (Sign.mk a0 a1 a2 a3 a4 a5 a6 a7 a8 a9 a10 a11 a12 a13 a14 a15 a16))) ∧
        True)) ∧
(a13 ≤ 4 →
((a6 = true →
((a7 = true →
((3 : Int) = (oneC (Sign.mk a0 a1 a2 a3 a4 a5 a6 a7 a8 a9 a10 a11 a12 a13 a14 a15 a16))) ∧
          True)) ∧
(a7 = false →
((0 : Int) = (oneC (Sign.mk a0 a1 a2 a3 a4 a5 a6 a7 a8 a9 a10 a11 a12 a13 a14 a15 a16))) ∧
          True))) ∧
(a6 = false →
((0 : Int) = (oneC (Sign.mk a0 a1 a2 a3 a4 a5 a6 a7 a8 a9 a10 a11 a12 a13 a14 a15 a16))) ∧
         True)))) ∧
(a13 < 2 →
((2 : Int) = (oneC (Sign.mk a0 a1 a2 a3 a4 a5 a6 a7 a8 a9 a10 a11 a12 a13 a14 a15 a16))) ∧
       True))) ∧
(a0 ≠ 10 →
((a6 = true →
((a7 = true →
((3 : Int) = (oneC (Sign.mk a0 a1 a2 a3 a4 a5 a6 a7 a8 a9 a10 a11 a12 a13 a14 a15 a16))) ∧
        True)) ∧
(a7 = false →
((0 : Int) = (oneC (Sign.mk a0 a1 a2 a3 a4 a5 a6 a7 a8 a9 a10 a11 a12 a13 a14 a15 a16))) ∧
        True))) ∧
(a6 = false →
((0 : Int) = (oneC (Sign.mk a0 a1 a2 a3 a4 a5 a6 a7 a8 a9 a10 a11 a12 a13 a14 a15 a16))) ∧
       True)))))) ∧
(((a0 : Int) = 11 →
(((a0 ≠ a0 ∨ (a1 ≠ 0 ∨ (a2 ≠ 0 ∨ (a3 ≠ 0 ∨ (a4 ≠ false ∨ (a5 ≠ 0 ∨ (a6 ≠ false ∨ (a7 ≠ false ∨ (a8 ≠ 0 ∨ (a9 ≠ 0 ∨ (a10 ≠ 0 ∨ (a11 ≠ 0 ∨ (a12 ≠ false ∨ (a13 ≠ 0 ∨ (a14 ≠ 0 ∨ (a15 ≠ 0 ∨ a16 ≠ 0)))))))))))))))) →
((3 : Int) = (oneC (Sign.mk a0 a1 a2 a3 a4 a5 a6 a7 a8 a9 a10 a11 a12 a13 a14 a15 a16))) ∧
    True)) ∧
((a0 = a0 ∧ (a1 = 0 ∧ (a2 = 0 ∧ (a3 = 0 ∧ (a4 = false ∧ (a5 = 0 ∧ (a6 = false ∧ (a7 = false ∧ (a8 = 0 ∧ (a9 = 0 ∧ (a10 = 0 ∧ (a11 = 0 ∧ (a12 = false ∧ (a13 = 0 ∧ (a14 = 0 ∧ (a15 = 0 ∧ a16 = 0)))))))))))))))) →
((a0 = 8 →
((0 ≤ a13 →
((2 < a13 →
((2 : Int) = (oneC (Sign.mk a0 a1 a2 a3 a4 a5 a6 a7 a8 a9 a10 a11 a12 a13 a14 a15 a16))) ∧
       True)) ∧
(a13 ≤ 2 →
((a0 = 10 →
((2 ≤ a13 →
((4 < a13 →
((2 : Int) = (oneC (Sign.mk a0 a1 a2 a3 a4 a5 a6 a7 a8 a9 a10 a11 a12 a13 a14 a15 a16))) ∧
          True)) ∧
(a13 ≤ 4 →
((a6 = true →
((a7 = true →
((3 : Int) = (oneC (Sign.mk a0 a1 a2 a3 a4 a5 a6 a7 a8 a9 a10 a11 a12 a13 a14 a15 a16))) ∧
            True)) ∧
(a7 = false →
((0 : Int) = (oneC (Sign.mk a0 a1 a2 a3 a4 a5 a6 a7 a8 a9 a10 a11 a12 a13 a14 a15 a16))) ∧
            True))) ∧
(a6 = false →
((0 : Int) = (oneC (Sign.mk a0 a1 a2 a3 a4 a5 a6 a7 a8 a9 a10 a11 a12 a13 a14 a15 a16))) ∧
           True)))) ∧
(a13 < 2 →
((2 : Int) = (oneC (Sign.mk a0 a1 a2 a3 a4 a5 a6 a7 a8 a9 a10 a11 a12 a13 a14 a15 a16))) ∧
         True))) ∧
(a0 ≠ 10 →
((a6 = true →
((a7 = true →
((3 : Int) = (oneC (Sign.mk a0 a1 a2 a3 a4 a5 a6 a7 a8 a9 a10 a11 a12 a13 a14 a15 a16))) ∧
          True)) ∧
(a7 = false →
((0 : Int) = (oneC (Sign.mk a0 a1 a2 a3 a4 a5 a6 a7 a8 a9 a10 a11 a12 a13 a14 a15 a16))) ∧
          True))) ∧
(a6 = false →
((0 : Int) = (oneC (Sign.mk a0 a1 a2 a3 a4 a5 a6 a7 a8 a9 a10 a11 a12 a13 a14 a15 a16))) ∧
         True))))) ∧
(a13 < 0 →
((2 : Int) = (oneC (Sign.mk a0 a1 a2 a3 a4 a5 a6 a7 a8 a9 a10 a11 a12 a13 a14 a15 a16))) ∧
      True))) ∧
(a0 ≠ 8 →
((a0 = 10 →
((2 ≤ a13 →
((4 < a13 →
((2 : Int) = (oneC (Sign.mk a0 a1 a2 a3 a4 a5 a6 a7 a8 a9 a10 a11 a12 a13 a14 a15 a16))) ∧
        True)) ∧
(a13 ≤ 4 →
((a6 = true →
((a7 = true →
((3 : Int) = (oneC (Sign.mk a0 a1 a2 a3 a4 a5 a6 a7 a8 a9 a10 a11 a12 a13 a14 a15 a16))) ∧
          True)) ∧
(a7 = false →
((0 : Int) = (oneC (Sign.mk a0 a1 a2 a3 a4 a5 a6 a7 a8 a9 a10 a11 a12 a13 a14 a15 a16))) ∧
          True))) ∧
(a6 = false →
((0 : Int) = (oneC (Sign.mk a0 a1 a2 a3 a4 a5 a6 a7 a8 a9 a10 a11 a12 a13 a14 a15 a16))) ∧
         True)))) ∧
(a13 < 2 →
((2 : Int) = (oneC (Sign.mk a0 a1 a2 a3 a4 a5 a6 a7 a8 a9 a10 a11 a12 a13 a14 a15 a16))) ∧
       True))) ∧
(a0 ≠ 10 →
((a6 = true →
((a7 = true →
((3 : Int) = (oneC (Sign.mk a0 a1 a2 a3 a4 a5 a6 a7 a8 a9 a10 a11 a12 a13 a14 a15 a16))) ∧
        True)) ∧
(a7 = false →
((0 : Int) = (oneC (Sign.mk a0 a1 a2 a3 a4 a5 a6 a7 a8 a9 a10 a11 a12 a13 a14 a15 a16))) ∧
        True))) ∧
(a6 = false →
((0 : Int) = (oneC (Sign.mk a0 a1 a2 a3 a4 a5 a6 a7 a8 a9 a10 a11 a12 a13 a14 a15 a16))) ∧
       True)))))) ∧
(((a0 : Int) = 12 →
(((a0 ≠ a0 ∨ (a1 ≠ 0 ∨ (a2 ≠ 0 ∨ (a3 ≠ 0 ∨ (a4 ≠ false ∨ (a5 ≠ 0 ∨ (a6 ≠ false ∨ (a7 ≠ false ∨ (a8 ≠ 0 ∨ (a9 ≠ 0 ∨ (a10 ≠ 0 ∨ (a11 ≠ 0 ∨ (a12 ≠ false ∨ (a13 ≠ 0 ∨ (a14 ≠ 0 ∨ (a15 ≠ 0 ∨ a16 ≠ 0)))))))))))))))) →
((3 : Int) = (oneC (Sign.mk a0 a1 a2 a3 a4 a5 a6 a7 a8 a9 a10 a11 a12 a13 a14 a15 a16))) ∧
    True)) ∧
((a0 = a0 ∧ (a1 = 0 ∧ (a2 = 0 ∧ (a3 = 0 ∧ (a4 = false ∧ (a5 = 0 ∧ (a6 = false ∧ (a7 = false ∧ (a8 = 0 ∧ (a9 = 0 ∧ (a10 = 0 ∧ (a11 = 0 ∧ (a12 = false ∧ (a13 = 0 ∧ (a14 = 0 ∧ (a15 = 0 ∧ a16 = 0)))))))))))))))) →
((a0 = 8 →
((0 ≤ a13 →
((2 < a13 →
((2 : Int) = (oneC (Sign.mk a0 a1 a2 a3 a4 a5 a6 a7 a8 a9 a10 a11 a12 a13 a14 a15 a16))) ∧
       True)) ∧
(a13 ≤ 2 →
((a0 = 10 →
((2 ≤ a13 →
((4 < a13 →
((2 : Int) = (oneC (Sign.mk a0 a1 a2 a3 a4 a5 a6 a7 a8 a9 a10 a11 a12 a13 a14 a15 a16))) ∧
          True)) ∧
(a13 ≤ 4 →
((a6 = true →
((a7 = true →
((3 : Int) = (oneC (Sign.mk a0 a1 a2 a3 a4 a5 a6 a7 a8 a9 a10 a11 a12 a13 a14 a15 a16))) ∧
            True)) ∧
(a7 = false →
((0 : Int) = (oneC (Sign.mk a0 a1 a2 a3 a4 a5 a6 a7 a8 a9 a10 a11 a12 a13 a14 a15 a16))) ∧
            True))) ∧
(a6 = false →
((0 : Int) = (oneC (Sign.mk a0 a1 a2 a3 a4 a5 a6 a7 a8 a9 a10 a11 a12 a13 a14 a15 a16))) ∧
           True)))) ∧
(a13 < 2 →
((2 : Int) = (oneC (Sign.mk a0 a1 a2 a3 a4 a5 a6 a7 a8 a9 a10 a11 a12 a13 a14 a15 a16))) ∧
         True))) ∧
(a0 ≠ 10 →
((a6 = true →
((a7 = true →
((3 : Int) = (oneC (Sign.mk a0 a1 a2 a3 a4 a5 a6 a7 a8 a9 a10 a11 a12 a13 a14 a15 a16))) ∧
          True)) ∧
(a7 = false →
((0 : Int) = (oneC (Sign.mk a0 a1 a2 a3 a4 a5 a6 a7 a8 a9 a10 a11 a12 a13 a14 a15 a16))) ∧
          True))) ∧
(a6 = false →
((0 : Int) = (oneC (Sign.mk a0 a1 a2 a3 a4 a5 a6 a7 a8 a9 a10 a11 a12 a13 a14 a15 a16))) ∧
         True))))) ∧
(a13 < 0 →
((2 : Int) = (oneC (Sign.mk a0 a1 a2 a3 a4 a5 a6 a7 a8 a9 a10 a11 a12 a13 a14 a15 a16))) ∧
      True))) ∧
(a0 ≠ 8 →
((a0 = 10 →
((2 ≤ a13 →
((4 < a13 →
((2 : Int) = (oneC (Sign.mk a0 a1 a2 a3 a4 a5 a6 a7 a8 a9 a10 a11 a12 a13 a14 a15 a16))) ∧
        True)) ∧
(a13 ≤ 4 →
((a6 = true →
((a7 = true →
((3 : Int) = (oneC (Sign.mk a0 a1 a2 a3 a4 a5 a6 a7 a8 a9 a10 a11 a12 a13 a14 a15 a16))) ∧
          True)) ∧
(a7 = false →
((0 : Int) = (oneC (Sign.mk a0 a1 a2 a3 a4 a5 a6 a7 a8 a9 a10 a11 a12 a13 a14 a15 a16))) ∧
          True))) ∧
(a6 = false →
((0 : Int) = (oneC (Sign.mk a0 a1 a2 a3 a4 a5 a6 a7 a8 a9 a10 a11 a12 a13 a14 a15 a16))) ∧
         True)))) ∧
(a13 < 2 →
((2 : Int) = (oneC (Sign.mk a0 a1 a2 a3 a4 a5 a6 a7 a8 a9 a10 a11 a12 a13 a14 a15 a16))) ∧
       True))) ∧
(a0 ≠ 10 →
((a6 = true →
((a7 = true →
((3 : Int) = (oneC (Sign.mk a0 a1 a2 a3 a4 a5 a6 a7 a8 a9 a10 a11 a12 a13 a14 a15 a16))) ∧
        True)) ∧
(a7 = false →
((0 : Int) = (oneC (Sign.mk a0 a1 a2 a3 a4 a5 a6 a7 a8 a9 a10 a11 a12 a13 a14 a15 a16))) ∧
        True))) ∧
(a6 = false →
((0 : Int) = (oneC (Sign.mk a0 a1 a2 a3 a4 a5 a6 a7 a8 a9 a10 a11 a12 a13 a14 a15 a16))) ∧
       True)))))) ∧
  True))
theorem OneS_vc (a0 : Int) (a1 : Int) (a2 : Int) (a3 : Int) (a4 : Bool) (a5 : Int) (a6 : Bool) (a7 : Bool) (a8 : Int) (a9 : Int) (a10 : Int) (a11 : Int) (a12 : Bool) (a13 : Int) (a14 : Int) (a15 : Int) (a16 : Int) : wpTop (stdA XK (tblOf OneS_tbl) (fun _ _ => False) (fun _ _ => 0)) { cfg sp with ann := annOf [] } 6 60 [.agg [.int .i64 none (a0), .int .i64 none (a1), .int .i64 none (a2), .int .i64 none (a3), .sb 0 false (a4) (a4 = true) (a4 = false), .int .i64 none (a5), .sb 0 false (a6) (a6 = true) (a6 = false), .sb 0 false (a7) (a7 = true) (a7 = false), .int .i64 none (a8), .int .i64 none (a9), .int .i64 none (a10), .int .i64 none (a11), .sb 0 false (a12) (a12 = true) (a12 = false), .int .i64 none (a13), .int .i64 none (a14), .int .i64 none (a15), .int .i64 none (a16)]] (OneS_res a0 a1 a2 a3 a4 a5 a6 a7 a8 a9 a10 a11 a12 a13 a14 a15 a16) = OneS_VC a0 a1 a2 a3 a4 a5 a6 a7 a8 a9 a10 a11 a12 a13 a14 a15 a16 := by kernel_rfl
def CheckSg_tbl : List (Nat × Ct KT) := [(49, ct49), (60, ct60)]
abbrev CheckSg_res (a0 : List UInt8) (a1 : List Sign) : PV KT := .tuple [.int .i64 none (((checkC a0 a1).1)), .int .i64 none (((checkC a0 a1).2))]
abbrev CheckSg_VC (a0 : List UInt8) (a1 : List Sign) : Prop :=
((ln a0 ≤ 9223372036854775806)) ∧
(((nameB a0) = false →
((7 : Int) = ((checkC a0 a1).1)) ∧
((0 : Int) = ((checkC a0 a1).2)) ∧
 True)) ∧
((nameB a0) = true →
((400 < (ln a1) →
((11 : Int) = ((checkC a0 a1).1)) ∧
((0 : Int) = ((checkC a0 a1).2)) ∧
  True)) ∧
((ln a1) ≤ 400 →
(inv_CheckSg_0 a0 a1 false 0) ∧
(∀ x2 : Bool,
(∀ x3 : Int,
(inv_CheckSg_0 a0 a1 x2 x3 →
((x3 < (ln a1) →
(Wn x3 (ln a1)) ∧
(True) ∧
(((oneC (Sign.mk (ix a1 x3).Kind (ix a1 x3).Value (ix a1 x3).Place (ix a1 x3).Acc (ix a1 x3).Color (ix a1 x3).Stem (ix a1 x3).Oblique (ix a1 x3).Last (ix a1 x3).MensMax (ix a1 x3).MensMod (ix a1 x3).MensTem (ix a1 x3).MensPro (ix a1 x3).Stroke (ix a1 x3).N (ix a1 x3).D (ix a1 x3).ClefStep (ix a1 x3).ClefLine)) ≠ 0 →
(((oneC (Sign.mk (ix a1 x3).Kind (ix a1 x3).Value (ix a1 x3).Place (ix a1 x3).Acc (ix a1 x3).Color (ix a1 x3).Stem (ix a1 x3).Oblique (ix a1 x3).Last (ix a1 x3).MensMax (ix a1 x3).MensMod (ix a1 x3).MensTem (ix a1 x3).MensPro (ix a1 x3).Stroke (ix a1 x3).N (ix a1 x3).D (ix a1 x3).ClefStep (ix a1 x3).ClefLine)) : Int) = ((checkC a0 a1).1)) ∧
((x3 : Int) = ((checkC a0 a1).2)) ∧
       True)) ∧
((oneC (Sign.mk (ix a1 x3).Kind (ix a1 x3).Value (ix a1 x3).Place (ix a1 x3).Acc (ix a1 x3).Color (ix a1 x3).Stem (ix a1 x3).Oblique (ix a1 x3).Last (ix a1 x3).MensMax (ix a1 x3).MensMod (ix a1 x3).MensTem (ix a1 x3).MensPro (ix a1 x3).Stroke (ix a1 x3).N (ix a1 x3).D (ix a1 x3).ClefStep (ix a1 x3).ClefLine)) = 0 →
(((ix a1 x3).Kind ≠ 4 →
(I64 (x3 + 1)) ∧
(a0 = a0) ∧
(a1 = a1) ∧
(inv_CheckSg_0 a0 a1 x2 (x3 + 1)) ∧
 minv_CheckSg_0 a0 a1 x2 (x3 + 1) < minv_CheckSg_0 a0 a1 x2 x3)) ∧
((ix a1 x3).Kind = 4 →
(((ix a1 x3).Last = true →
((x2 = false →
((3 : Int) = ((checkC a0 a1).1)) ∧
((x3 : Int) = ((checkC a0 a1).2)) ∧
          True)) ∧
(x2 = true →
(I64 (x3 + 1)) ∧
(a0 = a0) ∧
(a1 = a1) ∧
(inv_CheckSg_0 a0 a1 false (x3 + 1)) ∧
 minv_CheckSg_0 a0 a1 false (x3 + 1) < minv_CheckSg_0 a0 a1 x2 x3))) ∧
((ix a1 x3).Last = false →
(I64 (x3 + 1)) ∧
(((x3 + 1) = (ln a1) →
((3 : Int) = ((checkC a0 a1).1)) ∧
((x3 : Int) = ((checkC a0 a1).2)) ∧
          True)) ∧
((x3 + 1) ≠ (ln a1) →
(I64 (x3 + 1)) ∧
(Wn (x3 + 1) (ln a1)) ∧
(((ix a1 (x3 + 1)).Kind ≠ 4 →
((3 : Int) = ((checkC a0 a1).1)) ∧
((x3 : Int) = ((checkC a0 a1).2)) ∧
           True)) ∧
((ix a1 (x3 + 1)).Kind = 4 →
(I64 (x3 + 1)) ∧
(a0 = a0) ∧
(a1 = a1) ∧
(inv_CheckSg_0 a0 a1 true (x3 + 1)) ∧
 minv_CheckSg_0 a0 a1 true (x3 + 1) < minv_CheckSg_0 a0 a1 x2 x3))))))) ∧
((ln a1) ≤ x3 →
((0 : Int) = ((checkC a0 a1).1)) ∧
((0 : Int) = ((checkC a0 a1).2)) ∧
      True))))))
theorem CheckSg_vc (a0 : List UInt8) (a1 : List Sign) : wpTop (stdA XK (tblOf CheckSg_tbl) (fun j ns => match j, ns with | 0, [.b y0, .i y1] => inv_CheckSg_0 a0 a1 y0 y1 | _, _ => False) (fun j ns => match j, ns with | 0, [.b y0, .i y1] => minv_CheckSg_0 a0 a1 y0 y1 | _, _ => 0)) { cfg sp with ann := annOf [(34, 890, .inv 0 [.one 4 (.bool), .one 19 (.int .i64)] [])] } 3 34 [.agg [.str (a0), .list 4 (a1) none]] (CheckSg_res a0 a1) = CheckSg_VC a0 a1 := by kernel_rfl
def NameR_tbl : List (Nat × Ct KT) := []
abbrev NameR_res (a0 : List UInt8) : PV KT := .sb 0 false ((nameB a0)) ((nameB a0) = true) ((nameB a0) = false)
abbrev NameR_VC (a0 : List UInt8) : Prop :=
(inv_NameR_0 a0 0) ∧
(∀ x0 : Int,
(inv_NameR_0 a0 x0 →
((x0 < (ln a0) →
(Wn x0 (ln a0)) ∧
((97 ≤ (bx a0 x0) →
((122 < (bx a0 x0) →
(Wn x0 (ln a0)) ∧
((48 ≤ (bx a0 x0) →
((57 < (bx a0 x0) →
(Wn x0 (ln a0)) ∧
(((bx a0 x0) ≠ 45 →
(false = (nameB a0)) ∧
        True)) ∧
((bx a0 x0) = 45 →
(I64 (x0 + 1)) ∧
(inv_NameR_0 a0 (x0 + 1)) ∧
 minv_NameR_0 a0 (x0 + 1) < minv_NameR_0 a0 x0))) ∧
((bx a0 x0) ≤ 57 →
(I64 (x0 + 1)) ∧
(inv_NameR_0 a0 (x0 + 1)) ∧
 minv_NameR_0 a0 (x0 + 1) < minv_NameR_0 a0 x0))) ∧
((bx a0 x0) < 48 →
(Wn x0 (ln a0)) ∧
(((bx a0 x0) ≠ 45 →
(false = (nameB a0)) ∧
       True)) ∧
((bx a0 x0) = 45 →
(I64 (x0 + 1)) ∧
(inv_NameR_0 a0 (x0 + 1)) ∧
 minv_NameR_0 a0 (x0 + 1) < minv_NameR_0 a0 x0)))) ∧
((bx a0 x0) ≤ 122 →
(I64 (x0 + 1)) ∧
(inv_NameR_0 a0 (x0 + 1)) ∧
 minv_NameR_0 a0 (x0 + 1) < minv_NameR_0 a0 x0))) ∧
((bx a0 x0) < 97 →
(Wn x0 (ln a0)) ∧
((48 ≤ (bx a0 x0) →
((57 < (bx a0 x0) →
(Wn x0 (ln a0)) ∧
(((bx a0 x0) ≠ 45 →
(false = (nameB a0)) ∧
       True)) ∧
((bx a0 x0) = 45 →
(I64 (x0 + 1)) ∧
(inv_NameR_0 a0 (x0 + 1)) ∧
 minv_NameR_0 a0 (x0 + 1) < minv_NameR_0 a0 x0))) ∧
((bx a0 x0) ≤ 57 →
(I64 (x0 + 1)) ∧
(inv_NameR_0 a0 (x0 + 1)) ∧
 minv_NameR_0 a0 (x0 + 1) < minv_NameR_0 a0 x0))) ∧
((bx a0 x0) < 48 →
(Wn x0 (ln a0)) ∧
(((bx a0 x0) ≠ 45 →
(false = (nameB a0)) ∧
      True)) ∧
((bx a0 x0) = 45 →
(I64 (x0 + 1)) ∧
(inv_NameR_0 a0 (x0 + 1)) ∧
 minv_NameR_0 a0 (x0 + 1) < minv_NameR_0 a0 x0))))) ∧
((ln a0) ≤ x0 →
((a0 ≠ ([] : List UInt8) →
(((ln a0) ≤ 20 →
(Wn 0 (ln a0)) ∧
((97 ≤ (bx a0 0) →
((decide ((bx a0 0) ≤ 122)) = (nameB a0)) ∧
      True)) ∧
((bx a0 0) < 97 →
(false = (nameB a0)) ∧
      True))) ∧
(20 < (ln a0) →
(false = (nameB a0)) ∧
     True))) ∧
(a0 = ([] : List UInt8) →
(false = (nameB a0)) ∧
    True))))
theorem NameR_vc (a0 : List UInt8) : wpTop (stdA XK (tblOf NameR_tbl) (fun j ns => match j, ns with | 0, [.i y0] => inv_NameR_0 a0 y0 | _, _ => False) (fun j ns => match j, ns with | 0, [.i y0] => minv_NameR_0 a0 y0 | _, _ => 0)) { cfg sp with ann := annOf [(52, 26, .inv 0 [.one 3 (.int .i64)] [])] } 3 52 [.str (a0)] (NameR_res a0) = NameR_VC a0 := by kernel_rfl
def CheckMR_tbl : List (Nat × Ct KT) := []
abbrev CheckMR_res (a0 : Int) (a1 : Int) (a2 : Int) (a3 : Int) : PV KT := .int .i64 none ((mensC a0 a1 a2 a3))
abbrev CheckMR_VC (a0 : Int) (a1 : Int) (a2 : Int) (a3 : Int) : Prop :=
(True) ∧
(True) ∧
(True) ∧
(True) ∧
(inv_CheckMR_0 a0 a1 a2 a3 0) ∧
(∀ x0 : Int,
(inv_CheckMR_0 a0 a1 a2 a3 x0 →
((x0 < (ln [a0, a1, a2, a3]) →
(Wn x0 (ln [a0, a1, a2, a3])) ∧
(((ix [a0, a1, a2, a3] x0) ≠ 2 →
(Wn x0 (ln [a0, a1, a2, a3])) ∧
(((ix [a0, a1, a2, a3] x0) ≠ 3 →
((12 : Int) = (mensC a0 a1 a2 a3)) ∧
     True)) ∧
((ix [a0, a1, a2, a3] x0) = 3 →
(I64 (x0 + 1)) ∧
((a0 : Int) = a0) ∧
((a1 : Int) = a1) ∧
((a2 : Int) = a2) ∧
((a3 : Int) = a3) ∧
(inv_CheckMR_0 a0 a1 a2 a3 (x0 + 1)) ∧
 minv_CheckMR_0 a0 a1 a2 a3 (x0 + 1) < minv_CheckMR_0 a0 a1 a2 a3 x0))) ∧
((ix [a0, a1, a2, a3] x0) = 2 →
(I64 (x0 + 1)) ∧
((a0 : Int) = a0) ∧
((a1 : Int) = a1) ∧
((a2 : Int) = a2) ∧
((a3 : Int) = a3) ∧
(inv_CheckMR_0 a0 a1 a2 a3 (x0 + 1)) ∧
 minv_CheckMR_0 a0 a1 a2 a3 (x0 + 1) < minv_CheckMR_0 a0 a1 a2 a3 x0))) ∧
((ln [a0, a1, a2, a3]) ≤ x0 →
((0 : Int) = (mensC a0 a1 a2 a3)) ∧
   True)))
theorem CheckMR_vc (a0 : Int) (a1 : Int) (a2 : Int) (a3 : Int) : wpTop (stdA XK (tblOf CheckMR_tbl) (fun j ns => match j, ns with | 0, [.i y0] => inv_CheckMR_0 a0 a1 a2 a3 y0 | _, _ => False) (fun j ns => match j, ns with | 0, [.i y0] => minv_CheckMR_0 a0 a1 a2 a3 y0 | _, _ => 0)) { cfg sp with ann := annOf [(84, 58, .inv 0 [.one 4 (.int .i64)] [])] } 3 84 [.agg [.int .i64 none (a0), .int .i64 none (a1), .int .i64 none (a2), .int .i64 none (a3)]] (CheckMR_res a0 a1 a2 a3) = CheckMR_VC a0 a1 a2 a3 := by kernel_rfl
def used_tbl : List (Nat × Ct KT) := []
abbrev used_res (a0 : Int) (a1 : Int) (a2 : Int) (a3 : Int) (a4 : Bool) (a5 : Int) (a6 : Bool) (a7 : Bool) (a8 : Int) (a9 : Int) (a10 : Int) (a11 : Int) (a12 : Bool) (a13 : Int) (a14 : Int) (a15 : Int) (a16 : Int) : PV KT := .agg [.int .i64 none (((usedS (Sign.mk a0 a1 a2 a3 a4 a5 a6 a7 a8 a9 a10 a11 a12 a13 a14 a15 a16)).Kind)), .int .i64 none (((usedS (Sign.mk a0 a1 a2 a3 a4 a5 a6 a7 a8 a9 a10 a11 a12 a13 a14 a15 a16)).Value)), .int .i64 none (((usedS (Sign.mk a0 a1 a2 a3 a4 a5 a6 a7 a8 a9 a10 a11 a12 a13 a14 a15 a16)).Place)), .int .i64 none (((usedS (Sign.mk a0 a1 a2 a3 a4 a5 a6 a7 a8 a9 a10 a11 a12 a13 a14 a15 a16)).Acc)), .sb 0 false (((usedS (Sign.mk a0 a1 a2 a3 a4 a5 a6 a7 a8 a9 a10 a11 a12 a13 a14 a15 a16)).Color)) (((usedS (Sign.mk a0 a1 a2 a3 a4 a5 a6 a7 a8 a9 a10 a11 a12 a13 a14 a15 a16)).Color) = true) (((usedS (Sign.mk a0 a1 a2 a3 a4 a5 a6 a7 a8 a9 a10 a11 a12 a13 a14 a15 a16)).Color) = false), .int .i64 none (((usedS (Sign.mk a0 a1 a2 a3 a4 a5 a6 a7 a8 a9 a10 a11 a12 a13 a14 a15 a16)).Stem)), .sb 0 false (((usedS (Sign.mk a0 a1 a2 a3 a4 a5 a6 a7 a8 a9 a10 a11 a12 a13 a14 a15 a16)).Oblique)) (((usedS (Sign.mk a0 a1 a2 a3 a4 a5 a6 a7 a8 a9 a10 a11 a12 a13 a14 a15 a16)).Oblique) = true) (((usedS (Sign.mk a0 a1 a2 a3 a4 a5 a6 a7 a8 a9 a10 a11 a12 a13 a14 a15 a16)).Oblique) = false), .sb 0 false (((usedS (Sign.mk a0 a1 a2 a3 a4 a5 a6 a7 a8 a9 a10 a11 a12 a13 a14 a15 a16)).Last)) (((usedS (Sign.mk a0 a1 a2 a3 a4 a5 a6 a7 a8 a9 a10 a11 a12 a13 a14 a15 a16)).Last) = true) (((usedS (Sign.mk a0 a1 a2 a3 a4 a5 a6 a7 a8 a9 a10 a11 a12 a13 a14 a15 a16)).Last) = false), .int .i64 none (((usedS (Sign.mk a0 a1 a2 a3 a4 a5 a6 a7 a8 a9 a10 a11 a12 a13 a14 a15 a16)).MensMax)), .int .i64 none (((usedS (Sign.mk a0 a1 a2 a3 a4 a5 a6 a7 a8 a9 a10 a11 a12 a13 a14 a15 a16)).MensMod)), .int .i64 none (((usedS (Sign.mk a0 a1 a2 a3 a4 a5 a6 a7 a8 a9 a10 a11 a12 a13 a14 a15 a16)).MensTem)), .int .i64 none (((usedS (Sign.mk a0 a1 a2 a3 a4 a5 a6 a7 a8 a9 a10 a11 a12 a13 a14 a15 a16)).MensPro)), .sb 0 false (((usedS (Sign.mk a0 a1 a2 a3 a4 a5 a6 a7 a8 a9 a10 a11 a12 a13 a14 a15 a16)).Stroke)) (((usedS (Sign.mk a0 a1 a2 a3 a4 a5 a6 a7 a8 a9 a10 a11 a12 a13 a14 a15 a16)).Stroke) = true) (((usedS (Sign.mk a0 a1 a2 a3 a4 a5 a6 a7 a8 a9 a10 a11 a12 a13 a14 a15 a16)).Stroke) = false), .int .i64 none (((usedS (Sign.mk a0 a1 a2 a3 a4 a5 a6 a7 a8 a9 a10 a11 a12 a13 a14 a15 a16)).N)), .int .i64 none (((usedS (Sign.mk a0 a1 a2 a3 a4 a5 a6 a7 a8 a9 a10 a11 a12 a13 a14 a15 a16)).D)), .int .i64 none (((usedS (Sign.mk a0 a1 a2 a3 a4 a5 a6 a7 a8 a9 a10 a11 a12 a13 a14 a15 a16)).ClefStep)), .int .i64 none (((usedS (Sign.mk a0 a1 a2 a3 a4 a5 a6 a7 a8 a9 a10 a11 a12 a13 a14 a15 a16)).ClefLine))]
abbrev used_VC (a0 : Int) (a1 : Int) (a2 : Int) (a3 : Int) (a4 : Bool) (a5 : Int) (a6 : Bool) (a7 : Bool) (a8 : Int) (a9 : Int) (a10 : Int) (a11 : Int) (a12 : Bool) (a13 : Int) (a14 : Int) (a15 : Int) (a16 : Int) : Prop :=
((a0 = 1 →
((a0 : Int) = ((usedS (Sign.mk a0 a1 a2 a3 a4 a5 a6 a7 a8 a9 a10 a11 a12 a13 a14 a15 a16)).Kind)) ∧
((a1 : Int) = ((usedS (Sign.mk a0 a1 a2 a3 a4 a5 a6 a7 a8 a9 a10 a11 a12 a13 a14 a15 a16)).Value)) ∧
((a2 : Int) = ((usedS (Sign.mk a0 a1 a2 a3 a4 a5 a6 a7 a8 a9 a10 a11 a12 a13 a14 a15 a16)).Place)) ∧
((a3 : Int) = ((usedS (Sign.mk a0 a1 a2 a3 a4 a5 a6 a7 a8 a9 a10 a11 a12 a13 a14 a15 a16)).Acc)) ∧
(a4 = ((usedS (Sign.mk a0 a1 a2 a3 a4 a5 a6 a7 a8 a9 a10 a11 a12 a13 a14 a15 a16)).Color)) ∧
((0 : Int) = ((usedS (Sign.mk a0 a1 a2 a3 a4 a5 a6 a7 a8 a9 a10 a11 a12 a13 a14 a15 a16)).Stem)) ∧
(false = ((usedS (Sign.mk a0 a1 a2 a3 a4 a5 a6 a7 a8 a9 a10 a11 a12 a13 a14 a15 a16)).Oblique)) ∧
(false = ((usedS (Sign.mk a0 a1 a2 a3 a4 a5 a6 a7 a8 a9 a10 a11 a12 a13 a14 a15 a16)).Last)) ∧
((0 : Int) = ((usedS (Sign.mk a0 a1 a2 a3 a4 a5 a6 a7 a8 a9 a10 a11 a12 a13 a14 a15 a16)).MensMax)) ∧
((0 : Int) = ((usedS (Sign.mk a0 a1 a2 a3 a4 a5 a6 a7 a8 a9 a10 a11 a12 a13 a14 a15 a16)).MensMod)) ∧
((0 : Int) = ((usedS (Sign.mk a0 a1 a2 a3 a4 a5 a6 a7 a8 a9 a10 a11 a12 a13 a14 a15 a16)).MensTem)) ∧
((0 : Int) = ((usedS (Sign.mk a0 a1 a2 a3 a4 a5 a6 a7 a8 a9 a10 a11 a12 a13 a14 a15 a16)).MensPro)) ∧
(false = ((usedS (Sign.mk a0 a1 a2 a3 a4 a5 a6 a7 a8 a9 a10 a11 a12 a13 a14 a15 a16)).Stroke)) ∧
((0 : Int) = ((usedS (Sign.mk a0 a1 a2 a3 a4 a5 a6 a7 a8 a9 a10 a11 a12 a13 a14 a15 a16)).N)) ∧
((0 : Int) = ((usedS (Sign.mk a0 a1 a2 a3 a4 a5 a6 a7 a8 a9 a10 a11 a12 a13 a14 a15 a16)).D)) ∧
((0 : Int) = ((usedS (Sign.mk a0 a1 a2 a3 a4 a5 a6 a7 a8 a9 a10 a11 a12 a13 a14 a15 a16)).ClefStep)) ∧
((0 : Int) = ((usedS (Sign.mk a0 a1 a2 a3 a4 a5 a6 a7 a8 a9 a10 a11 a12 a13 a14 a15 a16)).ClefLine)) ∧
 True)) ∧
(a0 ≠ 1 →
((a0 = 2 →
((a0 : Int) = ((usedS (Sign.mk a0 a1 a2 a3 a4 a5 a6 a7 a8 a9 a10 a11 a12 a13 a14 a15 a16)).Kind)) ∧
((a1 : Int) = ((usedS (Sign.mk a0 a1 a2 a3 a4 a5 a6 a7 a8 a9 a10 a11 a12 a13 a14 a15 a16)).Value)) ∧
((0 : Int) = ((usedS (Sign.mk a0 a1 a2 a3 a4 a5 a6 a7 a8 a9 a10 a11 a12 a13 a14 a15 a16)).Place)) ∧
((0 : Int) = ((usedS (Sign.mk a0 a1 a2 a3 a4 a5 a6 a7 a8 a9 a10 a11 a12 a13 a14 a15 a16)).Acc)) ∧
(false = ((usedS (Sign.mk a0 a1 a2 a3 a4 a5 a6 a7 a8 a9 a10 a11 a12 a13 a14 a15 a16)).Color)) ∧
((0 : Int) = ((usedS (Sign.mk a0 a1 a2 a3 a4 a5 a6 a7 a8 a9 a10 a11 a12 a13 a14 a15 a16)).Stem)) ∧
(false = ((usedS (Sign.mk a0 a1 a2 a3 a4 a5 a6 a7 a8 a9 a10 a11 a12 a13 a14 a15 a16)).Oblique)) ∧
(false = ((usedS (Sign.mk a0 a1 a2 a3 a4 a5 a6 a7 a8 a9 a10 a11 a12 a13 a14 a15 a16)).Last)) ∧
((0 : Int) = ((usedS (Sign.mk a0 a1 a2 a3 a4 a5 a6 a7 a8 a9 a10 a11 a12 a13 a14 a15 a16)).MensMax)) ∧
((0 : Int) = ((usedS (Sign.mk a0 a1 a2 a3 a4 a5 a6 a7 a8 a9 a10 a11 a12 a13 a14 a15 a16)).MensMod)) ∧
((0 : Int) = ((usedS (Sign.mk a0 a1 a2 a3 a4 a5 a6 a7 a8 a9 a10 a11 a12 a13 a14 a15 a16)).MensTem)) ∧
((0 : Int) = ((usedS (Sign.mk a0 a1 a2 a3 a4 a5 a6 a7 a8 a9 a10 a11 a12 a13 a14 a15 a16)).MensPro)) ∧
(false = ((usedS (Sign.mk a0 a1 a2 a3 a4 a5 a6 a7 a8 a9 a10 a11 a12 a13 a14 a15 a16)).Stroke)) ∧
((0 : Int) = ((usedS (Sign.mk a0 a1 a2 a3 a4 a5 a6 a7 a8 a9 a10 a11 a12 a13 a14 a15 a16)).N)) ∧
((0 : Int) = ((usedS (Sign.mk a0 a1 a2 a3 a4 a5 a6 a7 a8 a9 a10 a11 a12 a13 a14 a15 a16)).D)) ∧
((0 : Int) = ((usedS (Sign.mk a0 a1 a2 a3 a4 a5 a6 a7 a8 a9 a10 a11 a12 a13 a14 a15 a16)).ClefStep)) ∧
((0 : Int) = ((usedS (Sign.mk a0 a1 a2 a3 a4 a5 a6 a7 a8 a9 a10 a11 a12 a13 a14 a15 a16)).ClefLine)) ∧
  True)) ∧
(a0 ≠ 2 →
((a0 = 4 →
((a0 : Int) = ((usedS (Sign.mk a0 a1 a2 a3 a4 a5 a6 a7 a8 a9 a10 a11 a12 a13 a14 a15 a16)).Kind)) ∧
((0 : Int) = ((usedS (Sign.mk a0 a1 a2 a3 a4 a5 a6 a7 a8 a9 a10 a11 a12 a13 a14 a15 a16)).Value)) ∧
((a2 : Int) = ((usedS (Sign.mk a0 a1 a2 a3 a4 a5 a6 a7 a8 a9 a10 a11 a12 a13 a14 a15 a16)).Place)) ∧
((a3 : Int) = ((usedS (Sign.mk a0 a1 a2 a3 a4 a5 a6 a7 a8 a9 a10 a11 a12 a13 a14 a15 a16)).Acc)) ∧
(a4 = ((usedS (Sign.mk a0 a1 a2 a3 a4 a5 a6 a7 a8 a9 a10 a11 a12 a13 a14 a15 a16)).Color)) ∧
((a5 : Int) = ((usedS (Sign.mk a0 a1 a2 a3 a4 a5 a6 a7 a8 a9 a10 a11 a12 a13 a14 a15 a16)).Stem)) ∧
(a6 = ((usedS (Sign.mk a0 a1 a2 a3 a4 a5 a6 a7 a8 a9 a10 a11 a12 a13 a14 a15 a16)).Oblique)) ∧
(a7 = ((usedS (Sign.mk a0 a1 a2 a3 a4 a5 a6 a7 a8 a9 a10 a11 a12 a13 a14 a15 a16)).Last)) ∧
((0 : Int) = ((usedS (Sign.mk a0 a1 a2 a3 a4 a5 a6 a7 a8 a9 a10 a11 a12 a13 a14 a15 a16)).MensMax)) ∧
((0 : Int) = ((usedS (Sign.mk a0 a1 a2 a3 a4 a5 a6 a7 a8 a9 a10 a11 a12 a13 a14 a15 a16)).MensMod)) ∧
((0 : Int) = ((usedS (Sign.mk a0 a1 a2 a3 a4 a5 a6 a7 a8 a9 a10 a11 a12 a13 a14 a15 a16)).MensTem)) ∧
((0 : Int) = ((usedS (Sign.mk a0 a1 a2 a3 a4 a5 a6 a7 a8 a9 a10 a11 a12 a13 a14 a15 a16)).MensPro)) ∧
(false = ((usedS (Sign.mk a0 a1 a2 a3 a4 a5 a6 a7 a8 a9 a10 a11 a12 a13 a14 a15 a16)).Stroke)) ∧
((0 : Int) = ((usedS (Sign.mk a0 a1 a2 a3 a4 a5 a6 a7 a8 a9 a10 a11 a12 a13 a14 a15 a16)).N)) ∧
((0 : Int) = ((usedS (Sign.mk a0 a1 a2 a3 a4 a5 a6 a7 a8 a9 a10 a11 a12 a13 a14 a15 a16)).D)) ∧
((0 : Int) = ((usedS (Sign.mk a0 a1 a2 a3 a4 a5 a6 a7 a8 a9 a10 a11 a12 a13 a14 a15 a16)).ClefStep)) ∧
((0 : Int) = ((usedS (Sign.mk a0 a1 a2 a3 a4 a5 a6 a7 a8 a9 a10 a11 a12 a13 a14 a15 a16)).ClefLine)) ∧
   True)) ∧
(a0 ≠ 4 →
((a0 = 5 →
((a0 : Int) = ((usedS (Sign.mk a0 a1 a2 a3 a4 a5 a6 a7 a8 a9 a10 a11 a12 a13 a14 a15 a16)).Kind)) ∧
((0 : Int) = ((usedS (Sign.mk a0 a1 a2 a3 a4 a5 a6 a7 a8 a9 a10 a11 a12 a13 a14 a15 a16)).Value)) ∧
((0 : Int) = ((usedS (Sign.mk a0 a1 a2 a3 a4 a5 a6 a7 a8 a9 a10 a11 a12 a13 a14 a15 a16)).Place)) ∧
((0 : Int) = ((usedS (Sign.mk a0 a1 a2 a3 a4 a5 a6 a7 a8 a9 a10 a11 a12 a13 a14 a15 a16)).Acc)) ∧
(false = ((usedS (Sign.mk a0 a1 a2 a3 a4 a5 a6 a7 a8 a9 a10 a11 a12 a13 a14 a15 a16)).Color)) ∧
((0 : Int) = ((usedS (Sign.mk a0 a1 a2 a3 a4 a5 a6 a7 a8 a9 a10 a11 a12 a13 a14 a15 a16)).Stem)) ∧
(false = ((usedS (Sign.mk a0 a1 a2 a3 a4 a5 a6 a7 a8 a9 a10 a11 a12 a13 a14 a15 a16)).Oblique)) ∧
(false = ((usedS (Sign.mk a0 a1 a2 a3 a4 a5 a6 a7 a8 a9 a10 a11 a12 a13 a14 a15 a16)).Last)) ∧
((a8 : Int) = ((usedS (Sign.mk a0 a1 a2 a3 a4 a5 a6 a7 a8 a9 a10 a11 a12 a13 a14 a15 a16)).MensMax)) ∧
((a9 : Int) = ((usedS (Sign.mk a0 a1 a2 a3 a4 a5 a6 a7 a8 a9 a10 a11 a12 a13 a14 a15 a16)).MensMod)) ∧
((a10 : Int) = ((usedS (Sign.mk a0 a1 a2 a3 a4 a5 a6 a7 a8 a9 a10 a11 a12 a13 a14 a15 a16)).MensTem)) ∧
((a11 : Int) = ((usedS (Sign.mk a0 a1 a2 a3 a4 a5 a6 a7 a8 a9 a10 a11 a12 a13 a14 a15 a16)).MensPro)) ∧
(a12 = ((usedS (Sign.mk a0 a1 a2 a3 a4 a5 a6 a7 a8 a9 a10 a11 a12 a13 a14 a15 a16)).Stroke)) ∧
((0 : Int) = ((usedS (Sign.mk a0 a1 a2 a3 a4 a5 a6 a7 a8 a9 a10 a11 a12 a13 a14 a15 a16)).N)) ∧
((0 : Int) = ((usedS (Sign.mk a0 a1 a2 a3 a4 a5 a6 a7 a8 a9 a10 a11 a12 a13 a14 a15 a16)).D)) ∧
((0 : Int) = ((usedS (Sign.mk a0 a1 a2 a3 a4 a5 a6 a7 a8 a9 a10 a11 a12 a13 a14 a15 a16)).ClefStep)) ∧
((0 : Int) = ((usedS (Sign.mk a0 a1 a2 a3 a4 a5 a6 a7 a8 a9 a10 a11 a12 a13 a14 a15 a16)).ClefLine)) ∧
    True)) ∧
(a0 ≠ 5 →
((a0 = 6 →
((a0 : Int) = ((usedS (Sign.mk a0 a1 a2 a3 a4 a5 a6 a7 a8 a9 a10 a11 a12 a13 a14 a15 a16)).Kind)) ∧
((0 : Int) = ((usedS (Sign.mk a0 a1 a2 a3 a4 a5 a6 a7 a8 a9 a10 a11 a12 a13 a14 a15 a16)).Value)) ∧
((0 : Int) = ((usedS (Sign.mk a0 a1 a2 a3 a4 a5 a6 a7 a8 a9 a10 a11 a12 a13 a14 a15 a16)).Place)) ∧
((0 : Int) = ((usedS (Sign.mk a0 a1 a2 a3 a4 a5 a6 a7 a8 a9 a10 a11 a12 a13 a14 a15 a16)).Acc)) ∧
(false = ((usedS (Sign.mk a0 a1 a2 a3 a4 a5 a6 a7 a8 a9 a10 a11 a12 a13 a14 a15 a16)).Color)) ∧
((0 : Int) = ((usedS (Sign.mk a0 a1 a2 a3 a4 a5 a6 a7 a8 a9 a10 a11 a12 a13 a14 a15 a16)).Stem)) ∧
(false = ((usedS (Sign.mk a0 a1 a2 a3 a4 a5 a6 a7 a8 a9 a10 a11 a12 a13 a14 a15 a16)).Oblique)) ∧
(false = ((usedS (Sign.mk a0 a1 a2 a3 a4 a5 a6 a7 a8 a9 a10 a11 a12 a13 a14 a15 a16)).Last)) ∧
((0 : Int) = ((usedS (Sign.mk a0 a1 a2 a3 a4 a5 a6 a7 a8 a9 a10 a11 a12 a13 a14 a15 a16)).MensMax)) ∧
((0 : Int) = ((usedS (Sign.mk a0 a1 a2 a3 a4 a5 a6 a7 a8 a9 a10 a11 a12 a13 a14 a15 a16)).MensMod)) ∧
((0 : Int) = ((usedS (Sign.mk a0 a1 a2 a3 a4 a5 a6 a7 a8 a9 a10 a11 a12 a13 a14 a15 a16)).MensTem)) ∧
((0 : Int) = ((usedS (Sign.mk a0 a1 a2 a3 a4 a5 a6 a7 a8 a9 a10 a11 a12 a13 a14 a15 a16)).MensPro)) ∧
(false = ((usedS (Sign.mk a0 a1 a2 a3 a4 a5 a6 a7 a8 a9 a10 a11 a12 a13 a14 a15 a16)).Stroke)) ∧
((a13 : Int) = ((usedS (Sign.mk a0 a1 a2 a3 a4 a5 a6 a7 a8 a9 a10 a11 a12 a13 a14 a15 a16)).N)) ∧
((a14 : Int) = ((usedS (Sign.mk a0 a1 a2 a3 a4 a5 a6 a7 a8 a9 a10 a11 a12 a13 a14 a15 a16)).D)) ∧
((0 : Int) = ((usedS (Sign.mk a0 a1 a2 a3 a4 a5 a6 a7 a8 a9 a10 a11 a12 a13 a14 a15 a16)).ClefStep)) ∧
((0 : Int) = ((usedS (Sign.mk a0 a1 a2 a3 a4 a5 a6 a7 a8 a9 a10 a11 a12 a13 a14 a15 a16)).ClefLine)) ∧
     True)) ∧
(a0 ≠ 6 →
((a0 = 7 →
((a0 : Int) = ((usedS (Sign.mk a0 a1 a2 a3 a4 a5 a6 a7 a8 a9 a10 a11 a12 a13 a14 a15 a16)).Kind)) ∧
((0 : Int) = ((usedS (Sign.mk a0 a1 a2 a3 a4 a5 a6 a7 a8 a9 a10 a11 a12 a13 a14 a15 a16)).Value)) ∧
((0 : Int) = ((usedS (Sign.mk a0 a1 a2 a3 a4 a5 a6 a7 a8 a9 a10 a11 a12 a13 a14 a15 a16)).Place)) ∧
((0 : Int) = ((usedS (Sign.mk a0 a1 a2 a3 a4 a5 a6 a7 a8 a9 a10 a11 a12 a13 a14 a15 a16)).Acc)) ∧
(false = ((usedS (Sign.mk a0 a1 a2 a3 a4 a5 a6 a7 a8 a9 a10 a11 a12 a13 a14 a15 a16)).Color)) ∧
((0 : Int) = ((usedS (Sign.mk a0 a1 a2 a3 a4 a5 a6 a7 a8 a9 a10 a11 a12 a13 a14 a15 a16)).Stem)) ∧
(false = ((usedS (Sign.mk a0 a1 a2 a3 a4 a5 a6 a7 a8 a9 a10 a11 a12 a13 a14 a15 a16)).Oblique)) ∧
(false = ((usedS (Sign.mk a0 a1 a2 a3 a4 a5 a6 a7 a8 a9 a10 a11 a12 a13 a14 a15 a16)).Last)) ∧
((0 : Int) = ((usedS (Sign.mk a0 a1 a2 a3 a4 a5 a6 a7 a8 a9 a10 a11 a12 a13 a14 a15 a16)).MensMax)) ∧
((0 : Int) = ((usedS (Sign.mk a0 a1 a2 a3 a4 a5 a6 a7 a8 a9 a10 a11 a12 a13 a14 a15 a16)).MensMod)) ∧
((0 : Int) = ((usedS (Sign.mk a0 a1 a2 a3 a4 a5 a6 a7 a8 a9 a10 a11 a12 a13 a14 a15 a16)).MensTem)) ∧
((0 : Int) = ((usedS (Sign.mk a0 a1 a2 a3 a4 a5 a6 a7 a8 a9 a10 a11 a12 a13 a14 a15 a16)).MensPro)) ∧
(false = ((usedS (Sign.mk a0 a1 a2 a3 a4 a5 a6 a7 a8 a9 a10 a11 a12 a13 a14 a15 a16)).Stroke)) ∧
((0 : Int) = ((usedS (Sign.mk a0 a1 a2 a3 a4 a5 a6 a7 a8 a9 a10 a11 a12 a13 a14 a15 a16)).N)) ∧
((0 : Int) = ((usedS (Sign.mk a0 a1 a2 a3 a4 a5 a6 a7 a8 a9 a10 a11 a12 a13 a14 a15 a16)).D)) ∧
((a15 : Int) = ((usedS (Sign.mk a0 a1 a2 a3 a4 a5 a6 a7 a8 a9 a10 a11 a12 a13 a14 a15 a16)).ClefStep)) ∧
((a16 : Int) = ((usedS (Sign.mk a0 a1 a2 a3 a4 a5 a6 a7 a8 a9 a10 a11 a12 a13 a14 a15 a16)).ClefLine)) ∧
      True)) ∧
(a0 ≠ 7 →
((a0 = 8 →
((a0 : Int) = ((usedS (Sign.mk a0 a1 a2 a3 a4 a5 a6 a7 a8 a9 a10 a11 a12 a13 a14 a15 a16)).Kind)) ∧
((0 : Int) = ((usedS (Sign.mk a0 a1 a2 a3 a4 a5 a6 a7 a8 a9 a10 a11 a12 a13 a14 a15 a16)).Value)) ∧
((0 : Int) = ((usedS (Sign.mk a0 a1 a2 a3 a4 a5 a6 a7 a8 a9 a10 a11 a12 a13 a14 a15 a16)).Place)) ∧
((0 : Int) = ((usedS (Sign.mk a0 a1 a2 a3 a4 a5 a6 a7 a8 a9 a10 a11 a12 a13 a14 a15 a16)).Acc)) ∧
(false = ((usedS (Sign.mk a0 a1 a2 a3 a4 a5 a6 a7 a8 a9 a10 a11 a12 a13 a14 a15 a16)).Color)) ∧
((0 : Int) = ((usedS (Sign.mk a0 a1 a2 a3 a4 a5 a6 a7 a8 a9 a10 a11 a12 a13 a14 a15 a16)).Stem)) ∧
(false = ((usedS (Sign.mk a0 a1 a2 a3 a4 a5 a6 a7 a8 a9 a10 a11 a12 a13 a14 a15 a16)).Oblique)) ∧
(false = ((usedS (Sign.mk a0 a1 a2 a3 a4 a5 a6 a7 a8 a9 a10 a11 a12 a13 a14 a15 a16)).Last)) ∧
((0 : Int) = ((usedS (Sign.mk a0 a1 a2 a3 a4 a5 a6 a7 a8 a9 a10 a11 a12 a13 a14 a15 a16)).MensMax)) ∧
((0 : Int) = ((usedS (Sign.mk a0 a1 a2 a3 a4 a5 a6 a7 a8 a9 a10 a11 a12 a13 a14 a15 a16)).MensMod)) ∧
((0 : Int) = ((usedS (Sign.mk a0 a1 a2 a3 a4 a5 a6 a7 a8 a9 a10 a11 a12 a13 a14 a15 a16)).MensTem)) ∧
((0 : Int) = ((usedS (Sign.mk a0 a1 a2 a3 a4 a5 a6 a7 a8 a9 a10 a11 a12 a13 a14 a15 a16)).MensPro)) ∧
(false = ((usedS (Sign.mk a0 a1 a2 a3 a4 a5 a6 a7 a8 a9 a10 a11 a12 a13 a14 a15 a16)).Stroke)) ∧
((a13 : Int) = ((usedS (Sign.mk a0 a1 a2 a3 a4 a5 a6 a7 a8 a9 a10 a11 a12 a13 a14 a15 a16)).N)) ∧
((0 : Int) = ((usedS (Sign.mk a0 a1 a2 a3 a4 a5 a6 a7 a8 a9 a10 a11 a12 a13 a14 a15 a16)).D)) ∧
((0 : Int) = ((usedS (Sign.mk a0 a1 a2 a3 a4 a5 a6 a7 a8 a9 a10 a11 a12 a13 a14 a15 a16)).ClefStep)) ∧
((0 : Int) = ((usedS (Sign.mk a0 a1 a2 a3 a4 a5 a6 a7 a8 a9 a10 a11 a12 a13 a14 a15 a16)).ClefLine)) ∧
       True)) ∧
(a0 ≠ 8 →
((a0 = 10 →
((a0 : Int) = ((usedS (Sign.mk a0 a1 a2 a3 a4 a5 a6 a7 a8 a9 a10 a11 a12 a13 a14 a15 a16)).Kind)) ∧
((0 : Int) = ((usedS (Sign.mk a0 a1 a2 a3 a4 a5 a6 a7 a8 a9 a10 a11 a12 a13 a14 a15 a16)).Value)) ∧
((0 : Int) = ((usedS (Sign.mk a0 a1 a2 a3 a4 a5 a6 a7 a8 a9 a10 a11 a12 a13 a14 a15 a16)).Place)) ∧
((0 : Int) = ((usedS (Sign.mk a0 a1 a2 a3 a4 a5 a6 a7 a8 a9 a10 a11 a12 a13 a14 a15 a16)).Acc)) ∧
(false = ((usedS (Sign.mk a0 a1 a2 a3 a4 a5 a6 a7 a8 a9 a10 a11 a12 a13 a14 a15 a16)).Color)) ∧
((0 : Int) = ((usedS (Sign.mk a0 a1 a2 a3 a4 a5 a6 a7 a8 a9 a10 a11 a12 a13 a14 a15 a16)).Stem)) ∧
(false = ((usedS (Sign.mk a0 a1 a2 a3 a4 a5 a6 a7 a8 a9 a10 a11 a12 a13 a14 a15 a16)).Oblique)) ∧
(false = ((usedS (Sign.mk a0 a1 a2 a3 a4 a5 a6 a7 a8 a9 a10 a11 a12 a13 a14 a15 a16)).Last)) ∧
((0 : Int) = ((usedS (Sign.mk a0 a1 a2 a3 a4 a5 a6 a7 a8 a9 a10 a11 a12 a13 a14 a15 a16)).MensMax)) ∧
((0 : Int) = ((usedS (Sign.mk a0 a1 a2 a3 a4 a5 a6 a7 a8 a9 a10 a11 a12 a13 a14 a15 a16)).MensMod)) ∧
((0 : Int) = ((usedS (Sign.mk a0 a1 a2 a3 a4 a5 a6 a7 a8 a9 a10 a11 a12 a13 a14 a15 a16)).MensTem)) ∧
((0 : Int) = ((usedS (Sign.mk a0 a1 a2 a3 a4 a5 a6 a7 a8 a9 a10 a11 a12 a13 a14 a15 a16)).MensPro)) ∧
(false = ((usedS (Sign.mk a0 a1 a2 a3 a4 a5 a6 a7 a8 a9 a10 a11 a12 a13 a14 a15 a16)).Stroke)) ∧
((a13 : Int) = ((usedS (Sign.mk a0 a1 a2 a3 a4 a5 a6 a7 a8 a9 a10 a11 a12 a13 a14 a15 a16)).N)) ∧
((0 : Int) = ((usedS (Sign.mk a0 a1 a2 a3 a4 a5 a6 a7 a8 a9 a10 a11 a12 a13 a14 a15 a16)).D)) ∧
((0 : Int) = ((usedS (Sign.mk a0 a1 a2 a3 a4 a5 a6 a7 a8 a9 a10 a11 a12 a13 a14 a15 a16)).ClefStep)) ∧
((0 : Int) = ((usedS (Sign.mk a0 a1 a2 a3 a4 a5 a6 a7 a8 a9 a10 a11 a12 a13 a14 a15 a16)).ClefLine)) ∧
        True)) ∧
(a0 ≠ 10 →
((a0 : Int) = ((usedS (Sign.mk a0 a1 a2 a3 a4 a5 a6 a7 a8 a9 a10 a11 a12 a13 a14 a15 a16)).Kind)) ∧
((0 : Int) = ((usedS (Sign.mk a0 a1 a2 a3 a4 a5 a6 a7 a8 a9 a10 a11 a12 a13 a14 a15 a16)).Value)) ∧
((0 : Int) = ((usedS (Sign.mk a0 a1 a2 a3 a4 a5 a6 a7 a8 a9 a10 a11 a12 a13 a14 a15 a16)).Place)) ∧
((0 : Int) = ((usedS (Sign.mk a0 a1 a2 a3 a4 a5 a6 a7 a8 a9 a10 a11 a12 a13 a14 a15 a16)).Acc)) ∧
(false = ((usedS (Sign.mk a0 a1 a2 a3 a4 a5 a6 a7 a8 a9 a10 a11 a12 a13 a14 a15 a16)).Color)) ∧
((0 : Int) = ((usedS (Sign.mk a0 a1 a2 a3 a4 a5 a6 a7 a8 a9 a10 a11 a12 a13 a14 a15 a16)).Stem)) ∧
(false = ((usedS (Sign.mk a0 a1 a2 a3 a4 a5 a6 a7 a8 a9 a10 a11 a12 a13 a14 a15 a16)).Oblique)) ∧
(false = ((usedS (Sign.mk a0 a1 a2 a3 a4 a5 a6 a7 a8 a9 a10 a11 a12 a13 a14 a15 a16)).Last)) ∧
((0 : Int) = ((usedS (Sign.mk a0 a1 a2 a3 a4 a5 a6 a7 a8 a9 a10 a11 a12 a13 a14 a15 a16)).MensMax)) ∧
((0 : Int) = ((usedS (Sign.mk a0 a1 a2 a3 a4 a5 a6 a7 a8 a9 a10 a11 a12 a13 a14 a15 a16)).MensMod)) ∧
((0 : Int) = ((usedS (Sign.mk a0 a1 a2 a3 a4 a5 a6 a7 a8 a9 a10 a11 a12 a13 a14 a15 a16)).MensTem)) ∧
((0 : Int) = ((usedS (Sign.mk a0 a1 a2 a3 a4 a5 a6 a7 a8 a9 a10 a11 a12 a13 a14 a15 a16)).MensPro)) ∧
(false = ((usedS (Sign.mk a0 a1 a2 a3 a4 a5 a6 a7 a8 a9 a10 a11 a12 a13 a14 a15 a16)).Stroke)) ∧
((0 : Int) = ((usedS (Sign.mk a0 a1 a2 a3 a4 a5 a6 a7 a8 a9 a10 a11 a12 a13 a14 a15 a16)).N)) ∧
((0 : Int) = ((usedS (Sign.mk a0 a1 a2 a3 a4 a5 a6 a7 a8 a9 a10 a11 a12 a13 a14 a15 a16)).D)) ∧
((0 : Int) = ((usedS (Sign.mk a0 a1 a2 a3 a4 a5 a6 a7 a8 a9 a10 a11 a12 a13 a14 a15 a16)).ClefStep)) ∧
((0 : Int) = ((usedS (Sign.mk a0 a1 a2 a3 a4 a5 a6 a7 a8 a9 a10 a11 a12 a13 a14 a15 a16)).ClefLine)) ∧
        True))))))))
theorem used_vc (a0 : Int) (a1 : Int) (a2 : Int) (a3 : Int) (a4 : Bool) (a5 : Int) (a6 : Bool) (a7 : Bool) (a8 : Int) (a9 : Int) (a10 : Int) (a11 : Int) (a12 : Bool) (a13 : Int) (a14 : Int) (a15 : Int) (a16 : Int) : wpTop (stdA XK (tblOf used_tbl) (fun _ _ => False) (fun _ _ => 0)) { cfg sp with ann := annOf [] } 3 83 [.agg [.int .i64 none (a0), .int .i64 none (a1), .int .i64 none (a2), .int .i64 none (a3), .sb 0 false (a4) (a4 = true) (a4 = false), .int .i64 none (a5), .sb 0 false (a6) (a6 = true) (a6 = false), .sb 0 false (a7) (a7 = true) (a7 = false), .int .i64 none (a8), .int .i64 none (a9), .int .i64 none (a10), .int .i64 none (a11), .sb 0 false (a12) (a12 = true) (a12 = false), .int .i64 none (a13), .int .i64 none (a14), .int .i64 none (a15), .int .i64 none (a16)]] (used_res a0 a1 a2 a3 a4 a5 a6 a7 a8 a9 a10 a11 a12 a13 a14 a15 a16) = used_VC a0 a1 a2 a3 a4 a5 a6 a7 a8 a9 a10 a11 a12 a13 a14 a15 a16 := by kernel_rfl
def ranges_tbl : List (Nat × Ct KT) := []
abbrev ranges_res (a0 : Int) (a1 : Int) (a2 : Int) (a3 : Int) (a4 : Bool) (a5 : Int) (a6 : Bool) (a7 : Bool) (a8 : Int) (a9 : Int) (a10 : Int) (a11 : Int) (a12 : Bool) (a13 : Int) (a14 : Int) (a15 : Int) (a16 : Int) : PV KT := .sb 0 false ((decide (rangeC (Sign.mk a0 a1 a2 a3 a4 a5 a6 a7 a8 a9 a10 a11 a12 a13 a14 a15 a16)))) ((decide (rangeC (Sign.mk a0 a1 a2 a3 a4 a5 a6 a7 a8 a9 a10 a11 a12 a13 a14 a15 a16))) = true) ((decide (rangeC (Sign.mk a0 a1 a2 a3 a4 a5 a6 a7 a8 a9 a10 a11 a12 a13 a14 a15 a16))) = false)
abbrev ranges_VC (a0 : Int) (a1 : Int) (a2 : Int) (a3 : Int) (a4 : Bool) (a5 : Int) (a6 : Bool) (a7 : Bool) (a8 : Int) (a9 : Int) (a10 : Int) (a11 : Int) (a12 : Bool) (a13 : Int) (a14 : Int) (a15 : Int) (a16 : Int) : Prop :=
((a0 = 1 →
((1 ≤ a1 →
((a1 ≤ 8 →
(((-4) ≤ a2 →
((a2 ≤ 12 →
(((-1) ≤ a3 →
((decide (a3 ≤ 2)) = (decide (rangeC (Sign.mk a0 a1 a2 a3 a4 a5 a6 a7 a8 a9 a10 a11 a12 a13 a14 a15 a16)))) ∧
      True)) ∧
(a3 < (-1) →
(false = (decide (rangeC (Sign.mk a0 a1 a2 a3 a4 a5 a6 a7 a8 a9 a10 a11 a12 a13 a14 a15 a16)))) ∧
      True))) ∧
(12 < a2 →
(false = (decide (rangeC (Sign.mk a0 a1 a2 a3 a4 a5 a6 a7 a8 a9 a10 a11 a12 a13 a14 a15 a16)))) ∧
     True))) ∧
(a2 < (-4) →
(false = (decide (rangeC (Sign.mk a0 a1 a2 a3 a4 a5 a6 a7 a8 a9 a10 a11 a12 a13 a14 a15 a16)))) ∧
    True))) ∧
(8 < a1 →
(false = (decide (rangeC (Sign.mk a0 a1 a2 a3 a4 a5 a6 a7 a8 a9 a10 a11 a12 a13 a14 a15 a16)))) ∧
   True))) ∧
(a1 < 1 →
(false = (decide (rangeC (Sign.mk a0 a1 a2 a3 a4 a5 a6 a7 a8 a9 a10 a11 a12 a13 a14 a15 a16)))) ∧
  True))) ∧
(a0 ≠ 1 →
((a0 = 2 →
((1 ≤ a1 →
((decide (a1 ≤ 8)) = (decide (rangeC (Sign.mk a0 a1 a2 a3 a4 a5 a6 a7 a8 a9 a10 a11 a12 a13 a14 a15 a16)))) ∧
   True)) ∧
(a1 < 1 →
(false = (decide (rangeC (Sign.mk a0 a1 a2 a3 a4 a5 a6 a7 a8 a9 a10 a11 a12 a13 a14 a15 a16)))) ∧
   True))) ∧
(a0 ≠ 2 →
((a0 = 4 →
(((-4) ≤ a2 →
((a2 ≤ 12 →
(((-1) ≤ a3 →
((a3 ≤ 2 →
((0 ≤ a5 →
((decide (a5 ≤ 3)) = (decide (rangeC (Sign.mk a0 a1 a2 a3 a4 a5 a6 a7 a8 a9 a10 a11 a12 a13 a14 a15 a16)))) ∧
        True)) ∧
(a5 < 0 →
(false = (decide (rangeC (Sign.mk a0 a1 a2 a3 a4 a5 a6 a7 a8 a9 a10 a11 a12 a13 a14 a15 a16)))) ∧
        True))) ∧
(2 < a3 →
(false = (decide (rangeC (Sign.mk a0 a1 a2 a3 a4 a5 a6 a7 a8 a9 a10 a11 a12 a13 a14 a15 a16)))) ∧
       True))) ∧
(a3 < (-1) →
(false = (decide (rangeC (Sign.mk a0 a1 a2 a3 a4 a5 a6 a7 a8 a9 a10 a11 a12 a13 a14 a15 a16)))) ∧
      True))) ∧
(12 < a2 →
(false = (decide (rangeC (Sign.mk a0 a1 a2 a3 a4 a5 a6 a7 a8 a9 a10 a11 a12 a13 a14 a15 a16)))) ∧
     True))) ∧
(a2 < (-4) →
(false = (decide (rangeC (Sign.mk a0 a1 a2 a3 a4 a5 a6 a7 a8 a9 a10 a11 a12 a13 a14 a15 a16)))) ∧
    True))) ∧
(a0 ≠ 4 →
((a0 = 6 →
((1 ≤ a13 →
((a13 ≤ 100 →
((1 ≤ a14 →
((decide (a14 ≤ 100)) = (decide (rangeC (Sign.mk a0 a1 a2 a3 a4 a5 a6 a7 a8 a9 a10 a11 a12 a13 a14 a15 a16)))) ∧
       True)) ∧
(a14 < 1 →
(false = (decide (rangeC (Sign.mk a0 a1 a2 a3 a4 a5 a6 a7 a8 a9 a10 a11 a12 a13 a14 a15 a16)))) ∧
       True))) ∧
(100 < a13 →
(false = (decide (rangeC (Sign.mk a0 a1 a2 a3 a4 a5 a6 a7 a8 a9 a10 a11 a12 a13 a14 a15 a16)))) ∧
      True))) ∧
(a13 < 1 →
(false = (decide (rangeC (Sign.mk a0 a1 a2 a3 a4 a5 a6 a7 a8 a9 a10 a11 a12 a13 a14 a15 a16)))) ∧
     True))) ∧
(a0 ≠ 6 →
((a0 = 7 →
((a15 = 0 →
((1 ≤ a16 →
((decide (a16 ≤ 5)) = (decide (rangeC (Sign.mk a0 a1 a2 a3 a4 a5 a6 a7 a8 a9 a10 a11 a12 a13 a14 a15 a16)))) ∧
       True)) ∧
(a16 < 1 →
(false = (decide (rangeC (Sign.mk a0 a1 a2 a3 a4 a5 a6 a7 a8 a9 a10 a11 a12 a13 a14 a15 a16)))) ∧
       True))) ∧
(a15 ≠ 0 →
((a15 = 3 →
((1 ≤ a16 →
((decide (a16 ≤ 5)) = (decide (rangeC (Sign.mk a0 a1 a2 a3 a4 a5 a6 a7 a8 a9 a10 a11 a12 a13 a14 a15 a16)))) ∧
        True)) ∧
(a16 < 1 →
(false = (decide (rangeC (Sign.mk a0 a1 a2 a3 a4 a5 a6 a7 a8 a9 a10 a11 a12 a13 a14 a15 a16)))) ∧
        True))) ∧
(a15 ≠ 3 →
((a15 = 4 →
((1 ≤ a16 →
((decide (a16 ≤ 5)) = (decide (rangeC (Sign.mk a0 a1 a2 a3 a4 a5 a6 a7 a8 a9 a10 a11 a12 a13 a14 a15 a16)))) ∧
         True)) ∧
(a16 < 1 →
(false = (decide (rangeC (Sign.mk a0 a1 a2 a3 a4 a5 a6 a7 a8 a9 a10 a11 a12 a13 a14 a15 a16)))) ∧
         True))) ∧
(a15 ≠ 4 →
(false = (decide (rangeC (Sign.mk a0 a1 a2 a3 a4 a5 a6 a7 a8 a9 a10 a11 a12 a13 a14 a15 a16)))) ∧
        True))))) ∧
(a0 ≠ 7 →
((a0 = 8 →
((0 ≤ a13 →
((decide (a13 ≤ 2)) = (decide (rangeC (Sign.mk a0 a1 a2 a3 a4 a5 a6 a7 a8 a9 a10 a11 a12 a13 a14 a15 a16)))) ∧
       True)) ∧
(a13 < 0 →
(false = (decide (rangeC (Sign.mk a0 a1 a2 a3 a4 a5 a6 a7 a8 a9 a10 a11 a12 a13 a14 a15 a16)))) ∧
       True))) ∧
(a0 ≠ 8 →
((a0 = 10 →
((2 ≤ a13 →
((decide (a13 ≤ 4)) = (decide (rangeC (Sign.mk a0 a1 a2 a3 a4 a5 a6 a7 a8 a9 a10 a11 a12 a13 a14 a15 a16)))) ∧
        True)) ∧
(a13 < 2 →
(false = (decide (rangeC (Sign.mk a0 a1 a2 a3 a4 a5 a6 a7 a8 a9 a10 a11 a12 a13 a14 a15 a16)))) ∧
        True))) ∧
(a0 ≠ 10 →
(true = (decide (rangeC (Sign.mk a0 a1 a2 a3 a4 a5 a6 a7 a8 a9 a10 a11 a12 a13 a14 a15 a16)))) ∧
       True)))))))
theorem ranges_vc (a0 : Int) (a1 : Int) (a2 : Int) (a3 : Int) (a4 : Bool) (a5 : Int) (a6 : Bool) (a7 : Bool) (a8 : Int) (a9 : Int) (a10 : Int) (a11 : Int) (a12 : Bool) (a13 : Int) (a14 : Int) (a15 : Int) (a16 : Int) : wpTop (stdA XK (tblOf ranges_tbl) (fun _ _ => False) (fun _ _ => 0)) { cfg sp with ann := annOf [] } 3 85 [.agg [.int .i64 none (a0), .int .i64 none (a1), .int .i64 none (a2), .int .i64 none (a3), .sb 0 false (a4) (a4 = true) (a4 = false), .int .i64 none (a5), .sb 0 false (a6) (a6 = true) (a6 = false), .sb 0 false (a7) (a7 = true) (a7 = false), .int .i64 none (a8), .int .i64 none (a9), .int .i64 none (a10), .int .i64 none (a11), .sb 0 false (a12) (a12 = true) (a12 = false), .int .i64 none (a13), .int .i64 none (a14), .int .i64 none (a15), .int .i64 none (a16)]] (ranges_res a0 a1 a2 a3 a4 a5 a6 a7 a8 a9 a10 a11 a12 a13 a14 a15 a16) = ranges_VC a0 a1 a2 a3 a4 a5 a6 a7 a8 a9 a10 a11 a12 a13 a14 a15 a16 := by kernel_rfl
def OneR_tbl : List (Nat × Ct KT) := [(83, ct83), (84, ct84), (85, ct85)]
abbrev OneR_res (a0 : Int) (a1 : Int) (a2 : Int) (a3 : Int) (a4 : Bool) (a5 : Int) (a6 : Bool) (a7 : Bool) (a8 : Int) (a9 : Int) (a10 : Int) (a11 : Int) (a12 : Bool) (a13 : Int) (a14 : Int) (a15 : Int) (a16 : Int) : PV KT := .int .i64 none ((oneC (Sign.mk a0 a1 a2 a3 a4 a5 a6 a7 a8 a9 a10 a11 a12 a13 a14 a15 a16)))
abbrev OneR_VC (a0 : Int) (a1 : Int) (a2 : Int) (a3 : Int) (a4 : Bool) (a5 : Int) (a6 : Bool) (a7 : Bool) (a8 : Int) (a9 : Int) (a10 : Int) (a11 : Int) (a12 : Bool) (a13 : Int) (a14 : Int) (a15 : Int) (a16 : Int) : Prop :=
((a0 < 1 →
((8 : Int) = (oneC (Sign.mk a0 a1 a2 a3 a4 a5 a6 a7 a8 a9 a10 a11 a12 a13 a14 a15 a16))) ∧
 True)) ∧
(1 ≤ a0 →
((12 < a0 →
((8 : Int) = (oneC (Sign.mk a0 a1 a2 a3 a4 a5 a6 a7 a8 a9 a10 a11 a12 a13 a14 a15 a16))) ∧
  True)) ∧
(a0 ≤ 12 →
(True) ∧
(((((usedS (Sign.mk a0 a1 a2 a3 a4 a5 a6 a7 a8 a9 a10 a11 a12 a13 a14 a15 a16)).Kind) ≠ a0 ∨ (((usedS (Sign.mk a0 a1 a2 a3 a4 a5 a6 a7 a8 a9 a10 a11 a12 a13 a14 a15 a16)).Value) ≠ a1 ∨ (((usedS (Sign.mk a0 a1 a2 a3 a4 a5 a6 a7 a8 a9 a10 a11 a12 a13 a14 a15 a16)).Place) ≠ a2 ∨ (((usedS (Sign.mk a0 a1 a2 a3 a4 a5 a6 a7 a8 a9 a10 a11 a12 a13 a14 a15 a16)).Acc) ≠ a3 ∨ (((usedS (Sign.mk a0 a1 a2 a3 a4 a5 a6 a7 a8 a9 a10 a11 a12 a13 a14 a15 a16)).Color) ≠ a4 ∨ (((usedS (Sign.mk a0 a1 a2 a3 a4 a5 a6 a7 a8 a9 a10 a11 a12 a13 a14 a15 a16)).Stem) ≠ a5 ∨ (((usedS (Sign.mk a0 a1 a2 a3 a4 a5 a6 a7 a8 a9 a10 a11 a12 a13 a14 a15 a16)).Oblique) ≠ a6 ∨ (((usedS (Sign.mk a0 a1 a2 a3 a4 a5 a6 a7 a8 a9 a10 a11 a12 a13 a14 a15 a16)).Last) ≠ a7 ∨ (((usedS (Sign.mk a0 a1 a2 a3 a4 a5 a6 a7 a8 a9 a10 a11 a12 a13 a14 a15 a16)).MensMax) ≠ a8 ∨ (((usedS (Sign.mk a0 a1 a2 a3 a4 a5 a6 a7 a8 a9 a10 a11 a12 a13 a14 a15 a16)).MensMod) ≠ a9 ∨ (((usedS (Sign.mk a0 a1 a2 a3 a4 a5 a6 a7 a8 a9 a10 a11 a12 a13 a14 a15 a16)).MensTem) ≠ a10 ∨ (((usedS (Sign.mk a0 a1 a2 a3 a4 a5 a6 a7 a8 a9 a10 a11 a12 a13 a14 a15 a16)).MensPro) ≠ a11 ∨ (((usedS (Sign.mk a0 a1 a2 a3 a4 a5 a6 a7 a8 a9 a10 a11 a12 a13 a14 a15 a16)).Stroke) ≠ a12 ∨ (((usedS (Sign.mk a0 a1 a2 a3 a4 a5 a6 a7 a8 a9 a10 a11 a12 a13 a14 a15 a16)).N) ≠ a13 ∨ (((usedS (Sign.mk a0 a1 a2 a3 a4 a5 a6 a7 a8 a9 a10 a11 a12 a13 a14 a15 a16)).D) ≠ a14 ∨ (((usedS (Sign.mk a0 a1 a2 a3 a4 a5 a6 a7 a8 a9 a10 a11 a12 a13 a14 a15 a16)).ClefStep) ≠ a15 ∨ ((usedS (Sign.mk a0 a1 a2 a3 a4 a5 a6 a7 a8 a9 a10 a11 a12 a13 a14 a15 a16)).ClefLine) ≠ a16)))))))))))))))) →
((3 : Int) = (oneC (Sign.mk a0 a1 a2 a3 a4 a5 a6 a7 a8 a9 a10 a11 a12 a13 a14 a15 a16))) ∧
   True)) ∧
((((usedS (Sign.mk a0 a1 a2 a3 a4 a5 a6 a7 a8 a9 a10 a11 a12 a13 a14 a15 a16)).Kind) = a0 ∧ (((usedS (Sign.mk a0 a1 a2 a3 a4 a5 a6 a7 a8 a9 a10 a11 a12 a13 a14 a15 a16)).Value) = a1 ∧ (((usedS (Sign.mk a0 a1 a2 a3 a4 a5 a6 a7 a8 a9 a10 a11 a12 a13 a14 a15 a16)).Place) = a2 ∧ (((usedS (Sign.mk a0 a1 a2 a3 a4 a5 a6 a7 a8 a9 a10 a11 a12 a13 a14 a15 a16)).Acc) = a3 ∧ (((usedS (Sign.mk a0 a1 a2 a3 a4 a5 a6 a7 a8 a9 a10 a11 a12 a13 a14 a15 a16)).Color) = a4 ∧ (((usedS (Sign.mk a0 a1 a2 a3 a4 a5 a6 a7 a8 a9 a10 a11 a12 a13 a14 a15 a16)).Stem) = a5 ∧ (((usedS (Sign.mk a0 a1 a2 a3 a4 a5 a6 a7 a8 a9 a10 a11 a12 a13 a14 a15 a16)).Oblique) = a6 ∧ (((usedS (Sign.mk a0 a1 a2 a3 a4 a5 a6 a7 a8 a9 a10 a11 a12 a13 a14 a15 a16)).Last) = a7 ∧ (((usedS (Sign.mk a0 a1 a2 a3 a4 a5 a6 a7 a8 a9 a10 a11 a12 a13 a14 a15 a16)).MensMax) = a8 ∧ (((usedS (Sign.mk a0 a1 a2 a3 a4 a5 a6 a7 a8 a9 a10 a11 a12 a13 a14 a15 a16)).MensMod) = a9 ∧ (((usedS (Sign.mk a0 a1 a2 a3 a4 a5 a6 a7 a8 a9 a10 a11 a12 a13 a14 a15 a16)).MensTem) = a10 ∧ (((usedS (Sign.mk a0 a1 a2 a3 a4 a5 a6 a7 a8 a9 a10 a11 a12 a13 a14 a15 a16)).MensPro) = a11 ∧ (((usedS (Sign.mk a0 a1 a2 a3 a4 a5 a6 a7 a8 a9 a10 a11 a12 a13 a14 a15 a16)).Stroke) = a12 ∧ (((usedS (Sign.mk a0 a1 a2 a3 a4 a5 a6 a7 a8 a9 a10 a11 a12 a13 a14 a15 a16)).N) = a13 ∧ (((usedS (Sign.mk a0 a1 a2 a3 a4 a5 a6 a7 a8 a9 a10 a11 a12 a13 a14 a15 a16)).D) = a14 ∧ (((usedS (Sign.mk a0 a1 a2 a3 a4 a5 a6 a7 a8 a9 a10 a11 a12 a13 a14 a15 a16)).ClefStep) = a15 ∧ ((usedS (Sign.mk a0 a1 a2 a3 a4 a5 a6 a7 a8 a9 a10 a11 a12 a13 a14 a15 a16)).ClefLine) = a16)))))))))))))))) →
((a0 = 5 →
(True) ∧
(((mensC a8 a9 a10 a11) ≠ 0 →
((12 : Int) = (oneC (Sign.mk a0 a1 a2 a3 a4 a5 a6 a7 a8 a9 a10 a11 a12 a13 a14 a15 a16))) ∧
     True)) ∧
((mensC a8 a9 a10 a11) = 0 →
(True) ∧
(((decide (rangeC (Sign.mk a0 a1 a2 a3 a4 a5 a6 a7 a8 a9 a10 a11 a12 a13 a14 a15 a16))) = false →
((2 : Int) = (oneC (Sign.mk a0 a1 a2 a3 a4 a5 a6 a7 a8 a9 a10 a11 a12 a13 a14 a15 a16))) ∧
      True)) ∧
((decide (rangeC (Sign.mk a0 a1 a2 a3 a4 a5 a6 a7 a8 a9 a10 a11 a12 a13 a14 a15 a16))) = true →
((a6 = true →
((a7 = true →
((3 : Int) = (oneC (Sign.mk a0 a1 a2 a3 a4 a5 a6 a7 a8 a9 a10 a11 a12 a13 a14 a15 a16))) ∧
        True)) ∧
(a7 = false →
((0 : Int) = (oneC (Sign.mk a0 a1 a2 a3 a4 a5 a6 a7 a8 a9 a10 a11 a12 a13 a14 a15 a16))) ∧
        True))) ∧
(a6 = false →
((0 : Int) = (oneC (Sign.mk a0 a1 a2 a3 a4 a5 a6 a7 a8 a9 a10 a11 a12 a13 a14 a15 a16))) ∧
       True))))) ∧
(a0 ≠ 5 →
(True) ∧
(((decide (rangeC (Sign.mk a0 a1 a2 a3 a4 a5 a6 a7 a8 a9 a10 a11 a12 a13 a14 a15 a16))) = false →
((2 : Int) = (oneC (Sign.mk a0 a1 a2 a3 a4 a5 a6 a7 a8 a9 a10 a11 a12 a13 a14 a15 a16))) ∧
     True)) ∧
((decide (rangeC (Sign.mk a0 a1 a2 a3 a4 a5 a6 a7 a8 a9 a10 a11 a12 a13 a14 a15 a16))) = true →
((a6 = true →
((a7 = true →
((3 : Int) = (oneC (Sign.mk a0 a1 a2 a3 a4 a5 a6 a7 a8 a9 a10 a11 a12 a13 a14 a15 a16))) ∧
       True)) ∧
(a7 = false →
((0 : Int) = (oneC (Sign.mk a0 a1 a2 a3 a4 a5 a6 a7 a8 a9 a10 a11 a12 a13 a14 a15 a16))) ∧
       True))) ∧
(a6 = false →
((0 : Int) = (oneC (Sign.mk a0 a1 a2 a3 a4 a5 a6 a7 a8 a9 a10 a11 a12 a13 a14 a15 a16))) ∧
      True))))))
theorem OneR_vc (a0 : Int) (a1 : Int) (a2 : Int) (a3 : Int) (a4 : Bool) (a5 : Int) (a6 : Bool) (a7 : Bool) (a8 : Int) (a9 : Int) (a10 : Int) (a11 : Int) (a12 : Bool) (a13 : Int) (a14 : Int) (a15 : Int) (a16 : Int) : wpTop (stdA XK (tblOf OneR_tbl) (fun _ _ => False) (fun _ _ => 0)) { cfg sp with ann := annOf [] } 6 63 [.agg [.int .i64 none (a0), .int .i64 none (a1), .int .i64 none (a2), .int .i64 none (a3), .sb 0 false (a4) (a4 = true) (a4 = false), .int .i64 none (a5), .sb 0 false (a6) (a6 = true) (a6 = false), .sb 0 false (a7) (a7 = true) (a7 = false), .int .i64 none (a8), .int .i64 none (a9), .int .i64 none (a10), .int .i64 none (a11), .sb 0 false (a12) (a12 = true) (a12 = false), .int .i64 none (a13), .int .i64 none (a14), .int .i64 none (a15), .int .i64 none (a16)]] (OneR_res a0 a1 a2 a3 a4 a5 a6 a7 a8 a9 a10 a11 a12 a13 a14 a15 a16) = OneR_VC a0 a1 a2 a3 a4 a5 a6 a7 a8 a9 a10 a11 a12 a13 a14 a15 a16 := by kernel_rfl
def CheckSR_tbl : List (Nat × Ct KT) := [(52, ct52), (63, ct63)]
abbrev CheckSR_res (a0 : List UInt8) (a1 : List Sign) : PV KT := .tuple [.int .i64 none (((checkC a0 a1).1)), .int .i64 none (((checkC a0 a1).2))]
abbrev CheckSR_VC (a0 : List UInt8) (a1 : List Sign) : Prop :=
((ln a0 ≤ 9223372036854775806)) ∧
(((nameB a0) = false →
((7 : Int) = ((checkC a0 a1).1)) ∧
((0 : Int) = ((checkC a0 a1).2)) ∧
 True)) ∧
((nameB a0) = true →
((400 < (ln a1) →
((11 : Int) = ((checkC a0 a1).1)) ∧
((0 : Int) = ((checkC a0 a1).2)) ∧
  True)) ∧
((ln a1) ≤ 400 →
(inv_CheckSR_0 a0 a1 0) ∧
(∀ x2 : Int,
(inv_CheckSR_0 a0 a1 x2 →
((x2 < (ln a1) →
(Wn x2 (ln a1)) ∧
(True) ∧
(((oneC (Sign.mk (ix a1 x2).Kind (ix a1 x2).Value (ix a1 x2).Place (ix a1 x2).Acc (ix a1 x2).Color (ix a1 x2).Stem (ix a1 x2).Oblique (ix a1 x2).Last (ix a1 x2).MensMax (ix a1 x2).MensMod (ix a1 x2).MensTem (ix a1 x2).MensPro (ix a1 x2).Stroke (ix a1 x2).N (ix a1 x2).D (ix a1 x2).ClefStep (ix a1 x2).ClefLine)) ≠ 0 →
(((oneC (Sign.mk (ix a1 x2).Kind (ix a1 x2).Value (ix a1 x2).Place (ix a1 x2).Acc (ix a1 x2).Color (ix a1 x2).Stem (ix a1 x2).Oblique (ix a1 x2).Last (ix a1 x2).MensMax (ix a1 x2).MensMod (ix a1 x2).MensTem (ix a1 x2).MensPro (ix a1 x2).Stroke (ix a1 x2).N (ix a1 x2).D (ix a1 x2).ClefStep (ix a1 x2).ClefLine)) : Int) = ((checkC a0 a1).1)) ∧
((x2 : Int) = ((checkC a0 a1).2)) ∧
      True)) ∧
((oneC (Sign.mk (ix a1 x2).Kind (ix a1 x2).Value (ix a1 x2).Place (ix a1 x2).Acc (ix a1 x2).Color (ix a1 x2).Stem (ix a1 x2).Oblique (ix a1 x2).Last (ix a1 x2).MensMax (ix a1 x2).MensMod (ix a1 x2).MensTem (ix a1 x2).MensPro (ix a1 x2).Stroke (ix a1 x2).N (ix a1 x2).D (ix a1 x2).ClefStep (ix a1 x2).ClefLine)) = 0 →
(((ix a1 x2).Kind ≠ 4 →
(I64 (x2 + 1)) ∧
(a0 = a0) ∧
(a1 = a1) ∧
(inv_CheckSR_0 a0 a1 (x2 + 1)) ∧
 minv_CheckSR_0 a0 a1 (x2 + 1) < minv_CheckSR_0 a0 a1 x2)) ∧
((ix a1 x2).Kind = 4 →
(I64 (x2 - 1)) ∧
((0 ≤ (x2 - 1) →
(((x2 - 1) < (ln a1) →
(Wn (x2 - 1) (ln a1)) ∧
(((ix a1 (x2 - 1)).Kind ≠ 4 →
(((ix a1 x2).Last = true →
((3 : Int) = ((checkC a0 a1).1)) ∧
((x2 : Int) = ((checkC a0 a1).2)) ∧
           True)) ∧
((ix a1 x2).Last = false →
(I64 (x2 + 1)) ∧
((0 ≤ (x2 + 1) →
(((x2 + 1) < (ln a1) →
(Wn (x2 + 1) (ln a1)) ∧
(((ix a1 (x2 + 1)).Kind ≠ 4 →
((3 : Int) = ((checkC a0 a1).1)) ∧
((x2 : Int) = ((checkC a0 a1).2)) ∧
              True)) ∧
((ix a1 (x2 + 1)).Kind = 4 →
(I64 (x2 + 1)) ∧
(a0 = a0) ∧
(a1 = a1) ∧
(inv_CheckSR_0 a0 a1 (x2 + 1)) ∧
 minv_CheckSR_0 a0 a1 (x2 + 1) < minv_CheckSR_0 a0 a1 x2))) ∧
((ln a1) ≤ (x2 + 1) →
((3 : Int) = ((checkC a0 a1).1)) ∧
((x2 : Int) = ((checkC a0 a1).2)) ∧
             True))) ∧
((x2 + 1) < 0 →
((3 : Int) = ((checkC a0 a1).1)) ∧
((x2 : Int) = ((checkC a0 a1).2)) ∧
            True)))) ∧
((ix a1 (x2 - 1)).Kind = 4 →
(I64 (x2 - 1)) ∧
(Wn (x2 - 1) (ln a1)) ∧
(((ix a1 (x2 - 1)).Last = true →
(((ix a1 x2).Last = true →
((3 : Int) = ((checkC a0 a1).1)) ∧
((x2 : Int) = ((checkC a0 a1).2)) ∧
            True)) ∧
((ix a1 x2).Last = false →
(I64 (x2 + 1)) ∧
((0 ≤ (x2 + 1) →
(((x2 + 1) < (ln a1) →
(Wn (x2 + 1) (ln a1)) ∧
(((ix a1 (x2 + 1)).Kind ≠ 4 →
((3 : Int) = ((checkC a0 a1).1)) ∧
((x2 : Int) = ((checkC a0 a1).2)) ∧
               True)) ∧
((ix a1 (x2 + 1)).Kind = 4 →
(I64 (x2 + 1)) ∧
(a0 = a0) ∧
(a1 = a1) ∧
(inv_CheckSR_0 a0 a1 (x2 + 1)) ∧
 minv_CheckSR_0 a0 a1 (x2 + 1) < minv_CheckSR_0 a0 a1 x2))) ∧
((ln a1) ≤ (x2 + 1) →
((3 : Int) = ((checkC a0 a1).1)) ∧
((x2 : Int) = ((checkC a0 a1).2)) ∧
              True))) ∧
((x2 + 1) < 0 →
((3 : Int) = ((checkC a0 a1).1)) ∧
((x2 : Int) = ((checkC a0 a1).2)) ∧
             True)))) ∧
((ix a1 (x2 - 1)).Last = false →
(((ix a1 x2).Last = false →
(I64 (x2 + 1)) ∧
((0 ≤ (x2 + 1) →
(((x2 + 1) < (ln a1) →
(Wn (x2 + 1) (ln a1)) ∧
(((ix a1 (x2 + 1)).Kind ≠ 4 →
((3 : Int) = ((checkC a0 a1).1)) ∧
((x2 : Int) = ((checkC a0 a1).2)) ∧
               True)) ∧
((ix a1 (x2 + 1)).Kind = 4 →
(I64 (x2 + 1)) ∧
(a0 = a0) ∧
(a1 = a1) ∧
(inv_CheckSR_0 a0 a1 (x2 + 1)) ∧
 minv_CheckSR_0 a0 a1 (x2 + 1) < minv_CheckSR_0 a0 a1 x2))) ∧
((ln a1) ≤ (x2 + 1) →
((3 : Int) = ((checkC a0 a1).1)) ∧
((x2 : Int) = ((checkC a0 a1).2)) ∧
              True))) ∧
((x2 + 1) < 0 →
((3 : Int) = ((checkC a0 a1).1)) ∧
((x2 : Int) = ((checkC a0 a1).2)) ∧
             True))) ∧
((ix a1 x2).Last = true →
(I64 (x2 + 1)) ∧
(a0 = a0) ∧
(a1 = a1) ∧
(inv_CheckSR_0 a0 a1 (x2 + 1)) ∧
 minv_CheckSR_0 a0 a1 (x2 + 1) < minv_CheckSR_0 a0 a1 x2))))) ∧
((ln a1) ≤ (x2 - 1) →
(((ix a1 x2).Last = true →
((3 : Int) = ((checkC a0 a1).1)) ∧
((x2 : Int) = ((checkC a0 a1).2)) ∧
          True)) ∧
((ix a1 x2).Last = false →
(I64 (x2 + 1)) ∧
((0 ≤ (x2 + 1) →
(((x2 + 1) < (ln a1) →
(Wn (x2 + 1) (ln a1)) ∧
(((ix a1 (x2 + 1)).Kind ≠ 4 →
((3 : Int) = ((checkC a0 a1).1)) ∧
((x2 : Int) = ((checkC a0 a1).2)) ∧
             True)) ∧
((ix a1 (x2 + 1)).Kind = 4 →
(I64 (x2 + 1)) ∧
(a0 = a0) ∧
(a1 = a1) ∧
(inv_CheckSR_0 a0 a1 (x2 + 1)) ∧
 minv_CheckSR_0 a0 a1 (x2 + 1) < minv_CheckSR_0 a0 a1 x2))) ∧
((ln a1) ≤ (x2 + 1) →
((3 : Int) = ((checkC a0 a1).1)) ∧
((x2 : Int) = ((checkC a0 a1).2)) ∧
            True))) ∧
((x2 + 1) < 0 →
((3 : Int) = ((checkC a0 a1).1)) ∧
((x2 : Int) = ((checkC a0 a1).2)) ∧
           True))))) ∧
((x2 - 1) < 0 →
(((ix a1 x2).Last = true →
((3 : Int) = ((checkC a0 a1).1)) ∧
((x2 : Int) = ((checkC a0 a1).2)) ∧
         True)) ∧
((ix a1 x2).Last = false →
(I64 (x2 + 1)) ∧
((0 ≤ (x2 + 1) →
(((x2 + 1) < (ln a1) →
(Wn (x2 + 1) (ln a1)) ∧
(((ix a1 (x2 + 1)).Kind ≠ 4 →
((3 : Int) = ((checkC a0 a1).1)) ∧
((x2 : Int) = ((checkC a0 a1).2)) ∧
            True)) ∧
((ix a1 (x2 + 1)).Kind = 4 →
(I64 (x2 + 1)) ∧
(a0 = a0) ∧
(a1 = a1) ∧
(inv_CheckSR_0 a0 a1 (x2 + 1)) ∧
 minv_CheckSR_0 a0 a1 (x2 + 1) < minv_CheckSR_0 a0 a1 x2))) ∧
((ln a1) ≤ (x2 + 1) →
((3 : Int) = ((checkC a0 a1).1)) ∧
((x2 : Int) = ((checkC a0 a1).2)) ∧
           True))) ∧
((x2 + 1) < 0 →
((3 : Int) = ((checkC a0 a1).1)) ∧
((x2 : Int) = ((checkC a0 a1).2)) ∧
          True))))))) ∧
((ln a1) ≤ x2 →
((0 : Int) = ((checkC a0 a1).1)) ∧
((0 : Int) = ((checkC a0 a1).2)) ∧
     True)))))
theorem CheckSR_vc (a0 : List UInt8) (a1 : List Sign) : wpTop (stdA XK (tblOf CheckSR_tbl) (fun j ns => match j, ns with | 0, [.i y0] => inv_CheckSR_0 a0 a1 y0 | _, _ => False) (fun j ns => match j, ns with | 0, [.i y0] => minv_CheckSR_0 a0 a1 y0 | _, _ => 0)) { cfg sp with ann := annOf [(43, 122, .inv 0 [.one 4 (.int .i64)] [])] } 3 43 [.agg [.str (a0), .list 4 (a1) none]] (CheckSR_res a0 a1) = CheckSR_VC a0 a1 := by kernel_rfl
def LightPart_tbl : List (Nat × Ct KT) := []
abbrev LightPart_res (a0 : List UInt8) (a1 : List Sign) (a2 : Int) : PV KT := .sb 0 false ((lightP a0 a1 a2)) ((lightP a0 a1 a2) = true) ((lightP a0 a1 a2) = false)
abbrev LightPart_VC (a0 : List UInt8) (a1 : List Sign) (a2 : Int) : Prop :=
(((ln a0) ≤ 100 →
(((ln a1) ≤ a2 →
(true = (lightP a0 a1 a2)) ∧
  True)) ∧
(a2 < (ln a1) →
((400 < (ln a1) →
((decide ((ln a1) ≤ 420)) = (lightP a0 a1 a2)) ∧
   True)) ∧
((ln a1) ≤ 400 →
(false = (lightP a0 a1 a2)) ∧
   True)))) ∧
(100 < (ln a0) →
(false = (lightP a0 a1 a2)) ∧
 True)
theorem LightPart_vc (a0 : List UInt8) (a1 : List Sign) (a2 : Int) : wpTop (stdA XK (tblOf LightPart_tbl) (fun _ _ => False) (fun _ _ => 0)) { cfg sp with ann := annOf [] } 3 7 [.agg [.str (a0), .list 4 (a1) none], .int .i64 none (a2)] (LightPart_res a0 a1 a2) = LightPart_VC a0 a1 a2 := by kernel_rfl
def OwnSigns_tbl : List (Nat × Ct KT) := []
abbrev OwnSigns_res (a0 : List Sign) : PV KT := .list 4 ((a0)) none
abbrev OwnSigns_VC (a0 : List Sign) : Prop :=
(Short (List.length ([] : List Sign) + List.length a0)) ∧
((([] : List Sign) ++ a0) = (a0)) ∧
 True
theorem OwnSigns_vc (a0 : List Sign) : wpTop (stdA XK (tblOf OwnSigns_tbl) (fun _ _ => False) (fun _ _ => 0)) { cfg sp with ann := annOf [] } 3 33 [.list 4 (a0) none] (OwnSigns_res a0) = OwnSigns_VC a0 := by kernel_rfl
def OwnPart_tbl : List (Nat × Ct KT) := [(33, ct33)]
abbrev OwnPart_res (a0 : List UInt8) (a1 : List Sign) : PV KT := .agg [.str ((a0)), .list 4 ((a1)) none]
abbrev OwnPart_VC (a0 : List UInt8) (a1 : List Sign) : Prop :=
((ln a1 ≤ 10000000)) ∧
(a0 = (a0)) ∧
((a1) = (a1)) ∧
 True
theorem OwnPart_vc (a0 : List UInt8) (a1 : List Sign) : wpTop (stdA XK (tblOf OwnPart_tbl) (fun _ _ => False) (fun _ _ => 0)) { cfg sp with ann := annOf [] } 3 9 [.agg [.str (a0), .list 4 (a1) none]] (OwnPart_res a0 a1) = OwnPart_VC a0 a1 := by kernel_rfl
def SameSigns_tbl : List (Nat × Ct KT) := []
abbrev SameSigns_res (a0 : List Sign) (a1 : List Sign) : PV KT := .sb 0 false ((sameS a0 a1)) ((sameS a0 a1) = true) ((sameS a0 a1) = false)
abbrev SameSigns_VC (a0 : List Sign) (a1 : List Sign) : Prop :=
(((ln a0) ≠ (ln a1) →
(false = (sameS a0 a1)) ∧
 True)) ∧
((ln a0) = (ln a1) →
(inv_SameSigns_0 a0 a1 0) ∧
(∀ x1 : Int,
(inv_SameSigns_0 a0 a1 x1 →
((x1 < (ln a0) →
(Wn x1 (ln a0)) ∧
(Wn x1 (ln a1)) ∧
((((ix a0 x1).Kind ≠ (ix a1 x1).Kind ∨ ((ix a0 x1).Value ≠ (ix a1 x1).Value ∨ ((ix a0 x1).Place ≠ (ix a1 x1).Place ∨ ((ix a0 x1).Acc ≠ (ix a1 x1).Acc ∨ ((ix a0 x1).Color ≠ (ix a1 x1).Color ∨ ((ix a0 x1).Stem ≠ (ix a1 x1).Stem ∨ ((ix a0 x1).Oblique ≠ (ix a1 x1).Oblique ∨ ((ix a0 x1).Last ≠ (ix a1 x1).Last ∨ ((ix a0 x1).MensMax ≠ (ix a1 x1).MensMax ∨ ((ix a0 x1).MensMod ≠ (ix a1 x1).MensMod ∨ ((ix a0 x1).MensTem ≠ (ix a1 x1).MensTem ∨ ((ix a0 x1).MensPro ≠ (ix a1 x1).MensPro ∨ ((ix a0 x1).Stroke ≠ (ix a1 x1).Stroke ∨ ((ix a0 x1).N ≠ (ix a1 x1).N ∨ ((ix a0 x1).D ≠ (ix a1 x1).D ∨ ((ix a0 x1).ClefStep ≠ (ix a1 x1).ClefStep ∨ (ix a0 x1).ClefLine ≠ (ix a1 x1).ClefLine)))))))))))))))) →
(false = (sameS a0 a1)) ∧
     True)) ∧
(((ix a0 x1).Kind = (ix a1 x1).Kind ∧ ((ix a0 x1).Value = (ix a1 x1).Value ∧ ((ix a0 x1).Place = (ix a1 x1).Place ∧ ((ix a0 x1).Acc = (ix a1 x1).Acc ∧ ((ix a0 x1).Color = (ix a1 x1).Color ∧ ((ix a0 x1).Stem = (ix a1 x1).Stem ∧ ((ix a0 x1).Oblique = (ix a1 x1).Oblique ∧ ((ix a0 x1).Last = (ix a1 x1).Last ∧ ((ix a0 x1).MensMax = (ix a1 x1).MensMax ∧ ((ix a0 x1).MensMod = (ix a1 x1).MensMod ∧ ((ix a0 x1).MensTem = (ix a1 x1).MensTem ∧ ((ix a0 x1).MensPro = (ix a1 x1).MensPro ∧ ((ix a0 x1).Stroke = (ix a1 x1).Stroke ∧ ((ix a0 x1).N = (ix a1 x1).N ∧ ((ix a0 x1).D = (ix a1 x1).D ∧ ((ix a0 x1).ClefStep = (ix a1 x1).ClefStep ∧ (ix a0 x1).ClefLine = (ix a1 x1).ClefLine)))))))))))))))) →
(I64 (x1 + 1)) ∧
(inv_SameSigns_0 a0 a1 (x1 + 1)) ∧
 minv_SameSigns_0 a0 a1 (x1 + 1) < minv_SameSigns_0 a0 a1 x1))) ∧
((ln a0) ≤ x1 →
(true = (sameS a0 a1)) ∧
    True))))
theorem SameSigns_vc (a0 : List Sign) (a1 : List Sign) : wpTop (stdA XK (tblOf SameSigns_tbl) (fun j ns => match j, ns with | 0, [.i y0] => inv_SameSigns_0 a0 a1 y0 | _, _ => False) (fun j ns => match j, ns with | 0, [.i y0] => minv_SameSigns_0 a0 a1 y0 | _, _ => 0)) { cfg sp with ann := annOf [(32, 58, .inv 0 [.one 5 (.int .i64)] [])] } 3 32 [.list 4 (a0) none, .list 4 (a1) none] (SameSigns_res a0 a1) = SameSigns_VC a0 a1 := by kernel_rfl
def SamePart_tbl : List (Nat × Ct KT) := [(32, ct32)]
abbrev SamePart_res (a0 : List UInt8) (a1 : List Sign) (a2 : List UInt8) (a3 : List Sign) : PV KT := .sb 0 false ((sameP a0 a1 a2 a3)) ((sameP a0 a1 a2 a3) = true) ((sameP a0 a1 a2 a3) = false)
abbrev SamePart_VC (a0 : List UInt8) (a1 : List Sign) (a2 : List UInt8) (a3 : List Sign) : Prop :=
((a0 = a2 →
((ln a1 ≤ 10000000)) ∧
((sameS a1 a3) = (sameP a0 a1 a2 a3)) ∧
 True)) ∧
(a0 ≠ a2 →
(false = (sameP a0 a1 a2 a3)) ∧
 True)
theorem SamePart_vc (a0 : List UInt8) (a1 : List Sign) (a2 : List UInt8) (a3 : List Sign) : wpTop (stdA XK (tblOf SamePart_tbl) (fun _ _ => False) (fun _ _ => 0)) { cfg sp with ann := annOf [] } 3 13 [.agg [.str (a0), .list 4 (a1) none], .agg [.str (a2), .list 4 (a3) none]] (SamePart_res a0 a1 a2 a3) = SamePart_VC a0 a1 a2 a3 := by kernel_rfl
def sameStaff_tbl : List (Nat × Ct KT) := [(32, ct32)]
abbrev sameStaff_res (a0 : List Sign) (a1 : Int) (a2 : Bool) (a3 : Int) (a4 : List Sign) (a5 : Int) (a6 : Bool) (a7 : Int) : PV KT := .sb 0 false ((sameSt (Staff.mk a0 a1 a2 a3) (Staff.mk a4 a5 a6 a7))) ((sameSt (Staff.mk a0 a1 a2 a3) (Staff.mk a4 a5 a6 a7)) = true) ((sameSt (Staff.mk a0 a1 a2 a3) (Staff.mk a4 a5 a6 a7)) = false)
abbrev sameStaff_VC (a0 : List Sign) (a1 : Int) (a2 : Bool) (a3 : Int) (a4 : List Sign) (a5 : Int) (a6 : Bool) (a7 : Int) : Prop :=
((a1 = a5 →
((a2 = a6 →
((a3 = a7 →
((ln a0 ≤ 10000000)) ∧
((sameS a0 a4) = (sameSt (Staff.mk a0 a1 a2 a3) (Staff.mk a4 a5 a6 a7))) ∧
   True)) ∧
(a3 ≠ a7 →
(false = (sameSt (Staff.mk a0 a1 a2 a3) (Staff.mk a4 a5 a6 a7))) ∧
   True))) ∧
(a2 ≠ a6 →
(false = (sameSt (Staff.mk a0 a1 a2 a3) (Staff.mk a4 a5 a6 a7))) ∧
  True))) ∧
(a1 ≠ a5 →
(false = (sameSt (Staff.mk a0 a1 a2 a3) (Staff.mk a4 a5 a6 a7))) ∧
 True)
theorem sameStaff_vc (a0 : List Sign) (a1 : Int) (a2 : Bool) (a3 : Int) (a4 : List Sign) (a5 : Int) (a6 : Bool) (a7 : Int) : wpTop (stdA XK (tblOf sameStaff_tbl) (fun _ _ => False) (fun _ _ => 0)) { cfg sp with ann := annOf [] } 3 48 [.agg [.list 4 (a0) none, .int .i64 none (a1), .sb 0 false (a2) (a2 = true) (a2 = false), .int .i64 none (a3)], .agg [.list 4 (a4) none, .int .i64 none (a5), .sb 0 false (a6) (a6 = true) (a6 = false), .int .i64 none (a7)]] (sameStaff_res a0 a1 a2 a3 a4 a5 a6 a7) = sameStaff_VC a0 a1 a2 a3 a4 a5 a6 a7 := by kernel_rfl
def sameBk_tbl : List (Nat × Ct KT) := [(48, ct48)]
abbrev sameBk_res (a0 : List UInt8) (a1 : List Page) (a2 : List UInt8) (a3 : List Page) : PV KT := .sb 0 false ((sameB a0 a1 a2 a3)) ((sameB a0 a1 a2 a3) = true) ((sameB a0 a1 a2 a3) = false)
abbrev sameBk_VC (a0 : List UInt8) (a1 : List Page) (a2 : List UInt8) (a3 : List Page) : Prop :=
((a0 ≠ a2 →
(false = (sameB a0 a1 a2 a3)) ∧
 True)) ∧
(a0 = a2 →
(((ln a1) ≠ (ln a3) →
(false = (sameB a0 a1 a2 a3)) ∧
  True)) ∧
((ln a1) = (ln a3) →
(inv_sameBk_0 a0 a1 a2 a3 0) ∧
(∀ x2 : Int,
(inv_sameBk_0 a0 a1 a2 a3 x2 →
((x2 < (ln a1) →
(Wn x2 (ln a1)) ∧
(Wn x2 (ln a3)) ∧
(((ln (ix a1 x2).Staves) ≠ (ln (ix a3 x2).Staves) →
(false = (sameB a0 a1 a2 a3)) ∧
      True)) ∧
((ln (ix a1 x2).Staves) = (ln (ix a3 x2).Staves) →
(inv_sameBk_1 a0 a1 a2 a3 0 x2) ∧
(∀ x6 : Int,
(inv_sameBk_1 a0 a1 a2 a3 x6 x2 →
(Wn x2 (ln a1)) ∧
((x6 < (ln (ix a1 x2).Staves) →
(Wn x2 (ln a1)) ∧
(Wn x6 (ln (ix a1 x2).Staves)) ∧
(Wn x2 (ln a3)) ∧
(Wn x6 (ln (ix a3 x2).Staves)) ∧
((ln (ix (ix a1 x2).Staves x6).Signs ≤ 10000000)) ∧
(((sameSt (Staff.mk (ix (ix a1 x2).Staves x6).Signs (ix (ix a1 x2).Staves x6).Lead (ix (ix a1 x2).Staves x6).Catch (ix (ix a1 x2).Staves x6).Custos) (Staff.mk (ix (ix a3 x2).Staves x6).Signs (ix (ix a3 x2).Staves x6).Lead (ix (ix a3 x2).Staves x6).Catch (ix (ix a3 x2).Staves x6).Custos)) = false →
(false = (sameB a0 a1 a2 a3)) ∧
          True)) ∧
((sameSt (Staff.mk (ix (ix a1 x2).Staves x6).Signs (ix (ix a1 x2).Staves x6).Lead (ix (ix a1 x2).Staves x6).Catch (ix (ix a1 x2).Staves x6).Custos) (Staff.mk (ix (ix a3 x2).Staves x6).Signs (ix (ix a3 x2).Staves x6).Lead (ix (ix a3 x2).Staves x6).Catch (ix (ix a3 x2).Staves x6).Custos)) = true →
(I64 (x6 + 1)) ∧
(a2 = a2) ∧
(a3 = a3) ∧
(a0 = a0) ∧
(a1 = a1) ∧
(inv_sameBk_1 a0 a1 a2 a3 (x6 + 1) x2) ∧
 minv_sameBk_1 a0 a1 a2 a3 (x6 + 1) x2 < minv_sameBk_1 a0 a1 a2 a3 x6 x2))) ∧
((ln (ix a1 x2).Staves) ≤ x6 →
(I64 (x2 + 1)) ∧
(a2 = a2) ∧
(a3 = a3) ∧
(a0 = a0) ∧
(a1 = a1) ∧
(inv_sameBk_0 a0 a1 a2 a3 (x2 + 1)) ∧
 minv_sameBk_0 a0 a1 a2 a3 (x2 + 1) < minv_sameBk_0 a0 a1 a2 a3 x2)))))) ∧
((ln a1) ≤ x2 →
(true = (sameB a0 a1 a2 a3)) ∧
     True)))))
theorem sameBk_vc (a0 : List UInt8) (a1 : List Page) (a2 : List UInt8) (a3 : List Page) : wpTop (stdA XK (tblOf sameBk_tbl) (fun j ns => match j, ns with | 0, [.i y0] => inv_sameBk_0 a0 a1 a2 a3 y0 | 1, [.i y0, .i y1] => inv_sameBk_1 a0 a1 a2 a3 y0 y1 | _, _ => False) (fun j ns => match j, ns with | 0, [.i y0] => minv_sameBk_0 a0 a1 a2 a3 y0 | 1, [.i y0, .i y1] => minv_sameBk_1 a0 a1 a2 a3 y0 y1 | _, _ => 0)) { cfg sp with ann := annOf [(12, 58, .inv 0 [.one 5 (.int .i64)] []), (12, 7462, .inv 1 [.one 6 (.int .i64)] [.one 5 (.int .i64)])] } 3 12 [.agg [.str (a0), .list 8 (a1) none], .agg [.str (a2), .list 8 (a3) none]] (sameBk_res a0 a1 a2 a3) = sameBk_VC a0 a1 a2 a3 := by kernel_rfl
def Clone_tbl : List (Nat × Ct KT) := []
abbrev Clone_res (a0 : List Sign) : PV KT := .list 4 ((a0)) (some (0, 0))
abbrev Clone_VC (a0 : List Sign) : Prop :=
(∀ x0 : Bool,
((x0 = true →
  a0 = ([] : List Sign)) →
((x0 = true →
(([] : List Sign) = (a0)) ∧
   True)) ∧
(x0 = false →
(Short (List.length ([] : List Sign) + List.length a0)) ∧
((([] : List Sign) ++ a0) = (a0)) ∧
   True)))
theorem Clone_vc (a0 : List Sign) : wpTop (stdA XK (tblOf Clone_tbl) (fun _ _ => False) (fun _ _ => 0)) { cfg sp with ann := annOf [] } 3 42 [.list 4 (a0) none] (Clone_res a0) = Clone_VC a0 := by kernel_rfl
def lead_tbl : List (Nat × Ct KT) := [(42, ct42)]
abbrev lead_res (a0 : List Sign) (a1 : List Sign) : PV KT := .list 4 (((a0 ++ a1))) (some (0, 0))
abbrev lead_VC (a0 : List Sign) (a1 : List Sign) : Prop :=
((ln a0 ≤ 10000000)) ∧
(Short (List.length (a0) + List.length a1)) ∧
(((a0) ++ a1) = ((a0 ++ a1))) ∧
 True
theorem lead_vc (a0 : List Sign) (a1 : List Sign) : wpTop (stdA XK (tblOf lead_tbl) (fun _ _ => False) (fun _ _ => 0)) { cfg sp with ann := annOf [] } 3 38 [.agg [.list 4 (a0) none, .list 4 (a1) none]] (lead_res a0 a1) = lead_VC a0 a1 := by kernel_rfl
def after_tbl : List (Nat × Ct KT) := []
abbrev after_res (a0 : List Sign) (a1 : List Sign) (a2 : Int) (a3 : Int) (a4 : Int) (a5 : Int) (a6 : Bool) (a7 : Int) (a8 : Bool) (a9 : Bool) (a10 : Int) (a11 : Int) (a12 : Int) (a13 : Int) (a14 : Bool) (a15 : Int) (a16 : Int) (a17 : Int) (a18 : Int) : PV KT := .agg [.list 4 (((afterF a0 a1 (Sign.mk a2 a3 a4 a5 a6 a7 a8 a9 a10 a11 a12 a13 a14 a15 a16 a17 a18)).1)) none, .list 4 (((afterF a0 a1 (Sign.mk a2 a3 a4 a5 a6 a7 a8 a9 a10 a11 a12 a13 a14 a15 a16 a17 a18)).2)) none]
abbrev after_VC (a0 : List Sign) (a1 : List Sign) (a2 : Int) (a3 : Int) (a4 : Int) (a5 : Int) (a6 : Bool) (a7 : Int) (a8 : Bool) (a9 : Bool) (a10 : Int) (a11 : Int) (a12 : Int) (a13 : Int) (a14 : Bool) (a15 : Int) (a16 : Int) (a17 : Int) (a18 : Int) : Prop :=
((a2 = 7 →
(True) ∧
([(Sign.mk a2 a3 a4 a5 a6 a7 a8 a9 a10 a11 a12 a13 a14 a15 a16 a17 a18)] = ((afterF a0 a1 (Sign.mk a2 a3 a4 a5 a6 a7 a8 a9 a10 a11 a12 a13 a14 a15 a16 a17 a18)).1)) ∧
(a1 = ((afterF a0 a1 (Sign.mk a2 a3 a4 a5 a6 a7 a8 a9 a10 a11 a12 a13 a14 a15 a16 a17 a18)).2)) ∧
 True)) ∧
(a2 ≠ 7 →
((a2 = 8 →
(True) ∧
(a0 = ((afterF a0 a1 (Sign.mk a2 a3 a4 a5 a6 a7 a8 a9 a10 a11 a12 a13 a14 a15 a16 a17 a18)).1)) ∧
([(Sign.mk a2 a3 a4 a5 a6 a7 a8 a9 a10 a11 a12 a13 a14 a15 a16 a17 a18)] = ((afterF a0 a1 (Sign.mk a2 a3 a4 a5 a6 a7 a8 a9 a10 a11 a12 a13 a14 a15 a16 a17 a18)).2)) ∧
  True)) ∧
(a2 ≠ 8 →
(a0 = ((afterF a0 a1 (Sign.mk a2 a3 a4 a5 a6 a7 a8 a9 a10 a11 a12 a13 a14 a15 a16 a17 a18)).1)) ∧
(a1 = ((afterF a0 a1 (Sign.mk a2 a3 a4 a5 a6 a7 a8 a9 a10 a11 a12 a13 a14 a15 a16 a17 a18)).2)) ∧
  True))
theorem after_vc (a0 : List Sign) (a1 : List Sign) (a2 : Int) (a3 : Int) (a4 : Int) (a5 : Int) (a6 : Bool) (a7 : Int) (a8 : Bool) (a9 : Bool) (a10 : Int) (a11 : Int) (a12 : Int) (a13 : Int) (a14 : Bool) (a15 : Int) (a16 : Int) (a17 : Int) (a18 : Int) : wpTop (stdA XK (tblOf after_tbl) (fun _ _ => False) (fun _ _ => 0)) { cfg sp with ann := annOf [] } 3 40 [.agg [.list 4 (a0) none, .list 4 (a1) none], .agg [.int .i64 none (a2), .int .i64 none (a3), .int .i64 none (a4), .int .i64 none (a5), .sb 0 false (a6) (a6 = true) (a6 = false), .int .i64 none (a7), .sb 0 false (a8) (a8 = true) (a8 = false), .sb 0 false (a9) (a9 = true) (a9 = false), .int .i64 none (a10), .int .i64 none (a11), .int .i64 none (a12), .int .i64 none (a13), .sb 0 false (a14) (a14 = true) (a14 = false), .int .i64 none (a15), .int .i64 none (a16), .int .i64 none (a17), .int .i64 none (a18)]] (after_res a0 a1 a2 a3 a4 a5 a6 a7 a8 a9 a10 a11 a12 a13 a14 a15 a16 a17 a18) = after_VC a0 a1 a2 a3 a4 a5 a6 a7 a8 a9 a10 a11 a12 a13 a14 a15 a16 a17 a18 := by kernel_rfl
def catch__tbl : List (Nat × Ct KT) := []
abbrev catch__res (a0 : List Sign) : PV KT := .tuple [.sb 0 false (((catchL a0).1)) (((catchL a0).1) = true) (((catchL a0).1) = false), .int .i64 none (((catchL a0).2))]
abbrev catch__VC (a0 : List Sign) : Prop :=
(inv_catch__0 a0 0) ∧
(∀ x0 : Int,
(inv_catch__0 a0 x0 →
((x0 < (ln a0) →
(Wn x0 (ln a0)) ∧
(((ix a0 x0).Kind = 1 →
(true = ((catchL a0).1)) ∧
(((ix a0 x0).Place : Int) = ((catchL a0).2)) ∧
    True)) ∧
((ix a0 x0).Kind ≠ 1 →
(((ix a0 x0).Kind = 4 →
(true = ((catchL a0).1)) ∧
(((ix a0 x0).Place : Int) = ((catchL a0).2)) ∧
     True)) ∧
((ix a0 x0).Kind ≠ 4 →
(I64 (x0 + 1)) ∧
(inv_catch__0 a0 (x0 + 1)) ∧
 minv_catch__0 a0 (x0 + 1) < minv_catch__0 a0 x0)))) ∧
((ln a0) ≤ x0 →
(false = ((catchL a0).1)) ∧
((0 : Int) = ((catchL a0).2)) ∧
   True)))
theorem catch__vc (a0 : List Sign) : wpTop (stdA XK (tblOf catch__tbl) (fun j ns => match j, ns with | 0, [.i y0] => inv_catch__0 a0 y0 | _, _ => False) (fun j ns => match j, ns with | 0, [.i y0] => minv_catch__0 a0 y0 | _, _ => 0)) { cfg sp with ann := annOf [(41, 26, .inv 0 [.one 8 (.int .i64)] [])] } 3 41 [.list 4 (a0) none] (catch__res a0) = catch__VC a0 := by kernel_rfl
def fill_tbl : List (Nat × Ct KT) := []
abbrev fill_res (a0 : List Sign) (a1 : Int) (a2 : Bool) : PV KT := .int .i64 none ((fillL a0 a1 a2))
abbrev fill_VC (a0 : List Sign) (a1 : Int) (a2 : Bool) : Prop :=
(inv_fill_0 a0 a1 a2 0 0 0) ∧
(∀ x0 : Int,
(∀ x1 : Int,
(∀ x2 : Int,
(inv_fill_0 a0 a1 a2 x0 x1 x2 →
((x0 < (ln a0) →
(I64 (x0 + 1)) ∧
(inv_fill_1 a0 a1 a2 (x0 + 1) x0) ∧
(∀ x5 : Int,
(inv_fill_1 a0 a1 a2 x5 x0 →
(I64 (x5 - 1)) ∧
(Wn (x5 - 1) (ln a0)) ∧
(((ix a0 (x5 - 1)).Kind = 4 →
(I64 (x5 - 1)) ∧
(Wn (x5 - 1) (ln a0)) ∧
(((ix a0 (x5 - 1)).Last = false →
((x5 < (ln a0) →
(I64 (x5 + 1)) ∧
(a0 = a0) ∧
((x2 : Int) = x2) ∧
((x1 : Int) = x1) ∧
((a1 : Int) = a1) ∧
(a0 = a0) ∧
(inv_fill_1 a0 a1 a2 (x5 + 1) x0) ∧
 minv_fill_1 a0 a1 a2 (x5 + 1) x0 < minv_fill_1 a0 a1 a2 x5 x0)) ∧
((ln a0) ≤ x5 →
((x5 < (ln a0) →
(Wn x5 (ln a0)) ∧
(((ix a0 x5).Kind = 3 →
(I64 (x5 + 1)) ∧
((a1 < (x5 + 1) →
((a2 = true →
((x1 < (ln a0) →
((0 < x2 →
((x2 : Int) = (fillL a0 a1 a2)) ∧
                True)) ∧
(x2 ≤ 0 →
((x1 : Int) = (fillL a0 a1 a2)) ∧
                True))) ∧
((ln a0) ≤ x1 →
((x1 : Int) = (fillL a0 a1 a2)) ∧
               True))) ∧
(a2 = false →
((x1 : Int) = (fillL a0 a1 a2)) ∧
              True))) ∧
((x5 + 1) ≤ a1 →
(Wn x0 (ln a0)) ∧
(((ix a0 x0).Kind = 2 →
(a0 = a0) ∧
((a1 : Int) = a1) ∧
(a0 = a0) ∧
(inv_fill_0 a0 a1 a2 (x5 + 1) (x5 + 1) (x5 + 1)) ∧
 minv_fill_0 a0 a1 a2 (x5 + 1) (x5 + 1) (x5 + 1) < minv_fill_0 a0 a1 a2 x0 x1 x2)) ∧
((ix a0 x0).Kind ≠ 2 →
(a0 = a0) ∧
((a1 : Int) = a1) ∧
(a0 = a0) ∧
(inv_fill_0 a0 a1 a2 (x5 + 1) (x5 + 1) x2) ∧
 minv_fill_0 a0 a1 a2 (x5 + 1) (x5 + 1) x2 < minv_fill_0 a0 a1 a2 x0 x1 x2)))) ∧
((ix a0 x5).Kind ≠ 3 →
((a1 < x5 →
((a2 = true →
((x1 < (ln a0) →
((0 < x2 →
((x2 : Int) = (fillL a0 a1 a2)) ∧
                True)) ∧
(x2 ≤ 0 →
((x1 : Int) = (fillL a0 a1 a2)) ∧
                True))) ∧
((ln a0) ≤ x1 →
((x1 : Int) = (fillL a0 a1 a2)) ∧
               True))) ∧
(a2 = false →
((x1 : Int) = (fillL a0 a1 a2)) ∧
              True))) ∧
(x5 ≤ a1 →
(Wn x0 (ln a0)) ∧
(((ix a0 x0).Kind = 2 →
(a0 = a0) ∧
((a1 : Int) = a1) ∧
(a0 = a0) ∧
(inv_fill_0 a0 a1 a2 x5 x5 x5) ∧
 minv_fill_0 a0 a1 a2 x5 x5 x5 < minv_fill_0 a0 a1 a2 x0 x1 x2)) ∧
((ix a0 x0).Kind ≠ 2 →
(a0 = a0) ∧
((a1 : Int) = a1) ∧
(a0 = a0) ∧
(inv_fill_0 a0 a1 a2 x5 x5 x2) ∧
 minv_fill_0 a0 a1 a2 x5 x5 x2 < minv_fill_0 a0 a1 a2 x0 x1 x2))))) ∧
((ln a0) ≤ x5 →
((a1 < x5 →
((a2 = true →
((x1 < (ln a0) →
((0 < x2 →
((x2 : Int) = (fillL a0 a1 a2)) ∧
               True)) ∧
(x2 ≤ 0 →
((x1 : Int) = (fillL a0 a1 a2)) ∧
               True))) ∧
((ln a0) ≤ x1 →
((x1 : Int) = (fillL a0 a1 a2)) ∧
              True))) ∧
(a2 = false →
((x1 : Int) = (fillL a0 a1 a2)) ∧
             True))) ∧
(x5 ≤ a1 →
(Wn x0 (ln a0)) ∧
(((ix a0 x0).Kind = 2 →
(a0 = a0) ∧
((a1 : Int) = a1) ∧
(a0 = a0) ∧
(inv_fill_0 a0 a1 a2 x5 x5 x5) ∧
 minv_fill_0 a0 a1 a2 x5 x5 x5 < minv_fill_0 a0 a1 a2 x0 x1 x2)) ∧
((ix a0 x0).Kind ≠ 2 →
(a0 = a0) ∧
((a1 : Int) = a1) ∧
(a0 = a0) ∧
(inv_fill_0 a0 a1 a2 x5 x5 x2) ∧
 minv_fill_0 a0 a1 a2 x5 x5 x2 < minv_fill_0 a0 a1 a2 x0 x1 x2)))))) ∧
((ix a0 (x5 - 1)).Last = true →
((x5 < (ln a0) →
(Wn x5 (ln a0)) ∧
(((ix a0 x5).Kind = 3 →
(I64 (x5 + 1)) ∧
((a1 < (x5 + 1) →
((a2 = true →
((x1 < (ln a0) →
((0 < x2 →
((x2 : Int) = (fillL a0 a1 a2)) ∧
               True)) ∧
(x2 ≤ 0 →
((x1 : Int) = (fillL a0 a1 a2)) ∧
               True))) ∧
((ln a0) ≤ x1 →
((x1 : Int) = (fillL a0 a1 a2)) ∧
              True))) ∧
(a2 = false →
((x1 : Int) = (fillL a0 a1 a2)) ∧
             True))) ∧
((x5 + 1) ≤ a1 →
(Wn x0 (ln a0)) ∧
(((ix a0 x0).Kind = 2 →
(a0 = a0) ∧
((a1 : Int) = a1) ∧
(a0 = a0) ∧
(inv_fill_0 a0 a1 a2 (x5 + 1) (x5 + 1) (x5 + 1)) ∧
 minv_fill_0 a0 a1 a2 (x5 + 1) (x5 + 1) (x5 + 1) < minv_fill_0 a0 a1 a2 x0 x1 x2)) ∧
((ix a0 x0).Kind ≠ 2 →
(a0 = a0) ∧
((a1 : Int) = a1) ∧
(a0 = a0) ∧
(inv_fill_0 a0 a1 a2 (x5 + 1) (x5 + 1) x2) ∧
 minv_fill_0 a0 a1 a2 (x5 + 1) (x5 + 1) x2 < minv_fill_0 a0 a1 a2 x0 x1 x2)))) ∧
((ix a0 x5).Kind ≠ 3 →
((a1 < x5 →
((a2 = true →
((x1 < (ln a0) →
((0 < x2 →
((x2 : Int) = (fillL a0 a1 a2)) ∧
               True)) ∧
(x2 ≤ 0 →
((x1 : Int) = (fillL a0 a1 a2)) ∧
               True))) ∧
((ln a0) ≤ x1 →
((x1 : Int) = (fillL a0 a1 a2)) ∧
              True))) ∧
(a2 = false →
((x1 : Int) = (fillL a0 a1 a2)) ∧
             True))) ∧
(x5 ≤ a1 →
(Wn x0 (ln a0)) ∧
(((ix a0 x0).Kind = 2 →
(a0 = a0) ∧
((a1 : Int) = a1) ∧
(a0 = a0) ∧
(inv_fill_0 a0 a1 a2 x5 x5 x5) ∧
 minv_fill_0 a0 a1 a2 x5 x5 x5 < minv_fill_0 a0 a1 a2 x0 x1 x2)) ∧
((ix a0 x0).Kind ≠ 2 →
(a0 = a0) ∧
((a1 : Int) = a1) ∧
(a0 = a0) ∧
(inv_fill_0 a0 a1 a2 x5 x5 x2) ∧
 minv_fill_0 a0 a1 a2 x5 x5 x2 < minv_fill_0 a0 a1 a2 x0 x1 x2))))) ∧
((ln a0) ≤ x5 →
((a1 < x5 →
((a2 = true →
((x1 < (ln a0) →
((0 < x2 →
((x2 : Int) = (fillL a0 a1 a2)) ∧
              True)) ∧
(x2 ≤ 0 →
((x1 : Int) = (fillL a0 a1 a2)) ∧
              True))) ∧
((ln a0) ≤ x1 →
((x1 : Int) = (fillL a0 a1 a2)) ∧
             True))) ∧
(a2 = false →
((x1 : Int) = (fillL a0 a1 a2)) ∧
            True))) ∧
(x5 ≤ a1 →
(Wn x0 (ln a0)) ∧
(((ix a0 x0).Kind = 2 →
(a0 = a0) ∧
((a1 : Int) = a1) ∧
(a0 = a0) ∧
(inv_fill_0 a0 a1 a2 x5 x5 x5) ∧
 minv_fill_0 a0 a1 a2 x5 x5 x5 < minv_fill_0 a0 a1 a2 x0 x1 x2)) ∧
((ix a0 x0).Kind ≠ 2 →
(a0 = a0) ∧
((a1 : Int) = a1) ∧
(a0 = a0) ∧
(inv_fill_0 a0 a1 a2 x5 x5 x2) ∧
 minv_fill_0 a0 a1 a2 x5 x5 x2 < minv_fill_0 a0 a1 a2 x0 x1 x2)))))) ∧
((ix a0 (x5 - 1)).Kind ≠ 4 →
((x5 < (ln a0) →
(Wn x5 (ln a0)) ∧
(((ix a0 x5).Kind = 3 →
(I64 (x5 + 1)) ∧
((a1 < (x5 + 1) →
((a2 = true →
((x1 < (ln a0) →
((0 < x2 →
((x2 : Int) = (fillL a0 a1 a2)) ∧
              True)) ∧
(x2 ≤ 0 →
((x1 : Int) = (fillL a0 a1 a2)) ∧
              True))) ∧
((ln a0) ≤ x1 →
((x1 : Int) = (fillL a0 a1 a2)) ∧
             True))) ∧
(a2 = false →
((x1 : Int) = (fillL a0 a1 a2)) ∧
            True))) ∧
((x5 + 1) ≤ a1 →
(Wn x0 (ln a0)) ∧
(((ix a0 x0).Kind = 2 →
(a0 = a0) ∧
((a1 : Int) = a1) ∧
(a0 = a0) ∧
(inv_fill_0 a0 a1 a2 (x5 + 1) (x5 + 1) (x5 + 1)) ∧
 minv_fill_0 a0 a1 a2 (x5 + 1) (x5 + 1) (x5 + 1) < minv_fill_0 a0 a1 a2 x0 x1 x2)) ∧
((ix a0 x0).Kind ≠ 2 →
(a0 = a0) ∧
((a1 : Int) = a1) ∧
(a0 = a0) ∧
(inv_fill_0 a0 a1 a2 (x5 + 1) (x5 + 1) x2) ∧
 minv_fill_0 a0 a1 a2 (x5 + 1) (x5 + 1) x2 < minv_fill_0 a0 a1 a2 x0 x1 x2)))) ∧
((ix a0 x5).Kind ≠ 3 →
((a1 < x5 →
((a2 = true →
((x1 < (ln a0) →
((0 < x2 →
((x2 : Int) = (fillL a0 a1 a2)) ∧
              True)) ∧
(x2 ≤ 0 →
((x1 : Int) = (fillL a0 a1 a2)) ∧
              True))) ∧
((ln a0) ≤ x1 →
((x1 : Int) = (fillL a0 a1 a2)) ∧
             True))) ∧
(a2 = false →
((x1 : Int) = (fillL a0 a1 a2)) ∧
            True))) ∧
(x5 ≤ a1 →
(Wn x0 (ln a0)) ∧
(((ix a0 x0).Kind = 2 →
(a0 = a0) ∧
((a1 : Int) = a1) ∧
(a0 = a0) ∧
(inv_fill_0 a0 a1 a2 x5 x5 x5) ∧
 minv_fill_0 a0 a1 a2 x5 x5 x5 < minv_fill_0 a0 a1 a2 x0 x1 x2)) ∧
((ix a0 x0).Kind ≠ 2 →
(a0 = a0) ∧
((a1 : Int) = a1) ∧
(a0 = a0) ∧
(inv_fill_0 a0 a1 a2 x5 x5 x2) ∧
 minv_fill_0 a0 a1 a2 x5 x5 x2 < minv_fill_0 a0 a1 a2 x0 x1 x2))))) ∧
((ln a0) ≤ x5 →
((a1 < x5 →
((a2 = true →
((x1 < (ln a0) →
((0 < x2 →
((x2 : Int) = (fillL a0 a1 a2)) ∧
             True)) ∧
(x2 ≤ 0 →
((x1 : Int) = (fillL a0 a1 a2)) ∧
             True))) ∧
((ln a0) ≤ x1 →
((x1 : Int) = (fillL a0 a1 a2)) ∧
            True))) ∧
(a2 = false →
((x1 : Int) = (fillL a0 a1 a2)) ∧
           True))) ∧
(x5 ≤ a1 →
(Wn x0 (ln a0)) ∧
(((ix a0 x0).Kind = 2 →
(a0 = a0) ∧
((a1 : Int) = a1) ∧
(a0 = a0) ∧
(inv_fill_0 a0 a1 a2 x5 x5 x5) ∧
 minv_fill_0 a0 a1 a2 x5 x5 x5 < minv_fill_0 a0 a1 a2 x0 x1 x2)) ∧
((ix a0 x0).Kind ≠ 2 →
(a0 = a0) ∧
((a1 : Int) = a1) ∧
(a0 = a0) ∧
(inv_fill_0 a0 a1 a2 x5 x5 x2) ∧
 minv_fill_0 a0 a1 a2 x5 x5 x2 < minv_fill_0 a0 a1 a2 x0 x1 x2)))))))) ∧
((ln a0) ≤ x0 →
((a2 = true →
((x1 < (ln a0) →
((0 < x2 →
((x2 : Int) = (fillL a0 a1 a2)) ∧
        True)) ∧
(x2 ≤ 0 →
((x1 : Int) = (fillL a0 a1 a2)) ∧
        True))) ∧
((ln a0) ≤ x1 →
((x1 : Int) = (fillL a0 a1 a2)) ∧
       True))) ∧
(a2 = false →
((x1 : Int) = (fillL a0 a1 a2)) ∧
      True))))))
theorem fill_vc (a0 : List Sign) (a1 : Int) (a2 : Bool) : wpTop (stdA XK (tblOf fill_tbl) (fun j ns => match j, ns with | 0, [.i y0, .i y1, .i y2] => inv_fill_0 a0 a1 a2 y0 y1 y2 | 1, [.i y0, .i y1] => inv_fill_1 a0 a1 a2 y0 y1 | _, _ => False) (fun j ns => match j, ns with | 0, [.i y0, .i y1, .i y2] => minv_fill_0 a0 a1 a2 y0 y1 y2 | 1, [.i y0, .i y1] => minv_fill_1 a0 a1 a2 y0 y1 | _, _ => 0)) { cfg sp with ann := annOf [(82, 6, .inv 0 [.one 3 (.int .i64), .out 0 7 [.int .i64], .out 0 8 [.int .i64]] []), (82, 404, .inv 1 [.one 4 (.int .i64)] [.one 3 (.int .i64)])] } 3 39 [.list 4 (a0) none, .int .i64 none (a1), .sb 0 false (a2) (a2 = true) (a2 = false)] (fill_res a0 a1 a2) = fill_VC a0 a1 a2 := by kernel_rfl
def MakeB_tbl : List (Nat × Ct KT) := [(34, ct34), (38, ct38), (39, ct39), (40, ct40), (41, ct41), (42, ct42)]
abbrev MakeB_res (a0 : List UInt8) (a1 : List Sign) (a2 : Int) (a3 : Int) : PV KT := .tuple [.agg [.str (((mkB a0 a1 a2 a3).1)), .list 8 (((mkB a0 a1 a2 a3).2.1)) none], .int .i64 none (((mkB a0 a1 a2 a3).2.2))]
abbrev MakeB_VC (a0 : List UInt8) (a1 : List Sign) (a2 : Int) (a3 : Int) : Prop :=
((ln a0 ≤ 1000000000 ∧ ln a1 ≤ 1000000000)) ∧
((((checkC a0 a1).1) ≠ 0 →
(([] : List UInt8) = ((mkB a0 a1 a2 a3).1)) ∧
(([] : List Page) = ((mkB a0 a1 a2 a3).2.1)) ∧
((((checkC a0 a1).1) : Int) = ((mkB a0 a1 a2 a3).2.2)) ∧
 True)) ∧
(((checkC a0 a1).1) = 0 →
(inv_MakeB_0 a0 a1 a2 a3 0) ∧
(∀ x1 : Int,
(inv_MakeB_0 a0 a1 a2 a3 x1 →
((x1 < (ln a1) →
(Wn x1 (ln a1)) ∧
(((ix a1 x1).Kind = 11 →
((0 ≤ x1 →
(([] : List UInt8) = ((mkB a0 a1 a2 a3).1)) ∧
(([] : List Page) = ((mkB a0 a1 a2 a3).2.1)) ∧
((8 : Int) = ((mkB a0 a1 a2 a3).2.2)) ∧
      True)) ∧
(x1 < 0 →
((a2 < 16 →
(([] : List UInt8) = ((mkB a0 a1 a2 a3).1)) ∧
(([] : List Page) = ((mkB a0 a1 a2 a3).2.1)) ∧
((2 : Int) = ((mkB a0 a1 a2 a3).2.2)) ∧
       True)) ∧
(16 ≤ a2 →
((60 < a2 →
(([] : List UInt8) = ((mkB a0 a1 a2 a3).1)) ∧
(([] : List Page) = ((mkB a0 a1 a2 a3).2.1)) ∧
((2 : Int) = ((mkB a0 a1 a2 a3).2.2)) ∧
        True)) ∧
(a2 ≤ 60 →
((a3 < 1 →
(([] : List UInt8) = ((mkB a0 a1 a2 a3).1)) ∧
(([] : List Page) = ((mkB a0 a1 a2 a3).2.1)) ∧
((2 : Int) = ((mkB a0 a1 a2 a3).2.2)) ∧
         True)) ∧
(1 ≤ a3 →
((12 < a3 →
(([] : List UInt8) = ((mkB a0 a1 a2 a3).1)) ∧
(([] : List Page) = ((mkB a0 a1 a2 a3).2.1)) ∧
((2 : Int) = ((mkB a0 a1 a2 a3).2.2)) ∧
          True)) ∧
(a3 ≤ 12 →
((ln a1 ≤ 10000000)) ∧
(inv_MakeB_1 a0 a1 a2 a3 (a1) a0 ([] : List Page) ([] : List Sign) ([] : List Sign)) ∧
(∀ x10 : List Sign,
(∀ x11 : List UInt8,
(∀ x12 : List Page,
(∀ x13 : List Sign,
(∀ x14 : List Sign,
(inv_MakeB_1 a0 a1 a2 a3 x10 x11 x12 x13 x14 →
((0 < (ln x10) →
(inv_MakeB_2 a0 a1 a2 a3 x10 1 ([] : List Staff) x13 x14 x11 x12) ∧
(∀ x17 : List Sign,
(∀ x18 : Int,
(∀ x19 : List Staff,
(∀ x20 : List Sign,
(∀ x21 : List Sign,
(inv_MakeB_2 a0 a1 a2 a3 x17 x18 x19 x20 x21 x11 x12 →
((x18 ≤ a3 →
((0 < (ln x17) →
((ln x20 ≤ 1 ∧ ln x21 ≤ 1)) ∧
(I64 (a2 - (ln ((x20 ++ x21))))) ∧
((ln x17 ≤ 500)) ∧
(0 ≤ (fillL x17 (a2 - (ln ((x20 ++ x21)))) (decide (x18 = a3))) ∧ (fillL x17 (a2 - (ln ((x20 ++ x21)))) (decide (x18 = a3))) ≤ ln x17) ∧
(inv_MakeB_3 a0 a1 a2 a3 0 x20 x21 x17 (upto x17 (fillL x17 (a2 - (ln ((x20 ++ x21)))) (decide (x18 = a3))))) ∧
(∀ x25 : Int,
(∀ x26 : List Sign,
(∀ x27 : List Sign,
(inv_MakeB_3 a0 a1 a2 a3 x25 x26 x27 x17 (upto x17 (fillL x17 (a2 - (ln ((x20 ++ x21)))) (decide (x18 = a3)))) →
((x25 < (ln (upto x17 (fillL x17 (a2 - (ln ((x20 ++ x21)))) (decide (x18 = a3))))) →
(Wn x25 (ln (upto x17 (fillL x17 (a2 - (ln ((x20 ++ x21)))) (decide (x18 = a3)))))) ∧
(True) ∧
(I64 (x25 + 1)) ∧
((0 : Int) = 0) ∧
((0 : Int) = 0) ∧
((0 : Int) = 0) ∧
((0 : Int) = 0) ∧
(x19 = x19) ∧
(x11 = x11) ∧
(x12 = x12) ∧
(((ix a1 x1).Kind : Int) = (ix a1 x1).Kind) ∧
(((ix a1 x1).Value : Int) = (ix a1 x1).Value) ∧
(((ix a1 x1).Place : Int) = (ix a1 x1).Place) ∧
(((ix a1 x1).Acc : Int) = (ix a1 x1).Acc) ∧
((ix a1 x1).Color = (ix a1 x1).Color) ∧
(((ix a1 x1).Stem : Int) = (ix a1 x1).Stem) ∧
((ix a1 x1).Oblique = (ix a1 x1).Oblique) ∧
((ix a1 x1).Last = (ix a1 x1).Last) ∧
(((ix a1 x1).MensMax : Int) = (ix a1 x1).MensMax) ∧
(((ix a1 x1).MensMod : Int) = (ix a1 x1).MensMod) ∧
(((ix a1 x1).MensTem : Int) = (ix a1 x1).MensTem) ∧
(((ix a1 x1).MensPro : Int) = (ix a1 x1).MensPro) ∧
((ix a1 x1).Stroke = (ix a1 x1).Stroke) ∧
(((ix a1 x1).N : Int) = (ix a1 x1).N) ∧
(((ix a1 x1).D : Int) = (ix a1 x1).D) ∧
(((ix a1 x1).ClefStep : Int) = (ix a1 x1).ClefStep) ∧
(((ix a1 x1).ClefLine : Int) = (ix a1 x1).ClefLine) ∧
(([] : List UInt8) = ([] : List UInt8)) ∧
((a2 : Int) = a2) ∧
(a0 = a0) ∧
(a1 = a1) ∧
(inv_MakeB_3 a0 a1 a2 a3 (x25 + 1) ((afterF x26 x27 (Sign.mk (ix (upto x17 (fillL x17 (a2 - (ln ((x20 ++ x21)))) (decide (x18 = a3)))) x25).Kind (ix (upto x17 (fillL x17 (a2 - (ln ((x20 ++ x21)))) (decide (x18 = a3)))) x25).Value (ix (upto x17 (fillL x17 (a2 - (ln ((x20 ++ x21)))) (decide (x18 = a3)))) x25).Place (ix (upto x17 (fillL x17 (a2 - (ln ((x20 ++ x21)))) (decide (x18 = a3)))) x25).Acc (ix (upto x17 (fillL x17 (a2 - (ln ((x20 ++ x21)))) (decide (x18 = a3)))) x25).Color (ix (upto x17 (fillL x17 (a2 - (ln ((x20 ++ x21)))) (decide (x18 = a3)))) x25).Stem (ix (upto x17 (fillL x17 (a2 - (ln ((x20 ++ x21)))) (decide (x18 = a3)))) x25).Oblique (ix (upto x17 (fillL x17 (a2 - (ln ((x20 ++ x21)))) (decide (x18 = a3)))) x25).Last (ix (upto x17 (fillL x17 (a2 - (ln ((x20 ++ x21)))) (decide (x18 = a3)))) x25).MensMax (ix (upto x17 (fillL x17 (a2 - (ln ((x20 ++ x21)))) (decide (x18 = a3)))) x25).MensMod (ix (upto x17 (fillL x17 (a2 - (ln ((x20 ++ x21)))) (decide (x18 = a3)))) x25).MensTem (ix (upto x17 (fillL x17 (a2 - (ln ((x20 ++ x21)))) (decide (x18 = a3)))) x25).MensPro (ix (upto x17 (fillL x17 (a2 - (ln ((x20 ++ x21)))) (decide (x18 = a3)))) x25).Stroke (ix (upto x17 (fillL x17 (a2 - (ln ((x20 ++ x21)))) (decide (x18 = a3)))) x25).N (ix (upto x17 (fillL x17 (a2 - (ln ((x20 ++ x21)))) (decide (x18 = a3)))) x25).D (ix (upto x17 (fillL x17 (a2 - (ln ((x20 ++ x21)))) (decide (x18 = a3)))) x25).ClefStep (ix (upto x17 (fillL x17 (a2 - (ln ((x20 ++ x21)))) (decide (x18 = a3)))) x25).ClefLine)).1) ((afterF x26 x27 (Sign.mk (ix (upto x17 (fillL x17 (a2 - (ln ((x20 ++ x21)))) (decide (x18 = a3)))) x25).Kind (ix (upto x17 (fillL x17 (a2 - (ln ((x20 ++ x21)))) (decide (x18 = a3)))) x25).Value (ix (upto x17 (fillL x17 (a2 - (ln ((x20 ++ x21)))) (decide (x18 = a3)))) x25).Place (ix (upto x17 (fillL x17 (a2 - (ln ((x20 ++ x21)))) (decide (x18 = a3)))) x25).Acc (ix (upto x17 (fillL x17 (a2 - (ln ((x20 ++ x21)))) (decide (x18 = a3)))) x25).Color (ix (upto x17 (fillL x17 (a2 - (ln ((x20 ++ x21)))) (decide (x18 = a3)))) x25).Stem (ix (upto x17 (fillL x17 (a2 - (ln ((x20 ++ x21)))) (decide (x18 = a3)))) x25).Oblique (ix (upto x17 (fillL x17 (a2 - (ln ((x20 ++ x21)))) (decide (x18 = a3)))) x25).Last (ix (upto x17 (fillL x17 (a2 - (ln ((x20 ++ x21)))) (decide (x18 = a3)))) x25).MensMax (ix (upto x17 (fillL x17 (a2 - (ln ((x20 ++ x21)))) (decide (x18 = a3)))) x25).MensMod (ix (upto x17 (fillL x17 (a2 - (ln ((x20 ++ x21)))) (decide (x18 = a3)))) x25).MensTem (ix (upto x17 (fillL x17 (a2 - (ln ((x20 ++ x21)))) (decide (x18 = a3)))) x25).MensPro (ix (upto x17 (fillL x17 (a2 - (ln ((x20 ++ x21)))) (decide (x18 = a3)))) x25).Stroke (ix (upto x17 (fillL x17 (a2 - (ln ((x20 ++ x21)))) (decide (x18 = a3)))) x25).N (ix (upto x17 (fillL x17 (a2 - (ln ((x20 ++ x21)))) (decide (x18 = a3)))) x25).D (ix (upto x17 (fillL x17 (a2 - (ln ((x20 ++ x21)))) (decide (x18 = a3)))) x25).ClefStep (ix (upto x17 (fillL x17 (a2 - (ln ((x20 ++ x21)))) (decide (x18 = a3)))) x25).ClefLine)).2) x17 (upto x17 (fillL x17 (a2 - (ln ((x20 ++ x21)))) (decide (x18 = a3))))) ∧
 minv_MakeB_3 a0 a1 a2 a3 (x25 + 1) ((afterF x26 x27 (Sign.mk (ix (upto x17 (fillL x17 (a2 - (ln ((x20 ++ x21)))) (decide (x18 = a3)))) x25).Kind (ix (upto x17 (fillL x17 (a2 - (ln ((x20 ++ x21)))) (decide (x18 = a3)))) x25).Value (ix (upto x17 (fillL x17 (a2 - (ln ((x20 ++ x21)))) (decide (x18 = a3)))) x25).Place (ix (upto x17 (fillL x17 (a2 - (ln ((x20 ++ x21)))) (decide (x18 = a3)))) x25).Acc (ix (upto x17 (fillL x17 (a2 - (ln ((x20 ++ x21)))) (decide (x18 = a3)))) x25).Color (ix (upto x17 (fillL x17 (a2 - (ln ((x20 ++ x21)))) (decide (x18 = a3)))) x25).Stem (ix (upto x17 (fillL x17 (a2 - (ln ((x20 ++ x21)))) (decide (x18 = a3)))) x25).Oblique (ix (upto x17 (fillL x17 (a2 - (ln ((x20 ++ x21)))) (decide (x18 = a3)))) x25).Last (ix (upto x17 (fillL x17 (a2 - (ln ((x20 ++ x21)))) (decide (x18 = a3)))) x25).MensMax (ix (upto x17 (fillL x17 (a2 - (ln ((x20 ++ x21)))) (decide (x18 = a3)))) x25).MensMod (ix (upto x17 (fillL x17 (a2 - (ln ((x20 ++ x21)))) (decide (x18 = a3)))) x25).MensTem (ix (upto x17 (fillL x17 (a2 - (ln ((x20 ++ x21)))) (decide (x18 = a3)))) x25).MensPro (ix (upto x17 (fillL x17 (a2 - (ln ((x20 ++ x21)))) (decide (x18 = a3)))) x25).Stroke (ix (upto x17 (fillL x17 (a2 - (ln ((x20 ++ x21)))) (decide (x18 = a3)))) x25).N (ix (upto x17 (fillL x17 (a2 - (ln ((x20 ++ x21)))) (decide (x18 = a3)))) x25).D (ix (upto x17 (fillL x17 (a2 - (ln ((x20 ++ x21)))) (decide (x18 = a3)))) x25).ClefStep (ix (upto x17 (fillL x17 (a2 - (ln ((x20 ++ x21)))) (decide (x18 = a3)))) x25).ClefLine)).1) ((afterF x26 x27 (Sign.mk (ix (upto x17 (fillL x17 (a2 - (ln ((x20 ++ x21)))) (decide (x18 = a3)))) x25).Kind (ix (upto x17 (fillL x17 (a2 - (ln ((x20 ++ x21)))) (decide (x18 = a3)))) x25).Value (ix (upto x17 (fillL x17 (a2 - (ln ((x20 ++ x21)))) (decide (x18 = a3)))) x25).Place (ix (upto x17 (fillL x17 (a2 - (ln ((x20 ++ x21)))) (decide (x18 = a3)))) x25).Acc (ix (upto x17 (fillL x17 (a2 - (ln ((x20 ++ x21)))) (decide (x18 = a3)))) x25).Color (ix (upto x17 (fillL x17 (a2 - (ln ((x20 ++ x21)))) (decide (x18 = a3)))) x25).Stem (ix (upto x17 (fillL x17 (a2 - (ln ((x20 ++ x21)))) (decide (x18 = a3)))) x25).Oblique (ix (upto x17 (fillL x17 (a2 - (ln ((x20 ++ x21)))) (decide (x18 = a3)))) x25).Last (ix (upto x17 (fillL x17 (a2 - (ln ((x20 ++ x21)))) (decide (x18 = a3)))) x25).MensMax (ix (upto x17 (fillL x17 (a2 - (ln ((x20 ++ x21)))) (decide (x18 = a3)))) x25).MensMod (ix (upto x17 (fillL x17 (a2 - (ln ((x20 ++ x21)))) (decide (x18 = a3)))) x25).MensTem (ix (upto x17 (fillL x17 (a2 - (ln ((x20 ++ x21)))) (decide (x18 = a3)))) x25).MensPro (ix (upto x17 (fillL x17 (a2 - (ln ((x20 ++ x21)))) (decide (x18 = a3)))) x25).Stroke (ix (upto x17 (fillL x17 (a2 - (ln ((x20 ++ x21)))) (decide (x18 = a3)))) x25).N (ix (upto x17 (fillL x17 (a2 - (ln ((x20 ++ x21)))) (decide (x18 = a3)))) x25).D (ix (upto x17 (fillL x17 (a2 - (ln ((x20 ++ x21)))) (decide (x18 = a3)))) x25).ClefStep (ix (upto x17 (fillL x17 (a2 - (ln ((x20 ++ x21)))) (decide (x18 = a3)))) x25).ClefLine)).2) x17 (upto x17 (fillL x17 (a2 - (ln ((x20 ++ x21)))) (decide (x18 = a3)))) < minv_MakeB_3 a0 a1 a2 a3 x25 x26 x27 x17 (upto x17 (fillL x17 (a2 - (ln ((x20 ++ x21)))) (decide (x18 = a3)))))) ∧
((ln (upto x17 (fillL x17 (a2 - (ln ((x20 ++ x21)))) (decide (x18 = a3))))) ≤ x25 →
(0 ≤ (fillL x17 (a2 - (ln ((x20 ++ x21)))) (decide (x18 = a3))) ∧ (fillL x17 (a2 - (ln ((x20 ++ x21)))) (decide (x18 = a3))) ≤ ln x17) ∧
(Short (List.length ((x20 ++ x21)) + List.length (upto x17 (fillL x17 (a2 - (ln ((x20 ++ x21)))) (decide (x18 = a3)))))) ∧
((0 < (fillL x17 (a2 - (ln ((x20 ++ x21)))) (decide (x18 = a3))) →
(0 ≤ (fillL x17 (a2 - (ln ((x20 ++ x21)))) (decide (x18 = a3))) ∧ (fillL x17 (a2 - (ln ((x20 ++ x21)))) (decide (x18 = a3))) ≤ ln x17) ∧
((ln (fr x17 (fillL x17 (a2 - (ln ((x20 ++ x21)))) (decide (x18 = a3)))) ≤ 1000000000)) ∧
(0 ≤ (fillL x17 (a2 - (ln ((x20 ++ x21)))) (decide (x18 = a3))) ∧ (fillL x17 (a2 - (ln ((x20 ++ x21)))) (decide (x18 = a3))) ≤ ln x17) ∧
(((ln (((x20 ++ x21)) ++ (upto x17 (fillL x17 (a2 - (ln ((x20 ++ x21)))) (decide (x18 = a3)))))) = (ln ((x20 ++ x21))) →
(([] : List UInt8) = ((mkB a0 a1 a2 a3).1)) ∧
(([] : List Page) = ((mkB a0 a1 a2 a3).2.1)) ∧
((11 : Int) = ((mkB a0 a1 a2 a3).2.2)) ∧
                                True)) ∧
((ln (((x20 ++ x21)) ++ (upto x17 (fillL x17 (a2 - (ln ((x20 ++ x21)))) (decide (x18 = a3)))))) ≠ (ln ((x20 ++ x21))) →
(True) ∧
(Short (List.length x19 + List.length [(Staff.mk (((x20 ++ x21)) ++ (upto x17 (fillL x17 (a2 - (ln ((x20 ++ x21)))) (decide (x18 = a3))))) (ln ((x20 ++ x21))) ((catchL (fr x17 (fillL x17 (a2 - (ln ((x20 ++ x21)))) (decide (x18 = a3))))).1) ((catchL (fr x17 (fillL x17 (a2 - (ln ((x20 ++ x21)))) (decide (x18 = a3))))).2))])) ∧
(I64 (x18 + 1)) ∧
(x11 = x11) ∧
(x12 = x12) ∧
(((ix a1 x1).Kind : Int) = (ix a1 x1).Kind) ∧
(((ix a1 x1).Value : Int) = (ix a1 x1).Value) ∧
(((ix a1 x1).Place : Int) = (ix a1 x1).Place) ∧
(((ix a1 x1).Acc : Int) = (ix a1 x1).Acc) ∧
((ix a1 x1).Color = (ix a1 x1).Color) ∧
(((ix a1 x1).Stem : Int) = (ix a1 x1).Stem) ∧
((ix a1 x1).Oblique = (ix a1 x1).Oblique) ∧
((ix a1 x1).Last = (ix a1 x1).Last) ∧
(((ix a1 x1).MensMax : Int) = (ix a1 x1).MensMax) ∧
(((ix a1 x1).MensMod : Int) = (ix a1 x1).MensMod) ∧
(((ix a1 x1).MensTem : Int) = (ix a1 x1).MensTem) ∧
(((ix a1 x1).MensPro : Int) = (ix a1 x1).MensPro) ∧
((ix a1 x1).Stroke = (ix a1 x1).Stroke) ∧
(((ix a1 x1).N : Int) = (ix a1 x1).N) ∧
(((ix a1 x1).D : Int) = (ix a1 x1).D) ∧
(((ix a1 x1).ClefStep : Int) = (ix a1 x1).ClefStep) ∧
(((ix a1 x1).ClefLine : Int) = (ix a1 x1).ClefLine) ∧
(([] : List UInt8) = ([] : List UInt8)) ∧
((a2 : Int) = a2) ∧
(a0 = a0) ∧
(a1 = a1) ∧
(inv_MakeB_2 a0 a1 a2 a3 (fr x17 (fillL x17 (a2 - (ln ((x20 ++ x21)))) (decide (x18 = a3)))) (x18 + 1) (x19 ++ [(Staff.mk (((x20 ++ x21)) ++ (upto x17 (fillL x17 (a2 - (ln ((x20 ++ x21)))) (decide (x18 = a3))))) (ln ((x20 ++ x21))) ((catchL (fr x17 (fillL x17 (a2 - (ln ((x20 ++ x21)))) (decide (x18 = a3))))).1) ((catchL (fr x17 (fillL x17 (a2 - (ln ((x20 ++ x21)))) (decide (x18 = a3))))).2))]) x26 x27 x11 x12) ∧
 minv_MakeB_2 a0 a1 a2 a3 (fr x17 (fillL x17 (a2 - (ln ((x20 ++ x21)))) (decide (x18 = a3)))) (x18 + 1) (x19 ++ [(Staff.mk (((x20 ++ x21)) ++ (upto x17 (fillL x17 (a2 - (ln ((x20 ++ x21)))) (decide (x18 = a3))))) (ln ((x20 ++ x21))) ((catchL (fr x17 (fillL x17 (a2 - (ln ((x20 ++ x21)))) (decide (x18 = a3))))).1) ((catchL (fr x17 (fillL x17 (a2 - (ln ((x20 ++ x21)))) (decide (x18 = a3))))).2))]) x26 x27 x11 x12 < minv_MakeB_2 a0 a1 a2 a3 x17 x18 x19 x20 x21 x11 x12))) ∧
((fillL x17 (a2 - (ln ((x20 ++ x21)))) (decide (x18 = a3))) ≤ 0 →
(0 ≤ (fillL x17 (a2 - (ln ((x20 ++ x21)))) (decide (x18 = a3))) ∧ (fillL x17 (a2 - (ln ((x20 ++ x21)))) (decide (x18 = a3))) ≤ ln x17) ∧
(((ln (((x20 ++ x21)) ++ (upto x17 (fillL x17 (a2 - (ln ((x20 ++ x21)))) (decide (x18 = a3)))))) = (ln ((x20 ++ x21))) →
(([] : List UInt8) = ((mkB a0 a1 a2 a3).1)) ∧
(([] : List Page) = ((mkB a0 a1 a2 a3).2.1)) ∧
((11 : Int) = ((mkB a0 a1 a2 a3).2.2)) ∧
                                True)) ∧
((ln (((x20 ++ x21)) ++ (upto x17 (fillL x17 (a2 - (ln ((x20 ++ x21)))) (decide (x18 = a3)))))) ≠ (ln ((x20 ++ x21))) →
(True) ∧
(Short (List.length x19 + List.length [(Staff.mk (((x20 ++ x21)) ++ (upto x17 (fillL x17 (a2 - (ln ((x20 ++ x21)))) (decide (x18 = a3))))) (ln ((x20 ++ x21))) false 0)])) ∧
(I64 (x18 + 1)) ∧
(x11 = x11) ∧
(x12 = x12) ∧
(((ix a1 x1).Kind : Int) = (ix a1 x1).Kind) ∧
(((ix a1 x1).Value : Int) = (ix a1 x1).Value) ∧
(((ix a1 x1).Place : Int) = (ix a1 x1).Place) ∧
(((ix a1 x1).Acc : Int) = (ix a1 x1).Acc) ∧
((ix a1 x1).Color = (ix a1 x1).Color) ∧
(((ix a1 x1).Stem : Int) = (ix a1 x1).Stem) ∧
((ix a1 x1).Oblique = (ix a1 x1).Oblique) ∧
((ix a1 x1).Last = (ix a1 x1).Last) ∧
(((ix a1 x1).MensMax : Int) = (ix a1 x1).MensMax) ∧
(((ix a1 x1).MensMod : Int) = (ix a1 x1).MensMod) ∧
(((ix a1 x1).MensTem : Int) = (ix a1 x1).MensTem) ∧
(((ix a1 x1).MensPro : Int) = (ix a1 x1).MensPro) ∧
((ix a1 x1).Stroke = (ix a1 x1).Stroke) ∧
(((ix a1 x1).N : Int) = (ix a1 x1).N) ∧
(((ix a1 x1).D : Int) = (ix a1 x1).D) ∧
(((ix a1 x1).ClefStep : Int) = (ix a1 x1).ClefStep) ∧
(((ix a1 x1).ClefLine : Int) = (ix a1 x1).ClefLine) ∧
(([] : List UInt8) = ([] : List UInt8)) ∧
((a2 : Int) = a2) ∧
(a0 = a0) ∧
(a1 = a1) ∧
(inv_MakeB_2 a0 a1 a2 a3 (fr x17 (fillL x17 (a2 - (ln ((x20 ++ x21)))) (decide (x18 = a3)))) (x18 + 1) (x19 ++ [(Staff.mk (((x20 ++ x21)) ++ (upto x17 (fillL x17 (a2 - (ln ((x20 ++ x21)))) (decide (x18 = a3))))) (ln ((x20 ++ x21))) false 0)]) x26 x27 x11 x12) ∧
 minv_MakeB_2 a0 a1 a2 a3 (fr x17 (fillL x17 (a2 - (ln ((x20 ++ x21)))) (decide (x18 = a3)))) (x18 + 1) (x19 ++ [(Staff.mk (((x20 ++ x21)) ++ (upto x17 (fillL x17 (a2 - (ln ((x20 ++ x21)))) (decide (x18 = a3))))) (ln ((x20 ++ x21))) false 0)]) x26 x27 x11 x12 < minv_MakeB_2 a0 a1 a2 a3 x17 x18 x19 x20 x21 x11 x12))))))))) ∧
((ln x17) ≤ 0 →
(True) ∧
(Short (List.length x12 + List.length [(Page.mk x19)])) ∧
(((ix a1 x1).Kind : Int) = (ix a1 x1).Kind) ∧
(((ix a1 x1).Value : Int) = (ix a1 x1).Value) ∧
(((ix a1 x1).Place : Int) = (ix a1 x1).Place) ∧
(((ix a1 x1).Acc : Int) = (ix a1 x1).Acc) ∧
((ix a1 x1).Color = (ix a1 x1).Color) ∧
(((ix a1 x1).Stem : Int) = (ix a1 x1).Stem) ∧
((ix a1 x1).Oblique = (ix a1 x1).Oblique) ∧
((ix a1 x1).Last = (ix a1 x1).Last) ∧
(((ix a1 x1).MensMax : Int) = (ix a1 x1).MensMax) ∧
(((ix a1 x1).MensMod : Int) = (ix a1 x1).MensMod) ∧
(((ix a1 x1).MensTem : Int) = (ix a1 x1).MensTem) ∧
(((ix a1 x1).MensPro : Int) = (ix a1 x1).MensPro) ∧
((ix a1 x1).Stroke = (ix a1 x1).Stroke) ∧
(((ix a1 x1).N : Int) = (ix a1 x1).N) ∧
(((ix a1 x1).D : Int) = (ix a1 x1).D) ∧
(((ix a1 x1).ClefStep : Int) = (ix a1 x1).ClefStep) ∧
(((ix a1 x1).ClefLine : Int) = (ix a1 x1).ClefLine) ∧
(([] : List UInt8) = ([] : List UInt8)) ∧
((a2 : Int) = a2) ∧
(a0 = a0) ∧
(a1 = a1) ∧
(inv_MakeB_1 a0 a1 a2 a3 x17 x11 (x12 ++ [(Page.mk x19)]) x20 x21) ∧
 minv_MakeB_1 a0 a1 a2 a3 x17 x11 (x12 ++ [(Page.mk x19)]) x20 x21 < minv_MakeB_1 a0 a1 a2 a3 x10 x11 x12 x13 x14))) ∧
(a3 < x18 →
(True) ∧
(Short (List.length x12 + List.length [(Page.mk x19)])) ∧
(((ix a1 x1).Kind : Int) = (ix a1 x1).Kind) ∧
(((ix a1 x1).Value : Int) = (ix a1 x1).Value) ∧
(((ix a1 x1).Place : Int) = (ix a1 x1).Place) ∧
(((ix a1 x1).Acc : Int) = (ix a1 x1).Acc) ∧
((ix a1 x1).Color = (ix a1 x1).Color) ∧
(((ix a1 x1).Stem : Int) = (ix a1 x1).Stem) ∧
((ix a1 x1).Oblique = (ix a1 x1).Oblique) ∧
((ix a1 x1).Last = (ix a1 x1).Last) ∧
(((ix a1 x1).MensMax : Int) = (ix a1 x1).MensMax) ∧
(((ix a1 x1).MensMod : Int) = (ix a1 x1).MensMod) ∧
(((ix a1 x1).MensTem : Int) = (ix a1 x1).MensTem) ∧
(((ix a1 x1).MensPro : Int) = (ix a1 x1).MensPro) ∧
((ix a1 x1).Stroke = (ix a1 x1).Stroke) ∧
(((ix a1 x1).N : Int) = (ix a1 x1).N) ∧
(((ix a1 x1).D : Int) = (ix a1 x1).D) ∧
(((ix a1 x1).ClefStep : Int) = (ix a1 x1).ClefStep) ∧
(((ix a1 x1).ClefLine : Int) = (ix a1 x1).ClefLine) ∧
(([] : List UInt8) = ([] : List UInt8)) ∧
((a2 : Int) = a2) ∧
(a0 = a0) ∧
(a1 = a1) ∧
(inv_MakeB_1 a0 a1 a2 a3 x17 x11 (x12 ++ [(Page.mk x19)]) x20 x21) ∧
 minv_MakeB_1 a0 a1 a2 a3 x17 x11 (x12 ++ [(Page.mk x19)]) x20 x21 < minv_MakeB_1 a0 a1 a2 a3 x10 x11 x12 x13 x14))))))))) ∧
((ln x10) ≤ 0 →
(x11 = ((mkB a0 a1 a2 a3).1)) ∧
(x12 = ((mkB a0 a1 a2 a3).2.1)) ∧
((0 : Int) = ((mkB a0 a1 a2 a3).2.2)) ∧
                 True)))))))))))))) ∧
((ix a1 x1).Kind ≠ 11 →
(I64 (x1 + 1)) ∧
(([] : List UInt8) = ([] : List UInt8)) ∧
((a2 : Int) = a2) ∧
(a0 = a0) ∧
(a1 = a1) ∧
(inv_MakeB_0 a0 a1 a2 a3 (x1 + 1)) ∧
 minv_MakeB_0 a0 a1 a2 a3 (x1 + 1) < minv_MakeB_0 a0 a1 a2 a3 x1))) ∧
((ln a1) ≤ x1 →
((a2 < 16 →
(([] : List UInt8) = ((mkB a0 a1 a2 a3).1)) ∧
(([] : List Page) = ((mkB a0 a1 a2 a3).2.1)) ∧
((2 : Int) = ((mkB a0 a1 a2 a3).2.2)) ∧
     True)) ∧
(16 ≤ a2 →
((60 < a2 →
(([] : List UInt8) = ((mkB a0 a1 a2 a3).1)) ∧
(([] : List Page) = ((mkB a0 a1 a2 a3).2.1)) ∧
((2 : Int) = ((mkB a0 a1 a2 a3).2.2)) ∧
      True)) ∧
(a2 ≤ 60 →
((a3 < 1 →
(([] : List UInt8) = ((mkB a0 a1 a2 a3).1)) ∧
(([] : List Page) = ((mkB a0 a1 a2 a3).2.1)) ∧
((2 : Int) = ((mkB a0 a1 a2 a3).2.2)) ∧
       True)) ∧
(1 ≤ a3 →
((12 < a3 →
(([] : List UInt8) = ((mkB a0 a1 a2 a3).1)) ∧
(([] : List Page) = ((mkB a0 a1 a2 a3).2.1)) ∧
((2 : Int) = ((mkB a0 a1 a2 a3).2.2)) ∧
        True)) ∧
(a3 ≤ 12 →
((ln a1 ≤ 10000000)) ∧
(inv_MakeB_1 a0 a1 a2 a3 (a1) a0 ([] : List Page) ([] : List Sign) ([] : List Sign)) ∧
(∀ x8 : List Sign,
(∀ x9 : List UInt8,
(∀ x10 : List Page,
(∀ x11 : List Sign,
(∀ x12 : List Sign,
(inv_MakeB_1 a0 a1 a2 a3 x8 x9 x10 x11 x12 →
((0 < (ln x8) →
(inv_MakeB_2 a0 a1 a2 a3 x8 1 ([] : List Staff) x11 x12 x9 x10) ∧
(∀ x15 : List Sign,
(∀ x16 : Int,
(∀ x17 : List Staff,
(∀ x18 : List Sign,
(∀ x19 : List Sign,
(inv_MakeB_2 a0 a1 a2 a3 x15 x16 x17 x18 x19 x9 x10 →
((x16 ≤ a3 →
((0 < (ln x15) →
((ln x18 ≤ 1 ∧ ln x19 ≤ 1)) ∧
(I64 (a2 - (ln ((x18 ++ x19))))) ∧
((ln x15 ≤ 500)) ∧
(0 ≤ (fillL x15 (a2 - (ln ((x18 ++ x19)))) (decide (x16 = a3))) ∧ (fillL x15 (a2 - (ln ((x18 ++ x19)))) (decide (x16 = a3))) ≤ ln x15) ∧
(inv_MakeB_3 a0 a1 a2 a3 0 x18 x19 x15 (upto x15 (fillL x15 (a2 - (ln ((x18 ++ x19)))) (decide (x16 = a3))))) ∧
(∀ x23 : Int,
(∀ x24 : List Sign,
(∀ x25 : List Sign,
(inv_MakeB_3 a0 a1 a2 a3 x23 x24 x25 x15 (upto x15 (fillL x15 (a2 - (ln ((x18 ++ x19)))) (decide (x16 = a3)))) →
((x23 < (ln (upto x15 (fillL x15 (a2 - (ln ((x18 ++ x19)))) (decide (x16 = a3))))) →
(Wn x23 (ln (upto x15 (fillL x15 (a2 - (ln ((x18 ++ x19)))) (decide (x16 = a3)))))) ∧
(True) ∧
(I64 (x23 + 1)) ∧
((0 : Int) = 0) ∧
((0 : Int) = 0) ∧
((0 : Int) = 0) ∧
((0 : Int) = 0) ∧
(x17 = x17) ∧
(x9 = x9) ∧
(x10 = x10) ∧
(([] : List UInt8) = ([] : List UInt8)) ∧
((a2 : Int) = a2) ∧
(a0 = a0) ∧
(a1 = a1) ∧
(inv_MakeB_3 a0 a1 a2 a3 (x23 + 1) ((afterF x24 x25 (Sign.mk (ix (upto x15 (fillL x15 (a2 - (ln ((x18 ++ x19)))) (decide (x16 = a3)))) x23).Kind (ix (upto x15 (fillL x15 (a2 - (ln ((x18 ++ x19)))) (decide (x16 = a3)))) x23).Value (ix (upto x15 (fillL x15 (a2 - (ln ((x18 ++ x19)))) (decide (x16 = a3)))) x23).Place (ix (upto x15 (fillL x15 (a2 - (ln ((x18 ++ x19)))) (decide (x16 = a3)))) x23).Acc (ix (upto x15 (fillL x15 (a2 - (ln ((x18 ++ x19)))) (decide (x16 = a3)))) x23).Color (ix (upto x15 (fillL x15 (a2 - (ln ((x18 ++ x19)))) (decide (x16 = a3)))) x23).Stem (ix (upto x15 (fillL x15 (a2 - (ln ((x18 ++ x19)))) (decide (x16 = a3)))) x23).Oblique (ix (upto x15 (fillL x15 (a2 - (ln ((x18 ++ x19)))) (decide (x16 = a3)))) x23).Last (ix (upto x15 (fillL x15 (a2 - (ln ((x18 ++ x19)))) (decide (x16 = a3)))) x23).MensMax (ix (upto x15 (fillL x15 (a2 - (ln ((x18 ++ x19)))) (decide (x16 = a3)))) x23).MensMod (ix (upto x15 (fillL x15 (a2 - (ln ((x18 ++ x19)))) (decide (x16 = a3)))) x23).MensTem (ix (upto x15 (fillL x15 (a2 - (ln ((x18 ++ x19)))) (decide (x16 = a3)))) x23).MensPro (ix (upto x15 (fillL x15 (a2 - (ln ((x18 ++ x19)))) (decide (x16 = a3)))) x23).Stroke (ix (upto x15 (fillL x15 (a2 - (ln ((x18 ++ x19)))) (decide (x16 = a3)))) x23).N (ix (upto x15 (fillL x15 (a2 - (ln ((x18 ++ x19)))) (decide (x16 = a3)))) x23).D (ix (upto x15 (fillL x15 (a2 - (ln ((x18 ++ x19)))) (decide (x16 = a3)))) x23).ClefStep (ix (upto x15 (fillL x15 (a2 - (ln ((x18 ++ x19)))) (decide (x16 = a3)))) x23).ClefLine)).1) ((afterF x24 x25 (Sign.mk (ix (upto x15 (fillL x15 (a2 - (ln ((x18 ++ x19)))) (decide (x16 = a3)))) x23).Kind (ix (upto x15 (fillL x15 (a2 - (ln ((x18 ++ x19)))) (decide (x16 = a3)))) x23).Value (ix (upto x15 (fillL x15 (a2 - (ln ((x18 ++ x19)))) (decide (x16 = a3)))) x23).Place (ix (upto x15 (fillL x15 (a2 - (ln ((x18 ++ x19)))) (decide (x16 = a3)))) x23).Acc (ix (upto x15 (fillL x15 (a2 - (ln ((x18 ++ x19)))) (decide (x16 = a3)))) x23).Color (ix (upto x15 (fillL x15 (a2 - (ln ((x18 ++ x19)))) (decide (x16 = a3)))) x23).Stem (ix (upto x15 (fillL x15 (a2 - (ln ((x18 ++ x19)))) (decide (x16 = a3)))) x23).Oblique (ix (upto x15 (fillL x15 (a2 - (ln ((x18 ++ x19)))) (decide (x16 = a3)))) x23).Last (ix (upto x15 (fillL x15 (a2 - (ln ((x18 ++ x19)))) (decide (x16 = a3)))) x23).MensMax (ix (upto x15 (fillL x15 (a2 - (ln ((x18 ++ x19)))) (decide (x16 = a3)))) x23).MensMod (ix (upto x15 (fillL x15 (a2 - (ln ((x18 ++ x19)))) (decide (x16 = a3)))) x23).MensTem (ix (upto x15 (fillL x15 (a2 - (ln ((x18 ++ x19)))) (decide (x16 = a3)))) x23).MensPro (ix (upto x15 (fillL x15 (a2 - (ln ((x18 ++ x19)))) (decide (x16 = a3)))) x23).Stroke (ix (upto x15 (fillL x15 (a2 - (ln ((x18 ++ x19)))) (decide (x16 = a3)))) x23).N (ix (upto x15 (fillL x15 (a2 - (ln ((x18 ++ x19)))) (decide (x16 = a3)))) x23).D (ix (upto x15 (fillL x15 (a2 - (ln ((x18 ++ x19)))) (decide (x16 = a3)))) x23).ClefStep (ix (upto x15 (fillL x15 (a2 - (ln ((x18 ++ x19)))) (decide (x16 = a3)))) x23).ClefLine)).2) x15 (upto x15 (fillL x15 (a2 - (ln ((x18 ++ x19)))) (decide (x16 = a3))))) ∧
 minv_MakeB_3 a0 a1 a2 a3 (x23 + 1) ((afterF x24 x25 (Sign.mk (ix (upto x15 (fillL x15 (a2 - (ln ((x18 ++ x19)))) (decide (x16 = a3)))) x23).Kind (ix (upto x15 (fillL x15 (a2 - (ln ((x18 ++ x19)))) (decide (x16 = a3)))) x23).Value (ix (upto x15 (fillL x15 (a2 - (ln ((x18 ++ x19)))) (decide (x16 = a3)))) x23).Place (ix (upto x15 (fillL x15 (a2 - (ln ((x18 ++ x19)))) (decide (x16 = a3)))) x23).Acc (ix (upto x15 (fillL x15 (a2 - (ln ((x18 ++ x19)))) (decide (x16 = a3)))) x23).Color (ix (upto x15 (fillL x15 (a2 - (ln ((x18 ++ x19)))) (decide (x16 = a3)))) x23).Stem (ix (upto x15 (fillL x15 (a2 - (ln ((x18 ++ x19)))) (decide (x16 = a3)))) x23).Oblique (ix (upto x15 (fillL x15 (a2 - (ln ((x18 ++ x19)))) (decide (x16 = a3)))) x23).Last (ix (upto x15 (fillL x15 (a2 - (ln ((x18 ++ x19)))) (decide (x16 = a3)))) x23).MensMax (ix (upto x15 (fillL x15 (a2 - (ln ((x18 ++ x19)))) (decide (x16 = a3)))) x23).MensMod (ix (upto x15 (fillL x15 (a2 - (ln ((x18 ++ x19)))) (decide (x16 = a3)))) x23).MensTem (ix (upto x15 (fillL x15 (a2 - (ln ((x18 ++ x19)))) (decide (x16 = a3)))) x23).MensPro (ix (upto x15 (fillL x15 (a2 - (ln ((x18 ++ x19)))) (decide (x16 = a3)))) x23).Stroke (ix (upto x15 (fillL x15 (a2 - (ln ((x18 ++ x19)))) (decide (x16 = a3)))) x23).N (ix (upto x15 (fillL x15 (a2 - (ln ((x18 ++ x19)))) (decide (x16 = a3)))) x23).D (ix (upto x15 (fillL x15 (a2 - (ln ((x18 ++ x19)))) (decide (x16 = a3)))) x23).ClefStep (ix (upto x15 (fillL x15 (a2 - (ln ((x18 ++ x19)))) (decide (x16 = a3)))) x23).ClefLine)).1) ((afterF x24 x25 (Sign.mk (ix (upto x15 (fillL x15 (a2 - (ln ((x18 ++ x19)))) (decide (x16 = a3)))) x23).Kind (ix (upto x15 (fillL x15 (a2 - (ln ((x18 ++ x19)))) (decide (x16 = a3)))) x23).Value (ix (upto x15 (fillL x15 (a2 - (ln ((x18 ++ x19)))) (decide (x16 = a3)))) x23).Place (ix (upto x15 (fillL x15 (a2 - (ln ((x18 ++ x19)))) (decide (x16 = a3)))) x23).Acc (ix (upto x15 (fillL x15 (a2 - (ln ((x18 ++ x19)))) (decide (x16 = a3)))) x23).Color (ix (upto x15 (fillL x15 (a2 - (ln ((x18 ++ x19)))) (decide (x16 = a3)))) x23).Stem (ix (upto x15 (fillL x15 (a2 - (ln ((x18 ++ x19)))) (decide (x16 = a3)))) x23).Oblique (ix (upto x15 (fillL x15 (a2 - (ln ((x18 ++ x19)))) (decide (x16 = a3)))) x23).Last (ix (upto x15 (fillL x15 (a2 - (ln ((x18 ++ x19)))) (decide (x16 = a3)))) x23).MensMax (ix (upto x15 (fillL x15 (a2 - (ln ((x18 ++ x19)))) (decide (x16 = a3)))) x23).MensMod (ix (upto x15 (fillL x15 (a2 - (ln ((x18 ++ x19)))) (decide (x16 = a3)))) x23).MensTem (ix (upto x15 (fillL x15 (a2 - (ln ((x18 ++ x19)))) (decide (x16 = a3)))) x23).MensPro (ix (upto x15 (fillL x15 (a2 - (ln ((x18 ++ x19)))) (decide (x16 = a3)))) x23).Stroke (ix (upto x15 (fillL x15 (a2 - (ln ((x18 ++ x19)))) (decide (x16 = a3)))) x23).N (ix (upto x15 (fillL x15 (a2 - (ln ((x18 ++ x19)))) (decide (x16 = a3)))) x23).D (ix (upto x15 (fillL x15 (a2 - (ln ((x18 ++ x19)))) (decide (x16 = a3)))) x23).ClefStep (ix (upto x15 (fillL x15 (a2 - (ln ((x18 ++ x19)))) (decide (x16 = a3)))) x23).ClefLine)).2) x15 (upto x15 (fillL x15 (a2 - (ln ((x18 ++ x19)))) (decide (x16 = a3)))) < minv_MakeB_3 a0 a1 a2 a3 x23 x24 x25 x15 (upto x15 (fillL x15 (a2 - (ln ((x18 ++ x19)))) (decide (x16 = a3)))))) ∧
((ln (upto x15 (fillL x15 (a2 - (ln ((x18 ++ x19)))) (decide (x16 = a3))))) ≤ x23 →
(0 ≤ (fillL x15 (a2 - (ln ((x18 ++ x19)))) (decide (x16 = a3))) ∧ (fillL x15 (a2 - (ln ((x18 ++ x19)))) (decide (x16 = a3))) ≤ ln x15) ∧
(Short (List.length ((x18 ++ x19)) + List.length (upto x15 (fillL x15 (a2 - (ln ((x18 ++ x19)))) (decide (x16 = a3)))))) ∧
((0 < (fillL x15 (a2 - (ln ((x18 ++ x19)))) (decide (x16 = a3))) →
(0 ≤ (fillL x15 (a2 - (ln ((x18 ++ x19)))) (decide (x16 = a3))) ∧ (fillL x15 (a2 - (ln ((x18 ++ x19)))) (decide (x16 = a3))) ≤ ln x15) ∧
((ln (fr x15 (fillL x15 (a2 - (ln ((x18 ++ x19)))) (decide (x16 = a3)))) ≤ 1000000000)) ∧
(0 ≤ (fillL x15 (a2 - (ln ((x18 ++ x19)))) (decide (x16 = a3))) ∧ (fillL x15 (a2 - (ln ((x18 ++ x19)))) (decide (x16 = a3))) ≤ ln x15) ∧
(((ln (((x18 ++ x19)) ++ (upto x15 (fillL x15 (a2 - (ln ((x18 ++ x19)))) (decide (x16 = a3)))))) = (ln ((x18 ++ x19))) →
(([] : List UInt8) = ((mkB a0 a1 a2 a3).1)) ∧
(([] : List Page) = ((mkB a0 a1 a2 a3).2.1)) ∧
((11 : Int) = ((mkB a0 a1 a2 a3).2.2)) ∧
                              True)) ∧
((ln (((x18 ++ x19)) ++ (upto x15 (fillL x15 (a2 - (ln ((x18 ++ x19)))) (decide (x16 = a3)))))) ≠ (ln ((x18 ++ x19))) →
(True) ∧
(Short (List.length x17 + List.length [(Staff.mk (((x18 ++ x19)) ++ (upto x15 (fillL x15 (a2 - (ln ((x18 ++ x19)))) (decide (x16 = a3))))) (ln ((x18 ++ x19))) ((catchL (fr x15 (fillL x15 (a2 - (ln ((x18 ++ x19)))) (decide (x16 = a3))))).1) ((catchL (fr x15 (fillL x15 (a2 - (ln ((x18 ++ x19)))) (decide (x16 = a3))))).2))])) ∧
(I64 (x16 + 1)) ∧
(x9 = x9) ∧
(x10 = x10) ∧
(([] : List UInt8) = ([] : List UInt8)) ∧
((a2 : Int) = a2) ∧
(a0 = a0) ∧
(a1 = a1) ∧
(inv_MakeB_2 a0 a1 a2 a3 (fr x15 (fillL x15 (a2 - (ln ((x18 ++ x19)))) (decide (x16 = a3)))) (x16 + 1) (x17 ++ [(Staff.mk (((x18 ++ x19)) ++ (upto x15 (fillL x15 (a2 - (ln ((x18 ++ x19)))) (decide (x16 = a3))))) (ln ((x18 ++ x19))) ((catchL (fr x15 (fillL x15 (a2 - (ln ((x18 ++ x19)))) (decide (x16 = a3))))).1) ((catchL (fr x15 (fillL x15 (a2 - (ln ((x18 ++ x19)))) (decide (x16 = a3))))).2))]) x24 x25 x9 x10) ∧
 minv_MakeB_2 a0 a1 a2 a3 (fr x15 (fillL x15 (a2 - (ln ((x18 ++ x19)))) (decide (x16 = a3)))) (x16 + 1) (x17 ++ [(Staff.mk (((x18 ++ x19)) ++ (upto x15 (fillL x15 (a2 - (ln ((x18 ++ x19)))) (decide (x16 = a3))))) (ln ((x18 ++ x19))) ((catchL (fr x15 (fillL x15 (a2 - (ln ((x18 ++ x19)))) (decide (x16 = a3))))).1) ((catchL (fr x15 (fillL x15 (a2 - (ln ((x18 ++ x19)))) (decide (x16 = a3))))).2))]) x24 x25 x9 x10 < minv_MakeB_2 a0 a1 a2 a3 x15 x16 x17 x18 x19 x9 x10))) ∧
((fillL x15 (a2 - (ln ((x18 ++ x19)))) (decide (x16 = a3))) ≤ 0 →
(0 ≤ (fillL x15 (a2 - (ln ((x18 ++ x19)))) (decide (x16 = a3))) ∧ (fillL x15 (a2 - (ln ((x18 ++ x19)))) (decide (x16 = a3))) ≤ ln x15) ∧
(((ln (((x18 ++ x19)) ++ (upto x15 (fillL x15 (a2 - (ln ((x18 ++ x19)))) (decide (x16 = a3)))))) = (ln ((x18 ++ x19))) →
(([] : List UInt8) = ((mkB a0 a1 a2 a3).1)) ∧
(([] : List Page) = ((mkB a0 a1 a2 a3).2.1)) ∧
((11 : Int) = ((mkB a0 a1 a2 a3).2.2)) ∧
                              True)) ∧
((ln (((x18 ++ x19)) ++ (upto x15 (fillL x15 (a2 - (ln ((x18 ++ x19)))) (decide (x16 = a3)))))) ≠ (ln ((x18 ++ x19))) →
(True) ∧
(Short (List.length x17 + List.length [(Staff.mk (((x18 ++ x19)) ++ (upto x15 (fillL x15 (a2 - (ln ((x18 ++ x19)))) (decide (x16 = a3))))) (ln ((x18 ++ x19))) false 0)])) ∧
(I64 (x16 + 1)) ∧
(x9 = x9) ∧
(x10 = x10) ∧
(([] : List UInt8) = ([] : List UInt8)) ∧
((a2 : Int) = a2) ∧
(a0 = a0) ∧
(a1 = a1) ∧
(inv_MakeB_2 a0 a1 a2 a3 (fr x15 (fillL x15 (a2 - (ln ((x18 ++ x19)))) (decide (x16 = a3)))) (x16 + 1) (x17 ++ [(Staff.mk (((x18 ++ x19)) ++ (upto x15 (fillL x15 (a2 - (ln ((x18 ++ x19)))) (decide (x16 = a3))))) (ln ((x18 ++ x19))) false 0)]) x24 x25 x9 x10) ∧
 minv_MakeB_2 a0 a1 a2 a3 (fr x15 (fillL x15 (a2 - (ln ((x18 ++ x19)))) (decide (x16 = a3)))) (x16 + 1) (x17 ++ [(Staff.mk (((x18 ++ x19)) ++ (upto x15 (fillL x15 (a2 - (ln ((x18 ++ x19)))) (decide (x16 = a3))))) (ln ((x18 ++ x19))) false 0)]) x24 x25 x9 x10 < minv_MakeB_2 a0 a1 a2 a3 x15 x16 x17 x18 x19 x9 x10))))))))) ∧
((ln x15) ≤ 0 →
(True) ∧
(Short (List.length x10 + List.length [(Page.mk x17)])) ∧
(([] : List UInt8) = ([] : List UInt8)) ∧
((a2 : Int) = a2) ∧
(a0 = a0) ∧
(a1 = a1) ∧
(inv_MakeB_1 a0 a1 a2 a3 x15 x9 (x10 ++ [(Page.mk x17)]) x18 x19) ∧
 minv_MakeB_1 a0 a1 a2 a3 x15 x9 (x10 ++ [(Page.mk x17)]) x18 x19 < minv_MakeB_1 a0 a1 a2 a3 x8 x9 x10 x11 x12))) ∧
(a3 < x16 →
(True) ∧
(Short (List.length x10 + List.length [(Page.mk x17)])) ∧
(([] : List UInt8) = ([] : List UInt8)) ∧
((a2 : Int) = a2) ∧
(a0 = a0) ∧
(a1 = a1) ∧
(inv_MakeB_1 a0 a1 a2 a3 x15 x9 (x10 ++ [(Page.mk x17)]) x18 x19) ∧
 minv_MakeB_1 a0 a1 a2 a3 x15 x9 (x10 ++ [(Page.mk x17)]) x18 x19 < minv_MakeB_1 a0 a1 a2 a3 x8 x9 x10 x11 x12))))))))) ∧
((ln x8) ≤ 0 →
(x9 = ((mkB a0 a1 a2 a3).1)) ∧
(x10 = ((mkB a0 a1 a2 a3).2.1)) ∧
((0 : Int) = ((mkB a0 a1 a2 a3).2.2)) ∧
               True)))))))))))))))
theorem MakeB_vc (a0 : List UInt8) (a1 : List Sign) (a2 : Int) (a3 : Int) : wpTop (stdA XK (tblOf MakeB_tbl) (fun j ns => match j, ns with | 0, [.i y0] => inv_MakeB_0 a0 a1 a2 a3 y0 | 1, [.l 4 y0, .s y1, .l 8 y2, .l 4 y3, .l 4 y4] => inv_MakeB_1 a0 a1 a2 a3 y0 y1 y2 y3 y4 | 2, [.l 4 y0, .i y1, .l 7 y2, .l 4 y3, .l 4 y4, .s y5, .l 8 y6] => inv_MakeB_2 a0 a1 a2 a3 y0 y1 y2 y3 y4 y5 y6 | 3, [.i y0, .l 4 y1, .l 4 y2, .l 4 y3, .l 4 y4] => inv_MakeB_3 a0 a1 a2 a3 y0 y1 y2 y3 y4 | _, _ => False) (fun j ns => match j, ns with | 0, [.i y0] => minv_MakeB_0 a0 a1 a2 a3 y0 | 1, [.l 4 y0, .s y1, .l 8 y2, .l 4 y3, .l 4 y4] => minv_MakeB_1 a0 a1 a2 a3 y0 y1 y2 y3 y4 | 2, [.l 4 y0, .i y1, .l 7 y2, .l 4 y3, .l 4 y4, .s y5, .l 8 y6] => minv_MakeB_2 a0 a1 a2 a3 y0 y1 y2 y3 y4 y5 y6 | 3, [.i y0, .l 4 y1, .l 4 y2, .l 4 y3, .l 4 y4] => minv_MakeB_3 a0 a1 a2 a3 y0 y1 y2 y3 y4 | _, _ => 0)) { cfg sp with ann := annOf [(61, 26, .inv 0 [.one 8 (.int .i64)] []), (10, 2044, .inv 1 [.one 13 (.list 4 false false), .via 10 [.str, .list 8 true false], .via 11 [.list 4 false false, .list 4 false false]] []), (10, 261674, .inv 2 [.one 13 (.list 4 false false), .one 15 (.int .i64), .via 14 [.list 7 true false], .via 11 [.list 4 false false, .list 4 false false]] [.via 10 [.str, .list 8 false false]]), (37, 122, .inv 3 [.one 26 (.int .i64), .via 2 [.list 4 false false, .list 4 false false]] [.one 0 (.list 4 false false), .one 24 (.list 4 false false)])] } 6 10 [.agg [.str (a0), .list 4 (a1) none], .int .i64 none (a2), .int .i64 none (a3)] (MakeB_res a0 a1 a2 a3) = MakeB_VC a0 a1 a2 a3 := by kernel_rfl
def groupsR_tbl : List (Nat × Ct KT) := []
abbrev groupsR_res (a0 : List Sign) : PV KT := .list 10 ((groupsL a0)) none
abbrev groupsR_VC (a0 : List Sign) : Prop :=
(inv_groupsR_0 a0 ([] : List Group) 0) ∧
(∀ x0 : List Group,
(∀ x1 : Int,
(inv_groupsR_0 a0 x0 x1 →
((x1 < (ln a0) →
(I64 (x1 + 1)) ∧
(Wn x1 (ln a0)) ∧
(((ix a0 x1).Kind = 4 →
(inv_groupsR_1 a0 (x1 + 1) x1) ∧
(∀ x5 : Int,
(inv_groupsR_1 a0 x5 x1 →
((x5 < (ln a0) →
(I64 (x5 - 1)) ∧
(Wn (x5 - 1) (ln a0)) ∧
(((ix a0 (x5 - 1)).Kind = 4 →
(I64 (x5 - 1)) ∧
(Wn (x5 - 1) (ln a0)) ∧
(((ix a0 (x5 - 1)).Last = false →
(I64 (x5 + 1)) ∧
(inv_groupsR_1 a0 (x5 + 1) x1) ∧
 minv_groupsR_1 a0 (x5 + 1) x1 < minv_groupsR_1 a0 x5 x1)) ∧
((ix a0 (x5 - 1)).Last = true →
((x5 < (ln a0) →
(Wn x5 (ln a0)) ∧
(((ix a0 x5).Kind = 3 →
(I64 (x5 + 1)) ∧
(True) ∧
(Short (List.length x0 + List.length [(Group.mk x1 (x5 + 1))])) ∧
(inv_groupsR_0 a0 (x0 ++ [(Group.mk x1 (x5 + 1))]) (x5 + 1)) ∧
 minv_groupsR_0 a0 (x0 ++ [(Group.mk x1 (x5 + 1))]) (x5 + 1) < minv_groupsR_0 a0 x0 x1)) ∧
((ix a0 x5).Kind ≠ 3 →
(True) ∧
(Short (List.length x0 + List.length [(Group.mk x1 x5)])) ∧
(inv_groupsR_0 a0 (x0 ++ [(Group.mk x1 x5)]) x5) ∧
 minv_groupsR_0 a0 (x0 ++ [(Group.mk x1 x5)]) x5 < minv_groupsR_0 a0 x0 x1))) ∧
((ln a0) ≤ x5 →
(True) ∧
(Short (List.length x0 + List.length [(Group.mk x1 x5)])) ∧
(inv_groupsR_0 a0 (x0 ++ [(Group.mk x1 x5)]) x5) ∧
 minv_groupsR_0 a0 (x0 ++ [(Group.mk x1 x5)]) x5 < minv_groupsR_0 a0 x0 x1)))) ∧
((ix a0 (x5 - 1)).Kind ≠ 4 →
((x5 < (ln a0) →
(Wn x5 (ln a0)) ∧
(((ix a0 x5).Kind = 3 →
(I64 (x5 + 1)) ∧
(True) ∧
(Short (List.length x0 + List.length [(Group.mk x1 (x5 + 1))])) ∧
(inv_groupsR_0 a0 (x0 ++ [(Group.mk x1 (x5 + 1))]) (x5 + 1)) ∧
 minv_groupsR_0 a0 (x0 ++ [(Group.mk x1 (x5 + 1))]) (x5 + 1) < minv_groupsR_0 a0 x0 x1)) ∧
((ix a0 x5).Kind ≠ 3 →
(True) ∧
(Short (List.length x0 + List.length [(Group.mk x1 x5)])) ∧
(inv_groupsR_0 a0 (x0 ++ [(Group.mk x1 x5)]) x5) ∧
 minv_groupsR_0 a0 (x0 ++ [(Group.mk x1 x5)]) x5 < minv_groupsR_0 a0 x0 x1))) ∧
((ln a0) ≤ x5 →
(True) ∧
(Short (List.length x0 + List.length [(Group.mk x1 x5)])) ∧
(inv_groupsR_0 a0 (x0 ++ [(Group.mk x1 x5)]) x5) ∧
 minv_groupsR_0 a0 (x0 ++ [(Group.mk x1 x5)]) x5 < minv_groupsR_0 a0 x0 x1)))) ∧
((ln a0) ≤ x5 →
((x5 < (ln a0) →
(Wn x5 (ln a0)) ∧
(((ix a0 x5).Kind = 3 →
(I64 (x5 + 1)) ∧
(True) ∧
(Short (List.length x0 + List.length [(Group.mk x1 (x5 + 1))])) ∧
(inv_groupsR_0 a0 (x0 ++ [(Group.mk x1 (x5 + 1))]) (x5 + 1)) ∧
 minv_groupsR_0 a0 (x0 ++ [(Group.mk x1 (x5 + 1))]) (x5 + 1) < minv_groupsR_0 a0 x0 x1)) ∧
((ix a0 x5).Kind ≠ 3 →
(True) ∧
(Short (List.length x0 + List.length [(Group.mk x1 x5)])) ∧
(inv_groupsR_0 a0 (x0 ++ [(Group.mk x1 x5)]) x5) ∧
 minv_groupsR_0 a0 (x0 ++ [(Group.mk x1 x5)]) x5 < minv_groupsR_0 a0 x0 x1))) ∧
((ln a0) ≤ x5 →
(True) ∧
(Short (List.length x0 + List.length [(Group.mk x1 x5)])) ∧
(inv_groupsR_0 a0 (x0 ++ [(Group.mk x1 x5)]) x5) ∧
 minv_groupsR_0 a0 (x0 ++ [(Group.mk x1 x5)]) x5 < minv_groupsR_0 a0 x0 x1)))))) ∧
((ix a0 x1).Kind ≠ 4 →
(((x1 + 1) < (ln a0) →
(Wn (x1 + 1) (ln a0)) ∧
(((ix a0 (x1 + 1)).Kind = 3 →
(I64 ((x1 + 1) + 1)) ∧
(True) ∧
(Short (List.length x0 + List.length [(Group.mk x1 ((x1 + 1) + 1))])) ∧
(inv_groupsR_0 a0 (x0 ++ [(Group.mk x1 ((x1 + 1) + 1))]) ((x1 + 1) + 1)) ∧
 minv_groupsR_0 a0 (x0 ++ [(Group.mk x1 ((x1 + 1) + 1))]) ((x1 + 1) + 1) < minv_groupsR_0 a0 x0 x1)) ∧
((ix a0 (x1 + 1)).Kind ≠ 3 →
(True) ∧
(Short (List.length x0 + List.length [(Group.mk x1 (x1 + 1))])) ∧
(inv_groupsR_0 a0 (x0 ++ [(Group.mk x1 (x1 + 1))]) (x1 + 1)) ∧
 minv_groupsR_0 a0 (x0 ++ [(Group.mk x1 (x1 + 1))]) (x1 + 1) < minv_groupsR_0 a0 x0 x1))) ∧
((ln a0) ≤ (x1 + 1) →
(True) ∧
(Short (List.length x0 + List.length [(Group.mk x1 (x1 + 1))])) ∧
(inv_groupsR_0 a0 (x0 ++ [(Group.mk x1 (x1 + 1))]) (x1 + 1)) ∧
 minv_groupsR_0 a0 (x0 ++ [(Group.mk x1 (x1 + 1))]) (x1 + 1) < minv_groupsR_0 a0 x0 x1)))) ∧
((ln a0) ≤ x1 →
(x0 = (groupsL a0)) ∧
    True))))
theorem groupsR_vc (a0 : List Sign) : wpTop (stdA XK (tblOf groupsR_tbl) (fun j ns => match j, ns with | 0, [.l 10 y0, .i y1] => inv_groupsR_0 a0 y0 y1 | 1, [.i y0, .i y1] => inv_groupsR_1 a0 y0 y1 | _, _ => False) (fun j ns => match j, ns with | 0, [.l 10 y0, .i y1] => minv_groupsR_0 a0 y0 y1 | 1, [.i y0, .i y1] => minv_groupsR_1 a0 y0 y1 | _, _ => 0)) { cfg sp with ann := annOf [(45, 60, .inv 0 [.one 3 (.list 10 true false), .one 4 (.int .i64)] []), (45, 15444, .inv 1 [.one 5 (.int .i64)] [.one 4 (.int .i64)])] } 3 45 [.list 4 (a0) none] (groupsR_res a0) = groupsR_VC a0 := by kernel_rfl
def leadR_tbl : List (Nat × Ct KT) := []
abbrev leadR_res (a0 : List Sign) (a1 : Int) : PV KT := .list 4 ((leadL a0 a1)) (some (0, 0))
abbrev leadR_VC (a0 : List Sign) (a1 : Int) : Prop :=
(inv_leadR_0 a0 a1 ([] : List Sign) ([] : List Sign) 0) ∧
(∀ x0 : List Sign,
(∀ x1 : List Sign,
(∀ x2 : Int,
(inv_leadR_0 a0 a1 x0 x1 x2 →
((x2 < a1 →
(Wn x2 (ln a0)) ∧
(((ix a0 x2).Kind = 7 →
(Wn x2 (ln a0)) ∧
(True) ∧
(I64 (x2 + 1)) ∧
(inv_leadR_0 a0 a1 [(Sign.mk (ix a0 x2).Kind (ix a0 x2).Value (ix a0 x2).Place (ix a0 x2).Acc (ix a0 x2).Color (ix a0 x2).Stem (ix a0 x2).Oblique (ix a0 x2).Last (ix a0 x2).MensMax (ix a0 x2).MensMod (ix a0 x2).MensTem (ix a0 x2).MensPro (ix a0 x2).Stroke (ix a0 x2).N (ix a0 x2).D (ix a0 x2).ClefStep (ix a0 x2).ClefLine)] x1 (x2 + 1)) ∧
 minv_leadR_0 a0 a1 [(Sign.mk (ix a0 x2).Kind (ix a0 x2).Value (ix a0 x2).Place (ix a0 x2).Acc (ix a0 x2).Color (ix a0 x2).Stem (ix a0 x2).Oblique (ix a0 x2).Last (ix a0 x2).MensMax (ix a0 x2).MensMod (ix a0 x2).MensTem (ix a0 x2).MensPro (ix a0 x2).Stroke (ix a0 x2).N (ix a0 x2).D (ix a0 x2).ClefStep (ix a0 x2).ClefLine)] x1 (x2 + 1) < minv_leadR_0 a0 a1 x0 x1 x2)) ∧
((ix a0 x2).Kind ≠ 7 →
(((ix a0 x2).Kind = 8 →
(Wn x2 (ln a0)) ∧
(True) ∧
(I64 (x2 + 1)) ∧
(inv_leadR_0 a0 a1 x0 [(Sign.mk (ix a0 x2).Kind (ix a0 x2).Value (ix a0 x2).Place (ix a0 x2).Acc (ix a0 x2).Color (ix a0 x2).Stem (ix a0 x2).Oblique (ix a0 x2).Last (ix a0 x2).MensMax (ix a0 x2).MensMod (ix a0 x2).MensTem (ix a0 x2).MensPro (ix a0 x2).Stroke (ix a0 x2).N (ix a0 x2).D (ix a0 x2).ClefStep (ix a0 x2).ClefLine)] (x2 + 1)) ∧
 minv_leadR_0 a0 a1 x0 [(Sign.mk (ix a0 x2).Kind (ix a0 x2).Value (ix a0 x2).Place (ix a0 x2).Acc (ix a0 x2).Color (ix a0 x2).Stem (ix a0 x2).Oblique (ix a0 x2).Last (ix a0 x2).MensMax (ix a0 x2).MensMod (ix a0 x2).MensTem (ix a0 x2).MensPro (ix a0 x2).Stroke (ix a0 x2).N (ix a0 x2).D (ix a0 x2).ClefStep (ix a0 x2).ClefLine)] (x2 + 1) < minv_leadR_0 a0 a1 x0 x1 x2)) ∧
((ix a0 x2).Kind ≠ 8 →
(I64 (x2 + 1)) ∧
(inv_leadR_0 a0 a1 x0 x1 (x2 + 1)) ∧
 minv_leadR_0 a0 a1 x0 x1 (x2 + 1) < minv_leadR_0 a0 a1 x0 x1 x2)))) ∧
(a1 ≤ x2 →
(Short (List.length x0 + List.length x1)) ∧
((x0 ++ x1) = (leadL a0 a1)) ∧
     True)))))
theorem leadR_vc (a0 : List Sign) (a1 : Int) : wpTop (stdA XK (tblOf leadR_tbl) (fun j ns => match j, ns with | 0, [.l 4 y0, .l 4 y1, .i y2] => inv_leadR_0 a0 a1 y0 y1 y2 | _, _ => False) (fun j ns => match j, ns with | 0, [.l 4 y0, .l 4 y1, .i y2] => minv_leadR_0 a0 a1 y0 y1 y2 | _, _ => 0)) { cfg sp with ann := annOf [(46, 58, .inv 0 [.one 5 (.list 4 true false), .one 6 (.list 4 false false), .one 7 (.int .i64)] [])] } 3 46 [.list 4 (a0) none, .int .i64 none (a1)] (leadR_res a0 a1) = leadR_VC a0 a1 := by kernel_rfl
def custos_tbl : List (Nat × Ct KT) := []
abbrev custos_res (a0 : List Sign) (a1 : Int) : PV KT := .tuple [.sb 0 false (((catchP a0 a1).1)) (((catchP a0 a1).1) = true) (((catchP a0 a1).1) = false), .int .i64 none (((catchP a0 a1).2))]
abbrev custos_VC (a0 : List Sign) (a1 : Int) : Prop :=
(inv_custos_0 a0 a1 a1) ∧
(∀ x0 : Int,
(inv_custos_0 a0 a1 x0 →
((x0 < (ln a0) →
(Wn x0 (ln a0)) ∧
(((ix a0 x0).Kind = 1 →
(Wn x0 (ln a0)) ∧
(true = ((catchP a0 a1).1)) ∧
(((ix a0 x0).Place : Int) = ((catchP a0 a1).2)) ∧
    True)) ∧
((ix a0 x0).Kind ≠ 1 →
(Wn x0 (ln a0)) ∧
(((ix a0 x0).Kind = 4 →
(Wn x0 (ln a0)) ∧
(true = ((catchP a0 a1).1)) ∧
(((ix a0 x0).Place : Int) = ((catchP a0 a1).2)) ∧
     True)) ∧
((ix a0 x0).Kind ≠ 4 →
(I64 (x0 + 1)) ∧
(inv_custos_0 a0 a1 (x0 + 1)) ∧
 minv_custos_0 a0 a1 (x0 + 1) < minv_custos_0 a0 a1 x0)))) ∧
((ln a0) ≤ x0 →
(false = ((catchP a0 a1).1)) ∧
((0 : Int) = ((catchP a0 a1).2)) ∧
   True)))
theorem custos_vc (a0 : List Sign) (a1 : Int) : wpTop (stdA XK (tblOf custos_tbl) (fun j ns => match j, ns with | 0, [.i y0] => inv_custos_0 a0 a1 y0 | _, _ => False) (fun j ns => match j, ns with | 0, [.i y0] => minv_custos_0 a0 a1 y0 | _, _ => 0)) { cfg sp with ann := annOf [(47, 26, .inv 0 [.one 6 (.int .i64)] [])] } 3 47 [.list 4 (a0) none, .int .i64 none (a1)] (custos_res a0 a1) = custos_VC a0 a1 := by kernel_rfl
def turn_tbl : List (Nat × Ct KT) := []
abbrev turn_res (a0 : List Sign) : PV KT := .int .i64 none ((turnI a0))
abbrev turn_VC (a0 : List Sign) : Prop :=
(inv_turn_0 a0 0) ∧
(∀ x0 : Int,
(inv_turn_0 a0 x0 →
((x0 < (ln a0) →
(Wn x0 (ln a0)) ∧
(((ix a0 x0).Kind = 11 →
((x0 : Int) = (turnI a0)) ∧
    True)) ∧
((ix a0 x0).Kind ≠ 11 →
(I64 (x0 + 1)) ∧
(inv_turn_0 a0 (x0 + 1)) ∧
 minv_turn_0 a0 (x0 + 1) < minv_turn_0 a0 x0))) ∧
((ln a0) ≤ x0 →
(((-1) : Int) = (turnI a0)) ∧
   True)))
theorem turn_vc (a0 : List Sign) : wpTop (stdA XK (tblOf turn_tbl) (fun j ns => match j, ns with | 0, [.i y0] => inv_turn_0 a0 y0 | _, _ => False) (fun j ns => match j, ns with | 0, [.i y0] => minv_turn_0 a0 y0 | _, _ => 0)) { cfg sp with ann := annOf [(44, 26, .inv 0 [.one 3 (.int .i64)] [])] } 3 44 [.list 4 (a0) none] (turn_res a0) = turn_VC a0 := by kernel_rfl
def MakeR_tbl : List (Nat × Ct KT) := [(43, ct43), (44, ct44), (45, ct45), (46, ct46), (47, ct47)]
abbrev MakeR_res (a0 : List UInt8) (a1 : List Sign) (a2 : Int) (a3 : Int) : PV KT := .tuple [.agg [.str (((mkB a0 a1 a2 a3).1)), .list 8 (((mkB a0 a1 a2 a3).2.1)) none], .int .i64 none (((mkB a0 a1 a2 a3).2.2))]
abbrev MakeR_VC (a0 : List UInt8) (a1 : List Sign) (a2 : Int) (a3 : Int) : Prop :=
((ln a0 ≤ 1000000000 ∧ ln a1 ≤ 1000000000)) ∧
((((checkC a0 a1).1) ≠ 0 →
(([] : List UInt8) = ((mkB a0 a1 a2 a3).1)) ∧
(([] : List Page) = ((mkB a0 a1 a2 a3).2.1)) ∧
((((checkC a0 a1).1) : Int) = ((mkB a0 a1 a2 a3).2.2)) ∧
 True)) ∧
(((checkC a0 a1).1) = 0 →
((ln a1 ≤ 1000000000)) ∧
((0 ≤ (turnI a1) →
(([] : List UInt8) = ((mkB a0 a1 a2 a3).1)) ∧
(([] : List Page) = ((mkB a0 a1 a2 a3).2.1)) ∧
((8 : Int) = ((mkB a0 a1 a2 a3).2.2)) ∧
  True)) ∧
((turnI a1) < 0 →
((a2 < 16 →
(([] : List UInt8) = ((mkB a0 a1 a2 a3).1)) ∧
(([] : List Page) = ((mkB a0 a1 a2 a3).2.1)) ∧
((2 : Int) = ((mkB a0 a1 a2 a3).2.2)) ∧
   True)) ∧
(16 ≤ a2 →
((60 < a2 →
(([] : List UInt8) = ((mkB a0 a1 a2 a3).1)) ∧
(([] : List Page) = ((mkB a0 a1 a2 a3).2.1)) ∧
((2 : Int) = ((mkB a0 a1 a2 a3).2.2)) ∧
    True)) ∧
(a2 ≤ 60 →
((a3 < 1 →
(([] : List UInt8) = ((mkB a0 a1 a2 a3).1)) ∧
(([] : List Page) = ((mkB a0 a1 a2 a3).2.1)) ∧
((2 : Int) = ((mkB a0 a1 a2 a3).2.2)) ∧
     True)) ∧
(1 ≤ a3 →
((12 < a3 →
(([] : List UInt8) = ((mkB a0 a1 a2 a3).1)) ∧
(([] : List Page) = ((mkB a0 a1 a2 a3).2.1)) ∧
((2 : Int) = ((mkB a0 a1 a2 a3).2.2)) ∧
      True)) ∧
(a3 ≤ 12 →
((ln a1 ≤ 1000000000)) ∧
(inv_MakeR_0 a0 a1 a2 a3 0) ∧
(∀ x6 : Int,
(inv_MakeR_0 a0 a1 a2 a3 x6 →
((x6 < (ln (groupsL a1)) →
(Wn x6 (ln (groupsL a1))) ∧
((0 ≤ (ix (groupsL a1) x6).fro ∧ (ix (groupsL a1) x6).fro ≤ ln a1 ∧ ln a1 ≤ 1000000000)) ∧
(Wn x6 (ln (groupsL a1))) ∧
(I64 ((ln (leadL a1 (ix (groupsL a1) x6).fro)) + (ix (groupsL a1) x6).to)) ∧
(Wn x6 (ln (groupsL a1))) ∧
(I64 (((ln (leadL a1 (ix (groupsL a1) x6).fro)) + (ix (groupsL a1) x6).to) - (ix (groupsL a1) x6).fro)) ∧
((a2 < (((ln (leadL a1 (ix (groupsL a1) x6).fro)) + (ix (groupsL a1) x6).to) - (ix (groupsL a1) x6).fro) →
(([] : List UInt8) = ((mkB a0 a1 a2 a3).1)) ∧
(([] : List Page) = ((mkB a0 a1 a2 a3).2.1)) ∧
((11 : Int) = ((mkB a0 a1 a2 a3).2.2)) ∧
          True)) ∧
((((ln (leadL a1 (ix (groupsL a1) x6).fro)) + (ix (groupsL a1) x6).to) - (ix (groupsL a1) x6).fro) ≤ a2 →
(I64 (x6 + 1)) ∧
(([] : List UInt8) = ([] : List UInt8)) ∧
(a0 = a0) ∧
(a1 = a1) ∧
(inv_MakeR_0 a0 a1 a2 a3 (x6 + 1)) ∧
 minv_MakeR_0 a0 a1 a2 a3 (x6 + 1) < minv_MakeR_0 a0 a1 a2 a3 x6))) ∧
((ln (groupsL a1)) ≤ x6 →
(inv_MakeR_1 a0 a1 a2 a3 0 a0 ([] : List Page) ([] : List Staff)) ∧
(∀ x9 : Int,
(∀ x10 : List UInt8,
(∀ x11 : List Page,
(∀ x12 : List Staff,
(inv_MakeR_1 a0 a1 a2 a3 x9 x10 x11 x12 →
((x9 < (ln (groupsL a1)) →
(Wn x9 (ln (groupsL a1))) ∧
((0 ≤ (ix (groupsL a1) x9).fro ∧ (ix (groupsL a1) x9).fro ≤ ln a1 ∧ ln a1 ≤ 1000000000)) ∧
(inv_MakeR_2 a0 a1 a2 a3 (ln (leadL a1 (ix (groupsL a1) x9).fro)) x9 x9) ∧
(∀ x15 : Int,
(∀ x16 : Int,
(inv_MakeR_2 a0 a1 a2 a3 x15 x16 x9 →
((x16 < (ln (groupsL a1)) →
(Wn x16 (ln (groupsL a1))) ∧
(I64 (x15 + (ix (groupsL a1) x16).to)) ∧
(Wn x16 (ln (groupsL a1))) ∧
(I64 ((x15 + (ix (groupsL a1) x16).to) - (ix (groupsL a1) x16).fro)) ∧
((((x15 + (ix (groupsL a1) x16).to) - (ix (groupsL a1) x16).fro) ≤ a2 →
(Wn x16 (ln (groupsL a1))) ∧
(I64 (x15 + (ix (groupsL a1) x16).to)) ∧
(Wn x16 (ln (groupsL a1))) ∧
(I64 ((x15 + (ix (groupsL a1) x16).to) - (ix (groupsL a1) x16).fro)) ∧
(I64 (x16 + 1)) ∧
(x12 = x12) ∧
(x10 = x10) ∧
(x11 = x11) ∧
(([] : List UInt8) = ([] : List UInt8)) ∧
(a0 = a0) ∧
(a1 = a1) ∧
(inv_MakeR_2 a0 a1 a2 a3 ((x15 + (ix (groupsL a1) x16).to) - (ix (groupsL a1) x16).fro) (x16 + 1) x9) ∧
 minv_MakeR_2 a0 a1 a2 a3 ((x15 + (ix (groupsL a1) x16).to) - (ix (groupsL a1) x16).fro) (x16 + 1) x9 < minv_MakeR_2 a0 a1 a2 a3 x15 x16 x9)) ∧
(a2 < ((x15 + (ix (groupsL a1) x16).to) - (ix (groupsL a1) x16).fro) →
((I64 ((ln x12) + 1)) ∧
((((ln x12) + 1) = a3 →
((x16 < (ln (groupsL a1)) →
(I64 (x16 - 1)) ∧
(inv_MakeR_4 a0 a1 a2 a3 x16 (x16 - 1) x9) ∧
(∀ x22 : Int,
(∀ x23 : Int,
(inv_MakeR_4 a0 a1 a2 a3 x22 x23 x9 →
((x9 ≤ x23 →
(Wn x23 (ln (groupsL a1))) ∧
(Wn (ix (groupsL a1) x23).fro (ln a1)) ∧
(((ix a1 (ix (groupsL a1) x23).fro).Kind = 2 →
(I64 (x23 + 1)) ∧
(x12 = x12) ∧
(x10 = x10) ∧
(x11 = x11) ∧
(([] : List UInt8) = ([] : List UInt8)) ∧
(a0 = a0) ∧
(a1 = a1) ∧
(inv_MakeR_3 a0 a1 a2 a3 (x23 + 1) x9 x12) ∧
                           True)) ∧
((ix a1 (ix (groupsL a1) x23).fro).Kind ≠ 2 →
(I64 (x23 - 1)) ∧
(x12 = x12) ∧
(x10 = x10) ∧
(x11 = x11) ∧
(([] : List UInt8) = ([] : List UInt8)) ∧
(a0 = a0) ∧
(a1 = a1) ∧
(inv_MakeR_4 a0 a1 a2 a3 x22 (x23 - 1) x9) ∧
 minv_MakeR_4 a0 a1 a2 a3 x22 (x23 - 1) x9 < minv_MakeR_4 a0 a1 a2 a3 x22 x23 x9))) ∧
(x23 < x9 →
(x12 = x12) ∧
(x10 = x10) ∧
(x11 = x11) ∧
(([] : List UInt8) = ([] : List UInt8)) ∧
(a0 = a0) ∧
(a1 = a1) ∧
(inv_MakeR_3 a0 a1 a2 a3 x22 x9 x12) ∧
                          True)))))) ∧
((ln (groupsL a1)) ≤ x16 →
(x12 = x12) ∧
(x10 = x10) ∧
(x11 = x11) ∧
(([] : List UInt8) = ([] : List UInt8)) ∧
(a0 = a0) ∧
(a1 = a1) ∧
(inv_MakeR_3 a0 a1 a2 a3 x16 x9 x12) ∧
                      True))) ∧
(((ln x12) + 1) ≠ a3 →
(x12 = x12) ∧
(x10 = x10) ∧
(x11 = x11) ∧
(([] : List UInt8) = ([] : List UInt8)) ∧
(a0 = a0) ∧
(a1 = a1) ∧
(inv_MakeR_3 a0 a1 a2 a3 x16 x9 x12) ∧
                     True)) ∧
(∀ x20 : Int,
(inv_MakeR_3 a0 a1 a2 a3 x20 x9 x12 →
(Wn x9 (ln (groupsL a1))) ∧
(I64 (x20 - 1)) ∧
(Wn (x20 - 1) (ln (groupsL a1))) ∧
(0 ≤ (ix (groupsL a1) x9).fro ∧ (ix (groupsL a1) x9).fro ≤ (ix (groupsL a1) (x20 - 1)).to ∧ (ix (groupsL a1) (x20 - 1)).to ≤ ln a1) ∧
(Short (List.length (leadL a1 (ix (groupsL a1) x9).fro) + List.length (sub a1 (ix (groupsL a1) x9).fro (ix (groupsL a1) (x20 - 1)).to))) ∧
(I64 (x20 - 1)) ∧
(Wn (x20 - 1) (ln (groupsL a1))) ∧
((0 ≤ (ix (groupsL a1) (x20 - 1)).to ∧ (ix (groupsL a1) (x20 - 1)).to ≤ ln a1 ∧ ln a1 ≤ 1000000000)) ∧
(True) ∧
(Short (List.length x12 + List.length [(Staff.mk ((leadL a1 (ix (groupsL a1) x9).fro) ++ (sub a1 (ix (groupsL a1) x9).fro (ix (groupsL a1) (x20 - 1)).to)) (ln (leadL a1 (ix (groupsL a1) x9).fro)) ((catchP a1 (ix (groupsL a1) (x20 - 1)).to).1) ((catchP a1 (ix (groupsL a1) (x20 - 1)).to).2))])) ∧
(((ln (x12 ++ [(Staff.mk ((leadL a1 (ix (groupsL a1) x9).fro) ++ (sub a1 (ix (groupsL a1) x9).fro (ix (groupsL a1) (x20 - 1)).to)) (ln (leadL a1 (ix (groupsL a1) x9).fro)) ((catchP a1 (ix (groupsL a1) (x20 - 1)).to).1) ((catchP a1 (ix (groupsL a1) (x20 - 1)).to).2))])) = a3 →
(True) ∧
(Short (List.length x11 + List.length [(Page.mk (x12 ++ [(Staff.mk ((leadL a1 (ix (groupsL a1) x9).fro) ++ (sub a1 (ix (groupsL a1) x9).fro (ix (groupsL a1) (x20 - 1)).to)) (ln (leadL a1 (ix (groupsL a1) x9).fro)) ((catchP a1 (ix (groupsL a1) (x20 - 1)).to).1) ((catchP a1 (ix (groupsL a1) (x20 - 1)).to).2))]))])) ∧
(([] : List UInt8) = ([] : List UInt8)) ∧
(a0 = a0) ∧
(a1 = a1) ∧
(inv_MakeR_1 a0 a1 a2 a3 x20 x10 (x11 ++ [(Page.mk (x12 ++ [(Staff.mk ((leadL a1 (ix (groupsL a1) x9).fro) ++ (sub a1 (ix (groupsL a1) x9).fro (ix (groupsL a1) (x20 - 1)).to)) (ln (leadL a1 (ix (groupsL a1) x9).fro)) ((catchP a1 (ix (groupsL a1) (x20 - 1)).to).1) ((catchP a1 (ix (groupsL a1) (x20 - 1)).to).2))]))]) ([] : List Staff)) ∧
 minv_MakeR_1 a0 a1 a2 a3 x20 x10 (x11 ++ [(Page.mk (x12 ++ [(Staff.mk ((leadL a1 (ix (groupsL a1) x9).fro) ++ (sub a1 (ix (groupsL a1) x9).fro (ix (groupsL a1) (x20 - 1)).to)) (ln (leadL a1 (ix (groupsL a1) x9).fro)) ((catchP a1 (ix (groupsL a1) (x20 - 1)).to).1) ((catchP a1 (ix (groupsL a1) (x20 - 1)).to).2))]))]) ([] : List Staff) < minv_MakeR_1 a0 a1 a2 a3 x9 x10 x11 x12)) ∧
((ln (x12 ++ [(Staff.mk ((leadL a1 (ix (groupsL a1) x9).fro) ++ (sub a1 (ix (groupsL a1) x9).fro (ix (groupsL a1) (x20 - 1)).to)) (ln (leadL a1 (ix (groupsL a1) x9).fro)) ((catchP a1 (ix (groupsL a1) (x20 - 1)).to).1) ((catchP a1 (ix (groupsL a1) (x20 - 1)).to).2))])) ≠ a3 →
((x20 = (ln (groupsL a1)) →
(True) ∧
(Short (List.length x11 + List.length [(Page.mk (x12 ++ [(Staff.mk ((leadL a1 (ix (groupsL a1) x9).fro) ++ (sub a1 (ix (groupsL a1) x9).fro (ix (groupsL a1) (x20 - 1)).to)) (ln (leadL a1 (ix (groupsL a1) x9).fro)) ((catchP a1 (ix (groupsL a1) (x20 - 1)).to).1) ((catchP a1 (ix (groupsL a1) (x20 - 1)).to).2))]))])) ∧
(([] : List UInt8) = ([] : List UInt8)) ∧
(a0 = a0) ∧
(a1 = a1) ∧
(inv_MakeR_1 a0 a1 a2 a3 x20 x10 (x11 ++ [(Page.mk (x12 ++ [(Staff.mk ((leadL a1 (ix (groupsL a1) x9).fro) ++ (sub a1 (ix (groupsL a1) x9).fro (ix (groupsL a1) (x20 - 1)).to)) (ln (leadL a1 (ix (groupsL a1) x9).fro)) ((catchP a1 (ix (groupsL a1) (x20 - 1)).to).1) ((catchP a1 (ix (groupsL a1) (x20 - 1)).to).2))]))]) ([] : List Staff)) ∧
 minv_MakeR_1 a0 a1 a2 a3 x20 x10 (x11 ++ [(Page.mk (x12 ++ [(Staff.mk ((leadL a1 (ix (groupsL a1) x9).fro) ++ (sub a1 (ix (groupsL a1) x9).fro (ix (groupsL a1) (x20 - 1)).to)) (ln (leadL a1 (ix (groupsL a1) x9).fro)) ((catchP a1 (ix (groupsL a1) (x20 - 1)).to).1) ((catchP a1 (ix (groupsL a1) (x20 - 1)).to).2))]))]) ([] : List Staff) < minv_MakeR_1 a0 a1 a2 a3 x9 x10 x11 x12)) ∧
(x20 ≠ (ln (groupsL a1)) →
(([] : List UInt8) = ([] : List UInt8)) ∧
(a0 = a0) ∧
(a1 = a1) ∧
(inv_MakeR_1 a0 a1 a2 a3 x20 x10 x11 (x12 ++ [(Staff.mk ((leadL a1 (ix (groupsL a1) x9).fro) ++ (sub a1 (ix (groupsL a1) x9).fro (ix (groupsL a1) (x20 - 1)).to)) (ln (leadL a1 (ix (groupsL a1) x9).fro)) ((catchP a1 (ix (groupsL a1) (x20 - 1)).to).1) ((catchP a1 (ix (groupsL a1) (x20 - 1)).to).2))])) ∧
 minv_MakeR_1 a0 a1 a2 a3 x20 x10 x11 (x12 ++ [(Staff.mk ((leadL a1 (ix (groupsL a1) x9).fro) ++ (sub a1 (ix (groupsL a1) x9).fro (ix (groupsL a1) (x20 - 1)).to)) (ln (leadL a1 (ix (groupsL a1) x9).fro)) ((catchP a1 (ix (groupsL a1) (x20 - 1)).to).1) ((catchP a1 (ix (groupsL a1) (x20 - 1)).to).2))]) < minv_MakeR_1 a0 a1 a2 a3 x9 x10 x11 x12))))))) ∧
((ln (groupsL a1)) ≤ x16 →
((I64 ((ln x12) + 1)) ∧
((((ln x12) + 1) = a3 →
((x16 < (ln (groupsL a1)) →
(I64 (x16 - 1)) ∧
(inv_MakeR_4 a0 a1 a2 a3 x16 (x16 - 1) x9) ∧
(∀ x21 : Int,
(∀ x22 : Int,
(inv_MakeR_4 a0 a1 a2 a3 x21 x22 x9 →
((x9 ≤ x22 →
(Wn x22 (ln (groupsL a1))) ∧
(Wn (ix (groupsL a1) x22).fro (ln a1)) ∧
(((ix a1 (ix (groupsL a1) x22).fro).Kind = 2 →
(I64 (x22 + 1)) ∧
(x12 = x12) ∧
(x10 = x10) ∧
(x11 = x11) ∧
(([] : List UInt8) = ([] : List UInt8)) ∧
(a0 = a0) ∧
(a1 = a1) ∧
(inv_MakeR_3 a0 a1 a2 a3 (x22 + 1) x9 x12) ∧
                          True)) ∧
((ix a1 (ix (groupsL a1) x22).fro).Kind ≠ 2 →
(I64 (x22 - 1)) ∧
(x12 = x12) ∧
(x10 = x10) ∧
(x11 = x11) ∧
(([] : List UInt8) = ([] : List UInt8)) ∧
(a0 = a0) ∧
(a1 = a1) ∧
(inv_MakeR_4 a0 a1 a2 a3 x21 (x22 - 1) x9) ∧
 minv_MakeR_4 a0 a1 a2 a3 x21 (x22 - 1) x9 < minv_MakeR_4 a0 a1 a2 a3 x21 x22 x9))) ∧
(x22 < x9 →
(x12 = x12) ∧
(x10 = x10) ∧
(x11 = x11) ∧
(([] : List UInt8) = ([] : List UInt8)) ∧
(a0 = a0) ∧
(a1 = a1) ∧
(inv_MakeR_3 a0 a1 a2 a3 x21 x9 x12) ∧
                         True)))))) ∧
((ln (groupsL a1)) ≤ x16 →
(x12 = x12) ∧
(x10 = x10) ∧
(x11 = x11) ∧
(([] : List UInt8) = ([] : List UInt8)) ∧
(a0 = a0) ∧
(a1 = a1) ∧
(inv_MakeR_3 a0 a1 a2 a3 x16 x9 x12) ∧
                     True))) ∧
(((ln x12) + 1) ≠ a3 →
(x12 = x12) ∧
(x10 = x10) ∧
(x11 = x11) ∧
(([] : List UInt8) = ([] : List UInt8)) ∧
(a0 = a0) ∧
(a1 = a1) ∧
(inv_MakeR_3 a0 a1 a2 a3 x16 x9 x12) ∧
                    True)) ∧
(∀ x19 : Int,
(inv_MakeR_3 a0 a1 a2 a3 x19 x9 x12 →
(Wn x9 (ln (groupsL a1))) ∧
(I64 (x19 - 1)) ∧
(Wn (x19 - 1) (ln (groupsL a1))) ∧
(0 ≤ (ix (groupsL a1) x9).fro ∧ (ix (groupsL a1) x9).fro ≤ (ix (groupsL a1) (x19 - 1)).to ∧ (ix (groupsL a1) (x19 - 1)).to ≤ ln a1) ∧
(Short (List.length (leadL a1 (ix (groupsL a1) x9).fro) + List.length (sub a1 (ix (groupsL a1) x9).fro (ix (groupsL a1) (x19 - 1)).to))) ∧
(I64 (x19 - 1)) ∧
(Wn (x19 - 1) (ln (groupsL a1))) ∧
((0 ≤ (ix (groupsL a1) (x19 - 1)).to ∧ (ix (groupsL a1) (x19 - 1)).to ≤ ln a1 ∧ ln a1 ≤ 1000000000)) ∧
(True) ∧
(Short (List.length x12 + List.length [(Staff.mk ((leadL a1 (ix (groupsL a1) x9).fro) ++ (sub a1 (ix (groupsL a1) x9).fro (ix (groupsL a1) (x19 - 1)).to)) (ln (leadL a1 (ix (groupsL a1) x9).fro)) ((catchP a1 (ix (groupsL a1) (x19 - 1)).to).1) ((catchP a1 (ix (groupsL a1) (x19 - 1)).to).2))])) ∧
(((ln (x12 ++ [(Staff.mk ((leadL a1 (ix (groupsL a1) x9).fro) ++ (sub a1 (ix (groupsL a1) x9).fro (ix (groupsL a1) (x19 - 1)).to)) (ln (leadL a1 (ix (groupsL a1) x9).fro)) ((catchP a1 (ix (groupsL a1) (x19 - 1)).to).1) ((catchP a1 (ix (groupsL a1) (x19 - 1)).to).2))])) = a3 →
(True) ∧
(Short (List.length x11 + List.length [(Page.mk (x12 ++ [(Staff.mk ((leadL a1 (ix (groupsL a1) x9).fro) ++ (sub a1 (ix (groupsL a1) x9).fro (ix (groupsL a1) (x19 - 1)).to)) (ln (leadL a1 (ix (groupsL a1) x9).fro)) ((catchP a1 (ix (groupsL a1) (x19 - 1)).to).1) ((catchP a1 (ix (groupsL a1) (x19 - 1)).to).2))]))])) ∧
(([] : List UInt8) = ([] : List UInt8)) ∧
(a0 = a0) ∧
(a1 = a1) ∧
(inv_MakeR_1 a0 a1 a2 a3 x19 x10 (x11 ++ [(Page.mk (x12 ++ [(Staff.mk ((leadL a1 (ix (groupsL a1) x9).fro) ++ (sub a1 (ix (groupsL a1) x9).fro (ix (groupsL a1) (x19 - 1)).to)) (ln (leadL a1 (ix (groupsL a1) x9).fro)) ((catchP a1 (ix (groupsL a1) (x19 - 1)).to).1) ((catchP a1 (ix (groupsL a1) (x19 - 1)).to).2))]))]) ([] : List Staff)) ∧
 minv_MakeR_1 a0 a1 a2 a3 x19 x10 (x11 ++ [(Page.mk (x12 ++ [(Staff.mk ((leadL a1 (ix (groupsL a1) x9).fro) ++ (sub a1 (ix (groupsL a1) x9).fro (ix (groupsL a1) (x19 - 1)).to)) (ln (leadL a1 (ix (groupsL a1) x9).fro)) ((catchP a1 (ix (groupsL a1) (x19 - 1)).to).1) ((catchP a1 (ix (groupsL a1) (x19 - 1)).to).2))]))]) ([] : List Staff) < minv_MakeR_1 a0 a1 a2 a3 x9 x10 x11 x12)) ∧
((ln (x12 ++ [(Staff.mk ((leadL a1 (ix (groupsL a1) x9).fro) ++ (sub a1 (ix (groupsL a1) x9).fro (ix (groupsL a1) (x19 - 1)).to)) (ln (leadL a1 (ix (groupsL a1) x9).fro)) ((catchP a1 (ix (groupsL a1) (x19 - 1)).to).1) ((catchP a1 (ix (groupsL a1) (x19 - 1)).to).2))])) ≠ a3 →
((x19 = (ln (groupsL a1)) →
(True) ∧
(Short (List.length x11 + List.length [(Page.mk (x12 ++ [(Staff.mk ((leadL a1 (ix (groupsL a1) x9).fro) ++ (sub a1 (ix (groupsL a1) x9).fro (ix (groupsL a1) (x19 - 1)).to)) (ln (leadL a1 (ix (groupsL a1) x9).fro)) ((catchP a1 (ix (groupsL a1) (x19 - 1)).to).1) ((catchP a1 (ix (groupsL a1) (x19 - 1)).to).2))]))])) ∧
(([] : List UInt8) = ([] : List UInt8)) ∧
(a0 = a0) ∧
(a1 = a1) ∧
(inv_MakeR_1 a0 a1 a2 a3 x19 x10 (x11 ++ [(Page.mk (x12 ++ [(Staff.mk ((leadL a1 (ix (groupsL a1) x9).fro) ++ (sub a1 (ix (groupsL a1) x9).fro (ix (groupsL a1) (x19 - 1)).to)) (ln (leadL a1 (ix (groupsL a1) x9).fro)) ((catchP a1 (ix (groupsL a1) (x19 - 1)).to).1) ((catchP a1 (ix (groupsL a1) (x19 - 1)).to).2))]))]) ([] : List Staff)) ∧
 minv_MakeR_1 a0 a1 a2 a3 x19 x10 (x11 ++ [(Page.mk (x12 ++ [(Staff.mk ((leadL a1 (ix (groupsL a1) x9).fro) ++ (sub a1 (ix (groupsL a1) x9).fro (ix (groupsL a1) (x19 - 1)).to)) (ln (leadL a1 (ix (groupsL a1) x9).fro)) ((catchP a1 (ix (groupsL a1) (x19 - 1)).to).1) ((catchP a1 (ix (groupsL a1) (x19 - 1)).to).2))]))]) ([] : List Staff) < minv_MakeR_1 a0 a1 a2 a3 x9 x10 x11 x12)) ∧
(x19 ≠ (ln (groupsL a1)) →
(([] : List UInt8) = ([] : List UInt8)) ∧
(a0 = a0) ∧
(a1 = a1) ∧
(inv_MakeR_1 a0 a1 a2 a3 x19 x10 x11 (x12 ++ [(Staff.mk ((leadL a1 (ix (groupsL a1) x9).fro) ++ (sub a1 (ix (groupsL a1) x9).fro (ix (groupsL a1) (x19 - 1)).to)) (ln (leadL a1 (ix (groupsL a1) x9).fro)) ((catchP a1 (ix (groupsL a1) (x19 - 1)).to).1) ((catchP a1 (ix (groupsL a1) (x19 - 1)).to).2))])) ∧
 minv_MakeR_1 a0 a1 a2 a3 x19 x10 x11 (x12 ++ [(Staff.mk ((leadL a1 (ix (groupsL a1) x9).fro) ++ (sub a1 (ix (groupsL a1) x9).fro (ix (groupsL a1) (x19 - 1)).to)) (ln (leadL a1 (ix (groupsL a1) x9).fro)) ((catchP a1 (ix (groupsL a1) (x19 - 1)).to).1) ((catchP a1 (ix (groupsL a1) (x19 - 1)).to).2))]) < minv_MakeR_1 a0 a1 a2 a3 x9 x10 x11 x12)))))))))) ∧
((ln (groupsL a1)) ≤ x9 →
(x10 = ((mkB a0 a1 a2 a3).1)) ∧
(x11 = ((mkB a0 a1 a2 a3).2.1)) ∧
((0 : Int) = ((mkB a0 a1 a2 a3).2.2)) ∧
               True)))))))))))))))
theorem MakeR_vc (a0 : List UInt8) (a1 : List Sign) (a2 : Int) (a3 : Int) : wpTop (stdA XK (tblOf MakeR_tbl) (fun j ns => match j, ns with | 0, [.i y0] => inv_MakeR_0 a0 a1 a2 a3 y0 | 1, [.i y0, .s y1, .l 8 y2, .l 7 y3] => inv_MakeR_1 a0 a1 a2 a3 y0 y1 y2 y3 | 2, [.i y0, .i y1, .i y2] => inv_MakeR_2 a0 a1 a2 a3 y0 y1 y2 | 3, [.i y0, .i y1, .l 7 y2] => inv_MakeR_3 a0 a1 a2 a3 y0 y1 y2 | 4, [.i y0, .i y1, .i y2] => inv_MakeR_4 a0 a1 a2 a3 y0 y1 y2 | _, _ => False) (fun j ns => match j, ns with | 0, [.i y0] => minv_MakeR_0 a0 a1 a2 a3 y0 | 1, [.i y0, .s y1, .l 8 y2, .l 7 y3] => minv_MakeR_1 a0 a1 a2 a3 y0 y1 y2 y3 | 2, [.i y0, .i y1, .i y2] => minv_MakeR_2 a0 a1 a2 a3 y0 y1 y2 | 4, [.i y0, .i y1, .i y2] => minv_MakeR_4 a0 a1 a2 a3 y0 y1 y2 | _, _ => 0)) { cfg sp with ann := annOf [(11, 1018, .inv 0 [.one 11 (.int .i64)] []), (11, 8188, .inv 1 [.one 14 (.int .i64), .via 12 [.str, .list 8 true false], .via 13 [.list 7 true false]] []), (11, 1048108, .inv 2 [.one 16 (.int .i64), .one 17 (.int .i64)] [.one 14 (.int .i64)]), (11, 524055, .cut 3 [.one 17 (.int .i64)] [.one 14 (.int .i64), .via 13 [.list 7 false false]]), (11, 16769770, .inv 4 [.one 17 (.int .i64), .one 18 (.int .i64)] [.one 14 (.int .i64)])] } 6 11 [.agg [.str (a0), .list 4 (a1) none], .int .i64 none (a2), .int .i64 none (a3)] (MakeR_res a0 a1 a2 a3) = MakeR_VC a0 a1 a2 a3 := by kernel_rfl
def lawMakes_tbl : List (Nat × Ct KT) := [(7, ct7), (8, ct8), (9, ct9), (10, ct10), (11, ct11), (12, ct12), (13, ct13)]
abbrev lawMakes_res (a0 : List UInt8) (a1 : List Sign) (a2 : Int) (a3 : Int) : PV KT := .sb 0 false ((true)) ((true) = true) ((true) = false)
abbrev lawMakes_VC (a0 : List UInt8) (a1 : List Sign) (a2 : Int) (a3 : Int) : Prop :=
((ln a0 ≤ 9223372036854775807 ∧ ln a1 ≤ 9223372036854775807)) ∧
(((lightP a0 a1 60) = false →
(True) ∧
((true) = (true)) ∧
 True)) ∧
((lightP a0 a1 60) = true →
((ln a1 ≤ 10000000)) ∧
((ln (a0) ≤ 1000000000 ∧ ln (a1) ≤ 500)) ∧
((ln a0 ≤ 1000000000 ∧ ln a1 ≤ 500)) ∧
((ln ((mkB (a0) (a1) a2 a3).2.1) ≤ 500 ∧ okB ((mkB (a0) (a1) a2 a3).2.1))) ∧
(((sameB ((mkB (a0) (a1) a2 a3).1) ((mkB (a0) (a1) a2 a3).2.1) ((mkB a0 a1 a2 a3).1) ((mkB a0 a1 a2 a3).2.1)) = true →
((((mkB (a0) (a1) a2 a3).2.2) = ((mkB a0 a1 a2 a3).2.2) →
((ln (a1) ≤ 10000000)) ∧
(((sameP (a0) (a1) a0 a1) = true →
(True) ∧
((true) = (true)) ∧
    True)) ∧
((sameP (a0) (a1) a0 a1) = false →
(false = (true)) ∧
    True))) ∧
(((mkB (a0) (a1) a2 a3).2.2) ≠ ((mkB a0 a1 a2 a3).2.2) →
(false = (true)) ∧
   True))) ∧
((sameB ((mkB (a0) (a1) a2 a3).1) ((mkB (a0) (a1) a2 a3).2.1) ((mkB a0 a1 a2 a3).1) ((mkB a0 a1 a2 a3).2.1)) = false →
(false = (true)) ∧
  True))
theorem lawMakes_vc (a0 : List UInt8) (a1 : List Sign) (a2 : Int) (a3 : Int) : wpTop (stdA XK (tblOf lawMakes_tbl) (fun _ _ => False) (fun _ _ => 0)) { cfg sp with ann := annOf [] } 3 3 [.agg [.str (a0), .list 4 (a1) none], .int .i64 none (a2), .int .i64 none (a3)] (lawMakes_res a0 a1 a2 a3) = lawMakes_VC a0 a1 a2 a3 := by kernel_rfl
end Go.Proofs.YtlkfjinaiepocaaDoor
