/- THE CONDITIONS of the functions of the chapter 2, as E3 computes them. Made by program (vc.py). -/
import Derived.Test.YtofmpipjklcjhaaDoorInv
import Derived.Test.YtofmpipjklcjhaaDoorCfg
namespace Go.Proofs.YtofmpipjklcjhaaDoor
open Go Go.E2 Go.E3
set_option maxRecDepth 100000
variable {sp : Nat → Option (List V → Heap → Option (CR × Heap))}

def ct57 : Ct KT := ([.one (.str), .one (.int .u8)], fun ns => match ns with
  | [.s a0, .i a1] => some (True, .int .i64 none ((idxB a0 a1)))
  | _ => none)
def ct55 : Ct KT := ([.one (.str), .one (.int .u8)], fun ns => match ns with
  | [.s a0, .i a1] => some (True, .int .i64 none ((cntB a0 a1)))
  | _ => none)
def ct39 : Ct KT := ([.one (.int .u8)], fun ns => match ns with
  | [.i a0] => some ((U8 a0), .int .u8 none ((classI a0)))
  | _ => none)
def ct25 : Ct KT := ([.one (.str)], fun ns => match ns with
  | [.s a0] => some ((ln a0 ≤ 1000000000), .sb 0 false ((quotedB a0)) ((quotedB a0) = true) ((quotedB a0) = false))
  | _ => none)
def ct37 : Ct KT := ([.one (.str), .one (.str), .one (.int .i64), .one (.int .i64)], fun ns => match ns with
  | [.s a0, .s a1, .i a2, .i a3] => some ((ln a1 = 1 ∧ (a2 : Int) = 0 ∧ (a3 : Int) = -1 ∧ ln a0 ≤ 100000000), .list 2 ((splitI (bx a1 0) a0)) none)
  | _ => none)
def ct21 : Ct KT := ([.one (.str), .one (.str)], fun ns => match ns with
  | [.s a0, .s a1] => some ((ln a1 = 1 ∧ ln a0 ≤ 100000000), .list 2 ((splitI (bx a1 0) a0)) none)
  | _ => none)
def ct42 : Ct KT := ([.one (.int .u8)], fun ns => match ns with
  | [.i a0] => some (True, .sb 0 false ((plainI a0)) ((plainI a0) = true) ((plainI a0) = false))
  | _ => none)
def ct44 : Ct KT := ([.one (.int .u8)], fun ns => match ns with
  | [.i a0] => some (True, .sb 0 false ((insideI a0)) ((insideI a0) = true) ((insideI a0) = false))
  | _ => none)
def ct41 : Ct KT := ([.one (.str), .one (.int .i64)], fun ns => match ns with
  | [.s a0, .i a1] => some ((0 ≤ a1 ∧ a1 < ln a0 ∧ ln a0 ≤ 1000000000), .int .i64 none ((quotedI a0 a1)))
  | _ => none)
def ct23 : Ct KT := ([.one (.str), .one (.int .i64)], fun ns => match ns with
  | [.s a0, .i a1] => some ((ln a0 ≤ 1000 ∧ 0 ≤ a1 ∧ a1 ≤ 100000), .tuple [.list 5 (((cutS a0 a1 0).1)) (some (0, 0)), .int .i64 none (((cutS a0 a1 0).2))])
  | _ => none)
def ct9 : Ct KT := ([.one (.str)], fun ns => match ns with
  | [.s a0] => some (True, .tuple [.list 6 (((rowsR a0).1)) (some (0, 0)), .agg [.int .i64 none (((rowsR a0).2.1)), .int .i64 none (((rowsR a0).2.2))]])
  | _ => none)
def ct8 : Ct KT := ([.one (.str)], fun ns => match ns with
  | [.s a0] => some (True, .tuple [.list 6 (((rowsR a0).1)) (some (0, 0)), .agg [.int .i64 none (((rowsR a0).2.1)), .int .i64 none (((rowsR a0).2.2))]])
  | _ => none)
def ct10 : Ct KT := ([.one (.list 6 false), .one (.list 6 false), .one (.bool)], fun ns => match ns with
  | [.l 6 a0, .l 6 a1, .b a2] => some ((ln a0 ≤ 1000000000 ∧ (∀ r ∈ a0, ln r.Words ≤ 1000000000)), .sb 0 false ((sameR a0 a1 a2)) ((sameR a0 a1 a2) = true) ((sameR a0 a1 a2) = false))
  | _ => none)
def ct7 : Ct KT := ([], fun ns => match ns with
  | [] => some (True, .sb 0 false ((true)) ((true) = true) ((true) = false))
  | _ => none)
def ct3 : Ct KT := ([.one (.str)], fun ns => match ns with
  | [.s a0] => some (True, .sb 0 false ((true)) ((true) = true) ((true) = false))
  | _ => none)
abbrev awake_res : PV KT := .sb 0 false ((true)) ((true) = true) ((true) = false)
def class_tbl : List (Nat × Ct KT) := []
abbrev class_res (a0 : Int) : PV KT := .int .u8 none ((classI a0))
abbrev class_VC (a0 : Int) : Prop :=
(I64 a0) ∧
((127 ≤ a0 →
((120 : Int) = (classI a0)) ∧
 True)) ∧
(a0 < 127 →
(Wn a0 (ln ([120, 120, 120, 120, 120, 120, 120, 120, 120, 120, 120, 120, 120, 120, 120, 120, 120, 120, 120, 120, 120, 120, 120, 120, 120, 120, 120, 120, 120, 120, 120, 120, 32, 112, 113, 112, 112, 112, 112, 112, 112, 112, 112, 112, 112, 112, 112, 112, 112, 112, 112, 112, 112, 112, 112, 112, 112, 112, 112, 99, 112, 112, 112, 112, 112, 112, 112, 112, 112, 112, 112, 112, 112, 112, 112, 112, 112, 112, 112, 112, 112, 112, 112, 112, 112, 112, 112, 112, 112, 112, 112, 112, 112, 112, 112, 112, 112, 112, 112, 112, 112, 112, 112, 112, 112, 112, 112, 112, 112, 112, 112, 112, 112, 112, 112, 112, 112, 112, 112, 112, 112, 112, 112, 112, 112, 112, 112] : List UInt8))) ∧
(((bx ([120, 120, 120, 120, 120, 120, 120, 120, 120, 120, 120, 120, 120, 120, 120, 120, 120, 120, 120, 120, 120, 120, 120, 120, 120, 120, 120, 120, 120, 120, 120, 120, 32, 112, 113, 112, 112, 112, 112, 112, 112, 112, 112, 112, 112, 112, 112, 112, 112, 112, 112, 112, 112, 112, 112, 112, 112, 112, 112, 99, 112, 112, 112, 112, 112, 112, 112, 112, 112, 112, 112, 112, 112, 112, 112, 112, 112, 112, 112, 112, 112, 112, 112, 112, 112, 112, 112, 112, 112, 112, 112, 112, 112, 112, 112, 112, 112, 112, 112, 112, 112, 112, 112, 112, 112, 112, 112, 112, 112, 112, 112, 112, 112, 112, 112, 112, 112, 112, 112, 112, 112, 112, 112, 112, 112, 112, 112] : List UInt8) a0) : Int) = (classI a0)) ∧
 True)
theorem class_vc (a0 : Int) : wpTop (stdA XK (tblOf class_tbl) (fun _ _ => False) (fun _ _ => 0)) { cfg sp with ann := annOf [] } 3 39 [.int .u8 none (a0)] (class_res a0) = class_VC a0 := by kernel_rfl
def quoted_tbl : List (Nat × Ct KT) := [(39, ct39)]
abbrev quoted_res (a0 : List UInt8) : PV KT := .sb 0 false ((quotedB a0)) ((quotedB a0) = true) ((quotedB a0) = false)
abbrev quoted_VC (a0 : List UInt8) : Prop :=
(inv_quoted_0 a0 0) ∧
(∀ x0 : Int,
(inv_quoted_0 a0 x0 →
((x0 < (ln a0) →
(Wn x0 (ln a0)) ∧
((U8 (bx a0 x0))) ∧
(((classI (bx a0 x0)) = 120 →
(false = (quotedB a0)) ∧
    True)) ∧
((classI (bx a0 x0)) ≠ 120 →
(((classI (bx a0 x0)) = 113 →
(false = (quotedB a0)) ∧
     True)) ∧
((classI (bx a0 x0)) ≠ 113 →
(I64 (x0 + 1)) ∧
(inv_quoted_0 a0 (x0 + 1)) ∧
 minv_quoted_0 a0 (x0 + 1) < minv_quoted_0 a0 x0)))) ∧
((ln a0) ≤ x0 →
(true = (quotedB a0)) ∧
   True)))
theorem quoted_vc (a0 : List UInt8) : wpTop (stdA XK (tblOf quoted_tbl) (fun j ns => match j, ns with | 0, [.i y0] => inv_quoted_0 a0 y0 | _, _ => False) (fun j ns => match j, ns with | 0, [.i y0] => minv_quoted_0 a0 y0 | _, _ => 0)) { cfg sp with ann := annOf [(25, 26, .inv 0 [.one 7 (.int .i64)] [])] } 3 25 [.str (a0)] (quoted_res a0) = quoted_VC a0 := by kernel_rfl
def genSplit_tbl : List (Nat × Ct KT) := [(55, ct55), (57, ct57)]
abbrev genSplit_res (a0 : List UInt8) (a1 : List UInt8) (a2 : Int) (a3 : Int) : PV KT := .list 2 ((splitI (bx a1 0) a0)) none
abbrev genSplit_VC (a0 : List UInt8) (a1 : List UInt8) (a2 : Int) (a3 : Int) : Prop :=
((a3 = 0 →
(([] : List (List UInt8)) = (splitI (bx a1 0) a0)) ∧
 True)) ∧
(a3 ≠ 0 →
((a1 = ([] : List UInt8) →
  False /- operation -/)) ∧
(a1 ≠ ([] : List UInt8) →
((a3 < 0 →
(((ln a1) = 0 →
    False /- operation -/)) ∧
((ln a1) ≠ 0 →
(((ln a1) = 1 →
(Wn 0 (ln a1)) ∧
(True) ∧
(I64 ((cntB a0 (bx a1 0)) + 1)) ∧
(I64 ((ln a0) + 1)) ∧
(((if ((ln a0) + 1) < ((cntB a0 (bx a1 0)) + 1) then ((ln a0) + 1) else ((cntB a0 (bx a1 0)) + 1)) : Int) = (if ((ln a0) + 1) < ((cntB a0 (bx a1 0)) + 1) then ((ln a0) + 1) else ((cntB a0 (bx a1 0)) + 1))) ∧
(Wn (if ((ln a0) + 1) < ((cntB a0 (bx a1 0)) + 1) then ((ln a0) + 1) else ((cntB a0 (bx a1 0)) + 1)) 1000000000) ∧
(True) ∧
(I64 ((if ((ln a0) + 1) < ((cntB a0 (bx a1 0)) + 1) then ((ln a0) + 1) else ((cntB a0 (bx a1 0)) + 1)) - 1)) ∧
(inv_genSplit_0 a0 a1 a2 a3 a0 0 (List.replicate (Int.toNat (if ((ln a0) + 1) < ((cntB a0 (bx a1 0)) + 1) then ((ln a0) + 1) else ((cntB a0 (bx a1 0)) + 1))) ([] : List UInt8))) ∧
(∀ x5 : List UInt8,
(∀ x6 : Int,
(∀ x7 : List (List UInt8),
(inv_genSplit_0 a0 a1 a2 a3 x5 x6 x7 →
((x6 < ((if ((ln a0) + 1) < ((cntB a0 (bx a1 0)) + 1) then ((ln a0) + 1) else ((cntB a0 (bx a1 0)) + 1)) - 1) →
(((ln a1) = 0 →
(I64 (0 + a2)) ∧
(0 ≤ (0 + a2) ∧ (0 + a2) ≤ ln x5) ∧
(Wn x6 (if ((ln a0) + 1) < ((cntB a0 (bx a1 0)) + 1) then ((ln a0) + 1) else ((cntB a0 (bx a1 0)) + 1))) ∧
((if ((ln a0) + 1) < ((cntB a0 (bx a1 0)) + 1) then ((ln a0) + 1) else ((cntB a0 (bx a1 0)) + 1)) ≤ (ln x7)) ∧
(True) ∧
(I64 (0 + (ln a1))) ∧
(0 ≤ (0 + (ln a1)) ∧ (0 + (ln a1)) ≤ ln x5) ∧
(I64 (x6 + 1)) ∧
(inv_genSplit_0 a0 a1 a2 a3 (fr x5 (0 + (ln a1))) (x6 + 1) (List.set x7 (Int.toNat x6) (upto x5 (0 + a2)))) ∧
 minv_genSplit_0 a0 a1 a2 a3 (fr x5 (0 + (ln a1))) (x6 + 1) (List.set x7 (Int.toNat x6) (upto x5 (0 + a2))) < minv_genSplit_0 a0 a1 a2 a3 x5 x6 x7)) ∧
((ln a1) ≠ 0 →
((a1 = x5 →
(I64 (0 + a2)) ∧
(0 ≤ (0 + a2) ∧ (0 + a2) ≤ ln x5) ∧
(Wn x6 (if ((ln a0) + 1) < ((cntB a0 (bx a1 0)) + 1) then ((ln a0) + 1) else ((cntB a0 (bx a1 0)) + 1))) ∧
((if ((ln a0) + 1) < ((cntB a0 (bx a1 0)) + 1) then ((ln a0) + 1) else ((cntB a0 (bx a1 0)) + 1)) ≤ (ln x7)) ∧
(True) ∧
(I64 (0 + (ln a1))) ∧
(0 ≤ (0 + (ln a1)) ∧ (0 + (ln a1)) ≤ ln x5) ∧
(I64 (x6 + 1)) ∧
(inv_genSplit_0 a0 a1 a2 a3 (fr x5 (0 + (ln a1))) (x6 + 1) (List.set x7 (Int.toNat x6) (upto x5 (0 + a2)))) ∧
 minv_genSplit_0 a0 a1 a2 a3 (fr x5 (0 + (ln a1))) (x6 + 1) (List.set x7 (Int.toNat x6) (upto x5 (0 + a2))) < minv_genSplit_0 a0 a1 a2 a3 x5 x6 x7)) ∧
(a1 ≠ x5 →
(((ln a1) = 1 →
(Wn 0 (ln a1)) ∧
(True) ∧
(((idxB x5 (bx a1 0)) < 0 →
(Wn x6 (if ((ln a0) + 1) < ((cntB a0 (bx a1 0)) + 1) then ((ln a0) + 1) else ((cntB a0 (bx a1 0)) + 1))) ∧
((if ((ln a0) + 1) < ((cntB a0 (bx a1 0)) + 1) then ((ln a0) + 1) else ((cntB a0 (bx a1 0)) + 1)) ≤ (ln x7)) ∧
(True) ∧
(I64 (x6 + 1)) ∧
(((if ((ln a0) + 1) < ((cntB a0 (bx a1 0)) + 1) then ((ln a0) + 1) else ((cntB a0 (bx a1 0)) + 1)) : Int) = (ln (List.set x7 (Int.toNat x6) x5))) ∧
(0 ≤ (x6 + 1) ∧ (x6 + 1) ≤ ln (List.set x7 (Int.toNat x6) x5)) ∧
((upto (List.set x7 (Int.toNat x6) x5) (x6 + 1)) = (splitI (bx a1 0) a0)) ∧
              True)) ∧
(0 ≤ (idxB x5 (bx a1 0)) →
(I64 ((idxB x5 (bx a1 0)) + a2)) ∧
(0 ≤ ((idxB x5 (bx a1 0)) + a2) ∧ ((idxB x5 (bx a1 0)) + a2) ≤ ln x5) ∧
(Wn x6 (if ((ln a0) + 1) < ((cntB a0 (bx a1 0)) + 1) then ((ln a0) + 1) else ((cntB a0 (bx a1 0)) + 1))) ∧
((if ((ln a0) + 1) < ((cntB a0 (bx a1 0)) + 1) then ((ln a0) + 1) else ((cntB a0 (bx a1 0)) + 1)) ≤ (ln x7)) ∧
(True) ∧
(I64 ((idxB x5 (bx a1 0)) + (ln a1))) ∧
(0 ≤ ((idxB x5 (bx a1 0)) + (ln a1)) ∧ ((idxB x5 (bx a1 0)) + (ln a1)) ≤ ln x5) ∧
(I64 (x6 + 1)) ∧
(inv_genSplit_0 a0 a1 a2 a3 (fr x5 ((idxB x5 (bx a1 0)) + (ln a1))) (x6 + 1) (List.set x7 (Int.toNat x6) (upto x5 ((idxB x5 (bx a1 0)) + a2)))) ∧
 minv_genSplit_0 a0 a1 a2 a3 (fr x5 ((idxB x5 (bx a1 0)) + (ln a1))) (x6 + 1) (List.set x7 (Int.toNat x6) (upto x5 ((idxB x5 (bx a1 0)) + a2))) < minv_genSplit_0 a0 a1 a2 a3 x5 x6 x7))) ∧
((ln a1) ≠ 1 →
(((ln x5) ≤ (ln a1) →
(Wn x6 (if ((ln a0) + 1) < ((cntB a0 (bx a1 0)) + 1) then ((ln a0) + 1) else ((cntB a0 (bx a1 0)) + 1))) ∧
((if ((ln a0) + 1) < ((cntB a0 (bx a1 0)) + 1) then ((ln a0) + 1) else ((cntB a0 (bx a1 0)) + 1)) ≤ (ln x7)) ∧
(True) ∧
(I64 (x6 + 1)) ∧
(((if ((ln a0) + 1) < ((cntB a0 (bx a1 0)) + 1) then ((ln a0) + 1) else ((cntB a0 (bx a1 0)) + 1)) : Int) = (ln (List.set x7 (Int.toNat x6) x5))) ∧
(0 ≤ (x6 + 1) ∧ (x6 + 1) ≤ ln (List.set x7 (Int.toNat x6) x5)) ∧
((upto (List.set x7 (Int.toNat x6) x5) (x6 + 1)) = (splitI (bx a1 0) a0)) ∧
              True)) ∧
((ln a1) < (ln x5) →
              False /- operand -/)))))) ∧
(((if ((ln a0) + 1) < ((cntB a0 (bx a1 0)) + 1) then ((ln a0) + 1) else ((cntB a0 (bx a1 0)) + 1)) - 1) ≤ x6 →
(Wn x6 (if ((ln a0) + 1) < ((cntB a0 (bx a1 0)) + 1) then ((ln a0) + 1) else ((cntB a0 (bx a1 0)) + 1))) ∧
((if ((ln a0) + 1) < ((cntB a0 (bx a1 0)) + 1) then ((ln a0) + 1) else ((cntB a0 (bx a1 0)) + 1)) ≤ (ln x7)) ∧
(True) ∧
(I64 (x6 + 1)) ∧
(((if ((ln a0) + 1) < ((cntB a0 (bx a1 0)) + 1) then ((ln a0) + 1) else ((cntB a0 (bx a1 0)) + 1)) : Int) = (ln (List.set x7 (Int.toNat x6) x5))) ∧
(0 ≤ (x6 + 1) ∧ (x6 + 1) ≤ ln (List.set x7 (Int.toNat x6) x5)) ∧
((upto (List.set x7 (Int.toNat x6) x5) (x6 + 1)) = (splitI (bx a1 0) a0)) ∧
          True))))))) ∧
((ln a1) ≠ 1 →
     False /- loop -/)))) ∧
(0 ≤ a3 →
(I64 ((ln a0) + 1)) ∧
(((if ((ln a0) + 1) < a3 then ((ln a0) + 1) else a3) : Int) = (if ((ln a0) + 1) < a3 then ((ln a0) + 1) else a3)) ∧
(Wn (if ((ln a0) + 1) < a3 then ((ln a0) + 1) else a3) 1000000000) ∧
(True) ∧
(I64 ((if ((ln a0) + 1) < a3 then ((ln a0) + 1) else a3) - 1)) ∧
(inv_genSplit_0 a0 a1 a2 a3 a0 0 (List.replicate (Int.toNat (if ((ln a0) + 1) < a3 then ((ln a0) + 1) else a3)) ([] : List UInt8))) ∧
(∀ x3 : List UInt8,
(∀ x4 : Int,
(∀ x5 : List (List UInt8),
(inv_genSplit_0 a0 a1 a2 a3 x3 x4 x5 →
((x4 < ((if ((ln a0) + 1) < a3 then ((ln a0) + 1) else a3) - 1) →
(((ln a1) = 0 →
(I64 (0 + a2)) ∧
(0 ≤ (0 + a2) ∧ (0 + a2) ≤ ln x3) ∧
(Wn x4 (if ((ln a0) + 1) < a3 then ((ln a0) + 1) else a3)) ∧
((if ((ln a0) + 1) < a3 then ((ln a0) + 1) else a3) ≤ (ln x5)) ∧
(True) ∧
(I64 (0 + (ln a1))) ∧
(0 ≤ (0 + (ln a1)) ∧ (0 + (ln a1)) ≤ ln x3) ∧
(I64 (x4 + 1)) ∧
(inv_genSplit_0 a0 a1 a2 a3 (fr x3 (0 + (ln a1))) (x4 + 1) (List.set x5 (Int.toNat x4) (upto x3 (0 + a2)))) ∧
 minv_genSplit_0 a0 a1 a2 a3 (fr x3 (0 + (ln a1))) (x4 + 1) (List.set x5 (Int.toNat x4) (upto x3 (0 + a2))) < minv_genSplit_0 a0 a1 a2 a3 x3 x4 x5)) ∧
((ln a1) ≠ 0 →
((a1 = x3 →
(I64 (0 + a2)) ∧
(0 ≤ (0 + a2) ∧ (0 + a2) ≤ ln x3) ∧
(Wn x4 (if ((ln a0) + 1) < a3 then ((ln a0) + 1) else a3)) ∧
((if ((ln a0) + 1) < a3 then ((ln a0) + 1) else a3) ≤ (ln x5)) ∧
(True) ∧
(I64 (0 + (ln a1))) ∧
(0 ≤ (0 + (ln a1)) ∧ (0 + (ln a1)) ≤ ln x3) ∧
(I64 (x4 + 1)) ∧
(inv_genSplit_0 a0 a1 a2 a3 (fr x3 (0 + (ln a1))) (x4 + 1) (List.set x5 (Int.toNat x4) (upto x3 (0 + a2)))) ∧
 minv_genSplit_0 a0 a1 a2 a3 (fr x3 (0 + (ln a1))) (x4 + 1) (List.set x5 (Int.toNat x4) (upto x3 (0 + a2))) < minv_genSplit_0 a0 a1 a2 a3 x3 x4 x5)) ∧
(a1 ≠ x3 →
(((ln a1) = 1 →
(Wn 0 (ln a1)) ∧
(True) ∧
(((idxB x3 (bx a1 0)) < 0 →
(Wn x4 (if ((ln a0) + 1) < a3 then ((ln a0) + 1) else a3)) ∧
((if ((ln a0) + 1) < a3 then ((ln a0) + 1) else a3) ≤ (ln x5)) ∧
(True) ∧
(I64 (x4 + 1)) ∧
(((if ((ln a0) + 1) < a3 then ((ln a0) + 1) else a3) : Int) = (ln (List.set x5 (Int.toNat x4) x3))) ∧
(0 ≤ (x4 + 1) ∧ (x4 + 1) ≤ ln (List.set x5 (Int.toNat x4) x3)) ∧
((upto (List.set x5 (Int.toNat x4) x3) (x4 + 1)) = (splitI (bx a1 0) a0)) ∧
            True)) ∧
(0 ≤ (idxB x3 (bx a1 0)) →
(I64 ((idxB x3 (bx a1 0)) + a2)) ∧
(0 ≤ ((idxB x3 (bx a1 0)) + a2) ∧ ((idxB x3 (bx a1 0)) + a2) ≤ ln x3) ∧
(Wn x4 (if ((ln a0) + 1) < a3 then ((ln a0) + 1) else a3)) ∧
((if ((ln a0) + 1) < a3 then ((ln a0) + 1) else a3) ≤ (ln x5)) ∧
(True) ∧
(I64 ((idxB x3 (bx a1 0)) + (ln a1))) ∧
(0 ≤ ((idxB x3 (bx a1 0)) + (ln a1)) ∧ ((idxB x3 (bx a1 0)) + (ln a1)) ≤ ln x3) ∧
(I64 (x4 + 1)) ∧
(inv_genSplit_0 a0 a1 a2 a3 (fr x3 ((idxB x3 (bx a1 0)) + (ln a1))) (x4 + 1) (List.set x5 (Int.toNat x4) (upto x3 ((idxB x3 (bx a1 0)) + a2)))) ∧
 minv_genSplit_0 a0 a1 a2 a3 (fr x3 ((idxB x3 (bx a1 0)) + (ln a1))) (x4 + 1) (List.set x5 (Int.toNat x4) (upto x3 ((idxB x3 (bx a1 0)) + a2))) < minv_genSplit_0 a0 a1 a2 a3 x3 x4 x5))) ∧
((ln a1) ≠ 1 →
(((ln x3) ≤ (ln a1) →
(Wn x4 (if ((ln a0) + 1) < a3 then ((ln a0) + 1) else a3)) ∧
((if ((ln a0) + 1) < a3 then ((ln a0) + 1) else a3) ≤ (ln x5)) ∧
(True) ∧
(I64 (x4 + 1)) ∧
(((if ((ln a0) + 1) < a3 then ((ln a0) + 1) else a3) : Int) = (ln (List.set x5 (Int.toNat x4) x3))) ∧
(0 ≤ (x4 + 1) ∧ (x4 + 1) ≤ ln (List.set x5 (Int.toNat x4) x3)) ∧
((upto (List.set x5 (Int.toNat x4) x3) (x4 + 1)) = (splitI (bx a1 0) a0)) ∧
            True)) ∧
((ln a1) < (ln x3) →
            False /- operand -/)))))) ∧
(((if ((ln a0) + 1) < a3 then ((ln a0) + 1) else a3) - 1) ≤ x4 →
(Wn x4 (if ((ln a0) + 1) < a3 then ((ln a0) + 1) else a3)) ∧
((if ((ln a0) + 1) < a3 then ((ln a0) + 1) else a3) ≤ (ln x5)) ∧
(True) ∧
(I64 (x4 + 1)) ∧
(((if ((ln a0) + 1) < a3 then ((ln a0) + 1) else a3) : Int) = (ln (List.set x5 (Int.toNat x4) x3))) ∧
(0 ≤ (x4 + 1) ∧ (x4 + 1) ≤ ln (List.set x5 (Int.toNat x4) x3)) ∧
((upto (List.set x5 (Int.toNat x4) x3) (x4 + 1)) = (splitI (bx a1 0) a0)) ∧
        True))))))))
theorem genSplit_vc (a0 : List UInt8) (a1 : List UInt8) (a2 : Int) (a3 : Int) : wpTop (stdA XK (tblOf genSplit_tbl) (fun j ns => match j, ns with | 0, [.s y0, .i y1, .l 2 y2] => inv_genSplit_0 a0 a1 a2 a3 y0 y1 y2 | _, _ => False) (fun j ns => match j, ns with | 0, [.s y0, .i y1, .l 2 y2] => minv_genSplit_0 a0 a1 a2 a3 y0 y1 y2 | _, _ => 0)) { cfg sp with ann := annOf [(37, 2044, .inv 0 [.one 0 (.str), .one 10 (.int .i64), .elems 31] [])] } 3 37 [.str (a0), .str (a1), .int .i64 none (a2), .int .i64 none (a3)] (genSplit_res a0 a1 a2 a3) = genSplit_VC a0 a1 a2 a3 := by kernel_rfl
def Split_tbl : List (Nat × Ct KT) := [(37, ct37)]
abbrev Split_res (a0 : List UInt8) (a1 : List UInt8) : PV KT := .list 2 ((splitI (bx a1 0) a0)) none
abbrev Split_VC (a0 : List UInt8) (a1 : List UInt8) : Prop :=
((ln a1 = 1 ∧ (0 : Int) = 0 ∧ ((-1) : Int) = -1 ∧ ln a0 ≤ 100000000)) ∧
((splitI (bx a1 0) a0) = (splitI (bx a1 0) a0)) ∧
 True
theorem Split_vc (a0 : List UInt8) (a1 : List UInt8) : wpTop (stdA XK (tblOf Split_tbl) (fun _ _ => False) (fun _ _ => 0)) { cfg sp with ann := annOf [] } 3 21 [.str (a0), .str (a1)] (Split_res a0 a1) = Split_VC a0 a1 := by kernel_rfl
def plainR_tbl : List (Nat × Ct KT) := []
abbrev plainR_res (a0 : Int) : PV KT := .sb 0 false ((plainI a0)) ((plainI a0) = true) ((plainI a0) = false)
abbrev plainR_VC (a0 : Int) : Prop :=
((33 ≤ a0 →
((a0 ≤ 126 →
((a0 ≠ 59 →
((!(decide (a0 = 34))) = (plainI a0)) ∧
   True)) ∧
(a0 = 59 →
(false = (plainI a0)) ∧
   True))) ∧
(126 < a0 →
(false = (plainI a0)) ∧
  True))) ∧
(a0 < 33 →
(false = (plainI a0)) ∧
 True)
theorem plainR_vc (a0 : Int) : wpTop (stdA XK (tblOf plainR_tbl) (fun _ _ => False) (fun _ _ => 0)) { cfg sp with ann := annOf [] } 3 42 [.int .u8 none (a0)] (plainR_res a0) = plainR_VC a0 := by kernel_rfl
def insideR_tbl : List (Nat × Ct KT) := []
abbrev insideR_res (a0 : Int) : PV KT := .sb 0 false ((insideI a0)) ((insideI a0) = true) ((insideI a0) = false)
abbrev insideR_VC (a0 : Int) : Prop :=
((32 ≤ a0 →
((a0 ≤ 126 →
((!(decide (a0 = 34))) = (insideI a0)) ∧
  True)) ∧
(126 < a0 →
(false = (insideI a0)) ∧
  True))) ∧
(a0 < 32 →
(false = (insideI a0)) ∧
 True)
theorem insideR_vc (a0 : Int) : wpTop (stdA XK (tblOf insideR_tbl) (fun _ _ => False) (fun _ _ => 0)) { cfg sp with ann := annOf [] } 3 44 [.int .u8 none (a0)] (insideR_res a0) = insideR_VC a0 := by kernel_rfl
def quotedR_tbl : List (Nat × Ct KT) := [(44, ct44)]
abbrev quotedR_res (a0 : List UInt8) (a1 : Int) : PV KT := .int .i64 none ((quotedI a0 a1))
abbrev quotedR_VC (a0 : List UInt8) (a1 : Int) : Prop :=
((0 < a1 →
(I64 (a1 - 1)) ∧
(Wn (a1 - 1) (ln a0)) ∧
(((bx a0 (a1 - 1)) ≠ 32 →
(((-1) : Int) = (quotedI a0 a1)) ∧
  True)) ∧
((bx a0 (a1 - 1)) = 32 →
(I64 (a1 + 1)) ∧
(inv_quotedR_0 a0 a1 (a1 + 1)) ∧
(∀ x2 : Int,
(inv_quotedR_0 a0 a1 x2 →
((x2 < (ln a0) →
(Wn x2 (ln a0)) ∧
(True) ∧
(((insideI (bx a0 x2)) = true →
(I64 (x2 + 1)) ∧
(inv_quotedR_0 a0 a1 (x2 + 1)) ∧
 minv_quotedR_0 a0 a1 (x2 + 1) < minv_quotedR_0 a0 a1 x2)) ∧
((insideI (bx a0 x2)) = false →
((x2 = (ln a0) →
(((-1) : Int) = (quotedI a0 a1)) ∧
       True)) ∧
(x2 ≠ (ln a0) →
(Wn x2 (ln a0)) ∧
(((bx a0 x2) ≠ 34 →
(((-1) : Int) = (quotedI a0 a1)) ∧
        True)) ∧
((bx a0 x2) = 34 →
(I64 (x2 + 1)) ∧
(((x2 + 1) = (ln a0) →
(I64 (x2 + 1)) ∧
(((x2 + 1) : Int) = (quotedI a0 a1)) ∧
         True)) ∧
((x2 + 1) ≠ (ln a0) →
(Wn (x2 + 1) (ln a0)) ∧
(((bx a0 (x2 + 1)) = 32 →
(I64 (x2 + 1)) ∧
(((x2 + 1) : Int) = (quotedI a0 a1)) ∧
          True)) ∧
((bx a0 (x2 + 1)) ≠ 32 →
(Wn (x2 + 1) (ln a0)) ∧
(((bx a0 (x2 + 1)) ≠ 59 →
(((-1) : Int) = (quotedI a0 a1)) ∧
           True)) ∧
((bx a0 (x2 + 1)) = 59 →
(I64 (x2 + 1)) ∧
(((x2 + 1) : Int) = (quotedI a0 a1)) ∧
           True)))))))) ∧
((ln a0) ≤ x2 →
((x2 = (ln a0) →
(((-1) : Int) = (quotedI a0 a1)) ∧
      True)) ∧
(x2 ≠ (ln a0) →
(Wn x2 (ln a0)) ∧
(((bx a0 x2) ≠ 34 →
(((-1) : Int) = (quotedI a0 a1)) ∧
       True)) ∧
((bx a0 x2) = 34 →
(I64 (x2 + 1)) ∧
(((x2 + 1) = (ln a0) →
(I64 (x2 + 1)) ∧
(((x2 + 1) : Int) = (quotedI a0 a1)) ∧
        True)) ∧
((x2 + 1) ≠ (ln a0) →
(Wn (x2 + 1) (ln a0)) ∧
(((bx a0 (x2 + 1)) = 32 →
(I64 (x2 + 1)) ∧
(((x2 + 1) : Int) = (quotedI a0 a1)) ∧
         True)) ∧
((bx a0 (x2 + 1)) ≠ 32 →
(Wn (x2 + 1) (ln a0)) ∧
(((bx a0 (x2 + 1)) ≠ 59 →
(((-1) : Int) = (quotedI a0 a1)) ∧
          True)) ∧
((bx a0 (x2 + 1)) = 59 →
(I64 (x2 + 1)) ∧
(((x2 + 1) : Int) = (quotedI a0 a1)) ∧
          True))))))))))) ∧
(a1 ≤ 0 →
(I64 (a1 + 1)) ∧
(inv_quotedR_0 a0 a1 (a1 + 1)) ∧
(∀ x1 : Int,
(inv_quotedR_0 a0 a1 x1 →
((x1 < (ln a0) →
(Wn x1 (ln a0)) ∧
(True) ∧
(((insideI (bx a0 x1)) = true →
(I64 (x1 + 1)) ∧
(inv_quotedR_0 a0 a1 (x1 + 1)) ∧
 minv_quotedR_0 a0 a1 (x1 + 1) < minv_quotedR_0 a0 a1 x1)) ∧
((insideI (bx a0 x1)) = false →
((x1 = (ln a0) →
(((-1) : Int) = (quotedI a0 a1)) ∧
      True)) ∧
(x1 ≠ (ln a0) →
(Wn x1 (ln a0)) ∧
(((bx a0 x1) ≠ 34 →
(((-1) : Int) = (quotedI a0 a1)) ∧
       True)) ∧
((bx a0 x1) = 34 →
(I64 (x1 + 1)) ∧
(((x1 + 1) = (ln a0) →
(I64 (x1 + 1)) ∧
(((x1 + 1) : Int) = (quotedI a0 a1)) ∧
        True)) ∧
((x1 + 1) ≠ (ln a0) →
(Wn (x1 + 1) (ln a0)) ∧
(((bx a0 (x1 + 1)) = 32 →
(I64 (x1 + 1)) ∧
(((x1 + 1) : Int) = (quotedI a0 a1)) ∧
         True)) ∧
((bx a0 (x1 + 1)) ≠ 32 →
(Wn (x1 + 1) (ln a0)) ∧
(((bx a0 (x1 + 1)) ≠ 59 →
(((-1) : Int) = (quotedI a0 a1)) ∧
          True)) ∧
((bx a0 (x1 + 1)) = 59 →
(I64 (x1 + 1)) ∧
(((x1 + 1) : Int) = (quotedI a0 a1)) ∧
          True)))))))) ∧
((ln a0) ≤ x1 →
((x1 = (ln a0) →
(((-1) : Int) = (quotedI a0 a1)) ∧
     True)) ∧
(x1 ≠ (ln a0) →
(Wn x1 (ln a0)) ∧
(((bx a0 x1) ≠ 34 →
(((-1) : Int) = (quotedI a0 a1)) ∧
      True)) ∧
((bx a0 x1) = 34 →
(I64 (x1 + 1)) ∧
(((x1 + 1) = (ln a0) →
(I64 (x1 + 1)) ∧
(((x1 + 1) : Int) = (quotedI a0 a1)) ∧
       True)) ∧
((x1 + 1) ≠ (ln a0) →
(Wn (x1 + 1) (ln a0)) ∧
(((bx a0 (x1 + 1)) = 32 →
(I64 (x1 + 1)) ∧
(((x1 + 1) : Int) = (quotedI a0 a1)) ∧
        True)) ∧
((bx a0 (x1 + 1)) ≠ 32 →
(Wn (x1 + 1) (ln a0)) ∧
(((bx a0 (x1 + 1)) ≠ 59 →
(((-1) : Int) = (quotedI a0 a1)) ∧
         True)) ∧
((bx a0 (x1 + 1)) = 59 →
(I64 (x1 + 1)) ∧
(((x1 + 1) : Int) = (quotedI a0 a1)) ∧
         True)))))))))
theorem quotedR_vc (a0 : List UInt8) (a1 : Int) : wpTop (stdA XK (tblOf quotedR_tbl) (fun j ns => match j, ns with | 0, [.i y0] => inv_quotedR_0 a0 a1 y0 | _, _ => False) (fun j ns => match j, ns with | 0, [.i y0] => minv_quotedR_0 a0 a1 y0 | _, _ => 0)) { cfg sp with ann := annOf [(41, 60, .inv 0 [.one 5 (.int .i64)] [])] } 3 41 [.str (a0), .int .i64 none (a1)] (quotedR_res a0 a1) = quotedR_VC a0 a1 := by kernel_rfl
def cutR_tbl : List (Nat × Ct KT) := [(41, ct41), (42, ct42)]
abbrev cutR_res (a0 : List UInt8) (a1 : Int) : PV KT := .tuple [.list 5 (((cutS a0 a1 0).1)) (some (0, 0)), .int .i64 none (((cutS a0 a1 0).2))]
abbrev cutR_VC (a0 : List UInt8) (a1 : Int) : Prop :=
(inv_cutR_0 a0 a1 ([] : List Word) 0) ∧
(∀ x0 : List Word,
(∀ x1 : Int,
(inv_cutR_0 a0 a1 x0 x1 →
((x1 < (ln a0) →
(Wn x1 (ln a0)) ∧
(((bx a0 x1) ≠ 59 →
(Wn x1 (ln a0)) ∧
(((bx a0 x1) = 32 →
(I64 (x1 + 1)) ∧
(inv_cutR_0 a0 a1 x0 (x1 + 1)) ∧
 minv_cutR_0 a0 a1 x0 (x1 + 1) < minv_cutR_0 a0 a1 x0 x1)) ∧
((bx a0 x1) ≠ 32 →
(Wn x1 (ln a0)) ∧
(((bx a0 x1) = 34 →
((0 ≤ x1 ∧ x1 < ln a0 ∧ ln a0 ≤ 1000000000)) ∧
(((quotedI a0 x1) < 0 →
(([] : List Word) = ((cutS a0 a1 0).1)) ∧
((x1 : Int) = ((cutS a0 a1 0).2)) ∧
        True)) ∧
(0 ≤ (quotedI a0 x1) →
(I64 (a1 + x1)) ∧
(I64 (x1 + 1)) ∧
(I64 ((quotedI a0 x1) - 1)) ∧
(0 ≤ (x1 + 1) ∧ (x1 + 1) ≤ ((quotedI a0 x1) - 1) ∧ ((quotedI a0 x1) - 1) ≤ ln a0) ∧
(True) ∧
(Short (List.length x0 + List.length [(Word.mk (a1 + x1) (sub a0 (x1 + 1) ((quotedI a0 x1) - 1)) true)])) ∧
(inv_cutR_0 a0 a1 (x0 ++ [(Word.mk (a1 + x1) (sub a0 (x1 + 1) ((quotedI a0 x1) - 1)) true)]) (quotedI a0 x1)) ∧
 minv_cutR_0 a0 a1 (x0 ++ [(Word.mk (a1 + x1) (sub a0 (x1 + 1) ((quotedI a0 x1) - 1)) true)]) (quotedI a0 x1) < minv_cutR_0 a0 a1 x0 x1))) ∧
((bx a0 x1) ≠ 34 →
(Wn x1 (ln a0)) ∧
(True) ∧
(((plainI (bx a0 x1)) = true →
(inv_cutR_1 a0 a1 x1 x1) ∧
(∀ x8 : Int,
(inv_cutR_1 a0 a1 x8 x1 →
((x8 < (ln a0) →
(Wn x8 (ln a0)) ∧
(True) ∧
(((plainI (bx a0 x8)) = true →
(I64 (x8 + 1)) ∧
(inv_cutR_1 a0 a1 (x8 + 1) x1) ∧
 minv_cutR_1 a0 a1 (x8 + 1) x1 < minv_cutR_1 a0 a1 x8 x1)) ∧
((plainI (bx a0 x8)) = false →
(I64 (a1 + x1)) ∧
(0 ≤ x1 ∧ x1 ≤ x8 ∧ x8 ≤ ln a0) ∧
(True) ∧
(Short (List.length x0 + List.length [(Word.mk (a1 + x1) (sub a0 x1 x8) false)])) ∧
(inv_cutR_0 a0 a1 (x0 ++ [(Word.mk (a1 + x1) (sub a0 x1 x8) false)]) x8) ∧
 minv_cutR_0 a0 a1 (x0 ++ [(Word.mk (a1 + x1) (sub a0 x1 x8) false)]) x8 < minv_cutR_0 a0 a1 x0 x1))) ∧
((ln a0) ≤ x8 →
(I64 (a1 + x1)) ∧
(0 ≤ x1 ∧ x1 ≤ x8 ∧ x8 ≤ ln a0) ∧
(True) ∧
(Short (List.length x0 + List.length [(Word.mk (a1 + x1) (sub a0 x1 x8) false)])) ∧
(inv_cutR_0 a0 a1 (x0 ++ [(Word.mk (a1 + x1) (sub a0 x1 x8) false)]) x8) ∧
 minv_cutR_0 a0 a1 (x0 ++ [(Word.mk (a1 + x1) (sub a0 x1 x8) false)]) x8 < minv_cutR_0 a0 a1 x0 x1))))) ∧
((plainI (bx a0 x1)) = false →
(([] : List Word) = ((cutS a0 a1 0).1)) ∧
((x1 : Int) = ((cutS a0 a1 0).2)) ∧
        True))))) ∧
((bx a0 x1) = 59 →
(x0 = ((cutS a0 a1 0).1)) ∧
(((-1) : Int) = ((cutS a0 a1 0).2)) ∧
     True))) ∧
((ln a0) ≤ x1 →
(x0 = ((cutS a0 a1 0).1)) ∧
(((-1) : Int) = ((cutS a0 a1 0).2)) ∧
    True))))
theorem cutR_vc (a0 : List UInt8) (a1 : Int) : wpTop (stdA XK (tblOf cutR_tbl) (fun j ns => match j, ns with | 0, [.l 5 y0, .i y1] => inv_cutR_0 a0 a1 y0 y1 | 1, [.i y0, .i y1] => inv_cutR_1 a0 a1 y0 y1 | _, _ => False) (fun j ns => match j, ns with | 0, [.l 5 y0, .i y1] => minv_cutR_0 a0 a1 y0 y1 | 1, [.i y0, .i y1] => minv_cutR_1 a0 a1 y0 y1 | _, _ => 0)) { cfg sp with ann := annOf [(23, 60, .inv 0 [.one 6 (.list 5 true), .one 7 (.int .i64)] []), (23, 494068, .inv 1 [.one 9 (.int .i64)] [.one 7 (.int .i64)])] } 3 23 [.str (a0), .int .i64 none (a1)] (cutR_res a0 a1) = cutR_VC a0 a1 := by kernel_rfl
def RowsR_tbl : List (Nat × Ct KT) := [(23, ct23)]
abbrev RowsR_res (a0 : List UInt8) : PV KT := .tuple [.list 6 (((rowsR a0).1)) (some (0, 0)), .agg [.int .i64 none (((rowsR a0).2.1)), .int .i64 none (((rowsR a0).2.2))]]
abbrev RowsR_VC (a0 : List UInt8) : Prop :=
((20000 < (ln a0) →
(([] : List Row) = ((rowsR a0).1)) ∧
((4 : Int) = ((rowsR a0).2.1)) ∧
((20000 : Int) = ((rowsR a0).2.2)) ∧
 True)) ∧
((ln a0) ≤ 20000 →
(inv_RowsR_0 a0 ([] : List Row) 0) ∧
(∀ x1 : List Row,
(∀ x2 : Int,
(inv_RowsR_0 a0 x1 x2 →
((x2 ≤ (ln a0) →
(inv_RowsR_1 a0 x2 x2) ∧
(∀ x5 : Int,
(inv_RowsR_1 a0 x5 x2 →
((x5 < (ln a0) →
(Wn x5 (ln a0)) ∧
(((bx a0 x5) ≠ 10 →
(I64 (x5 + 1)) ∧
((0 : Int) = 0) ∧
((0 : Int) = 0) ∧
(inv_RowsR_1 a0 (x5 + 1) x2) ∧
 minv_RowsR_1 a0 (x5 + 1) x2 < minv_RowsR_1 a0 x5 x2)) ∧
((bx a0 x5) = 10 →
(I64 (x5 - x2)) ∧
((1000 < (x5 - x2) →
(([] : List Row) = ((rowsR a0).1)) ∧
((4 : Int) = ((rowsR a0).2.1)) ∧
((x2 : Int) = ((rowsR a0).2.2)) ∧
          True)) ∧
((x5 - x2) ≤ 1000 →
(0 ≤ x2 ∧ x2 ≤ x5 ∧ x5 ≤ ln a0) ∧
((ln (sub a0 x2 x5) ≤ 1000 ∧ 0 ≤ x2 ∧ x2 ≤ 100000)) ∧
((0 ≤ ((cutS (sub a0 x2 x5) x2 0).2) →
(I64 (x2 + ((cutS (sub a0 x2 x5) x2 0).2))) ∧
(([] : List Row) = ((rowsR a0).1)) ∧
((3 : Int) = ((rowsR a0).2.1)) ∧
(((x2 + ((cutS (sub a0 x2 x5) x2 0).2)) : Int) = ((rowsR a0).2.2)) ∧
           True)) ∧
(((cutS (sub a0 x2 x5) x2 0).2) < 0 →
((0 < (ln ((cutS (sub a0 x2 x5) x2 0).1)) →
(True) ∧
(Short (List.length x1 + List.length [(Row.mk x2 ((cutS (sub a0 x2 x5) x2 0).1))])) ∧
(I64 (x5 + 1)) ∧
((0 : Int) = 0) ∧
((0 : Int) = 0) ∧
(inv_RowsR_0 a0 (x1 ++ [(Row.mk x2 ((cutS (sub a0 x2 x5) x2 0).1))]) (x5 + 1)) ∧
 minv_RowsR_0 a0 (x1 ++ [(Row.mk x2 ((cutS (sub a0 x2 x5) x2 0).1))]) (x5 + 1) < minv_RowsR_0 a0 x1 x2)) ∧
((ln ((cutS (sub a0 x2 x5) x2 0).1)) ≤ 0 →
(I64 (x5 + 1)) ∧
((0 : Int) = 0) ∧
((0 : Int) = 0) ∧
(inv_RowsR_0 a0 x1 (x5 + 1)) ∧
 minv_RowsR_0 a0 x1 (x5 + 1) < minv_RowsR_0 a0 x1 x2)))))) ∧
((ln a0) ≤ x5 →
(I64 (x5 - x2)) ∧
((1000 < (x5 - x2) →
(([] : List Row) = ((rowsR a0).1)) ∧
((4 : Int) = ((rowsR a0).2.1)) ∧
((x2 : Int) = ((rowsR a0).2.2)) ∧
         True)) ∧
((x5 - x2) ≤ 1000 →
(0 ≤ x2 ∧ x2 ≤ x5 ∧ x5 ≤ ln a0) ∧
((ln (sub a0 x2 x5) ≤ 1000 ∧ 0 ≤ x2 ∧ x2 ≤ 100000)) ∧
((0 ≤ ((cutS (sub a0 x2 x5) x2 0).2) →
(I64 (x2 + ((cutS (sub a0 x2 x5) x2 0).2))) ∧
(([] : List Row) = ((rowsR a0).1)) ∧
((3 : Int) = ((rowsR a0).2.1)) ∧
(((x2 + ((cutS (sub a0 x2 x5) x2 0).2)) : Int) = ((rowsR a0).2.2)) ∧
          True)) ∧
(((cutS (sub a0 x2 x5) x2 0).2) < 0 →
((0 < (ln ((cutS (sub a0 x2 x5) x2 0).1)) →
(True) ∧
(Short (List.length x1 + List.length [(Row.mk x2 ((cutS (sub a0 x2 x5) x2 0).1))])) ∧
(I64 (x5 + 1)) ∧
((0 : Int) = 0) ∧
((0 : Int) = 0) ∧
(inv_RowsR_0 a0 (x1 ++ [(Row.mk x2 ((cutS (sub a0 x2 x5) x2 0).1))]) (x5 + 1)) ∧
 minv_RowsR_0 a0 (x1 ++ [(Row.mk x2 ((cutS (sub a0 x2 x5) x2 0).1))]) (x5 + 1) < minv_RowsR_0 a0 x1 x2)) ∧
((ln ((cutS (sub a0 x2 x5) x2 0).1)) ≤ 0 →
(I64 (x5 + 1)) ∧
((0 : Int) = 0) ∧
((0 : Int) = 0) ∧
(inv_RowsR_0 a0 x1 (x5 + 1)) ∧
 minv_RowsR_0 a0 x1 (x5 + 1) < minv_RowsR_0 a0 x1 x2)))))))) ∧
((ln a0) < x2 →
(x1 = ((rowsR a0).1)) ∧
((0 : Int) = ((rowsR a0).2.1)) ∧
((0 : Int) = ((rowsR a0).2.2)) ∧
     True)))))
theorem RowsR_vc (a0 : List UInt8) : wpTop (stdA XK (tblOf RowsR_tbl) (fun j ns => match j, ns with | 0, [.l 6 y0, .i y1] => inv_RowsR_0 a0 y0 y1 | 1, [.i y0, .i y1] => inv_RowsR_1 a0 y0 y1 | _, _ => False) (fun j ns => match j, ns with | 0, [.l 6 y0, .i y1] => minv_RowsR_0 a0 y0 y1 | 1, [.i y0, .i y1] => minv_RowsR_1 a0 y0 y1 | _, _ => 0)) { cfg sp with ann := annOf [(9, 124, .inv 0 [.one 4 (.list 6 true), .one 5 (.int .i64)] []), (9, 7956, .inv 1 [.one 6 (.int .i64)] [.one 5 (.int .i64)])] } 3 9 [.str (a0)] (RowsR_res a0) = RowsR_VC a0 := by kernel_rfl
def RowsW_tbl : List (Nat × Ct KT) := [(21, ct21), (39, ct39), (57, ct57), (25, ct25)]
abbrev RowsW_res (a0 : List UInt8) : PV KT := .tuple [.list 6 (((rowsR a0).1)) (some (0, 0)), .agg [.int .i64 none (((rowsR a0).2.1)), .int .i64 none (((rowsR a0).2.2))]]
abbrev RowsW_VC (a0 : List UInt8) : Prop :=
((20000 < (ln a0) →
(([] : List Row) = ((rowsR a0).1)) ∧
((4 : Int) = ((rowsR a0).2.1)) ∧
((20000 : Int) = ((rowsR a0).2.2)) ∧
 True)) ∧
((ln a0) ≤ 20000 →
((ln ([10] : List UInt8) = 1 ∧ ln a0 ≤ 100000000)) ∧
(inv_RowsW_0 a0 ([] : List Row) 0 0) ∧
(∀ x1 : List Row,
(∀ x2 : Int,
(∀ x3 : Int,
(inv_RowsW_0 a0 x1 x2 x3 →
((x3 < (ln (splitI (bx ([10] : List UInt8) 0) a0)) →
(Wn x3 (ln (splitI (bx ([10] : List UInt8) 0) a0))) ∧
(I64 ((ln (ix (splitI (bx ([10] : List UInt8) 0) a0) x3)) + 1)) ∧
(I64 (x2 + ((ln (ix (splitI (bx ([10] : List UInt8) 0) a0) x3)) + 1))) ∧
((1000 < (ln (ix (splitI (bx ([10] : List UInt8) 0) a0) x3)) →
(([] : List Row) = ((rowsR a0).1)) ∧
((4 : Int) = ((rowsR a0).2.1)) ∧
((x2 : Int) = ((rowsR a0).2.2)) ∧
       True)) ∧
((ln (ix (splitI (bx ([10] : List UInt8) 0) a0) x3)) ≤ 1000 →
(inv_RowsW_1 a0 ([] : List Word) 0 x2 (ix (splitI (bx ([10] : List UInt8) 0) a0) x3)) ∧
(∀ x7 : List Word,
(∀ x8 : Int,
(inv_RowsW_1 a0 x7 x8 x2 (ix (splitI (bx ([10] : List UInt8) 0) a0) x3) →
(inv_RowsW_2 a0 x8 (ix (splitI (bx ([10] : List UInt8) 0) a0) x3) x8) ∧
(∀ x10 : Int,
(inv_RowsW_2 a0 x10 (ix (splitI (bx ([10] : List UInt8) 0) a0) x3) x8 →
((x10 < (ln (ix (splitI (bx ([10] : List UInt8) 0) a0) x3)) →
(Wn x10 (ln (ix (splitI (bx ([10] : List UInt8) 0) a0) x3))) ∧
(((bx (ix (splitI (bx ([10] : List UInt8) 0) a0) x3) x10) = 32 →
(I64 (x10 + 1)) ∧
((0 : Int) = 0) ∧
(([] : List UInt8) = ([] : List UInt8)) ∧
((0 : Int) = 0) ∧
((ix (splitI (bx ([10] : List UInt8) 0) a0) x3) = (ix (splitI (bx ([10] : List UInt8) 0) a0) x3)) ∧
((x2 : Int) = x2) ∧
(x7 = x7) ∧
((0 : Int) = 0) ∧
((0 : Int) = 0) ∧
(inv_RowsW_2 a0 (x10 + 1) (ix (splitI (bx ([10] : List UInt8) 0) a0) x3) x8) ∧
 minv_RowsW_2 a0 (x10 + 1) (ix (splitI (bx ([10] : List UInt8) 0) a0) x3) x8 < minv_RowsW_2 a0 x10 (ix (splitI (bx ([10] : List UInt8) 0) a0) x3) x8)) ∧
((bx (ix (splitI (bx ([10] : List UInt8) 0) a0) x3) x10) ≠ 32 →
((x10 = (ln (ix (splitI (bx ([10] : List UInt8) 0) a0) x3)) →
((0 < (ln x7) →
(True) ∧
(Short (List.length x1 + List.length [(Row.mk x2 x7)])) ∧
(I64 (x3 + 1)) ∧
((0 : Int) = 0) ∧
((0 : Int) = 0) ∧
(inv_RowsW_0 a0 (x1 ++ [(Row.mk x2 x7)]) (x2 + ((ln (ix (splitI (bx ([10] : List UInt8) 0) a0) x3)) + 1)) (x3 + 1)) ∧
 minv_RowsW_0 a0 (x1 ++ [(Row.mk x2 x7)]) (x2 + ((ln (ix (splitI (bx ([10] : List UInt8) 0) a0) x3)) + 1)) (x3 + 1) < minv_RowsW_0 a0 x1 x2 x3)) ∧
((ln x7) ≤ 0 →
(I64 (x3 + 1)) ∧
((0 : Int) = 0) ∧
((0 : Int) = 0) ∧
(inv_RowsW_0 a0 x1 (x2 + ((ln (ix (splitI (bx ([10] : List UInt8) 0) a0) x3)) + 1)) (x3 + 1)) ∧
 minv_RowsW_0 a0 x1 (x2 + ((ln (ix (splitI (bx ([10] : List UInt8) 0) a0) x3)) + 1)) (x3 + 1) < minv_RowsW_0 a0 x1 x2 x3))) ∧
(x10 ≠ (ln (ix (splitI (bx ([10] : List UInt8) 0) a0) x3)) →
(Wn x10 (ln (ix (splitI (bx ([10] : List UInt8) 0) a0) x3))) ∧
(((bx (ix (splitI (bx ([10] : List UInt8) 0) a0) x3) x10) = 59 →
((0 < (ln x7) →
(True) ∧
(Short (List.length x1 + List.length [(Row.mk x2 x7)])) ∧
(I64 (x3 + 1)) ∧
((0 : Int) = 0) ∧
((0 : Int) = 0) ∧
(inv_RowsW_0 a0 (x1 ++ [(Row.mk x2 x7)]) (x2 + ((ln (ix (splitI (bx ([10] : List UInt8) 0) a0) x3)) + 1)) (x3 + 1)) ∧
 minv_RowsW_0 a0 (x1 ++ [(Row.mk x2 x7)]) (x2 + ((ln (ix (splitI (bx ([10] : List UInt8) 0) a0) x3)) + 1)) (x3 + 1) < minv_RowsW_0 a0 x1 x2 x3)) ∧
((ln x7) ≤ 0 →
(I64 (x3 + 1)) ∧
((0 : Int) = 0) ∧
((0 : Int) = 0) ∧
(inv_RowsW_0 a0 x1 (x2 + ((ln (ix (splitI (bx ([10] : List UInt8) 0) a0) x3)) + 1)) (x3 + 1)) ∧
 minv_RowsW_0 a0 x1 (x2 + ((ln (ix (splitI (bx ([10] : List UInt8) 0) a0) x3)) + 1)) (x3 + 1) < minv_RowsW_0 a0 x1 x2 x3))) ∧
((bx (ix (splitI (bx ([10] : List UInt8) 0) a0) x3) x10) ≠ 59 →
(Wn x10 (ln (ix (splitI (bx ([10] : List UInt8) 0) a0) x3))) ∧
((U8 (bx (ix (splitI (bx ([10] : List UInt8) 0) a0) x3) x10))) ∧
(((classI (bx (ix (splitI (bx ([10] : List UInt8) 0) a0) x3) x10)) = 120 →
((0 ≤ x10 →
(I64 (x2 + x10)) ∧
(([] : List Row) = ((rowsR a0).1)) ∧
((3 : Int) = ((rowsR a0).2.1)) ∧
(((x2 + x10) : Int) = ((rowsR a0).2.2)) ∧
                  True)) ∧
(x10 < 0 →
(I64 (0 + x2)) ∧
(True) ∧
(Short (List.length x7 + List.length [(Word.mk (0 + x2) ([] : List UInt8) false)])) ∧
((x2 : Int) = x2) ∧
(x1 = x1) ∧
((ix (splitI (bx ([10] : List UInt8) 0) a0) x3) = (ix (splitI (bx ([10] : List UInt8) 0) a0) x3)) ∧
((0 : Int) = 0) ∧
((0 : Int) = 0) ∧
(inv_RowsW_1 a0 (x7 ++ [(Word.mk (0 + x2) ([] : List UInt8) false)]) x10 x2 (ix (splitI (bx ([10] : List UInt8) 0) a0) x3)) ∧
 minv_RowsW_1 a0 (x7 ++ [(Word.mk (0 + x2) ([] : List UInt8) false)]) x10 x2 (ix (splitI (bx ([10] : List UInt8) 0) a0) x3) < minv_RowsW_1 a0 x7 x8 x2 (ix (splitI (bx ([10] : List UInt8) 0) a0) x3)))) ∧
((classI (bx (ix (splitI (bx ([10] : List UInt8) 0) a0) x3) x10)) ≠ 120 →
(((classI (bx (ix (splitI (bx ([10] : List UInt8) 0) a0) x3) x10)) = 113 →
(I64 (x10 + 1)) ∧
(0 ≤ (x10 + 1) ∧ (x10 + 1) ≤ ln (ix (splitI (bx ([10] : List UInt8) 0) a0) x3)) ∧
(True) ∧
((0 < x10 →
(I64 (x10 - 1)) ∧
(Wn (x10 - 1) (ln (ix (splitI (bx ([10] : List UInt8) 0) a0) x3))) ∧
(((bx (ix (splitI (bx ([10] : List UInt8) 0) a0) x3) (x10 - 1)) ≠ 32 →
((0 ≤ x10 →
(I64 (x2 + x10)) ∧
(([] : List Row) = ((rowsR a0).1)) ∧
((3 : Int) = ((rowsR a0).2.1)) ∧
(((x2 + x10) : Int) = ((rowsR a0).2.2)) ∧
                     True)) ∧
(x10 < 0 →
(I64 (0 + x2)) ∧
(True) ∧
(Short (List.length x7 + List.length [(Word.mk (0 + x2) ([] : List UInt8) false)])) ∧
((x2 : Int) = x2) ∧
(x1 = x1) ∧
((ix (splitI (bx ([10] : List UInt8) 0) a0) x3) = (ix (splitI (bx ([10] : List UInt8) 0) a0) x3)) ∧
((0 : Int) = 0) ∧
((0 : Int) = 0) ∧
(inv_RowsW_1 a0 (x7 ++ [(Word.mk (0 + x2) ([] : List UInt8) false)]) x10 x2 (ix (splitI (bx ([10] : List UInt8) 0) a0) x3)) ∧
 minv_RowsW_1 a0 (x7 ++ [(Word.mk (0 + x2) ([] : List UInt8) false)]) x10 x2 (ix (splitI (bx ([10] : List UInt8) 0) a0) x3) < minv_RowsW_1 a0 x7 x8 x2 (ix (splitI (bx ([10] : List UInt8) 0) a0) x3)))) ∧
((bx (ix (splitI (bx ([10] : List UInt8) 0) a0) x3) (x10 - 1)) = 32 →
(((idxB (fr (ix (splitI (bx ([10] : List UInt8) 0) a0) x3) (x10 + 1)) 34) < 0 →
((0 ≤ x10 →
(I64 (x2 + x10)) ∧
(([] : List Row) = ((rowsR a0).1)) ∧
((3 : Int) = ((rowsR a0).2.1)) ∧
(((x2 + x10) : Int) = ((rowsR a0).2.2)) ∧
                      True)) ∧
(x10 < 0 →
(I64 (0 + x2)) ∧
(True) ∧
(Short (List.length x7 + List.length [(Word.mk (0 + x2) ([] : List UInt8) false)])) ∧
((x2 : Int) = x2) ∧
(x1 = x1) ∧
((ix (splitI (bx ([10] : List UInt8) 0) a0) x3) = (ix (splitI (bx ([10] : List UInt8) 0) a0) x3)) ∧
((0 : Int) = 0) ∧
((0 : Int) = 0) ∧
(inv_RowsW_1 a0 (x7 ++ [(Word.mk (0 + x2) ([] : List UInt8) false)]) x10 x2 (ix (splitI (bx ([10] : List UInt8) 0) a0) x3)) ∧
 minv_RowsW_1 a0 (x7 ++ [(Word.mk (0 + x2) ([] : List UInt8) false)]) x10 x2 (ix (splitI (bx ([10] : List UInt8) 0) a0) x3) < minv_RowsW_1 a0 x7 x8 x2 (ix (splitI (bx ([10] : List UInt8) 0) a0) x3)))) ∧
(0 ≤ (idxB (fr (ix (splitI (bx ([10] : List UInt8) 0) a0) x3) (x10 + 1)) 34) →
(I64 (x10 + 1)) ∧
(I64 (x10 + 1)) ∧
(I64 ((x10 + 1) + (idxB (fr (ix (splitI (bx ([10] : List UInt8) 0) a0) x3) (x10 + 1)) 34))) ∧
(0 ≤ (x10 + 1) ∧ (x10 + 1) ≤ ((x10 + 1) + (idxB (fr (ix (splitI (bx ([10] : List UInt8) 0) a0) x3) (x10 + 1)) 34)) ∧ ((x10 + 1) + (idxB (fr (ix (splitI (bx ([10] : List UInt8) 0) a0) x3) (x10 + 1)) 34)) ≤ ln (ix (splitI (bx ([10] : List UInt8) 0) a0) x3)) ∧
((ln (sub (ix (splitI (bx ([10] : List UInt8) 0) a0) x3) (x10 + 1) ((x10 + 1) + (idxB (fr (ix (splitI (bx ([10] : List UInt8) 0) a0) x3) (x10 + 1)) 34))) ≤ 1000000000)) ∧
(((quotedB (sub (ix (splitI (bx ([10] : List UInt8) 0) a0) x3) (x10 + 1) ((x10 + 1) + (idxB (fr (ix (splitI (bx ([10] : List UInt8) 0) a0) x3) (x10 + 1)) 34)))) = false →
((0 ≤ x10 →
(I64 (x2 + x10)) ∧
(([] : List Row) = ((rowsR a0).1)) ∧
((3 : Int) = ((rowsR a0).2.1)) ∧
(((x2 + x10) : Int) = ((rowsR a0).2.2)) ∧
                       True)) ∧
(x10 < 0 →
(I64 (0 + x2)) ∧
(True) ∧
(Short (List.length x7 + List.length [(Word.mk (0 + x2) ([] : List UInt8) false)])) ∧
((x2 : Int) = x2) ∧
(x1 = x1) ∧
((ix (splitI (bx ([10] : List UInt8) 0) a0) x3) = (ix (splitI (bx ([10] : List UInt8) 0) a0) x3)) ∧
((0 : Int) = 0) ∧
((0 : Int) = 0) ∧
(inv_RowsW_1 a0 (x7 ++ [(Word.mk (0 + x2) ([] : List UInt8) false)]) x10 x2 (ix (splitI (bx ([10] : List UInt8) 0) a0) x3)) ∧
 minv_RowsW_1 a0 (x7 ++ [(Word.mk (0 + x2) ([] : List UInt8) false)]) x10 x2 (ix (splitI (bx ([10] : List UInt8) 0) a0) x3) < minv_RowsW_1 a0 x7 x8 x2 (ix (splitI (bx ([10] : List UInt8) 0) a0) x3)))) ∧
((quotedB (sub (ix (splitI (bx ([10] : List UInt8) 0) a0) x3) (x10 + 1) ((x10 + 1) + (idxB (fr (ix (splitI (bx ([10] : List UInt8) 0) a0) x3) (x10 + 1)) 34)))) = true →
(I64 (x10 + (idxB (fr (ix (splitI (bx ([10] : List UInt8) 0) a0) x3) (x10 + 1)) 34))) ∧
(I64 ((x10 + (idxB (fr (ix (splitI (bx ([10] : List UInt8) 0) a0) x3) (x10 + 1)) 34)) + 2)) ∧
((((x10 + (idxB (fr (ix (splitI (bx ([10] : List UInt8) 0) a0) x3) (x10 + 1)) 34)) + 2) < (ln (ix (splitI (bx ([10] : List UInt8) 0) a0) x3)) →
(Wn ((x10 + (idxB (fr (ix (splitI (bx ([10] : List UInt8) 0) a0) x3) (x10 + 1)) 34)) + 2) (ln (ix (splitI (bx ([10] : List UInt8) 0) a0) x3))) ∧
(((bx (ix (splitI (bx ([10] : List UInt8) 0) a0) x3) ((x10 + (idxB (fr (ix (splitI (bx ([10] : List UInt8) 0) a0) x3) (x10 + 1)) 34)) + 2)) ≠ 32 →
(Wn ((x10 + (idxB (fr (ix (splitI (bx ([10] : List UInt8) 0) a0) x3) (x10 + 1)) 34)) + 2) (ln (ix (splitI (bx ([10] : List UInt8) 0) a0) x3))) ∧
(((bx (ix (splitI (bx ([10] : List UInt8) 0) a0) x3) ((x10 + (idxB (fr (ix (splitI (bx ([10] : List UInt8) 0) a0) x3) (x10 + 1)) 34)) + 2)) ≠ 59 →
((0 ≤ x10 →
(I64 (x2 + x10)) ∧
(([] : List Row) = ((rowsR a0).1)) ∧
((3 : Int) = ((rowsR a0).2.1)) ∧
(((x2 + x10) : Int) = ((rowsR a0).2.2)) ∧
                          True)) ∧
(x10 < 0 →
(I64 (0 + x2)) ∧
(True) ∧
(Short (List.length x7 + List.length [(Word.mk (0 + x2) ([] : List UInt8) false)])) ∧
((x2 : Int) = x2) ∧
(x1 = x1) ∧
((ix (splitI (bx ([10] : List UInt8) 0) a0) x3) = (ix (splitI (bx ([10] : List UInt8) 0) a0) x3)) ∧
((0 : Int) = 0) ∧
((0 : Int) = 0) ∧
(inv_RowsW_1 a0 (x7 ++ [(Word.mk (0 + x2) ([] : List UInt8) false)]) ((x10 + (idxB (fr (ix (splitI (bx ([10] : List UInt8) 0) a0) x3) (x10 + 1)) 34)) + 2) x2 (ix (splitI (bx ([10] : List UInt8) 0) a0) x3)) ∧
 minv_RowsW_1 a0 (x7 ++ [(Word.mk (0 + x2) ([] : List UInt8) false)]) ((x10 + (idxB (fr (ix (splitI (bx ([10] : List UInt8) 0) a0) x3) (x10 + 1)) 34)) + 2) x2 (ix (splitI (bx ([10] : List UInt8) 0) a0) x3) < minv_RowsW_1 a0 x7 x8 x2 (ix (splitI (bx ([10] : List UInt8) 0) a0) x3)))) ∧
((bx (ix (splitI (bx ([10] : List UInt8) 0) a0) x3) ((x10 + (idxB (fr (ix (splitI (bx ([10] : List UInt8) 0) a0) x3) (x10 + 1)) 34)) + 2)) = 59 →
(I64 (x10 + 1)) ∧
(I64 (((x10 + (idxB (fr (ix (splitI (bx ([10] : List UInt8) 0) a0) x3) (x10 + 1)) 34)) + 2) - 1)) ∧
(0 ≤ (x10 + 1) ∧ (x10 + 1) ≤ (((x10 + (idxB (fr (ix (splitI (bx ([10] : List UInt8) 0) a0) x3) (x10 + 1)) 34)) + 2) - 1) ∧ (((x10 + (idxB (fr (ix (splitI (bx ([10] : List UInt8) 0) a0) x3) (x10 + 1)) 34)) + 2) - 1) ≤ ln (ix (splitI (bx ([10] : List UInt8) 0) a0) x3)) ∧
(I64 (x10 + x2)) ∧
(True) ∧
(Short (List.length x7 + List.length [(Word.mk (x10 + x2) (sub (ix (splitI (bx ([10] : List UInt8) 0) a0) x3) (x10 + 1) (((x10 + (idxB (fr (ix (splitI (bx ([10] : List UInt8) 0) a0) x3) (x10 + 1)) 34)) + 2) - 1)) true)])) ∧
((x2 : Int) = x2) ∧
(x1 = x1) ∧
((ix (splitI (bx ([10] : List UInt8) 0) a0) x3) = (ix (splitI (bx ([10] : List UInt8) 0) a0) x3)) ∧
((0 : Int) = 0) ∧
((0 : Int) = 0) ∧
(inv_RowsW_1 a0 (x7 ++ [(Word.mk (x10 + x2) (sub (ix (splitI (bx ([10] : List UInt8) 0) a0) x3) (x10 + 1) (((x10 + (idxB (fr (ix (splitI (bx ([10] : List UInt8) 0) a0) x3) (x10 + 1)) 34)) + 2) - 1)) true)]) ((x10 + (idxB (fr (ix (splitI (bx ([10] : List UInt8) 0) a0) x3) (x10 + 1)) 34)) + 2) x2 (ix (splitI (bx ([10] : List UInt8) 0) a0) x3)) ∧
 minv_RowsW_1 a0 (x7 ++ [(Word.mk (x10 + x2) (sub (ix (splitI (bx ([10] : List UInt8) 0) a0) x3) (x10 + 1) (((x10 + (idxB (fr (ix (splitI (bx ([10] : List UInt8) 0) a0) x3) (x10 + 1)) 34)) + 2) - 1)) true)]) ((x10 + (idxB (fr (ix (splitI (bx ([10] : List UInt8) 0) a0) x3) (x10 + 1)) 34)) + 2) x2 (ix (splitI (bx ([10] : List UInt8) 0) a0) x3) < minv_RowsW_1 a0 x7 x8 x2 (ix (splitI (bx ([10] : List UInt8) 0) a0) x3)))) ∧
((bx (ix (splitI (bx ([10] : List UInt8) 0) a0) x3) ((x10 + (idxB (fr (ix (splitI (bx ([10] : List UInt8) 0) a0) x3) (x10 + 1)) 34)) + 2)) = 32 →
(I64 (x10 + 1)) ∧
(I64 (((x10 + (idxB (fr (ix (splitI (bx ([10] : List UInt8) 0) a0) x3) (x10 + 1)) 34)) + 2) - 1)) ∧
(0 ≤ (x10 + 1) ∧ (x10 + 1) ≤ (((x10 + (idxB (fr (ix (splitI (bx ([10] : List UInt8) 0) a0) x3) (x10 + 1)) 34)) + 2) - 1) ∧ (((x10 + (idxB (fr (ix (splitI (bx ([10] : List UInt8) 0) a0) x3) (x10 + 1)) 34)) + 2) - 1) ≤ ln (ix (splitI (bx ([10] : List UInt8) 0) a0) x3)) ∧
(I64 (x10 + x2)) ∧
(True) ∧
(Short (List.length x7 + List.length [(Word.mk (x10 + x2) (sub (ix (splitI (bx ([10] : List UInt8) 0) a0) x3) (x10 + 1) (((x10 + (idxB (fr (ix (splitI (bx ([10] : List UInt8) 0) a0) x3) (x10 + 1)) 34)) + 2) - 1)) true)])) ∧
((x2 : Int) = x2) ∧
(x1 = x1) ∧
((ix (splitI (bx ([10] : List UInt8) 0) a0) x3) = (ix (splitI (bx ([10] : List UInt8) 0) a0) x3)) ∧
((0 : Int) = 0) ∧
((0 : Int) = 0) ∧
(inv_RowsW_1 a0 (x7 ++ [(Word.mk (x10 + x2) (sub (ix (splitI (bx ([10] : List UInt8) 0) a0) x3) (x10 + 1) (((x10 + (idxB (fr (ix (splitI (bx ([10] : List UInt8) 0) a0) x3) (x10 + 1)) 34)) + 2) - 1)) true)]) ((x10 + (idxB (fr (ix (splitI (bx ([10] : List UInt8) 0) a0) x3) (x10 + 1)) 34)) + 2) x2 (ix (splitI (bx ([10] : List UInt8) 0) a0) x3)) ∧
 minv_RowsW_1 a0 (x7 ++ [(Word.mk (x10 + x2) (sub (ix (splitI (bx ([10] : List UInt8) 0) a0) x3) (x10 + 1) (((x10 + (idxB (fr (ix (splitI (bx ([10] : List UInt8) 0) a0) x3) (x10 + 1)) 34)) + 2) - 1)) true)]) ((x10 + (idxB (fr (ix (splitI (bx ([10] : List UInt8) 0) a0) x3) (x10 + 1)) 34)) + 2) x2 (ix (splitI (bx ([10] : List UInt8) 0) a0) x3) < minv_RowsW_1 a0 x7 x8 x2 (ix (splitI (bx ([10] : List UInt8) 0) a0) x3)))) ∧
((ln (ix (splitI (bx ([10] : List UInt8) 0) a0) x3)) ≤ ((x10 + (idxB (fr (ix (splitI (bx ([10] : List UInt8) 0) a0) x3) (x10 + 1)) 34)) + 2) →
(I64 (x10 + 1)) ∧
(I64 (((x10 + (idxB (fr (ix (splitI (bx ([10] : List UInt8) 0) a0) x3) (x10 + 1)) 34)) + 2) - 1)) ∧
(0 ≤ (x10 + 1) ∧ (x10 + 1) ≤ (((x10 + (idxB (fr (ix (splitI (bx ([10] : List UInt8) 0) a0) x3) (x10 + 1)) 34)) + 2) - 1) ∧ (((x10 + (idxB (fr (ix (splitI (bx ([10] : List UInt8) 0) a0) x3) (x10 + 1)) 34)) + 2) - 1) ≤ ln (ix (splitI (bx ([10] : List UInt8) 0) a0) x3)) ∧
(I64 (x10 + x2)) ∧
(True) ∧
(Short (List.length x7 + List.length [(Word.mk (x10 + x2) (sub (ix (splitI (bx ([10] : List UInt8) 0) a0) x3) (x10 + 1) (((x10 + (idxB (fr (ix (splitI (bx ([10] : List UInt8) 0) a0) x3) (x10 + 1)) 34)) + 2) - 1)) true)])) ∧
((x2 : Int) = x2) ∧
(x1 = x1) ∧
((ix (splitI (bx ([10] : List UInt8) 0) a0) x3) = (ix (splitI (bx ([10] : List UInt8) 0) a0) x3)) ∧
((0 : Int) = 0) ∧
((0 : Int) = 0) ∧
(inv_RowsW_1 a0 (x7 ++ [(Word.mk (x10 + x2) (sub (ix (splitI (bx ([10] : List UInt8) 0) a0) x3) (x10 + 1) (((x10 + (idxB (fr (ix (splitI (bx ([10] : List UInt8) 0) a0) x3) (x10 + 1)) 34)) + 2) - 1)) true)]) ((x10 + (idxB (fr (ix (splitI (bx ([10] : List UInt8) 0) a0) x3) (x10 + 1)) 34)) + 2) x2 (ix (splitI (bx ([10] : List UInt8) 0) a0) x3)) ∧
 minv_RowsW_1 a0 (x7 ++ [(Word.mk (x10 + x2) (sub (ix (splitI (bx ([10] : List UInt8) 0) a0) x3) (x10 + 1) (((x10 + (idxB (fr (ix (splitI (bx ([10] : List UInt8) 0) a0) x3) (x10 + 1)) 34)) + 2) - 1)) true)]) ((x10 + (idxB (fr (ix (splitI (bx ([10] : List UInt8) 0) a0) x3) (x10 + 1)) 34)) + 2) x2 (ix (splitI (bx ([10] : List UInt8) 0) a0) x3) < minv_RowsW_1 a0 x7 x8 x2 (ix (splitI (bx ([10] : List UInt8) 0) a0) x3))))))) ∧
(x10 ≤ 0 →
(((idxB (fr (ix (splitI (bx ([10] : List UInt8) 0) a0) x3) (x10 + 1)) 34) < 0 →
((0 ≤ x10 →
(I64 (x2 + x10)) ∧
(([] : List Row) = ((rowsR a0).1)) ∧
((3 : Int) = ((rowsR a0).2.1)) ∧
(((x2 + x10) : Int) = ((rowsR a0).2.2)) ∧
                     True)) ∧
(x10 < 0 →
(I64 (0 + x2)) ∧
(True) ∧
(Short (List.length x7 + List.length [(Word.mk (0 + x2) ([] : List UInt8) false)])) ∧
((x2 : Int) = x2) ∧
(x1 = x1) ∧
((ix (splitI (bx ([10] : List UInt8) 0) a0) x3) = (ix (splitI (bx ([10] : List UInt8) 0) a0) x3)) ∧
((0 : Int) = 0) ∧
((0 : Int) = 0) ∧
(inv_RowsW_1 a0 (x7 ++ [(Word.mk (0 + x2) ([] : List UInt8) false)]) x10 x2 (ix (splitI (bx ([10] : List UInt8) 0) a0) x3)) ∧
 minv_RowsW_1 a0 (x7 ++ [(Word.mk (0 + x2) ([] : List UInt8) false)]) x10 x2 (ix (splitI (bx ([10] : List UInt8) 0) a0) x3) < minv_RowsW_1 a0 x7 x8 x2 (ix (splitI (bx ([10] : List UInt8) 0) a0) x3)))) ∧
(0 ≤ (idxB (fr (ix (splitI (bx ([10] : List UInt8) 0) a0) x3) (x10 + 1)) 34) →
(I64 (x10 + 1)) ∧
(I64 (x10 + 1)) ∧
(I64 ((x10 + 1) + (idxB (fr (ix (splitI (bx ([10] : List UInt8) 0) a0) x3) (x10 + 1)) 34))) ∧
(0 ≤ (x10 + 1) ∧ (x10 + 1) ≤ ((x10 + 1) + (idxB (fr (ix (splitI (bx ([10] : List UInt8) 0) a0) x3) (x10 + 1)) 34)) ∧ ((x10 + 1) + (idxB (fr (ix (splitI (bx ([10] : List UInt8) 0) a0) x3) (x10 + 1)) 34)) ≤ ln (ix (splitI (bx ([10] : List UInt8) 0) a0) x3)) ∧
((ln (sub (ix (splitI (bx ([10] : List UInt8) 0) a0) x3) (x10 + 1) ((x10 + 1) + (idxB (fr (ix (splitI (bx ([10] : List UInt8) 0) a0) x3) (x10 + 1)) 34))) ≤ 1000000000)) ∧
(((quotedB (sub (ix (splitI (bx ([10] : List UInt8) 0) a0) x3) (x10 + 1) ((x10 + 1) + (idxB (fr (ix (splitI (bx ([10] : List UInt8) 0) a0) x3) (x10 + 1)) 34)))) = false →
((0 ≤ x10 →
(I64 (x2 + x10)) ∧
(([] : List Row) = ((rowsR a0).1)) ∧
((3 : Int) = ((rowsR a0).2.1)) ∧
(((x2 + x10) : Int) = ((rowsR a0).2.2)) ∧
                      True)) ∧
(x10 < 0 →
(I64 (0 + x2)) ∧
(True) ∧
(Short (List.length x7 + List.length [(Word.mk (0 + x2) ([] : List UInt8) false)])) ∧
((x2 : Int) = x2) ∧
(x1 = x1) ∧
((ix (splitI (bx ([10] : List UInt8) 0) a0) x3) = (ix (splitI (bx ([10] : List UInt8) 0) a0) x3)) ∧
((0 : Int) = 0) ∧
((0 : Int) = 0) ∧
(inv_RowsW_1 a0 (x7 ++ [(Word.mk (0 + x2) ([] : List UInt8) false)]) x10 x2 (ix (splitI (bx ([10] : List UInt8) 0) a0) x3)) ∧
 minv_RowsW_1 a0 (x7 ++ [(Word.mk (0 + x2) ([] : List UInt8) false)]) x10 x2 (ix (splitI (bx ([10] : List UInt8) 0) a0) x3) < minv_RowsW_1 a0 x7 x8 x2 (ix (splitI (bx ([10] : List UInt8) 0) a0) x3)))) ∧
((quotedB (sub (ix (splitI (bx ([10] : List UInt8) 0) a0) x3) (x10 + 1) ((x10 + 1) + (idxB (fr (ix (splitI (bx ([10] : List UInt8) 0) a0) x3) (x10 + 1)) 34)))) = true →
(I64 (x10 + (idxB (fr (ix (splitI (bx ([10] : List UInt8) 0) a0) x3) (x10 + 1)) 34))) ∧
(I64 ((x10 + (idxB (fr (ix (splitI (bx ([10] : List UInt8) 0) a0) x3) (x10 + 1)) 34)) + 2)) ∧
((((x10 + (idxB (fr (ix (splitI (bx ([10] : List UInt8) 0) a0) x3) (x10 + 1)) 34)) + 2) < (ln (ix (splitI (bx ([10] : List UInt8) 0) a0) x3)) →
(Wn ((x10 + (idxB (fr (ix (splitI (bx ([10] : List UInt8) 0) a0) x3) (x10 + 1)) 34)) + 2) (ln (ix (splitI (bx ([10] : List UInt8) 0) a0) x3))) ∧
(((bx (ix (splitI (bx ([10] : List UInt8) 0) a0) x3) ((x10 + (idxB (fr (ix (splitI (bx ([10] : List UInt8) 0) a0) x3) (x10 + 1)) 34)) + 2)) ≠ 32 →
(Wn ((x10 + (idxB (fr (ix (splitI (bx ([10] : List UInt8) 0) a0) x3) (x10 + 1)) 34)) + 2) (ln (ix (splitI (bx ([10] : List UInt8) 0) a0) x3))) ∧
(((bx (ix (splitI (bx ([10] : List UInt8) 0) a0) x3) ((x10 + (idxB (fr (ix (splitI (bx ([10] : List UInt8) 0) a0) x3) (x10 + 1)) 34)) + 2)) ≠ 59 →
((0 ≤ x10 →
(I64 (x2 + x10)) ∧
(([] : List Row) = ((rowsR a0).1)) ∧
((3 : Int) = ((rowsR a0).2.1)) ∧
(((x2 + x10) : Int) = ((rowsR a0).2.2)) ∧
                         True)) ∧
(x10 < 0 →
(I64 (0 + x2)) ∧
(True) ∧
(Short (List.length x7 + List.length [(Word.mk (0 + x2) ([] : List UInt8) false)])) ∧
((x2 : Int) = x2) ∧
(x1 = x1) ∧
((ix (splitI (bx ([10] : List UInt8) 0) a0) x3) = (ix (splitI (bx ([10] : List UInt8) 0) a0) x3)) ∧
((0 : Int) = 0) ∧
((0 : Int) = 0) ∧
(inv_RowsW_1 a0 (x7 ++ [(Word.mk (0 + x2) ([] : List UInt8) false)]) ((x10 + (idxB (fr (ix (splitI (bx ([10] : List UInt8) 0) a0) x3) (x10 + 1)) 34)) + 2) x2 (ix (splitI (bx ([10] : List UInt8) 0) a0) x3)) ∧
 minv_RowsW_1 a0 (x7 ++ [(Word.mk (0 + x2) ([] : List UInt8) false)]) ((x10 + (idxB (fr (ix (splitI (bx ([10] : List UInt8) 0) a0) x3) (x10 + 1)) 34)) + 2) x2 (ix (splitI (bx ([10] : List UInt8) 0) a0) x3) < minv_RowsW_1 a0 x7 x8 x2 (ix (splitI (bx ([10] : List UInt8) 0) a0) x3)))) ∧
((bx (ix (splitI (bx ([10] : List UInt8) 0) a0) x3) ((x10 + (idxB (fr (ix (splitI (bx ([10] : List UInt8) 0) a0) x3) (x10 + 1)) 34)) + 2)) = 59 →
(I64 (x10 + 1)) ∧
(I64 (((x10 + (idxB (fr (ix (splitI (bx ([10] : List UInt8) 0) a0) x3) (x10 + 1)) 34)) + 2) - 1)) ∧
(0 ≤ (x10 + 1) ∧ (x10 + 1) ≤ (((x10 + (idxB (fr (ix (splitI (bx ([10] : List UInt8) 0) a0) x3) (x10 + 1)) 34)) + 2) - 1) ∧ (((x10 + (idxB (fr (ix (splitI (bx ([10] : List UInt8) 0) a0) x3) (x10 + 1)) 34)) + 2) - 1) ≤ ln (ix (splitI (bx ([10] : List UInt8) 0) a0) x3)) ∧
(I64 (x10 + x2)) ∧
(True) ∧
(Short (List.length x7 + List.length [(Word.mk (x10 + x2) (sub (ix (splitI (bx ([10] : List UInt8) 0) a0) x3) (x10 + 1) (((x10 + (idxB (fr (ix (splitI (bx ([10] : List UInt8) 0) a0) x3) (x10 + 1)) 34)) + 2) - 1)) true)])) ∧
((x2 : Int) = x2) ∧
(x1 = x1) ∧
((ix (splitI (bx ([10] : List UInt8) 0) a0) x3) = (ix (splitI (bx ([10] : List UInt8) 0) a0) x3)) ∧
((0 : Int) = 0) ∧
((0 : Int) = 0) ∧
(inv_RowsW_1 a0 (x7 ++ [(Word.mk (x10 + x2) (sub (ix (splitI (bx ([10] : List UInt8) 0) a0) x3) (x10 + 1) (((x10 + (idxB (fr (ix (splitI (bx ([10] : List UInt8) 0) a0) x3) (x10 + 1)) 34)) + 2) - 1)) true)]) ((x10 + (idxB (fr (ix (splitI (bx ([10] : List UInt8) 0) a0) x3) (x10 + 1)) 34)) + 2) x2 (ix (splitI (bx ([10] : List UInt8) 0) a0) x3)) ∧
 minv_RowsW_1 a0 (x7 ++ [(Word.mk (x10 + x2) (sub (ix (splitI (bx ([10] : List UInt8) 0) a0) x3) (x10 + 1) (((x10 + (idxB (fr (ix (splitI (bx ([10] : List UInt8) 0) a0) x3) (x10 + 1)) 34)) + 2) - 1)) true)]) ((x10 + (idxB (fr (ix (splitI (bx ([10] : List UInt8) 0) a0) x3) (x10 + 1)) 34)) + 2) x2 (ix (splitI (bx ([10] : List UInt8) 0) a0) x3) < minv_RowsW_1 a0 x7 x8 x2 (ix (splitI (bx ([10] : List UInt8) 0) a0) x3)))) ∧
((bx (ix (splitI (bx ([10] : List UInt8) 0) a0) x3) ((x10 + (idxB (fr (ix (splitI (bx ([10] : List UInt8) 0) a0) x3) (x10 + 1)) 34)) + 2)) = 32 →
(I64 (x10 + 1)) ∧
(I64 (((x10 + (idxB (fr (ix (splitI (bx ([10] : List UInt8) 0) a0) x3) (x10 + 1)) 34)) + 2) - 1)) ∧
(0 ≤ (x10 + 1) ∧ (x10 + 1) ≤ (((x10 + (idxB (fr (ix (splitI (bx ([10] : List UInt8) 0) a0) x3) (x10 + 1)) 34)) + 2) - 1) ∧ (((x10 + (idxB (fr (ix (splitI (bx ([10] : List UInt8) 0) a0) x3) (x10 + 1)) 34)) + 2) - 1) ≤ ln (ix (splitI (bx ([10] : List UInt8) 0) a0) x3)) ∧
(I64 (x10 + x2)) ∧
(True) ∧
(Short (List.length x7 + List.length [(Word.mk (x10 + x2) (sub (ix (splitI (bx ([10] : List UInt8) 0) a0) x3) (x10 + 1) (((x10 + (idxB (fr (ix (splitI (bx ([10] : List UInt8) 0) a0) x3) (x10 + 1)) 34)) + 2) - 1)) true)])) ∧
((x2 : Int) = x2) ∧
(x1 = x1) ∧
((ix (splitI (bx ([10] : List UInt8) 0) a0) x3) = (ix (splitI (bx ([10] : List UInt8) 0) a0) x3)) ∧
((0 : Int) = 0) ∧
((0 : Int) = 0) ∧
(inv_RowsW_1 a0 (x7 ++ [(Word.mk (x10 + x2) (sub (ix (splitI (bx ([10] : List UInt8) 0) a0) x3) (x10 + 1) (((x10 + (idxB (fr (ix (splitI (bx ([10] : List UInt8) 0) a0) x3) (x10 + 1)) 34)) + 2) - 1)) true)]) ((x10 + (idxB (fr (ix (splitI (bx ([10] : List UInt8) 0) a0) x3) (x10 + 1)) 34)) + 2) x2 (ix (splitI (bx ([10] : List UInt8) 0) a0) x3)) ∧
 minv_RowsW_1 a0 (x7 ++ [(Word.mk (x10 + x2) (sub (ix (splitI (bx ([10] : List UInt8) 0) a0) x3) (x10 + 1) (((x10 + (idxB (fr (ix (splitI (bx ([10] : List UInt8) 0) a0) x3) (x10 + 1)) 34)) + 2) - 1)) true)]) ((x10 + (idxB (fr (ix (splitI (bx ([10] : List UInt8) 0) a0) x3) (x10 + 1)) 34)) + 2) x2 (ix (splitI (bx ([10] : List UInt8) 0) a0) x3) < minv_RowsW_1 a0 x7 x8 x2 (ix (splitI (bx ([10] : List UInt8) 0) a0) x3)))) ∧
((ln (ix (splitI (bx ([10] : List UInt8) 0) a0) x3)) ≤ ((x10 + (idxB (fr (ix (splitI (bx ([10] : List UInt8) 0) a0) x3) (x10 + 1)) 34)) + 2) →
(I64 (x10 + 1)) ∧
(I64 (((x10 + (idxB (fr (ix (splitI (bx ([10] : List UInt8) 0) a0) x3) (x10 + 1)) 34)) + 2) - 1)) ∧
(0 ≤ (x10 + 1) ∧ (x10 + 1) ≤ (((x10 + (idxB (fr (ix (splitI (bx ([10] : List UInt8) 0) a0) x3) (x10 + 1)) 34)) + 2) - 1) ∧ (((x10 + (idxB (fr (ix (splitI (bx ([10] : List UInt8) 0) a0) x3) (x10 + 1)) 34)) + 2) - 1) ≤ ln (ix (splitI (bx ([10] : List UInt8) 0) a0) x3)) ∧
(I64 (x10 + x2)) ∧
(True) ∧
(Short (List.length x7 + List.length [(Word.mk (x10 + x2) (sub (ix (splitI (bx ([10] : List UInt8) 0) a0) x3) (x10 + 1) (((x10 + (idxB (fr (ix (splitI (bx ([10] : List UInt8) 0) a0) x3) (x10 + 1)) 34)) + 2) - 1)) true)])) ∧
((x2 : Int) = x2) ∧
(x1 = x1) ∧
((ix (splitI (bx ([10] : List UInt8) 0) a0) x3) = (ix (splitI (bx ([10] : List UInt8) 0) a0) x3)) ∧
((0 : Int) = 0) ∧
((0 : Int) = 0) ∧
(inv_RowsW_1 a0 (x7 ++ [(Word.mk (x10 + x2) (sub (ix (splitI (bx ([10] : List UInt8) 0) a0) x3) (x10 + 1) (((x10 + (idxB (fr (ix (splitI (bx ([10] : List UInt8) 0) a0) x3) (x10 + 1)) 34)) + 2) - 1)) true)]) ((x10 + (idxB (fr (ix (splitI (bx ([10] : List UInt8) 0) a0) x3) (x10 + 1)) 34)) + 2) x2 (ix (splitI (bx ([10] : List UInt8) 0) a0) x3)) ∧
 minv_RowsW_1 a0 (x7 ++ [(Word.mk (x10 + x2) (sub (ix (splitI (bx ([10] : List UInt8) 0) a0) x3) (x10 + 1) (((x10 + (idxB (fr (ix (splitI (bx ([10] : List UInt8) 0) a0) x3) (x10 + 1)) 34)) + 2) - 1)) true)]) ((x10 + (idxB (fr (ix (splitI (bx ([10] : List UInt8) 0) a0) x3) (x10 + 1)) 34)) + 2) x2 (ix (splitI (bx ([10] : List UInt8) 0) a0) x3) < minv_RowsW_1 a0 x7 x8 x2 (ix (splitI (bx ([10] : List UInt8) 0) a0) x3))))))) ∧
((classI (bx (ix (splitI (bx ([10] : List UInt8) 0) a0) x3) x10)) ≠ 113 →
(inv_RowsW_3 a0 x10 (ix (splitI (bx ([10] : List UInt8) 0) a0) x3) x10) ∧
(∀ x18 : Int,
(inv_RowsW_3 a0 x18 (ix (splitI (bx ([10] : List UInt8) 0) a0) x3) x10 →
((x18 < (ln (ix (splitI (bx ([10] : List UInt8) 0) a0) x3)) →
(Wn x18 (ln (ix (splitI (bx ([10] : List UInt8) 0) a0) x3))) ∧
((U8 (bx (ix (splitI (bx ([10] : List UInt8) 0) a0) x3) x18))) ∧
(((classI (bx (ix (splitI (bx ([10] : List UInt8) 0) a0) x3) x18)) = 112 →
(I64 (x18 + 1)) ∧
((0 : Int) = 0) ∧
(([] : List UInt8) = ([] : List UInt8)) ∧
((0 : Int) = 0) ∧
((ix (splitI (bx ([10] : List UInt8) 0) a0) x3) = (ix (splitI (bx ([10] : List UInt8) 0) a0) x3)) ∧
((x2 : Int) = x2) ∧
(x7 = x7) ∧
((0 : Int) = 0) ∧
((0 : Int) = 0) ∧
(inv_RowsW_3 a0 (x18 + 1) (ix (splitI (bx ([10] : List UInt8) 0) a0) x3) x10) ∧
 minv_RowsW_3 a0 (x18 + 1) (ix (splitI (bx ([10] : List UInt8) 0) a0) x3) x10 < minv_RowsW_3 a0 x18 (ix (splitI (bx ([10] : List UInt8) 0) a0) x3) x10)) ∧
((classI (bx (ix (splitI (bx ([10] : List UInt8) 0) a0) x3) x18)) ≠ 112 →
(0 ≤ x10 ∧ x10 ≤ x18 ∧ x18 ≤ ln (ix (splitI (bx ([10] : List UInt8) 0) a0) x3)) ∧
(I64 (x10 + x2)) ∧
(True) ∧
(Short (List.length x7 + List.length [(Word.mk (x10 + x2) (sub (ix (splitI (bx ([10] : List UInt8) 0) a0) x3) x10 x18) false)])) ∧
((x2 : Int) = x2) ∧
(x1 = x1) ∧
((ix (splitI (bx ([10] : List UInt8) 0) a0) x3) = (ix (splitI (bx ([10] : List UInt8) 0) a0) x3)) ∧
((0 : Int) = 0) ∧
((0 : Int) = 0) ∧
(inv_RowsW_1 a0 (x7 ++ [(Word.mk (x10 + x2) (sub (ix (splitI (bx ([10] : List UInt8) 0) a0) x3) x10 x18) false)]) x18 x2 (ix (splitI (bx ([10] : List UInt8) 0) a0) x3)) ∧
 minv_RowsW_1 a0 (x7 ++ [(Word.mk (x10 + x2) (sub (ix (splitI (bx ([10] : List UInt8) 0) a0) x3) x10 x18) false)]) x18 x2 (ix (splitI (bx ([10] : List UInt8) 0) a0) x3) < minv_RowsW_1 a0 x7 x8 x2 (ix (splitI (bx ([10] : List UInt8) 0) a0) x3)))) ∧
((ln (ix (splitI (bx ([10] : List UInt8) 0) a0) x3)) ≤ x18 →
(0 ≤ x10 ∧ x10 ≤ x18 ∧ x18 ≤ ln (ix (splitI (bx ([10] : List UInt8) 0) a0) x3)) ∧
(I64 (x10 + x2)) ∧
(True) ∧
(Short (List.length x7 + List.length [(Word.mk (x10 + x2) (sub (ix (splitI (bx ([10] : List UInt8) 0) a0) x3) x10 x18) false)])) ∧
((x2 : Int) = x2) ∧
(x1 = x1) ∧
((ix (splitI (bx ([10] : List UInt8) 0) a0) x3) = (ix (splitI (bx ([10] : List UInt8) 0) a0) x3)) ∧
((0 : Int) = 0) ∧
((0 : Int) = 0) ∧
(inv_RowsW_1 a0 (x7 ++ [(Word.mk (x10 + x2) (sub (ix (splitI (bx ([10] : List UInt8) 0) a0) x3) x10 x18) false)]) x18 x2 (ix (splitI (bx ([10] : List UInt8) 0) a0) x3)) ∧
 minv_RowsW_1 a0 (x7 ++ [(Word.mk (x10 + x2) (sub (ix (splitI (bx ([10] : List UInt8) 0) a0) x3) x10 x18) false)]) x18 x2 (ix (splitI (bx ([10] : List UInt8) 0) a0) x3) < minv_RowsW_1 a0 x7 x8 x2 (ix (splitI (bx ([10] : List UInt8) 0) a0) x3))))))))))) ∧
((ln (ix (splitI (bx ([10] : List UInt8) 0) a0) x3)) ≤ x10 →
((x10 = (ln (ix (splitI (bx ([10] : List UInt8) 0) a0) x3)) →
((0 < (ln x7) →
(True) ∧
(Short (List.length x1 + List.length [(Row.mk x2 x7)])) ∧
(I64 (x3 + 1)) ∧
((0 : Int) = 0) ∧
((0 : Int) = 0) ∧
(inv_RowsW_0 a0 (x1 ++ [(Row.mk x2 x7)]) (x2 + ((ln (ix (splitI (bx ([10] : List UInt8) 0) a0) x3)) + 1)) (x3 + 1)) ∧
 minv_RowsW_0 a0 (x1 ++ [(Row.mk x2 x7)]) (x2 + ((ln (ix (splitI (bx ([10] : List UInt8) 0) a0) x3)) + 1)) (x3 + 1) < minv_RowsW_0 a0 x1 x2 x3)) ∧
((ln x7) ≤ 0 →
(I64 (x3 + 1)) ∧
((0 : Int) = 0) ∧
((0 : Int) = 0) ∧
(inv_RowsW_0 a0 x1 (x2 + ((ln (ix (splitI (bx ([10] : List UInt8) 0) a0) x3)) + 1)) (x3 + 1)) ∧
 minv_RowsW_0 a0 x1 (x2 + ((ln (ix (splitI (bx ([10] : List UInt8) 0) a0) x3)) + 1)) (x3 + 1) < minv_RowsW_0 a0 x1 x2 x3))) ∧
(x10 ≠ (ln (ix (splitI (bx ([10] : List UInt8) 0) a0) x3)) →
(Wn x10 (ln (ix (splitI (bx ([10] : List UInt8) 0) a0) x3))) ∧
(((bx (ix (splitI (bx ([10] : List UInt8) 0) a0) x3) x10) = 59 →
((0 < (ln x7) →
(True) ∧
(Short (List.length x1 + List.length [(Row.mk x2 x7)])) ∧
(I64 (x3 + 1)) ∧
((0 : Int) = 0) ∧
((0 : Int) = 0) ∧
(inv_RowsW_0 a0 (x1 ++ [(Row.mk x2 x7)]) (x2 + ((ln (ix (splitI (bx ([10] : List UInt8) 0) a0) x3)) + 1)) (x3 + 1)) ∧
 minv_RowsW_0 a0 (x1 ++ [(Row.mk x2 x7)]) (x2 + ((ln (ix (splitI (bx ([10] : List UInt8) 0) a0) x3)) + 1)) (x3 + 1) < minv_RowsW_0 a0 x1 x2 x3)) ∧
((ln x7) ≤ 0 →
(I64 (x3 + 1)) ∧
((0 : Int) = 0) ∧
((0 : Int) = 0) ∧
(inv_RowsW_0 a0 x1 (x2 + ((ln (ix (splitI (bx ([10] : List UInt8) 0) a0) x3)) + 1)) (x3 + 1)) ∧
 minv_RowsW_0 a0 x1 (x2 + ((ln (ix (splitI (bx ([10] : List UInt8) 0) a0) x3)) + 1)) (x3 + 1) < minv_RowsW_0 a0 x1 x2 x3))) ∧
((bx (ix (splitI (bx ([10] : List UInt8) 0) a0) x3) x10) ≠ 59 →
(Wn x10 (ln (ix (splitI (bx ([10] : List UInt8) 0) a0) x3))) ∧
((U8 (bx (ix (splitI (bx ([10] : List UInt8) 0) a0) x3) x10))) ∧
(((classI (bx (ix (splitI (bx ([10] : List UInt8) 0) a0) x3) x10)) = 120 →
((0 ≤ x10 →
(I64 (x2 + x10)) ∧
(([] : List Row) = ((rowsR a0).1)) ∧
((3 : Int) = ((rowsR a0).2.1)) ∧
(((x2 + x10) : Int) = ((rowsR a0).2.2)) ∧
                 True)) ∧
(x10 < 0 →
(I64 (0 + x2)) ∧
(True) ∧
(Short (List.length x7 + List.length [(Word.mk (0 + x2) ([] : List UInt8) false)])) ∧
((x2 : Int) = x2) ∧
(x1 = x1) ∧
((ix (splitI (bx ([10] : List UInt8) 0) a0) x3) = (ix (splitI (bx ([10] : List UInt8) 0) a0) x3)) ∧
((0 : Int) = 0) ∧
((0 : Int) = 0) ∧
(inv_RowsW_1 a0 (x7 ++ [(Word.mk (0 + x2) ([] : List UInt8) false)]) x10 x2 (ix (splitI (bx ([10] : List UInt8) 0) a0) x3)) ∧
 minv_RowsW_1 a0 (x7 ++ [(Word.mk (0 + x2) ([] : List UInt8) false)]) x10 x2 (ix (splitI (bx ([10] : List UInt8) 0) a0) x3) < minv_RowsW_1 a0 x7 x8 x2 (ix (splitI (bx ([10] : List UInt8) 0) a0) x3)))) ∧
((classI (bx (ix (splitI (bx ([10] : List UInt8) 0) a0) x3) x10)) ≠ 120 →
(((classI (bx (ix (splitI (bx ([10] : List UInt8) 0) a0) x3) x10)) = 113 →
(I64 (x10 + 1)) ∧
(0 ≤ (x10 + 1) ∧ (x10 + 1) ≤ ln (ix (splitI (bx ([10] : List UInt8) 0) a0) x3)) ∧
(True) ∧
((0 < x10 →
(I64 (x10 - 1)) ∧
(Wn (x10 - 1) (ln (ix (splitI (bx ([10] : List UInt8) 0) a0) x3))) ∧
(((bx (ix (splitI (bx ([10] : List UInt8) 0) a0) x3) (x10 - 1)) ≠ 32 →
((0 ≤ x10 →
(I64 (x2 + x10)) ∧
(([] : List Row) = ((rowsR a0).1)) ∧
((3 : Int) = ((rowsR a0).2.1)) ∧
(((x2 + x10) : Int) = ((rowsR a0).2.2)) ∧
                    True)) ∧
(x10 < 0 →
(I64 (0 + x2)) ∧
(True) ∧
(Short (List.length x7 + List.length [(Word.mk (0 + x2) ([] : List UInt8) false)])) ∧
((x2 : Int) = x2) ∧
(x1 = x1) ∧
((ix (splitI (bx ([10] : List UInt8) 0) a0) x3) = (ix (splitI (bx ([10] : List UInt8) 0) a0) x3)) ∧
((0 : Int) = 0) ∧
((0 : Int) = 0) ∧
(inv_RowsW_1 a0 (x7 ++ [(Word.mk (0 + x2) ([] : List UInt8) false)]) x10 x2 (ix (splitI (bx ([10] : List UInt8) 0) a0) x3)) ∧
 minv_RowsW_1 a0 (x7 ++ [(Word.mk (0 + x2) ([] : List UInt8) false)]) x10 x2 (ix (splitI (bx ([10] : List UInt8) 0) a0) x3) < minv_RowsW_1 a0 x7 x8 x2 (ix (splitI (bx ([10] : List UInt8) 0) a0) x3)))) ∧
((bx (ix (splitI (bx ([10] : List UInt8) 0) a0) x3) (x10 - 1)) = 32 →
(((idxB (fr (ix (splitI (bx ([10] : List UInt8) 0) a0) x3) (x10 + 1)) 34) < 0 →
((0 ≤ x10 →
(I64 (x2 + x10)) ∧
(([] : List Row) = ((rowsR a0).1)) ∧
((3 : Int) = ((rowsR a0).2.1)) ∧
(((x2 + x10) : Int) = ((rowsR a0).2.2)) ∧
                     True)) ∧
(x10 < 0 →
(I64 (0 + x2)) ∧
(True) ∧
(Short (List.length x7 + List.length [(Word.mk (0 + x2) ([] : List UInt8) false)])) ∧
((x2 : Int) = x2) ∧
(x1 = x1) ∧
((ix (splitI (bx ([10] : List UInt8) 0) a0) x3) = (ix (splitI (bx ([10] : List UInt8) 0) a0) x3)) ∧
((0 : Int) = 0) ∧
((0 : Int) = 0) ∧
(inv_RowsW_1 a0 (x7 ++ [(Word.mk (0 + x2) ([] : List UInt8) false)]) x10 x2 (ix (splitI (bx ([10] : List UInt8) 0) a0) x3)) ∧
 minv_RowsW_1 a0 (x7 ++ [(Word.mk (0 + x2) ([] : List UInt8) false)]) x10 x2 (ix (splitI (bx ([10] : List UInt8) 0) a0) x3) < minv_RowsW_1 a0 x7 x8 x2 (ix (splitI (bx ([10] : List UInt8) 0) a0) x3)))) ∧
(0 ≤ (idxB (fr (ix (splitI (bx ([10] : List UInt8) 0) a0) x3) (x10 + 1)) 34) →
(I64 (x10 + 1)) ∧
(I64 (x10 + 1)) ∧
(I64 ((x10 + 1) + (idxB (fr (ix (splitI (bx ([10] : List UInt8) 0) a0) x3) (x10 + 1)) 34))) ∧
(0 ≤ (x10 + 1) ∧ (x10 + 1) ≤ ((x10 + 1) + (idxB (fr (ix (splitI (bx ([10] : List UInt8) 0) a0) x3) (x10 + 1)) 34)) ∧ ((x10 + 1) + (idxB (fr (ix (splitI (bx ([10] : List UInt8) 0) a0) x3) (x10 + 1)) 34)) ≤ ln (ix (splitI (bx ([10] : List UInt8) 0) a0) x3)) ∧
((ln (sub (ix (splitI (bx ([10] : List UInt8) 0) a0) x3) (x10 + 1) ((x10 + 1) + (idxB (fr (ix (splitI (bx ([10] : List UInt8) 0) a0) x3) (x10 + 1)) 34))) ≤ 1000000000)) ∧
(((quotedB (sub (ix (splitI (bx ([10] : List UInt8) 0) a0) x3) (x10 + 1) ((x10 + 1) + (idxB (fr (ix (splitI (bx ([10] : List UInt8) 0) a0) x3) (x10 + 1)) 34)))) = false →
((0 ≤ x10 →
(I64 (x2 + x10)) ∧
(([] : List Row) = ((rowsR a0).1)) ∧
((3 : Int) = ((rowsR a0).2.1)) ∧
(((x2 + x10) : Int) = ((rowsR a0).2.2)) ∧
                      True)) ∧
(x10 < 0 →
(I64 (0 + x2)) ∧
(True) ∧
(Short (List.length x7 + List.length [(Word.mk (0 + x2) ([] : List UInt8) false)])) ∧
((x2 : Int) = x2) ∧
(x1 = x1) ∧
((ix (splitI (bx ([10] : List UInt8) 0) a0) x3) = (ix (splitI (bx ([10] : List UInt8) 0) a0) x3)) ∧
((0 : Int) = 0) ∧
((0 : Int) = 0) ∧
(inv_RowsW_1 a0 (x7 ++ [(Word.mk (0 + x2) ([] : List UInt8) false)]) x10 x2 (ix (splitI (bx ([10] : List UInt8) 0) a0) x3)) ∧
 minv_RowsW_1 a0 (x7 ++ [(Word.mk (0 + x2) ([] : List UInt8) false)]) x10 x2 (ix (splitI (bx ([10] : List UInt8) 0) a0) x3) < minv_RowsW_1 a0 x7 x8 x2 (ix (splitI (bx ([10] : List UInt8) 0) a0) x3)))) ∧
((quotedB (sub (ix (splitI (bx ([10] : List UInt8) 0) a0) x3) (x10 + 1) ((x10 + 1) + (idxB (fr (ix (splitI (bx ([10] : List UInt8) 0) a0) x3) (x10 + 1)) 34)))) = true →
(I64 (x10 + (idxB (fr (ix (splitI (bx ([10] : List UInt8) 0) a0) x3) (x10 + 1)) 34))) ∧
(I64 ((x10 + (idxB (fr (ix (splitI (bx ([10] : List UInt8) 0) a0) x3) (x10 + 1)) 34)) + 2)) ∧
((((x10 + (idxB (fr (ix (splitI (bx ([10] : List UInt8) 0) a0) x3) (x10 + 1)) 34)) + 2) < (ln (ix (splitI (bx ([10] : List UInt8) 0) a0) x3)) →
(Wn ((x10 + (idxB (fr (ix (splitI (bx ([10] : List UInt8) 0) a0) x3) (x10 + 1)) 34)) + 2) (ln (ix (splitI (bx ([10] : List UInt8) 0) a0) x3))) ∧
(((bx (ix (splitI (bx ([10] : List UInt8) 0) a0) x3) ((x10 + (idxB (fr (ix (splitI (bx ([10] : List UInt8) 0) a0) x3) (x10 + 1)) 34)) + 2)) ≠ 32 →
(Wn ((x10 + (idxB (fr (ix (splitI (bx ([10] : List UInt8) 0) a0) x3) (x10 + 1)) 34)) + 2) (ln (ix (splitI (bx ([10] : List UInt8) 0) a0) x3))) ∧
(((bx (ix (splitI (bx ([10] : List UInt8) 0) a0) x3) ((x10 + (idxB (fr (ix (splitI (bx ([10] : List UInt8) 0) a0) x3) (x10 + 1)) 34)) + 2)) ≠ 59 →
((0 ≤ x10 →
(I64 (x2 + x10)) ∧
(([] : List Row) = ((rowsR a0).1)) ∧
((3 : Int) = ((rowsR a0).2.1)) ∧
(((x2 + x10) : Int) = ((rowsR a0).2.2)) ∧
                         True)) ∧
(x10 < 0 →
(I64 (0 + x2)) ∧
(True) ∧
(Short (List.length x7 + List.length [(Word.mk (0 + x2) ([] : List UInt8) false)])) ∧
((x2 : Int) = x2) ∧
(x1 = x1) ∧
((ix (splitI (bx ([10] : List UInt8) 0) a0) x3) = (ix (splitI (bx ([10] : List UInt8) 0) a0) x3)) ∧
((0 : Int) = 0) ∧
((0 : Int) = 0) ∧
(inv_RowsW_1 a0 (x7 ++ [(Word.mk (0 + x2) ([] : List UInt8) false)]) ((x10 + (idxB (fr (ix (splitI (bx ([10] : List UInt8) 0) a0) x3) (x10 + 1)) 34)) + 2) x2 (ix (splitI (bx ([10] : List UInt8) 0) a0) x3)) ∧
 minv_RowsW_1 a0 (x7 ++ [(Word.mk (0 + x2) ([] : List UInt8) false)]) ((x10 + (idxB (fr (ix (splitI (bx ([10] : List UInt8) 0) a0) x3) (x10 + 1)) 34)) + 2) x2 (ix (splitI (bx ([10] : List UInt8) 0) a0) x3) < minv_RowsW_1 a0 x7 x8 x2 (ix (splitI (bx ([10] : List UInt8) 0) a0) x3)))) ∧
((bx (ix (splitI (bx ([10] : List UInt8) 0) a0) x3) ((x10 + (idxB (fr (ix (splitI (bx ([10] : List UInt8) 0) a0) x3) (x10 + 1)) 34)) + 2)) = 59 →
(I64 (x10 + 1)) ∧
(I64 (((x10 + (idxB (fr (ix (splitI (bx ([10] : List UInt8) 0) a0) x3) (x10 + 1)) 34)) + 2) - 1)) ∧
(0 ≤ (x10 + 1) ∧ (x10 + 1) ≤ (((x10 + (idxB (fr (ix (splitI (bx ([10] : List UInt8) 0) a0) x3) (x10 + 1)) 34)) + 2) - 1) ∧ (((x10 + (idxB (fr (ix (splitI (bx ([10] : List UInt8) 0) a0) x3) (x10 + 1)) 34)) + 2) - 1) ≤ ln (ix (splitI (bx ([10] : List UInt8) 0) a0) x3)) ∧
(I64 (x10 + x2)) ∧
(True) ∧
(Short (List.length x7 + List.length [(Word.mk (x10 + x2) (sub (ix (splitI (bx ([10] : List UInt8) 0) a0) x3) (x10 + 1) (((x10 + (idxB (fr (ix (splitI (bx ([10] : List UInt8) 0) a0) x3) (x10 + 1)) 34)) + 2) - 1)) true)])) ∧
((x2 : Int) = x2) ∧
(x1 = x1) ∧
((ix (splitI (bx ([10] : List UInt8) 0) a0) x3) = (ix (splitI (bx ([10] : List UInt8) 0) a0) x3)) ∧
((0 : Int) = 0) ∧
((0 : Int) = 0) ∧
(inv_RowsW_1 a0 (x7 ++ [(Word.mk (x10 + x2) (sub (ix (splitI (bx ([10] : List UInt8) 0) a0) x3) (x10 + 1) (((x10 + (idxB (fr (ix (splitI (bx ([10] : List UInt8) 0) a0) x3) (x10 + 1)) 34)) + 2) - 1)) true)]) ((x10 + (idxB (fr (ix (splitI (bx ([10] : List UInt8) 0) a0) x3) (x10 + 1)) 34)) + 2) x2 (ix (splitI (bx ([10] : List UInt8) 0) a0) x3)) ∧
 minv_RowsW_1 a0 (x7 ++ [(Word.mk (x10 + x2) (sub (ix (splitI (bx ([10] : List UInt8) 0) a0) x3) (x10 + 1) (((x10 + (idxB (fr (ix (splitI (bx ([10] : List UInt8) 0) a0) x3) (x10 + 1)) 34)) + 2) - 1)) true)]) ((x10 + (idxB (fr (ix (splitI (bx ([10] : List UInt8) 0) a0) x3) (x10 + 1)) 34)) + 2) x2 (ix (splitI (bx ([10] : List UInt8) 0) a0) x3) < minv_RowsW_1 a0 x7 x8 x2 (ix (splitI (bx ([10] : List UInt8) 0) a0) x3)))) ∧
((bx (ix (splitI (bx ([10] : List UInt8) 0) a0) x3) ((x10 + (idxB (fr (ix (splitI (bx ([10] : List UInt8) 0) a0) x3) (x10 + 1)) 34)) + 2)) = 32 →
(I64 (x10 + 1)) ∧
(I64 (((x10 + (idxB (fr (ix (splitI (bx ([10] : List UInt8) 0) a0) x3) (x10 + 1)) 34)) + 2) - 1)) ∧
(0 ≤ (x10 + 1) ∧ (x10 + 1) ≤ (((x10 + (idxB (fr (ix (splitI (bx ([10] : List UInt8) 0) a0) x3) (x10 + 1)) 34)) + 2) - 1) ∧ (((x10 + (idxB (fr (ix (splitI (bx ([10] : List UInt8) 0) a0) x3) (x10 + 1)) 34)) + 2) - 1) ≤ ln (ix (splitI (bx ([10] : List UInt8) 0) a0) x3)) ∧
(I64 (x10 + x2)) ∧
(True) ∧
(Short (List.length x7 + List.length [(Word.mk (x10 + x2) (sub (ix (splitI (bx ([10] : List UInt8) 0) a0) x3) (x10 + 1) (((x10 + (idxB (fr (ix (splitI (bx ([10] : List UInt8) 0) a0) x3) (x10 + 1)) 34)) + 2) - 1)) true)])) ∧
((x2 : Int) = x2) ∧
(x1 = x1) ∧
((ix (splitI (bx ([10] : List UInt8) 0) a0) x3) = (ix (splitI (bx ([10] : List UInt8) 0) a0) x3)) ∧
((0 : Int) = 0) ∧
((0 : Int) = 0) ∧
(inv_RowsW_1 a0 (x7 ++ [(Word.mk (x10 + x2) (sub (ix (splitI (bx ([10] : List UInt8) 0) a0) x3) (x10 + 1) (((x10 + (idxB (fr (ix (splitI (bx ([10] : List UInt8) 0) a0) x3) (x10 + 1)) 34)) + 2) - 1)) true)]) ((x10 + (idxB (fr (ix (splitI (bx ([10] : List UInt8) 0) a0) x3) (x10 + 1)) 34)) + 2) x2 (ix (splitI (bx ([10] : List UInt8) 0) a0) x3)) ∧
 minv_RowsW_1 a0 (x7 ++ [(Word.mk (x10 + x2) (sub (ix (splitI (bx ([10] : List UInt8) 0) a0) x3) (x10 + 1) (((x10 + (idxB (fr (ix (splitI (bx ([10] : List UInt8) 0) a0) x3) (x10 + 1)) 34)) + 2) - 1)) true)]) ((x10 + (idxB (fr (ix (splitI (bx ([10] : List UInt8) 0) a0) x3) (x10 + 1)) 34)) + 2) x2 (ix (splitI (bx ([10] : List UInt8) 0) a0) x3) < minv_RowsW_1 a0 x7 x8 x2 (ix (splitI (bx ([10] : List UInt8) 0) a0) x3)))) ∧
((ln (ix (splitI (bx ([10] : List UInt8) 0) a0) x3)) ≤ ((x10 + (idxB (fr (ix (splitI (bx ([10] : List UInt8) 0) a0) x3) (x10 + 1)) 34)) + 2) →
(I64 (x10 + 1)) ∧
(I64 (((x10 + (idxB (fr (ix (splitI (bx ([10] : List UInt8) 0) a0) x3) (x10 + 1)) 34)) + 2) - 1)) ∧
(0 ≤ (x10 + 1) ∧ (x10 + 1) ≤ (((x10 + (idxB (fr (ix (splitI (bx ([10] : List UInt8) 0) a0) x3) (x10 + 1)) 34)) + 2) - 1) ∧ (((x10 + (idxB (fr (ix (splitI (bx ([10] : List UInt8) 0) a0) x3) (x10 + 1)) 34)) + 2) - 1) ≤ ln (ix (splitI (bx ([10] : List UInt8) 0) a0) x3)) ∧
(I64 (x10 + x2)) ∧
(True) ∧
(Short (List.length x7 + List.length [(Word.mk (x10 + x2) (sub (ix (splitI (bx ([10] : List UInt8) 0) a0) x3) (x10 + 1) (((x10 + (idxB (fr (ix (splitI (bx ([10] : List UInt8) 0) a0) x3) (x10 + 1)) 34)) + 2) - 1)) true)])) ∧
((x2 : Int) = x2) ∧
(x1 = x1) ∧
((ix (splitI (bx ([10] : List UInt8) 0) a0) x3) = (ix (splitI (bx ([10] : List UInt8) 0) a0) x3)) ∧
((0 : Int) = 0) ∧
((0 : Int) = 0) ∧
(inv_RowsW_1 a0 (x7 ++ [(Word.mk (x10 + x2) (sub (ix (splitI (bx ([10] : List UInt8) 0) a0) x3) (x10 + 1) (((x10 + (idxB (fr (ix (splitI (bx ([10] : List UInt8) 0) a0) x3) (x10 + 1)) 34)) + 2) - 1)) true)]) ((x10 + (idxB (fr (ix (splitI (bx ([10] : List UInt8) 0) a0) x3) (x10 + 1)) 34)) + 2) x2 (ix (splitI (bx ([10] : List UInt8) 0) a0) x3)) ∧
 minv_RowsW_1 a0 (x7 ++ [(Word.mk (x10 + x2) (sub (ix (splitI (bx ([10] : List UInt8) 0) a0) x3) (x10 + 1) (((x10 + (idxB (fr (ix (splitI (bx ([10] : List UInt8) 0) a0) x3) (x10 + 1)) 34)) + 2) - 1)) true)]) ((x10 + (idxB (fr (ix (splitI (bx ([10] : List UInt8) 0) a0) x3) (x10 + 1)) 34)) + 2) x2 (ix (splitI (bx ([10] : List UInt8) 0) a0) x3) < minv_RowsW_1 a0 x7 x8 x2 (ix (splitI (bx ([10] : List UInt8) 0) a0) x3))))))) ∧
(x10 ≤ 0 →
(((idxB (fr (ix (splitI (bx ([10] : List UInt8) 0) a0) x3) (x10 + 1)) 34) < 0 →
((0 ≤ x10 →
(I64 (x2 + x10)) ∧
(([] : List Row) = ((rowsR a0).1)) ∧
((3 : Int) = ((rowsR a0).2.1)) ∧
(((x2 + x10) : Int) = ((rowsR a0).2.2)) ∧
                    True)) ∧
(x10 < 0 →
(I64 (0 + x2)) ∧
(True) ∧
(Short (List.length x7 + List.length [(Word.mk (0 + x2) ([] : List UInt8) false)])) ∧
((x2 : Int) = x2) ∧
(x1 = x1) ∧
((ix (splitI (bx ([10] : List UInt8) 0) a0) x3) = (ix (splitI (bx ([10] : List UInt8) 0) a0) x3)) ∧
((0 : Int) = 0) ∧
((0 : Int) = 0) ∧
(inv_RowsW_1 a0 (x7 ++ [(Word.mk (0 + x2) ([] : List UInt8) false)]) x10 x2 (ix (splitI (bx ([10] : List UInt8) 0) a0) x3)) ∧
 minv_RowsW_1 a0 (x7 ++ [(Word.mk (0 + x2) ([] : List UInt8) false)]) x10 x2 (ix (splitI (bx ([10] : List UInt8) 0) a0) x3) < minv_RowsW_1 a0 x7 x8 x2 (ix (splitI (bx ([10] : List UInt8) 0) a0) x3)))) ∧
(0 ≤ (idxB (fr (ix (splitI (bx ([10] : List UInt8) 0) a0) x3) (x10 + 1)) 34) →
(I64 (x10 + 1)) ∧
(I64 (x10 + 1)) ∧
(I64 ((x10 + 1) + (idxB (fr (ix (splitI (bx ([10] : List UInt8) 0) a0) x3) (x10 + 1)) 34))) ∧
(0 ≤ (x10 + 1) ∧ (x10 + 1) ≤ ((x10 + 1) + (idxB (fr (ix (splitI (bx ([10] : List UInt8) 0) a0) x3) (x10 + 1)) 34)) ∧ ((x10 + 1) + (idxB (fr (ix (splitI (bx ([10] : List UInt8) 0) a0) x3) (x10 + 1)) 34)) ≤ ln (ix (splitI (bx ([10] : List UInt8) 0) a0) x3)) ∧
((ln (sub (ix (splitI (bx ([10] : List UInt8) 0) a0) x3) (x10 + 1) ((x10 + 1) + (idxB (fr (ix (splitI (bx ([10] : List UInt8) 0) a0) x3) (x10 + 1)) 34))) ≤ 1000000000)) ∧
(((quotedB (sub (ix (splitI (bx ([10] : List UInt8) 0) a0) x3) (x10 + 1) ((x10 + 1) + (idxB (fr (ix (splitI (bx ([10] : List UInt8) 0) a0) x3) (x10 + 1)) 34)))) = false →
((0 ≤ x10 →
(I64 (x2 + x10)) ∧
(([] : List Row) = ((rowsR a0).1)) ∧
((3 : Int) = ((rowsR a0).2.1)) ∧
(((x2 + x10) : Int) = ((rowsR a0).2.2)) ∧
                     True)) ∧
(x10 < 0 →
(I64 (0 + x2)) ∧
(True) ∧
(Short (List.length x7 + List.length [(Word.mk (0 + x2) ([] : List UInt8) false)])) ∧
((x2 : Int) = x2) ∧
(x1 = x1) ∧
((ix (splitI (bx ([10] : List UInt8) 0) a0) x3) = (ix (splitI (bx ([10] : List UInt8) 0) a0) x3)) ∧
((0 : Int) = 0) ∧
((0 : Int) = 0) ∧
(inv_RowsW_1 a0 (x7 ++ [(Word.mk (0 + x2) ([] : List UInt8) false)]) x10 x2 (ix (splitI (bx ([10] : List UInt8) 0) a0) x3)) ∧
 minv_RowsW_1 a0 (x7 ++ [(Word.mk (0 + x2) ([] : List UInt8) false)]) x10 x2 (ix (splitI (bx ([10] : List UInt8) 0) a0) x3) < minv_RowsW_1 a0 x7 x8 x2 (ix (splitI (bx ([10] : List UInt8) 0) a0) x3)))) ∧
((quotedB (sub (ix (splitI (bx ([10] : List UInt8) 0) a0) x3) (x10 + 1) ((x10 + 1) + (idxB (fr (ix (splitI (bx ([10] : List UInt8) 0) a0) x3) (x10 + 1)) 34)))) = true →
(I64 (x10 + (idxB (fr (ix (splitI (bx ([10] : List UInt8) 0) a0) x3) (x10 + 1)) 34))) ∧
(I64 ((x10 + (idxB (fr (ix (splitI (bx ([10] : List UInt8) 0) a0) x3) (x10 + 1)) 34)) + 2)) ∧
((((x10 + (idxB (fr (ix (splitI (bx ([10] : List UInt8) 0) a0) x3) (x10 + 1)) 34)) + 2) < (ln (ix (splitI (bx ([10] : List UInt8) 0) a0) x3)) →
(Wn ((x10 + (idxB (fr (ix (splitI (bx ([10] : List UInt8) 0) a0) x3) (x10 + 1)) 34)) + 2) (ln (ix (splitI (bx ([10] : List UInt8) 0) a0) x3))) ∧
(((bx (ix (splitI (bx ([10] : List UInt8) 0) a0) x3) ((x10 + (idxB (fr (ix (splitI (bx ([10] : List UInt8) 0) a0) x3) (x10 + 1)) 34)) + 2)) ≠ 32 →
(Wn ((x10 + (idxB (fr (ix (splitI (bx ([10] : List UInt8) 0) a0) x3) (x10 + 1)) 34)) + 2) (ln (ix (splitI (bx ([10] : List UInt8) 0) a0) x3))) ∧
(((bx (ix (splitI (bx ([10] : List UInt8) 0) a0) x3) ((x10 + (idxB (fr (ix (splitI (bx ([10] : List UInt8) 0) a0) x3) (x10 + 1)) 34)) + 2)) ≠ 59 →
((0 ≤ x10 →
(I64 (x2 + x10)) ∧
(([] : List Row) = ((rowsR a0).1)) ∧
((3 : Int) = ((rowsR a0).2.1)) ∧
(((x2 + x10) : Int) = ((rowsR a0).2.2)) ∧
                        True)) ∧
(x10 < 0 →
(I64 (0 + x2)) ∧
(True) ∧
(Short (List.length x7 + List.length [(Word.mk (0 + x2) ([] : List UInt8) false)])) ∧
((x2 : Int) = x2) ∧
(x1 = x1) ∧
((ix (splitI (bx ([10] : List UInt8) 0) a0) x3) = (ix (splitI (bx ([10] : List UInt8) 0) a0) x3)) ∧
((0 : Int) = 0) ∧
((0 : Int) = 0) ∧
(inv_RowsW_1 a0 (x7 ++ [(Word.mk (0 + x2) ([] : List UInt8) false)]) ((x10 + (idxB (fr (ix (splitI (bx ([10] : List UInt8) 0) a0) x3) (x10 + 1)) 34)) + 2) x2 (ix (splitI (bx ([10] : List UInt8) 0) a0) x3)) ∧
 minv_RowsW_1 a0 (x7 ++ [(Word.mk (0 + x2) ([] : List UInt8) false)]) ((x10 + (idxB (fr (ix (splitI (bx ([10] : List UInt8) 0) a0) x3) (x10 + 1)) 34)) + 2) x2 (ix (splitI (bx ([10] : List UInt8) 0) a0) x3) < minv_RowsW_1 a0 x7 x8 x2 (ix (splitI (bx ([10] : List UInt8) 0) a0) x3)))) ∧
((bx (ix (splitI (bx ([10] : List UInt8) 0) a0) x3) ((x10 + (idxB (fr (ix (splitI (bx ([10] : List UInt8) 0) a0) x3) (x10 + 1)) 34)) + 2)) = 59 →
(I64 (x10 + 1)) ∧
(I64 (((x10 + (idxB (fr (ix (splitI (bx ([10] : List UInt8) 0) a0) x3) (x10 + 1)) 34)) + 2) - 1)) ∧
(0 ≤ (x10 + 1) ∧ (x10 + 1) ≤ (((x10 + (idxB (fr (ix (splitI (bx ([10] : List UInt8) 0) a0) x3) (x10 + 1)) 34)) + 2) - 1) ∧ (((x10 + (idxB (fr (ix (splitI (bx ([10] : List UInt8) 0) a0) x3) (x10 + 1)) 34)) + 2) - 1) ≤ ln (ix (splitI (bx ([10] : List UInt8) 0) a0) x3)) ∧
(I64 (x10 + x2)) ∧
(True) ∧
(Short (List.length x7 + List.length [(Word.mk (x10 + x2) (sub (ix (splitI (bx ([10] : List UInt8) 0) a0) x3) (x10 + 1) (((x10 + (idxB (fr (ix (splitI (bx ([10] : List UInt8) 0) a0) x3) (x10 + 1)) 34)) + 2) - 1)) true)])) ∧
((x2 : Int) = x2) ∧
(x1 = x1) ∧
((ix (splitI (bx ([10] : List UInt8) 0) a0) x3) = (ix (splitI (bx ([10] : List UInt8) 0) a0) x3)) ∧
((0 : Int) = 0) ∧
((0 : Int) = 0) ∧
(inv_RowsW_1 a0 (x7 ++ [(Word.mk (x10 + x2) (sub (ix (splitI (bx ([10] : List UInt8) 0) a0) x3) (x10 + 1) (((x10 + (idxB (fr (ix (splitI (bx ([10] : List UInt8) 0) a0) x3) (x10 + 1)) 34)) + 2) - 1)) true)]) ((x10 + (idxB (fr (ix (splitI (bx ([10] : List UInt8) 0) a0) x3) (x10 + 1)) 34)) + 2) x2 (ix (splitI (bx ([10] : List UInt8) 0) a0) x3)) ∧
 minv_RowsW_1 a0 (x7 ++ [(Word.mk (x10 + x2) (sub (ix (splitI (bx ([10] : List UInt8) 0) a0) x3) (x10 + 1) (((x10 + (idxB (fr (ix (splitI (bx ([10] : List UInt8) 0) a0) x3) (x10 + 1)) 34)) + 2) - 1)) true)]) ((x10 + (idxB (fr (ix (splitI (bx ([10] : List UInt8) 0) a0) x3) (x10 + 1)) 34)) + 2) x2 (ix (splitI (bx ([10] : List UInt8) 0) a0) x3) < minv_RowsW_1 a0 x7 x8 x2 (ix (splitI (bx ([10] : List UInt8) 0) a0) x3)))) ∧
((bx (ix (splitI (bx ([10] : List UInt8) 0) a0) x3) ((x10 + (idxB (fr (ix (splitI (bx ([10] : List UInt8) 0) a0) x3) (x10 + 1)) 34)) + 2)) = 32 →
(I64 (x10 + 1)) ∧
(I64 (((x10 + (idxB (fr (ix (splitI (bx ([10] : List UInt8) 0) a0) x3) (x10 + 1)) 34)) + 2) - 1)) ∧
(0 ≤ (x10 + 1) ∧ (x10 + 1) ≤ (((x10 + (idxB (fr (ix (splitI (bx ([10] : List UInt8) 0) a0) x3) (x10 + 1)) 34)) + 2) - 1) ∧ (((x10 + (idxB (fr (ix (splitI (bx ([10] : List UInt8) 0) a0) x3) (x10 + 1)) 34)) + 2) - 1) ≤ ln (ix (splitI (bx ([10] : List UInt8) 0) a0) x3)) ∧
(I64 (x10 + x2)) ∧
(True) ∧
(Short (List.length x7 + List.length [(Word.mk (x10 + x2) (sub (ix (splitI (bx ([10] : List UInt8) 0) a0) x3) (x10 + 1) (((x10 + (idxB (fr (ix (splitI (bx ([10] : List UInt8) 0) a0) x3) (x10 + 1)) 34)) + 2) - 1)) true)])) ∧
((x2 : Int) = x2) ∧
(x1 = x1) ∧
((ix (splitI (bx ([10] : List UInt8) 0) a0) x3) = (ix (splitI (bx ([10] : List UInt8) 0) a0) x3)) ∧
((0 : Int) = 0) ∧
((0 : Int) = 0) ∧
(inv_RowsW_1 a0 (x7 ++ [(Word.mk (x10 + x2) (sub (ix (splitI (bx ([10] : List UInt8) 0) a0) x3) (x10 + 1) (((x10 + (idxB (fr (ix (splitI (bx ([10] : List UInt8) 0) a0) x3) (x10 + 1)) 34)) + 2) - 1)) true)]) ((x10 + (idxB (fr (ix (splitI (bx ([10] : List UInt8) 0) a0) x3) (x10 + 1)) 34)) + 2) x2 (ix (splitI (bx ([10] : List UInt8) 0) a0) x3)) ∧
 minv_RowsW_1 a0 (x7 ++ [(Word.mk (x10 + x2) (sub (ix (splitI (bx ([10] : List UInt8) 0) a0) x3) (x10 + 1) (((x10 + (idxB (fr (ix (splitI (bx ([10] : List UInt8) 0) a0) x3) (x10 + 1)) 34)) + 2) - 1)) true)]) ((x10 + (idxB (fr (ix (splitI (bx ([10] : List UInt8) 0) a0) x3) (x10 + 1)) 34)) + 2) x2 (ix (splitI (bx ([10] : List UInt8) 0) a0) x3) < minv_RowsW_1 a0 x7 x8 x2 (ix (splitI (bx ([10] : List UInt8) 0) a0) x3)))) ∧
((ln (ix (splitI (bx ([10] : List UInt8) 0) a0) x3)) ≤ ((x10 + (idxB (fr (ix (splitI (bx ([10] : List UInt8) 0) a0) x3) (x10 + 1)) 34)) + 2) →
(I64 (x10 + 1)) ∧
(I64 (((x10 + (idxB (fr (ix (splitI (bx ([10] : List UInt8) 0) a0) x3) (x10 + 1)) 34)) + 2) - 1)) ∧
(0 ≤ (x10 + 1) ∧ (x10 + 1) ≤ (((x10 + (idxB (fr (ix (splitI (bx ([10] : List UInt8) 0) a0) x3) (x10 + 1)) 34)) + 2) - 1) ∧ (((x10 + (idxB (fr (ix (splitI (bx ([10] : List UInt8) 0) a0) x3) (x10 + 1)) 34)) + 2) - 1) ≤ ln (ix (splitI (bx ([10] : List UInt8) 0) a0) x3)) ∧
(I64 (x10 + x2)) ∧
(True) ∧
(Short (List.length x7 + List.length [(Word.mk (x10 + x2) (sub (ix (splitI (bx ([10] : List UInt8) 0) a0) x3) (x10 + 1) (((x10 + (idxB (fr (ix (splitI (bx ([10] : List UInt8) 0) a0) x3) (x10 + 1)) 34)) + 2) - 1)) true)])) ∧
((x2 : Int) = x2) ∧
(x1 = x1) ∧
((ix (splitI (bx ([10] : List UInt8) 0) a0) x3) = (ix (splitI (bx ([10] : List UInt8) 0) a0) x3)) ∧
((0 : Int) = 0) ∧
((0 : Int) = 0) ∧
(inv_RowsW_1 a0 (x7 ++ [(Word.mk (x10 + x2) (sub (ix (splitI (bx ([10] : List UInt8) 0) a0) x3) (x10 + 1) (((x10 + (idxB (fr (ix (splitI (bx ([10] : List UInt8) 0) a0) x3) (x10 + 1)) 34)) + 2) - 1)) true)]) ((x10 + (idxB (fr (ix (splitI (bx ([10] : List UInt8) 0) a0) x3) (x10 + 1)) 34)) + 2) x2 (ix (splitI (bx ([10] : List UInt8) 0) a0) x3)) ∧
 minv_RowsW_1 a0 (x7 ++ [(Word.mk (x10 + x2) (sub (ix (splitI (bx ([10] : List UInt8) 0) a0) x3) (x10 + 1) (((x10 + (idxB (fr (ix (splitI (bx ([10] : List UInt8) 0) a0) x3) (x10 + 1)) 34)) + 2) - 1)) true)]) ((x10 + (idxB (fr (ix (splitI (bx ([10] : List UInt8) 0) a0) x3) (x10 + 1)) 34)) + 2) x2 (ix (splitI (bx ([10] : List UInt8) 0) a0) x3) < minv_RowsW_1 a0 x7 x8 x2 (ix (splitI (bx ([10] : List UInt8) 0) a0) x3))))))) ∧
((classI (bx (ix (splitI (bx ([10] : List UInt8) 0) a0) x3) x10)) ≠ 113 →
(inv_RowsW_3 a0 x10 (ix (splitI (bx ([10] : List UInt8) 0) a0) x3) x10) ∧
(∀ x17 : Int,
(inv_RowsW_3 a0 x17 (ix (splitI (bx ([10] : List UInt8) 0) a0) x3) x10 →
((x17 < (ln (ix (splitI (bx ([10] : List UInt8) 0) a0) x3)) →
(Wn x17 (ln (ix (splitI (bx ([10] : List UInt8) 0) a0) x3))) ∧
((U8 (bx (ix (splitI (bx ([10] : List UInt8) 0) a0) x3) x17))) ∧
(((classI (bx (ix (splitI (bx ([10] : List UInt8) 0) a0) x3) x17)) = 112 →
(I64 (x17 + 1)) ∧
((0 : Int) = 0) ∧
(([] : List UInt8) = ([] : List UInt8)) ∧
((0 : Int) = 0) ∧
((ix (splitI (bx ([10] : List UInt8) 0) a0) x3) = (ix (splitI (bx ([10] : List UInt8) 0) a0) x3)) ∧
((x2 : Int) = x2) ∧
(x7 = x7) ∧
((0 : Int) = 0) ∧
((0 : Int) = 0) ∧
(inv_RowsW_3 a0 (x17 + 1) (ix (splitI (bx ([10] : List UInt8) 0) a0) x3) x10) ∧
 minv_RowsW_3 a0 (x17 + 1) (ix (splitI (bx ([10] : List UInt8) 0) a0) x3) x10 < minv_RowsW_3 a0 x17 (ix (splitI (bx ([10] : List UInt8) 0) a0) x3) x10)) ∧
((classI (bx (ix (splitI (bx ([10] : List UInt8) 0) a0) x3) x17)) ≠ 112 →
(0 ≤ x10 ∧ x10 ≤ x17 ∧ x17 ≤ ln (ix (splitI (bx ([10] : List UInt8) 0) a0) x3)) ∧
(I64 (x10 + x2)) ∧
(True) ∧
(Short (List.length x7 + List.length [(Word.mk (x10 + x2) (sub (ix (splitI (bx ([10] : List UInt8) 0) a0) x3) x10 x17) false)])) ∧
((x2 : Int) = x2) ∧
(x1 = x1) ∧
((ix (splitI (bx ([10] : List UInt8) 0) a0) x3) = (ix (splitI (bx ([10] : List UInt8) 0) a0) x3)) ∧
((0 : Int) = 0) ∧
((0 : Int) = 0) ∧
(inv_RowsW_1 a0 (x7 ++ [(Word.mk (x10 + x2) (sub (ix (splitI (bx ([10] : List UInt8) 0) a0) x3) x10 x17) false)]) x17 x2 (ix (splitI (bx ([10] : List UInt8) 0) a0) x3)) ∧
 minv_RowsW_1 a0 (x7 ++ [(Word.mk (x10 + x2) (sub (ix (splitI (bx ([10] : List UInt8) 0) a0) x3) x10 x17) false)]) x17 x2 (ix (splitI (bx ([10] : List UInt8) 0) a0) x3) < minv_RowsW_1 a0 x7 x8 x2 (ix (splitI (bx ([10] : List UInt8) 0) a0) x3)))) ∧
((ln (ix (splitI (bx ([10] : List UInt8) 0) a0) x3)) ≤ x17 →
(0 ≤ x10 ∧ x10 ≤ x17 ∧ x17 ≤ ln (ix (splitI (bx ([10] : List UInt8) 0) a0) x3)) ∧
(I64 (x10 + x2)) ∧
(True) ∧
(Short (List.length x7 + List.length [(Word.mk (x10 + x2) (sub (ix (splitI (bx ([10] : List UInt8) 0) a0) x3) x10 x17) false)])) ∧
((x2 : Int) = x2) ∧
(x1 = x1) ∧
((ix (splitI (bx ([10] : List UInt8) 0) a0) x3) = (ix (splitI (bx ([10] : List UInt8) 0) a0) x3)) ∧
((0 : Int) = 0) ∧
((0 : Int) = 0) ∧
(inv_RowsW_1 a0 (x7 ++ [(Word.mk (x10 + x2) (sub (ix (splitI (bx ([10] : List UInt8) 0) a0) x3) x10 x17) false)]) x17 x2 (ix (splitI (bx ([10] : List UInt8) 0) a0) x3)) ∧
 minv_RowsW_1 a0 (x7 ++ [(Word.mk (x10 + x2) (sub (ix (splitI (bx ([10] : List UInt8) 0) a0) x3) x10 x17) false)]) x17 x2 (ix (splitI (bx ([10] : List UInt8) 0) a0) x3) < minv_RowsW_1 a0 x7 x8 x2 (ix (splitI (bx ([10] : List UInt8) 0) a0) x3))))))))))))))))) ∧
((ln (splitI (bx ([10] : List UInt8) 0) a0)) ≤ x3 →
(x1 = ((rowsR a0).1)) ∧
((0 : Int) = ((rowsR a0).2.1)) ∧
((0 : Int) = ((rowsR a0).2.2)) ∧
      True))))))
theorem RowsW_vc (a0 : List UInt8) : wpTop (stdA XK (tblOf RowsW_tbl) (fun j ns => match j, ns with | 0, [.l 6 y0, .i y1, .i y2] => inv_RowsW_0 a0 y0 y1 y2 | 1, [.l 5 y0, .i y1, .i y2, .s y3] => inv_RowsW_1 a0 y0 y1 y2 y3 | 2, [.i y0, .s y1, .i y2] => inv_RowsW_2 a0 y0 y1 y2 | 3, [.i y0, .s y1, .i y2] => inv_RowsW_3 a0 y0 y1 y2 | _, _ => False) (fun j ns => match j, ns with | 0, [.l 6 y0, .i y1, .i y2] => minv_RowsW_0 a0 y0 y1 y2 | 1, [.l 5 y0, .i y1, .i y2, .s y3] => minv_RowsW_1 a0 y0 y1 y2 y3 | 2, [.i y0, .s y1, .i y2] => minv_RowsW_2 a0 y0 y1 y2 | 3, [.i y0, .s y1, .i y2] => minv_RowsW_3 a0 y0 y1 y2 | _, _ => 0)) { cfg sp with ann := annOf [(8, 890, .inv 0 [.one 4 (.list 6 true), .one 5 (.int .i64), .one 19 (.int .i64)] []), (8, 3647102, .inv 1 [.via 9 [.keep, .list 5 true], .cap 10 0 [.int .i64], .one 4 (.keep)] [.one 8 (.int .i64), .one 7 (.str)]), (38, 12, .inv 2 [.via 0 [.int .i64]] [.via 1 [.str], .via 0 [.int .i64]]), (38, 252, .inv 3 [.via 0 [.int .i64]] [.via 1 [.str], .one 3 (.int .i64)])] } 3 8 [.str (a0)] (RowsW_res a0) = RowsW_VC a0 := by kernel_rfl
def sameR__tbl : List (Nat × Ct KT) := []
abbrev sameR__res (a0 : List Row) (a1 : List Row) (a2 : Bool) : PV KT := .sb 0 false ((sameR a0 a1 a2)) ((sameR a0 a1 a2) = true) ((sameR a0 a1 a2) = false)
abbrev sameR__VC (a0 : List Row) (a1 : List Row) (a2 : Bool) : Prop :=
(((ln a0) ≠ (ln a1) →
(false = (sameR a0 a1 a2)) ∧
 True)) ∧
((ln a0) = (ln a1) →
(inv_sameR__0 a0 a1 a2 0) ∧
(∀ x1 : Int,
(inv_sameR__0 a0 a1 a2 x1 →
((x1 < (ln a0) →
(Wn x1 (ln a0)) ∧
(Wn x1 (ln a1)) ∧
(((ln (ix a0 x1).Words) ≠ (ln (ix a1 x1).Words) →
(false = (sameR a0 a1 a2)) ∧
     True)) ∧
((ln (ix a0 x1).Words) = (ln (ix a1 x1).Words) →
((a2 = true →
(Wn x1 (ln a0)) ∧
(Wn x1 (ln a1)) ∧
(((ix a0 x1).At ≠ (ix a1 x1).At →
(false = (sameR a0 a1 a2)) ∧
       True)) ∧
((ix a0 x1).At = (ix a1 x1).At →
(inv_sameR__1 a0 a1 a2 0 x1) ∧
(∀ x7 : Int,
(inv_sameR__1 a0 a1 a2 x7 x1 →
(Wn x1 (ln a0)) ∧
((x7 < (ln (ix a0 x1).Words) →
(Wn x1 (ln a0)) ∧
(Wn x7 (ln (ix a0 x1).Words)) ∧
(Wn x1 (ln a1)) ∧
(Wn x7 (ln (ix a1 x1).Words)) ∧
(((ix (ix a0 x1).Words x7).Text ≠ (ix (ix a1 x1).Words x7).Text →
(false = (sameR a0 a1 a2)) ∧
           True)) ∧
((ix (ix a0 x1).Words x7).Text = (ix (ix a1 x1).Words x7).Text →
(((ix (ix a0 x1).Words x7).Quoted ≠ (ix (ix a1 x1).Words x7).Quoted →
(false = (sameR a0 a1 a2)) ∧
            True)) ∧
((ix (ix a0 x1).Words x7).Quoted = (ix (ix a1 x1).Words x7).Quoted →
(((ix (ix a0 x1).Words x7).At ≠ (ix (ix a1 x1).Words x7).At →
(false = (sameR a0 a1 a2)) ∧
             True)) ∧
((ix (ix a0 x1).Words x7).At = (ix (ix a1 x1).Words x7).At →
(I64 (x7 + 1)) ∧
(inv_sameR__1 a0 a1 a2 (x7 + 1) x1) ∧
 minv_sameR__1 a0 a1 a2 (x7 + 1) x1 < minv_sameR__1 a0 a1 a2 x7 x1))))) ∧
((ln (ix a0 x1).Words) ≤ x7 →
(I64 (x1 + 1)) ∧
(inv_sameR__0 a0 a1 a2 (x1 + 1)) ∧
 minv_sameR__0 a0 a1 a2 (x1 + 1) < minv_sameR__0 a0 a1 a2 x1)))))) ∧
(a2 = false →
(inv_sameR__1 a0 a1 a2 0 x1) ∧
(∀ x6 : Int,
(inv_sameR__1 a0 a1 a2 x6 x1 →
(Wn x1 (ln a0)) ∧
((x6 < (ln (ix a0 x1).Words) →
(Wn x1 (ln a0)) ∧
(Wn x6 (ln (ix a0 x1).Words)) ∧
(Wn x1 (ln a1)) ∧
(Wn x6 (ln (ix a1 x1).Words)) ∧
(((ix (ix a0 x1).Words x6).Text ≠ (ix (ix a1 x1).Words x6).Text →
(false = (sameR a0 a1 a2)) ∧
          True)) ∧
((ix (ix a0 x1).Words x6).Text = (ix (ix a1 x1).Words x6).Text →
(((ix (ix a0 x1).Words x6).Quoted ≠ (ix (ix a1 x1).Words x6).Quoted →
(false = (sameR a0 a1 a2)) ∧
           True)) ∧
((ix (ix a0 x1).Words x6).Quoted = (ix (ix a1 x1).Words x6).Quoted →
(I64 (x6 + 1)) ∧
(inv_sameR__1 a0 a1 a2 (x6 + 1) x1) ∧
 minv_sameR__1 a0 a1 a2 (x6 + 1) x1 < minv_sameR__1 a0 a1 a2 x6 x1)))) ∧
((ln (ix a0 x1).Words) ≤ x6 →
(I64 (x1 + 1)) ∧
(inv_sameR__0 a0 a1 a2 (x1 + 1)) ∧
 minv_sameR__0 a0 a1 a2 (x1 + 1) < minv_sameR__0 a0 a1 a2 x1))))))) ∧
((ln a0) ≤ x1 →
(true = (sameR a0 a1 a2)) ∧
    True))))
theorem sameR__vc (a0 : List Row) (a1 : List Row) (a2 : Bool) : wpTop (stdA XK (tblOf sameR__tbl) (fun j ns => match j, ns with | 0, [.i y0] => inv_sameR__0 a0 a1 a2 y0 | 1, [.i y0, .i y1] => inv_sameR__1 a0 a1 a2 y0 y1 | _, _ => False) (fun j ns => match j, ns with | 0, [.i y0] => minv_sameR__0 a0 a1 a2 y0 | 1, [.i y0, .i y1] => minv_sameR__1 a0 a1 a2 y0 y1 | _, _ => 0)) { cfg sp with ann := annOf [(10, 58, .inv 0 [.one 7 (.int .i64)] []), (10, 7462, .inv 1 [.one 8 (.int .i64)] [.one 7 (.int .i64)])] } 3 10 [.list 6 (a0) none, .list 6 (a1) none, .sb 0 false (a2) (a2 = true) (a2 = false)] (sameR__res a0 a1 a2) = sameR__VC a0 a1 a2 := by kernel_rfl
def lawRows_tbl : List (Nat × Ct KT) := [(7, ct7), (8, ct8), (9, ct9), (10, ct10)]
abbrev lawRows_res (a0 : List UInt8) : PV KT := .sb 0 false ((true)) ((true) = true) ((true) = false)
abbrev lawRows_VC (a0 : List UInt8) : Prop :=
((30000 < (ln a0) →
(True) ∧
((true) = (true)) ∧
 True)) ∧
((ln a0) ≤ 30000 →
(True) ∧
(True) ∧
((ln ((rowsR a0).1) ≤ 1000000000 ∧ (∀ r ∈ ((rowsR a0).1), ln r.Words ≤ 1000000000))) ∧
(((sameR ((rowsR a0).1) ((rowsR a0).1) true) = true →
(((((rowsR a0).2.1) = ((rowsR a0).2.1) ∧ ((rowsR a0).2.2) = ((rowsR a0).2.2)) →
(True) ∧
((true) = (true)) ∧
   True)) ∧
((((rowsR a0).2.1) ≠ ((rowsR a0).2.1) ∨ ((rowsR a0).2.2) ≠ ((rowsR a0).2.2)) →
(false = (true)) ∧
   True))) ∧
((sameR ((rowsR a0).1) ((rowsR a0).1) true) = false →
(false = (true)) ∧
  True))
theorem lawRows_vc (a0 : List UInt8) : wpTop (stdA XK (tblOf lawRows_tbl) (fun _ _ => False) (fun _ _ => 0)) { cfg sp with ann := annOf [] } 3 3 [.str (a0)] (lawRows_res a0) = lawRows_VC a0 := by kernel_rfl
end Go.Proofs.YtofmpipjklcjhaaDoor
