/- THE CONDITIONS of the functions of the chapter 2, as E3 computes them. Made by program (vc.py). -/
import Derived.Test.YtofmpipjklcjhaaDoorInvL
import Derived.Test.YtofmpipjklcjhaaDoorCfg
namespace Go.Proofs.YtofmpipjklcjhaaDoor
open Go Go.E2 Go.E3
set_option maxRecDepth 100000
variable {sp : Nat → Option (List V → Heap → Option (CR × Heap))}

def ct57 : Ct KT := ([.one (.str), .one (.int .u8)], fun ns => match ns with
  | [.s a0, .i a1] => some (True, .int .i64 none ((idxB a0 a1)))
  | _ => none)
def ct55 : Ct KT := ([.one (.str), .one (.int .u8)], fun ns => match ns with
  | [.s a0, .i a1] => some (True, .int .i64 none ((cntB a0 a1)))
  | _ => none)
def ct39 : Ct KT := ([.one (.int .u8)], fun ns => match ns with
  | [.i a0] => some ((U8 a0), .int .u8 none ((classI a0)))
  | _ => none)
def ct25 : Ct KT := ([.one (.str)], fun ns => match ns with
  | [.s a0] => some ((ln a0 ≤ 1000000000), .sb 0 false ((quotedB a0)) ((quotedB a0) = true) ((quotedB a0) = false))
  | _ => none)
def ct37 : Ct KT := ([.one (.str), .one (.str), .one (.int .i64), .one (.int .i64)], fun ns => match ns with
  | [.s a0, .s a1, .i a2, .i a3] => some ((ln a1 = 1 ∧ (a2 : Int) = 0 ∧ (a3 : Int) = -1 ∧ ln a0 ≤ 100000000), .list 2 ((splitI (bx a1 0) a0)) none)
  | _ => none)
def ct21 : Ct KT := ([.one (.str), .one (.str)], fun ns => match ns with
  | [.s a0, .s a1] => some ((ln a1 = 1 ∧ ln a0 ≤ 100000000), .list 2 ((splitI (bx a1 0) a0)) none)
  | _ => none)
def ct8 : Ct KT := ([.one (.str)], fun ns => match ns with
  | [.s a0] => some (True, .tuple [.list 6 (((rowsR a0).1)) (some (0, 0)), .agg [.int .i64 none (((rowsR a0).2.1)), .int .i64 none (((rowsR a0).2.2))]])
  | _ => none)
def ct10 : Ct KT := ([.one (.list 6 false false), .one (.list 6 false false), .one (.bool)], fun ns => match ns with
  | [.l 6 a0, .l 6 a1, .b a2] => some ((ln a0 ≤ 1000000000 ∧ (∀ r ∈ a0, ln r.Words ≤ 1000000000)), .sb 0 false ((sameR a0 a1 a2)) ((sameR a0 a1 a2) = true) ((sameR a0 a1 a2) = false))
  | _ => none)
def ct26 : Ct KT := ([.one (.str)], fun ns => match ns with
  | [.s a0] => some ((ln a0 ≤ 1000000000), .sb 0 false ((plainB a0)) ((plainB a0) = true) ((plainB a0) = false))
  | _ => none)
def ct13 : Ct KT := ([.one (.list 6 false false)], fun ns => match ns with
  | [.l 6 a0] => some ((fitR a0), .tuple [.str (((textW a0).1)), .int .i64 none (((textW a0).2))])
  | _ => none)
def ct17 : Ct KT := ([.one (.int .i64), .one (.int .i64)], fun ns => match ns with
  | [.i a0, .i a1] => some (((0 : Int) < a1 ∧ (a1 : Int) ≤ 1000), .int .i64 none ((modI a0 a1)))
  | _ => none)
def ct16 : Ct KT := ([.one (.list 1 false false)], fun ns => match ns with
  | [.l 1 a0] => some ((goodL a0), .list 6 ((madeR a0)) (some (0, 0)))
  | _ => none)
def ct15 : Ct KT := ([], fun ns => match ns with
  | [] => some (True, .sb 0 false ((true)) ((true) = true) ((true) = false))
  | _ => none)
def ct18 : Ct KT := ([.one (.list 1 false false), .one (.int .i64)], fun ns => match ns with
  | [.l 1 a0, .i a1] => some ((ln a0 ≤ 9223372036854775807), .int .i64 none ((atI a0 a1)))
  | _ => none)
def ct12 : Ct KT := ([.one (.list 6 false false)], fun ns => match ns with
  | [.l 6 a0] => some ((fitR a0), .list 6 ((ownR a0)) (some (0, 0)))
  | _ => none)
def ct6 : Ct KT := ([.one (.list 1 false false), .one (.list 1 false false), .one (.list 1 false false)], fun ns => match ns with
  | [.l 1 a0, .l 1 a1, .l 1 a2] => some ((goodL a0 ∧ goodL a1 ∧ goodL a2), .sb 0 false ((true)) ((true) = true) ((true) = false))
  | _ => none)
abbrev known_res : PV KT := .sb 0 false ((true)) ((true) = true) ((true) = false)
/-- The loop of the law, and what stands behind it. -/
def looseBody (a0 a1 a2 : List Int) (l m : List Row) : Prop :=
(inv_lawLoose_0 a0 a1 a2 0 ([] : List UInt8) l m) ∧
(∀ x2 : Int,
(∀ x3 : List UInt8,
(inv_lawLoose_0 a0 a1 a2 x2 x3 l m →
((x2 < (ln l) →
(I64 (x2 + 1)) ∧
((0 : Int) ≤ x2 ∧ x2 ≤ (x2 + 1) ∧ (x2 + 1) ≤ ln l) ∧
((fitR (sub l x2 (x2 + 1)))) ∧
((((textW (sub l x2 (x2 + 1))).2) ≠ 0 →
(false = (true)) ∧
       True)) ∧
(((textW (sub l x2 (x2 + 1))).2) = 0 →
((((textW (sub l x2 (x2 + 1))).1) = ([] : List UInt8) →
(false = (true)) ∧
        True)) ∧
(((textW (sub l x2 (x2 + 1))).1) ≠ ([] : List UInt8) →
((ln a2 ≤ 9223372036854775807)) ∧
(((0 : Int) < 5 ∧ (5 : Int) ≤ 1000)) ∧
(True) ∧
(True) ∧
(True) ∧
(True) ∧
(True) ∧
(Wn (modI (atI a2 x2) 5) (ln gapA)) ∧
(Short (List.length x3 + List.length (ix gapA (modI (atI a2 x2) 5)))) ∧
(I64 ((ln ((textW (sub l x2 (x2 + 1))).1)) - 1)) ∧
((0 : Int) ≤ ((ln ((textW (sub l x2 (x2 + 1))).1)) - 1) ∧ ((ln ((textW (sub l x2 (x2 + 1))).1)) - 1) ≤ ln ((textW (sub l x2 (x2 + 1))).1)) ∧
(Short (List.length (x3 ++ (ix gapA (modI (atI a2 x2) 5))) + List.length (upto ((textW (sub l x2 (x2 + 1))).1) ((ln ((textW (sub l x2 (x2 + 1))).1)) - 1)))) ∧
(True) ∧
(True) ∧
(True) ∧
(True) ∧
(True) ∧
(I64 (x2 + 7)) ∧
((ln a2 ≤ 9223372036854775807)) ∧
(((0 : Int) < 5 ∧ (5 : Int) ≤ 1000)) ∧
(Wn (modI (atI a2 (x2 + 7)) 5) (ln gapB)) ∧
(Short (List.length ((x3 ++ (ix gapA (modI (atI a2 x2) 5))) ++ (upto ((textW (sub l x2 (x2 + 1))).1) ((ln ((textW (sub l x2 (x2 + 1))).1)) - 1))) + List.length (ix gapB (modI (atI a2 (x2 + 7)) 5)))) ∧
(Short (List.length (((x3 ++ (ix gapA (modI (atI a2 x2) 5))) ++ (upto ((textW (sub l x2 (x2 + 1))).1) ((ln ((textW (sub l x2 (x2 + 1))).1)) - 1))) ++ (ix gapB (modI (atI a2 (x2 + 7)) 5))) + List.length ([10] : List UInt8))) ∧
(I64 (x2 + 1)) ∧
(inv_lawLoose_0 a0 a1 a2 (x2 + 1) ((((x3 ++ (ix gapA (modI (atI a2 x2) 5))) ++ (upto ((textW (sub l x2 (x2 + 1))).1) ((ln ((textW (sub l x2 (x2 + 1))).1)) - 1))) ++ (ix gapB (modI (atI a2 (x2 + 7)) 5))) ++ ([10] : List UInt8)) l m) ∧
 minv_lawLoose_0 a0 a1 a2 (x2 + 1) ((((x3 ++ (ix gapA (modI (atI a2 x2) 5))) ++ (upto ((textW (sub l x2 (x2 + 1))).1) ((ln ((textW (sub l x2 (x2 + 1))).1)) - 1))) ++ (ix gapB (modI (atI a2 (x2 + 7)) 5))) ++ ([10] : List UInt8)) l m < minv_lawLoose_0 a0 a1 a2 x2 x3 l m)))) ∧
((ln l) ≤ x2 →
(True) ∧
((fitR m)) ∧
(Short (List.length x3 + List.length ([10] : List UInt8))) ∧
(Short (List.length (x3 ++ ([10] : List UInt8)) + List.length ((textW m).1))) ∧
(True) ∧
(((true) = true →
((((rowsR x3).2.1) = 0 →
((((rowsR ((x3 ++ ([10] : List UInt8)) ++ ((textW m).1))).2.1) = 0 →
((((textW m).2) = 0 →
((ln ((rowsR x3).1) ≤ 1000000000 ∧ (∀ r ∈ ((rowsR x3).1), ln r.Words ≤ 1000000000))) ∧
(((sameR ((rowsR x3).1) l false) = true →
((fitR l)) ∧
(Short (List.length (ownR l) + List.length m)) ∧
((ln ((rowsR ((x3 ++ ([10] : List UInt8)) ++ ((textW m).1))).1) ≤ 1000000000 ∧ (∀ r ∈ ((rowsR ((x3 ++ ([10] : List UInt8)) ++ ((textW m).1))).1), ln r.Words ≤ 1000000000))) ∧
((sameR ((rowsR ((x3 ++ ([10] : List UInt8)) ++ ((textW m).1))).1) ((ownR l) ++ m) false) = (true)) ∧
           True)) ∧
((sameR ((rowsR x3).1) l false) = false →
(false = (true)) ∧
           True))) ∧
(((textW m).2) ≠ 0 →
(false = (true)) ∧
          True))) ∧
(((rowsR ((x3 ++ ([10] : List UInt8)) ++ ((textW m).1))).2.1) ≠ 0 →
(false = (true)) ∧
         True))) ∧
(((rowsR x3).2.1) ≠ 0 →
(false = (true)) ∧
        True))) ∧
((true) = false →
(false = (true)) ∧
       True)))))
def class_tbl : List (Nat × Ct KT) := []
abbrev class_res (a0 : Int) : PV KT := .int .u8 none ((classI a0))
abbrev class_VC (a0 : Int) : Prop :=
(I64 a0) ∧
((127 ≤ a0 →
((120 : Int) = (classI a0)) ∧
 True)) ∧
(a0 < 127 →
(Wn a0 (ln ([120, 120, 120, 120, 120, 120, 120, 120, 120, 120, 120, 120, 120, 120, 120, 120, 120, 120, 120, 120, 120, 120, 120, 120, 120, 120, 120, 120, 120, 120, 120, 120, 32, 112, 113, 112, 112, 112, 112, 112, 112, 112, 112, 112, 112, 112, 112, 112, 112, 112, 112, 112, 112, 112, 112, 112, 112, 112, 112, 99, 112, 112, 112, 112, 112, 112, 112, 112, 112, 112, 112, 112, 112, 112, 112, 112, 112, 112, 112, 112, 112, 112, 112, 112, 112, 112, 112, 112, 112, 112, 112, 112, 112, 112, 112, 112, 112, 112, 112, 112, 112, 112, 112, 112, 112, 112, 112, 112, 112, 112, 112, 112, 112, 112, 112, 112, 112, 112, 112, 112, 112, 112, 112, 112, 112, 112, 112] : List UInt8))) ∧
(((bx ([120, 120, 120, 120, 120, 120, 120, 120, 120, 120, 120, 120, 120, 120, 120, 120, 120, 120, 120, 120, 120, 120, 120, 120, 120, 120, 120, 120, 120, 120, 120, 120, 32, 112, 113, 112, 112, 112, 112, 112, 112, 112, 112, 112, 112, 112, 112, 112, 112, 112, 112, 112, 112, 112, 112, 112, 112, 112, 112, 99, 112, 112, 112, 112, 112, 112, 112, 112, 112, 112, 112, 112, 112, 112, 112, 112, 112, 112, 112, 112, 112, 112, 112, 112, 112, 112, 112, 112, 112, 112, 112, 112, 112, 112, 112, 112, 112, 112, 112, 112, 112, 112, 112, 112, 112, 112, 112, 112, 112, 112, 112, 112, 112, 112, 112, 112, 112, 112, 112, 112, 112, 112, 112, 112, 112, 112, 112] : List UInt8) a0) : Int) = (classI a0)) ∧
 True)
theorem class_vc (a0 : Int) : wpTop (stdA XK (tblOf class_tbl) (fun _ _ => False) (fun _ _ => 0)) { cfg sp with ann := annOf [] } 3 39 [.int .u8 none (a0)] (class_res a0) = class_VC a0 := by kernel_rfl
def quoted_tbl : List (Nat × Ct KT) := [(39, ct39)]
abbrev quoted_res (a0 : List UInt8) : PV KT := .sb 0 false ((quotedB a0)) ((quotedB a0) = true) ((quotedB a0) = false)
abbrev quoted_VC (a0 : List UInt8) : Prop :=
(inv_quoted_0 a0 0) ∧
(∀ x0 : Int,
(inv_quoted_0 a0 x0 →
((x0 < (ln a0) →
(Wn x0 (ln a0)) ∧
((U8 (bx a0 x0))) ∧
(((classI (bx a0 x0)) = 120 →
(false = (quotedB a0)) ∧
    True)) ∧
((classI (bx a0 x0)) ≠ 120 →
(((classI (bx a0 x0)) = 113 →
(false = (quotedB a0)) ∧
     True)) ∧
((classI (bx a0 x0)) ≠ 113 →
(I64 (x0 + 1)) ∧
(inv_quoted_0 a0 (x0 + 1)) ∧
 minv_quoted_0 a0 (x0 + 1) < minv_quoted_0 a0 x0)))) ∧
((ln a0) ≤ x0 →
(true = (quotedB a0)) ∧
   True)))
theorem quoted_vc (a0 : List UInt8) : wpTop (stdA XK (tblOf quoted_tbl) (fun j ns => match j, ns with | 0, [.i y0] => inv_quoted_0 a0 y0 | _, _ => False) (fun j ns => match j, ns with | 0, [.i y0] => minv_quoted_0 a0 y0 | _, _ => 0)) { cfg sp with ann := annOf [(25, 26, .inv 0 [.one 7 (.int .i64)] [])] } 3 25 [.str (a0)] (quoted_res a0) = quoted_VC a0 := by kernel_rfl
def genSplit_tbl : List (Nat × Ct KT) := [(55, ct55), (57, ct57)]
abbrev genSplit_res (a0 : List UInt8) (a1 : List UInt8) (a2 : Int) (a3 : Int) : PV KT := .list 2 ((splitI (bx a1 0) a0)) none
abbrev genSplit_VC (a0 : List UInt8) (a1 : List UInt8) (a2 : Int) (a3 : Int) : Prop :=
((a3 = 0 →
(([] : List (List UInt8)) = (splitI (bx a1 0) a0)) ∧
 True)) ∧
(a3 ≠ 0 →
((a1 = ([] : List UInt8) →
  False /- operation -/)) ∧
(a1 ≠ ([] : List UInt8) →
((a3 < 0 →
(((ln a1) = 0 →
    False /- operation -/)) ∧
((ln a1) ≠ 0 →
(((ln a1) = 1 →
(Wn 0 (ln a1)) ∧
(True) ∧
(I64 ((cntB a0 (bx a1 0)) + 1)) ∧
(I64 ((ln a0) + 1)) ∧
(((if ((ln a0) + 1) < ((cntB a0 (bx a1 0)) + 1) then ((ln a0) + 1) else ((cntB a0 (bx a1 0)) + 1)) : Int) = (if ((ln a0) + 1) < ((cntB a0 (bx a1 0)) + 1) then ((ln a0) + 1) else ((cntB a0 (bx a1 0)) + 1))) ∧
(Wn (if ((ln a0) + 1) < ((cntB a0 (bx a1 0)) + 1) then ((ln a0) + 1) else ((cntB a0 (bx a1 0)) + 1)) 1000000000) ∧
(True) ∧
(I64 ((if ((ln a0) + 1) < ((cntB a0 (bx a1 0)) + 1) then ((ln a0) + 1) else ((cntB a0 (bx a1 0)) + 1)) - 1)) ∧
(inv_genSplit_0 a0 a1 a2 a3 a0 0 (List.replicate (Int.toNat (if ((ln a0) + 1) < ((cntB a0 (bx a1 0)) + 1) then ((ln a0) + 1) else ((cntB a0 (bx a1 0)) + 1))) ([] : List UInt8))) ∧
(∀ x5 : List UInt8,
(∀ x6 : Int,
(∀ x7 : List (List UInt8),
(inv_genSplit_0 a0 a1 a2 a3 x5 x6 x7 →
((x6 < ((if ((ln a0) + 1) < ((cntB a0 (bx a1 0)) + 1) then ((ln a0) + 1) else ((cntB a0 (bx a1 0)) + 1)) - 1) →
(((ln a1) = 0 →
(I64 (0 + a2)) ∧
((0 : Int) ≤ (0 + a2) ∧ (0 + a2) ≤ ln x5) ∧
(Wn x6 (if ((ln a0) + 1) < ((cntB a0 (bx a1 0)) + 1) then ((ln a0) + 1) else ((cntB a0 (bx a1 0)) + 1))) ∧
((if ((ln a0) + 1) < ((cntB a0 (bx a1 0)) + 1) then ((ln a0) + 1) else ((cntB a0 (bx a1 0)) + 1)) ≤ (ln x7)) ∧
(True) ∧
(I64 (0 + (ln a1))) ∧
((0 : Int) ≤ (0 + (ln a1)) ∧ (0 + (ln a1)) ≤ ln x5) ∧
(I64 (x6 + 1)) ∧
(inv_genSplit_0 a0 a1 a2 a3 (fr x5 (0 + (ln a1))) (x6 + 1) (List.set x7 (Int.toNat x6) (upto x5 (0 + a2)))) ∧
 minv_genSplit_0 a0 a1 a2 a3 (fr x5 (0 + (ln a1))) (x6 + 1) (List.set x7 (Int.toNat x6) (upto x5 (0 + a2))) < minv_genSplit_0 a0 a1 a2 a3 x5 x6 x7)) ∧
((ln a1) ≠ 0 →
((a1 = x5 →
(I64 (0 + a2)) ∧
((0 : Int) ≤ (0 + a2) ∧ (0 + a2) ≤ ln x5) ∧
(Wn x6 (if ((ln a0) + 1) < ((cntB a0 (bx a1 0)) + 1) then ((ln a0) + 1) else ((cntB a0 (bx a1 0)) + 1))) ∧
((if ((ln a0) + 1) < ((cntB a0 (bx a1 0)) + 1) then ((ln a0) + 1) else ((cntB a0 (bx a1 0)) + 1)) ≤ (ln x7)) ∧
(True) ∧
(I64 (0 + (ln a1))) ∧
((0 : Int) ≤ (0 + (ln a1)) ∧ (0 + (ln a1)) ≤ ln x5) ∧
(I64 (x6 + 1)) ∧
(inv_genSplit_0 a0 a1 a2 a3 (fr x5 (0 + (ln a1))) (x6 + 1) (List.set x7 (Int.toNat x6) (upto x5 (0 + a2)))) ∧
 minv_genSplit_0 a0 a1 a2 a3 (fr x5 (0 + (ln a1))) (x6 + 1) (List.set x7 (Int.toNat x6) (upto x5 (0 + a2))) < minv_genSplit_0 a0 a1 a2 a3 x5 x6 x7)) ∧
(a1 ≠ x5 →
(((ln a1) = 1 →
(Wn 0 (ln a1)) ∧
(True) ∧
(((idxB x5 (bx a1 0)) < 0 →
(Wn x6 (if ((ln a0) + 1) < ((cntB a0 (bx a1 0)) + 1) then ((ln a0) + 1) else ((cntB a0 (bx a1 0)) + 1))) ∧
((if ((ln a0) + 1) < ((cntB a0 (bx a1 0)) + 1) then ((ln a0) + 1) else ((cntB a0 (bx a1 0)) + 1)) ≤ (ln x7)) ∧
(True) ∧
(I64 (x6 + 1)) ∧
(((if ((ln a0) + 1) < ((cntB a0 (bx a1 0)) + 1) then ((ln a0) + 1) else ((cntB a0 (bx a1 0)) + 1)) : Int) = (ln (List.set x7 (Int.toNat x6) x5))) ∧
((0 : Int) ≤ (x6 + 1) ∧ (x6 + 1) ≤ ln (List.set x7 (Int.toNat x6) x5)) ∧
((upto (List.set x7 (Int.toNat x6) x5) (x6 + 1)) = (splitI (bx a1 0) a0)) ∧
              True)) ∧
(0 ≤ (idxB x5 (bx a1 0)) →
(I64 ((idxB x5 (bx a1 0)) + a2)) ∧
((0 : Int) ≤ ((idxB x5 (bx a1 0)) + a2) ∧ ((idxB x5 (bx a1 0)) + a2) ≤ ln x5) ∧
(Wn x6 (if ((ln a0) + 1) < ((cntB a0 (bx a1 0)) + 1) then ((ln a0) + 1) else ((cntB a0 (bx a1 0)) + 1))) ∧
((if ((ln a0) + 1) < ((cntB a0 (bx a1 0)) + 1) then ((ln a0) + 1) else ((cntB a0 (bx a1 0)) + 1)) ≤ (ln x7)) ∧
(True) ∧
(I64 ((idxB x5 (bx a1 0)) + (ln a1))) ∧
((0 : Int) ≤ ((idxB x5 (bx a1 0)) + (ln a1)) ∧ ((idxB x5 (bx a1 0)) + (ln a1)) ≤ ln x5) ∧
(I64 (x6 + 1)) ∧
(inv_genSplit_0 a0 a1 a2 a3 (fr x5 ((idxB x5 (bx a1 0)) + (ln a1))) (x6 + 1) (List.set x7 (Int.toNat x6) (upto x5 ((idxB x5 (bx a1 0)) + a2)))) ∧
 minv_genSplit_0 a0 a1 a2 a3 (fr x5 ((idxB x5 (bx a1 0)) + (ln a1))) (x6 + 1) (List.set x7 (Int.toNat x6) (upto x5 ((idxB x5 (bx a1 0)) + a2))) < minv_genSplit_0 a0 a1 a2 a3 x5 x6 x7))) ∧
((ln a1) ≠ 1 →
(((ln x5) ≤ (ln a1) →
(Wn x6 (if ((ln a0) + 1) < ((cntB a0 (bx a1 0)) + 1) then ((ln a0) + 1) else ((cntB a0 (bx a1 0)) + 1))) ∧
((if ((ln a0) + 1) < ((cntB a0 (bx a1 0)) + 1) then ((ln a0) + 1) else ((cntB a0 (bx a1 0)) + 1)) ≤ (ln x7)) ∧
(True) ∧
(I64 (x6 + 1)) ∧
(((if ((ln a0) + 1) < ((cntB a0 (bx a1 0)) + 1) then ((ln a0) + 1) else ((cntB a0 (bx a1 0)) + 1)) : Int) = (ln (List.set x7 (Int.toNat x6) x5))) ∧
((0 : Int) ≤ (x6 + 1) ∧ (x6 + 1) ≤ ln (List.set x7 (Int.toNat x6) x5)) ∧
((upto (List.set x7 (Int.toNat x6) x5) (x6 + 1)) = (splitI (bx a1 0) a0)) ∧
              True)) ∧
((ln a1) < (ln x5) →
              False /- operand -/)))))) ∧
(((if ((ln a0) + 1) < ((cntB a0 (bx a1 0)) + 1) then ((ln a0) + 1) else ((cntB a0 (bx a1 0)) + 1)) - 1) ≤ x6 →
(Wn x6 (if ((ln a0) + 1) < ((cntB a0 (bx a1 0)) + 1) then ((ln a0) + 1) else ((cntB a0 (bx a1 0)) + 1))) ∧
((if ((ln a0) + 1) < ((cntB a0 (bx a1 0)) + 1) then ((ln a0) + 1) else ((cntB a0 (bx a1 0)) + 1)) ≤ (ln x7)) ∧
(True) ∧
(I64 (x6 + 1)) ∧
(((if ((ln a0) + 1) < ((cntB a0 (bx a1 0)) + 1) then ((ln a0) + 1) else ((cntB a0 (bx a1 0)) + 1)) : Int) = (ln (List.set x7 (Int.toNat x6) x5))) ∧
((0 : Int) ≤ (x6 + 1) ∧ (x6 + 1) ≤ ln (List.set x7 (Int.toNat x6) x5)) ∧
((upto (List.set x7 (Int.toNat x6) x5) (x6 + 1)) = (splitI (bx a1 0) a0)) ∧
          True))))))) ∧
((ln a1) ≠ 1 →
     False /- loop -/)))) ∧
(0 ≤ a3 →
(I64 ((ln a0) + 1)) ∧
(((if ((ln a0) + 1) < a3 then ((ln a0) + 1) else a3) : Int) = (if ((ln a0) + 1) < a3 then ((ln a0) + 1) else a3)) ∧
(Wn (if ((ln a0) + 1) < a3 then ((ln a0) + 1) else a3) 1000000000) ∧
(True) ∧
(I64 ((if ((ln a0) + 1) < a3 then ((ln a0) + 1) else a3) - 1)) ∧
(inv_genSplit_0 a0 a1 a2 a3 a0 0 (List.replicate (Int.toNat (if ((ln a0) + 1) < a3 then ((ln a0) + 1) else a3)) ([] : List UInt8))) ∧
(∀ x3 : List UInt8,
(∀ x4 : Int,
(∀ x5 : List (List UInt8),
(inv_genSplit_0 a0 a1 a2 a3 x3 x4 x5 →
((x4 < ((if ((ln a0) + 1) < a3 then ((ln a0) + 1) else a3) - 1) →
(((ln a1) = 0 →
(I64 (0 + a2)) ∧
((0 : Int) ≤ (0 + a2) ∧ (0 + a2) ≤ ln x3) ∧
(Wn x4 (if ((ln a0) + 1) < a3 then ((ln a0) + 1) else a3)) ∧
((if ((ln a0) + 1) < a3 then ((ln a0) + 1) else a3) ≤ (ln x5)) ∧
(True) ∧
(I64 (0 + (ln a1))) ∧
((0 : Int) ≤ (0 + (ln a1)) ∧ (0 + (ln a1)) ≤ ln x3) ∧
(I64 (x4 + 1)) ∧
(inv_genSplit_0 a0 a1 a2 a3 (fr x3 (0 + (ln a1))) (x4 + 1) (List.set x5 (Int.toNat x4) (upto x3 (0 + a2)))) ∧
 minv_genSplit_0 a0 a1 a2 a3 (fr x3 (0 + (ln a1))) (x4 + 1) (List.set x5 (Int.toNat x4) (upto x3 (0 + a2))) < minv_genSplit_0 a0 a1 a2 a3 x3 x4 x5)) ∧
((ln a1) ≠ 0 →
((a1 = x3 →
(I64 (0 + a2)) ∧
((0 : Int) ≤ (0 + a2) ∧ (0 + a2) ≤ ln x3) ∧
(Wn x4 (if ((ln a0) + 1) < a3 then ((ln a0) + 1) else a3)) ∧
((if ((ln a0) + 1) < a3 then ((ln a0) + 1) else a3) ≤ (ln x5)) ∧
(True) ∧
(I64 (0 + (ln a1))) ∧
((0 : Int) ≤ (0 + (ln a1)) ∧ (0 + (ln a1)) ≤ ln x3) ∧
(I64 (x4 + 1)) ∧
(inv_genSplit_0 a0 a1 a2 a3 (fr x3 (0 + (ln a1))) (x4 + 1) (List.set x5 (Int.toNat x4) (upto x3 (0 + a2)))) ∧
 minv_genSplit_0 a0 a1 a2 a3 (fr x3 (0 + (ln a1))) (x4 + 1) (List.set x5 (Int.toNat x4) (upto x3 (0 + a2))) < minv_genSplit_0 a0 a1 a2 a3 x3 x4 x5)) ∧
(a1 ≠ x3 →
(((ln a1) = 1 →
(Wn 0 (ln a1)) ∧
(True) ∧
(((idxB x3 (bx a1 0)) < 0 →
(Wn x4 (if ((ln a0) + 1) < a3 then ((ln a0) + 1) else a3)) ∧
((if ((ln a0) + 1) < a3 then ((ln a0) + 1) else a3) ≤ (ln x5)) ∧
(True) ∧
(I64 (x4 + 1)) ∧
(((if ((ln a0) + 1) < a3 then ((ln a0) + 1) else a3) : Int) = (ln (List.set x5 (Int.toNat x4) x3))) ∧
((0 : Int) ≤ (x4 + 1) ∧ (x4 + 1) ≤ ln (List.set x5 (Int.toNat x4) x3)) ∧
((upto (List.set x5 (Int.toNat x4) x3) (x4 + 1)) = (splitI (bx a1 0) a0)) ∧
            True)) ∧
(0 ≤ (idxB x3 (bx a1 0)) →
(I64 ((idxB x3 (bx a1 0)) + a2)) ∧
((0 : Int) ≤ ((idxB x3 (bx a1 0)) + a2) ∧ ((idxB x3 (bx a1 0)) + a2) ≤ ln x3) ∧
(Wn x4 (if ((ln a0) + 1) < a3 then ((ln a0) + 1) else a3)) ∧
((if ((ln a0) + 1) < a3 then ((ln a0) + 1) else a3) ≤ (ln x5)) ∧
(True) ∧
(I64 ((idxB x3 (bx a1 0)) + (ln a1))) ∧
((0 : Int) ≤ ((idxB x3 (bx a1 0)) + (ln a1)) ∧ ((idxB x3 (bx a1 0)) + (ln a1)) ≤ ln x3) ∧
(I64 (x4 + 1)) ∧
(inv_genSplit_0 a0 a1 a2 a3 (fr x3 ((idxB x3 (bx a1 0)) + (ln a1))) (x4 + 1) (List.set x5 (Int.toNat x4) (upto x3 ((idxB x3 (bx a1 0)) + a2)))) ∧
 minv_genSplit_0 a0 a1 a2 a3 (fr x3 ((idxB x3 (bx a1 0)) + (ln a1))) (x4 + 1) (List.set x5 (Int.toNat x4) (upto x3 ((idxB x3 (bx a1 0)) + a2))) < minv_genSplit_0 a0 a1 a2 a3 x3 x4 x5))) ∧
((ln a1) ≠ 1 →
(((ln x3) ≤ (ln a1) →
(Wn x4 (if ((ln a0) + 1) < a3 then ((ln a0) + 1) else a3)) ∧
((if ((ln a0) + 1) < a3 then ((ln a0) + 1) else a3) ≤ (ln x5)) ∧
(True) ∧
(I64 (x4 + 1)) ∧
(((if ((ln a0) + 1) < a3 then ((ln a0) + 1) else a3) : Int) = (ln (List.set x5 (Int.toNat x4) x3))) ∧
((0 : Int) ≤ (x4 + 1) ∧ (x4 + 1) ≤ ln (List.set x5 (Int.toNat x4) x3)) ∧
((upto (List.set x5 (Int.toNat x4) x3) (x4 + 1)) = (splitI (bx a1 0) a0)) ∧
            True)) ∧
((ln a1) < (ln x3) →
            False /- operand -/)))))) ∧
(((if ((ln a0) + 1) < a3 then ((ln a0) + 1) else a3) - 1) ≤ x4 →
(Wn x4 (if ((ln a0) + 1) < a3 then ((ln a0) + 1) else a3)) ∧
((if ((ln a0) + 1) < a3 then ((ln a0) + 1) else a3) ≤ (ln x5)) ∧
(True) ∧
(I64 (x4 + 1)) ∧
(((if ((ln a0) + 1) < a3 then ((ln a0) + 1) else a3) : Int) = (ln (List.set x5 (Int.toNat x4) x3))) ∧
((0 : Int) ≤ (x4 + 1) ∧ (x4 + 1) ≤ ln (List.set x5 (Int.toNat x4) x3)) ∧
((upto (List.set x5 (Int.toNat x4) x3) (x4 + 1)) = (splitI (bx a1 0) a0)) ∧
        True))))))))
theorem genSplit_vc (a0 : List UInt8) (a1 : List UInt8) (a2 : Int) (a3 : Int) : wpTop (stdA XK (tblOf genSplit_tbl) (fun j ns => match j, ns with | 0, [.s y0, .i y1, .l 2 y2] => inv_genSplit_0 a0 a1 a2 a3 y0 y1 y2 | _, _ => False) (fun j ns => match j, ns with | 0, [.s y0, .i y1, .l 2 y2] => minv_genSplit_0 a0 a1 a2 a3 y0 y1 y2 | _, _ => 0)) { cfg sp with ann := annOf [(37, 2044, .inv 0 [.one 0 (.str), .one 10 (.int .i64), .elems 31] [])] } 3 37 [.str (a0), .str (a1), .int .i64 none (a2), .int .i64 none (a3)] (genSplit_res a0 a1 a2 a3) = genSplit_VC a0 a1 a2 a3 := by kernel_rfl
def Split_tbl : List (Nat × Ct KT) := [(37, ct37)]
abbrev Split_res (a0 : List UInt8) (a1 : List UInt8) : PV KT := .list 2 ((splitI (bx a1 0) a0)) none
abbrev Split_VC (a0 : List UInt8) (a1 : List UInt8) : Prop :=
((ln a1 = 1 ∧ (0 : Int) = 0 ∧ ((-1) : Int) = -1 ∧ ln a0 ≤ 100000000)) ∧
((splitI (bx a1 0) a0) = (splitI (bx a1 0) a0)) ∧
 True
theorem Split_vc (a0 : List UInt8) (a1 : List UInt8) : wpTop (stdA XK (tblOf Split_tbl) (fun _ _ => False) (fun _ _ => 0)) { cfg sp with ann := annOf [] } 3 21 [.str (a0), .str (a1)] (Split_res a0 a1) = Split_VC a0 a1 := by kernel_rfl
def RowsW_tbl : List (Nat × Ct KT) := [(21, ct21), (39, ct39), (57, ct57), (25, ct25)]
abbrev RowsW_res (a0 : List UInt8) : PV KT := .tuple [.list 6 (((rowsR a0).1)) (some (0, 0)), .agg [.int .i64 none (((rowsR a0).2.1)), .int .i64 none (((rowsR a0).2.2))]]
abbrev RowsW_VC (a0 : List UInt8) : Prop :=
((20000 < (ln a0) →
(([] : List Row) = ((rowsR a0).1)) ∧
((4 : Int) = ((rowsR a0).2.1)) ∧
((20000 : Int) = ((rowsR a0).2.2)) ∧
 True)) ∧
((ln a0) ≤ 20000 →
((ln ([10] : List UInt8) = 1 ∧ ln a0 ≤ 100000000)) ∧
(inv_RowsW_0 a0 ([] : List Row) 0 0) ∧
(∀ x1 : List Row,
(∀ x2 : Int,
(∀ x3 : Int,
(inv_RowsW_0 a0 x1 x2 x3 →
((x3 < (ln (splitI (bx ([10] : List UInt8) 0) a0)) →
(Wn x3 (ln (splitI (bx ([10] : List UInt8) 0) a0))) ∧
(I64 ((ln (ix (splitI (bx ([10] : List UInt8) 0) a0) x3)) + 1)) ∧
(I64 (x2 + ((ln (ix (splitI (bx ([10] : List UInt8) 0) a0) x3)) + 1))) ∧
((1000 < (ln (ix (splitI (bx ([10] : List UInt8) 0) a0) x3)) →
(([] : List Row) = ((rowsR a0).1)) ∧
((4 : Int) = ((rowsR a0).2.1)) ∧
((x2 : Int) = ((rowsR a0).2.2)) ∧
       True)) ∧
((ln (ix (splitI (bx ([10] : List UInt8) 0) a0) x3)) ≤ 1000 →
(inv_RowsW_1 a0 ([] : List Word) 0 x2 (ix (splitI (bx ([10] : List UInt8) 0) a0) x3)) ∧
(∀ x7 : List Word,
(∀ x8 : Int,
(inv_RowsW_1 a0 x7 x8 x2 (ix (splitI (bx ([10] : List UInt8) 0) a0) x3) →
(inv_RowsW_2 a0 x8 (ix (splitI (bx ([10] : List UInt8) 0) a0) x3) x8) ∧
(∀ x10 : Int,
(inv_RowsW_2 a0 x10 (ix (splitI (bx ([10] : List UInt8) 0) a0) x3) x8 →
((x10 < (ln (ix (splitI (bx ([10] : List UInt8) 0) a0) x3)) →
(Wn x10 (ln (ix (splitI (bx ([10] : List UInt8) 0) a0) x3))) ∧
(((bx (ix (splitI (bx ([10] : List UInt8) 0) a0) x3) x10) = 32 →
(I64 (x10 + 1)) ∧
((0 : Int) = 0) ∧
(([] : List UInt8) = ([] : List UInt8)) ∧
((0 : Int) = 0) ∧
((ix (splitI (bx ([10] : List UInt8) 0) a0) x3) = (ix (splitI (bx ([10] : List UInt8) 0) a0) x3)) ∧
((x2 : Int) = x2) ∧
(x7 = x7) ∧
((0 : Int) = 0) ∧
((0 : Int) = 0) ∧
(inv_RowsW_2 a0 (x10 + 1) (ix (splitI (bx ([10] : List UInt8) 0) a0) x3) x8) ∧
 minv_RowsW_2 a0 (x10 + 1) (ix (splitI (bx ([10] : List UInt8) 0) a0) x3) x8 < minv_RowsW_2 a0 x10 (ix (splitI (bx ([10] : List UInt8) 0) a0) x3) x8)) ∧
((bx (ix (splitI (bx ([10] : List UInt8) 0) a0) x3) x10) ≠ 32 →
((x10 = (ln (ix (splitI (bx ([10] : List UInt8) 0) a0) x3)) →
((0 < (ln x7) →
(True) ∧
(Short (List.length x1 + List.length [(Row.mk x2 x7)])) ∧
(I64 (x3 + 1)) ∧
((0 : Int) = 0) ∧
((0 : Int) = 0) ∧
(inv_RowsW_0 a0 (x1 ++ [(Row.mk x2 x7)]) (x2 + ((ln (ix (splitI (bx ([10] : List UInt8) 0) a0) x3)) + 1)) (x3 + 1)) ∧
 minv_RowsW_0 a0 (x1 ++ [(Row.mk x2 x7)]) (x2 + ((ln (ix (splitI (bx ([10] : List UInt8) 0) a0) x3)) + 1)) (x3 + 1) < minv_RowsW_0 a0 x1 x2 x3)) ∧
((ln x7) ≤ 0 →
(I64 (x3 + 1)) ∧
((0 : Int) = 0) ∧
((0 : Int) = 0) ∧
(inv_RowsW_0 a0 x1 (x2 + ((ln (ix (splitI (bx ([10] : List UInt8) 0) a0) x3)) + 1)) (x3 + 1)) ∧
 minv_RowsW_0 a0 x1 (x2 + ((ln (ix (splitI (bx ([10] : List UInt8) 0) a0) x3)) + 1)) (x3 + 1) < minv_RowsW_0 a0 x1 x2 x3))) ∧
(x10 ≠ (ln (ix (splitI (bx ([10] : List UInt8) 0) a0) x3)) →
(Wn x10 (ln (ix (splitI (bx ([10] : List UInt8) 0) a0) x3))) ∧
(((bx (ix (splitI (bx ([10] : List UInt8) 0) a0) x3) x10) = 59 →
((0 < (ln x7) →
(True) ∧
(Short (List.length x1 + List.length [(Row.mk x2 x7)])) ∧
(I64 (x3 + 1)) ∧
((0 : Int) = 0) ∧
((0 : Int) = 0) ∧
(inv_RowsW_0 a0 (x1 ++ [(Row.mk x2 x7)]) (x2 + ((ln (ix (splitI (bx ([10] : List UInt8) 0) a0) x3)) + 1)) (x3 + 1)) ∧
 minv_RowsW_0 a0 (x1 ++ [(Row.mk x2 x7)]) (x2 + ((ln (ix (splitI (bx ([10] : List UInt8) 0) a0) x3)) + 1)) (x3 + 1) < minv_RowsW_0 a0 x1 x2 x3)) ∧
((ln x7) ≤ 0 →
(I64 (x3 + 1)) ∧
((0 : Int) = 0) ∧
((0 : Int) = 0) ∧
(inv_RowsW_0 a0 x1 (x2 + ((ln (ix (splitI (bx ([10] : List UInt8) 0) a0) x3)) + 1)) (x3 + 1)) ∧
 minv_RowsW_0 a0 x1 (x2 + ((ln (ix (splitI (bx ([10] : List UInt8) 0) a0) x3)) + 1)) (x3 + 1) < minv_RowsW_0 a0 x1 x2 x3))) ∧
((bx (ix (splitI (bx ([10] : List UInt8) 0) a0) x3) x10) ≠ 59 →
(Wn x10 (ln (ix (splitI (bx ([10] : List UInt8) 0) a0) x3))) ∧
((U8 (bx (ix (splitI (bx ([10] : List UInt8) 0) a0) x3) x10))) ∧
(((classI (bx (ix (splitI (bx ([10] : List UInt8) 0) a0) x3) x10)) = 120 →
((0 ≤ x10 →
(I64 (x2 + x10)) ∧
(([] : List Row) = ((rowsR a0).1)) ∧
((3 : Int) = ((rowsR a0).2.1)) ∧
(((x2 + x10) : Int) = ((rowsR a0).2.2)) ∧
                  True)) ∧
(x10 < 0 →
(I64 (0 + x2)) ∧
(True) ∧
(Short (List.length x7 + List.length [(Word.mk (0 + x2) ([] : List UInt8) false)])) ∧
((x2 : Int) = x2) ∧
(x1 = x1) ∧
((ix (splitI (bx ([10] : List UInt8) 0) a0) x3) = (ix (splitI (bx ([10] : List UInt8) 0) a0) x3)) ∧
((0 : Int) = 0) ∧
((0 : Int) = 0) ∧
(inv_RowsW_1 a0 (x7 ++ [(Word.mk (0 + x2) ([] : List UInt8) false)]) x10 x2 (ix (splitI (bx ([10] : List UInt8) 0) a0) x3)) ∧
 minv_RowsW_1 a0 (x7 ++ [(Word.mk (0 + x2) ([] : List UInt8) false)]) x10 x2 (ix (splitI (bx ([10] : List UInt8) 0) a0) x3) < minv_RowsW_1 a0 x7 x8 x2 (ix (splitI (bx ([10] : List UInt8) 0) a0) x3)))) ∧
((classI (bx (ix (splitI (bx ([10] : List UInt8) 0) a0) x3) x10)) ≠ 120 →
(((classI (bx (ix (splitI (bx ([10] : List UInt8) 0) a0) x3) x10)) = 113 →
(I64 (x10 + 1)) ∧
((0 : Int) ≤ (x10 + 1) ∧ (x10 + 1) ≤ ln (ix (splitI (bx ([10] : List UInt8) 0) a0) x3)) ∧
(True) ∧
((0 < x10 →
(I64 (x10 - 1)) ∧
(Wn (x10 - 1) (ln (ix (splitI (bx ([10] : List UInt8) 0) a0) x3))) ∧
(((bx (ix (splitI (bx ([10] : List UInt8) 0) a0) x3) (x10 - 1)) ≠ 32 →
((0 ≤ x10 →
(I64 (x2 + x10)) ∧
(([] : List Row) = ((rowsR a0).1)) ∧
((3 : Int) = ((rowsR a0).2.1)) ∧
(((x2 + x10) : Int) = ((rowsR a0).2.2)) ∧
                     True)) ∧
(x10 < 0 →
(I64 (0 + x2)) ∧
(True) ∧
(Short (List.length x7 + List.length [(Word.mk (0 + x2) ([] : List UInt8) false)])) ∧
((x2 : Int) = x2) ∧
(x1 = x1) ∧
((ix (splitI (bx ([10] : List UInt8) 0) a0) x3) = (ix (splitI (bx ([10] : List UInt8) 0) a0) x3)) ∧
((0 : Int) = 0) ∧
((0 : Int) = 0) ∧
(inv_RowsW_1 a0 (x7 ++ [(Word.mk (0 + x2) ([] : List UInt8) false)]) x10 x2 (ix (splitI (bx ([10] : List UInt8) 0) a0) x3)) ∧
 minv_RowsW_1 a0 (x7 ++ [(Word.mk (0 + x2) ([] : List UInt8) false)]) x10 x2 (ix (splitI (bx ([10] : List UInt8) 0) a0) x3) < minv_RowsW_1 a0 x7 x8 x2 (ix (splitI (bx ([10] : List UInt8) 0) a0) x3)))) ∧
((bx (ix (splitI (bx ([10] : List UInt8) 0) a0) x3) (x10 - 1)) = 32 →
(((idxB (fr (ix (splitI (bx ([10] : List UInt8) 0) a0) x3) (x10 + 1)) 34) < 0 →
((0 ≤ x10 →
(I64 (x2 + x10)) ∧
(([] : List Row) = ((rowsR a0).1)) ∧
((3 : Int) = ((rowsR a0).2.1)) ∧
(((x2 + x10) : Int) = ((rowsR a0).2.2)) ∧
                      True)) ∧
(x10 < 0 →
(I64 (0 + x2)) ∧
(True) ∧
(Short (List.length x7 + List.length [(Word.mk (0 + x2) ([] : List UInt8) false)])) ∧
((x2 : Int) = x2) ∧
(x1 = x1) ∧
((ix (splitI (bx ([10] : List UInt8) 0) a0) x3) = (ix (splitI (bx ([10] : List UInt8) 0) a0) x3)) ∧
((0 : Int) = 0) ∧
((0 : Int) = 0) ∧
(inv_RowsW_1 a0 (x7 ++ [(Word.mk (0 + x2) ([] : List UInt8) false)]) x10 x2 (ix (splitI (bx ([10] : List UInt8) 0) a0) x3)) ∧
 minv_RowsW_1 a0 (x7 ++ [(Word.mk (0 + x2) ([] : List UInt8) false)]) x10 x2 (ix (splitI (bx ([10] : List UInt8) 0) a0) x3) < minv_RowsW_1 a0 x7 x8 x2 (ix (splitI (bx ([10] : List UInt8) 0) a0) x3)))) ∧
(0 ≤ (idxB (fr (ix (splitI (bx ([10] : List UInt8) 0) a0) x3) (x10 + 1)) 34) →
(I64 (x10 + 1)) ∧
(I64 (x10 + 1)) ∧
(I64 ((x10 + 1) + (idxB (fr (ix (splitI (bx ([10] : List UInt8) 0) a0) x3) (x10 + 1)) 34))) ∧
((0 : Int) ≤ (x10 + 1) ∧ (x10 + 1) ≤ ((x10 + 1) + (idxB (fr (ix (splitI (bx ([10] : List UInt8) 0) a0) x3) (x10 + 1)) 34)) ∧ ((x10 + 1) + (idxB (fr (ix (splitI (bx ([10] : List UInt8) 0) a0) x3) (x10 + 1)) 34)) ≤ ln (ix (splitI (bx ([10] : List UInt8) 0) a0) x3)) ∧
((ln (sub (ix (splitI (bx ([10] : List UInt8) 0) a0) x3) (x10 + 1) ((x10 + 1) + (idxB (fr (ix (splitI (bx ([10] : List UInt8) 0) a0) x3) (x10 + 1)) 34))) ≤ 1000000000)) ∧
(((quotedB (sub (ix (splitI (bx ([10] : List UInt8) 0) a0) x3) (x10 + 1) ((x10 + 1) + (idxB (fr (ix (splitI (bx ([10] : List UInt8) 0) a0) x3) (x10 + 1)) 34)))) = false →
((0 ≤ x10 →
(I64 (x2 + x10)) ∧
(([] : List Row) = ((rowsR a0).1)) ∧
((3 : Int) = ((rowsR a0).2.1)) ∧
(((x2 + x10) : Int) = ((rowsR a0).2.2)) ∧
                       True)) ∧
(x10 < 0 →
(I64 (0 + x2)) ∧
(True) ∧
(Short (List.length x7 + List.length [(Word.mk (0 + x2) ([] : List UInt8) false)])) ∧
((x2 : Int) = x2) ∧
(x1 = x1) ∧
((ix (splitI (bx ([10] : List UInt8) 0) a0) x3) = (ix (splitI (bx ([10] : List UInt8) 0) a0) x3)) ∧
((0 : Int) = 0) ∧
((0 : Int) = 0) ∧
(inv_RowsW_1 a0 (x7 ++ [(Word.mk (0 + x2) ([] : List UInt8) false)]) x10 x2 (ix (splitI (bx ([10] : List UInt8) 0) a0) x3)) ∧
 minv_RowsW_1 a0 (x7 ++ [(Word.mk (0 + x2) ([] : List UInt8) false)]) x10 x2 (ix (splitI (bx ([10] : List UInt8) 0) a0) x3) < minv_RowsW_1 a0 x7 x8 x2 (ix (splitI (bx ([10] : List UInt8) 0) a0) x3)))) ∧
((quotedB (sub (ix (splitI (bx ([10] : List UInt8) 0) a0) x3) (x10 + 1) ((x10 + 1) + (idxB (fr (ix (splitI (bx ([10] : List UInt8) 0) a0) x3) (x10 + 1)) 34)))) = true →
(I64 (x10 + (idxB (fr (ix (splitI (bx ([10] : List UInt8) 0) a0) x3) (x10 + 1)) 34))) ∧
(I64 ((x10 + (idxB (fr (ix (splitI (bx ([10] : List UInt8) 0) a0) x3) (x10 + 1)) 34)) + 2)) ∧
((((x10 + (idxB (fr (ix (splitI (bx ([10] : List UInt8) 0) a0) x3) (x10 + 1)) 34)) + 2) < (ln (ix (splitI (bx ([10] : List UInt8) 0) a0) x3)) →
(Wn ((x10 + (idxB (fr (ix (splitI (bx ([10] : List UInt8) 0) a0) x3) (x10 + 1)) 34)) + 2) (ln (ix (splitI (bx ([10] : List UInt8) 0) a0) x3))) ∧
(((bx (ix (splitI (bx ([10] : List UInt8) 0) a0) x3) ((x10 + (idxB (fr (ix (splitI (bx ([10] : List UInt8) 0) a0) x3) (x10 + 1)) 34)) + 2)) ≠ 32 →
(Wn ((x10 + (idxB (fr (ix (splitI (bx ([10] : List UInt8) 0) a0) x3) (x10 + 1)) 34)) + 2) (ln (ix (splitI (bx ([10] : List UInt8) 0) a0) x3))) ∧
(((bx (ix (splitI (bx ([10] : List UInt8) 0) a0) x3) ((x10 + (idxB (fr (ix (splitI (bx ([10] : List UInt8) 0) a0) x3) (x10 + 1)) 34)) + 2)) ≠ 59 →
((0 ≤ x10 →
(I64 (x2 + x10)) ∧
(([] : List Row) = ((rowsR a0).1)) ∧
((3 : Int) = ((rowsR a0).2.1)) ∧
(((x2 + x10) : Int) = ((rowsR a0).2.2)) ∧
                          True)) ∧
(x10 < 0 →
(I64 (0 + x2)) ∧
(True) ∧
(Short (List.length x7 + List.length [(Word.mk (0 + x2) ([] : List UInt8) false)])) ∧
((x2 : Int) = x2) ∧
(x1 = x1) ∧
((ix (splitI (bx ([10] : List UInt8) 0) a0) x3) = (ix (splitI (bx ([10] : List UInt8) 0) a0) x3)) ∧
((0 : Int) = 0) ∧
((0 : Int) = 0) ∧
(inv_RowsW_1 a0 (x7 ++ [(Word.mk (0 + x2) ([] : List UInt8) false)]) ((x10 + (idxB (fr (ix (splitI (bx ([10] : List UInt8) 0) a0) x3) (x10 + 1)) 34)) + 2) x2 (ix (splitI (bx ([10] : List UInt8) 0) a0) x3)) ∧
 minv_RowsW_1 a0 (x7 ++ [(Word.mk (0 + x2) ([] : List UInt8) false)]) ((x10 + (idxB (fr (ix (splitI (bx ([10] : List UInt8) 0) a0) x3) (x10 + 1)) 34)) + 2) x2 (ix (splitI (bx ([10] : List UInt8) 0) a0) x3) < minv_RowsW_1 a0 x7 x8 x2 (ix (splitI (bx ([10] : List UInt8) 0) a0) x3)))) ∧
((bx (ix (splitI (bx ([10] : List UInt8) 0) a0) x3) ((x10 + (idxB (fr (ix (splitI (bx ([10] : List UInt8) 0) a0) x3) (x10 + 1)) 34)) + 2)) = 59 →
(I64 (x10 + 1)) ∧
(I64 (((x10 + (idxB (fr (ix (splitI (bx ([10] : List UInt8) 0) a0) x3) (x10 + 1)) 34)) + 2) - 1)) ∧
((0 : Int) ≤ (x10 + 1) ∧ (x10 + 1) ≤ (((x10 + (idxB (fr (ix (splitI (bx ([10] : List UInt8) 0) a0) x3) (x10 + 1)) 34)) + 2) - 1) ∧ (((x10 + (idxB (fr (ix (splitI (bx ([10] : List UInt8) 0) a0) x3) (x10 + 1)) 34)) + 2) - 1) ≤ ln (ix (splitI (bx ([10] : List UInt8) 0) a0) x3)) ∧
(I64 (x10 + x2)) ∧
(True) ∧
(Short (List.length x7 + List.length [(Word.mk (x10 + x2) (sub (ix (splitI (bx ([10] : List UInt8) 0) a0) x3) (x10 + 1) (((x10 + (idxB (fr (ix (splitI (bx ([10] : List UInt8) 0) a0) x3) (x10 + 1)) 34)) + 2) - 1)) true)])) ∧
((x2 : Int) = x2) ∧
(x1 = x1) ∧
((ix (splitI (bx ([10] : List UInt8) 0) a0) x3) = (ix (splitI (bx ([10] : List UInt8) 0) a0) x3)) ∧
((0 : Int) = 0) ∧
((0 : Int) = 0) ∧
(inv_RowsW_1 a0 (x7 ++ [(Word.mk (x10 + x2) (sub (ix (splitI (bx ([10] : List UInt8) 0) a0) x3) (x10 + 1) (((x10 + (idxB (fr (ix (splitI (bx ([10] : List UInt8) 0) a0) x3) (x10 + 1)) 34)) + 2) - 1)) true)]) ((x10 + (idxB (fr (ix (splitI (bx ([10] : List UInt8) 0) a0) x3) (x10 + 1)) 34)) + 2) x2 (ix (splitI (bx ([10] : List UInt8) 0) a0) x3)) ∧
 minv_RowsW_1 a0 (x7 ++ [(Word.mk (x10 + x2) (sub (ix (splitI (bx ([10] : List UInt8) 0) a0) x3) (x10 + 1) (((x10 + (idxB (fr (ix (splitI (bx ([10] : List UInt8) 0) a0) x3) (x10 + 1)) 34)) + 2) - 1)) true)]) ((x10 + (idxB (fr (ix (splitI (bx ([10] : List UInt8) 0) a0) x3) (x10 + 1)) 34)) + 2) x2 (ix (splitI (bx ([10] : List UInt8) 0) a0) x3) < minv_RowsW_1 a0 x7 x8 x2 (ix (splitI (bx ([10] : List UInt8) 0) a0) x3)))) ∧
((bx (ix (splitI (bx ([10] : List UInt8) 0) a0) x3) ((x10 + (idxB (fr (ix (splitI (bx ([10] : List UInt8) 0) a0) x3) (x10 + 1)) 34)) + 2)) = 32 →
(I64 (x10 + 1)) ∧
(I64 (((x10 + (idxB (fr (ix (splitI (bx ([10] : List UInt8) 0) a0) x3) (x10 + 1)) 34)) + 2) - 1)) ∧
((0 : Int) ≤ (x10 + 1) ∧ (x10 + 1) ≤ (((x10 + (idxB (fr (ix (splitI (bx ([10] : List UInt8) 0) a0) x3) (x10 + 1)) 34)) + 2) - 1) ∧ (((x10 + (idxB (fr (ix (splitI (bx ([10] : List UInt8) 0) a0) x3) (x10 + 1)) 34)) + 2) - 1) ≤ ln (ix (splitI (bx ([10] : List UInt8) 0) a0) x3)) ∧
(I64 (x10 + x2)) ∧
(True) ∧
(Short (List.length x7 + List.length [(Word.mk (x10 + x2) (sub (ix (splitI (bx ([10] : List UInt8) 0) a0) x3) (x10 + 1) (((x10 + (idxB (fr (ix (splitI (bx ([10] : List UInt8) 0) a0) x3) (x10 + 1)) 34)) + 2) - 1)) true)])) ∧
((x2 : Int) = x2) ∧
(x1 = x1) ∧
((ix (splitI (bx ([10] : List UInt8) 0) a0) x3) = (ix (splitI (bx ([10] : List UInt8) 0) a0) x3)) ∧
((0 : Int) = 0) ∧
((0 : Int) = 0) ∧
(inv_RowsW_1 a0 (x7 ++ [(Word.mk (x10 + x2) (sub (ix (splitI (bx ([10] : List UInt8) 0) a0) x3) (x10 + 1) (((x10 + (idxB (fr (ix (splitI (bx ([10] : List UInt8) 0) a0) x3) (x10 + 1)) 34)) + 2) - 1)) true)]) ((x10 + (idxB (fr (ix (splitI (bx ([10] : List UInt8) 0) a0) x3) (x10 + 1)) 34)) + 2) x2 (ix (splitI (bx ([10] : List UInt8) 0) a0) x3)) ∧
 minv_RowsW_1 a0 (x7 ++ [(Word.mk (x10 + x2) (sub (ix (splitI (bx ([10] : List UInt8) 0) a0) x3) (x10 + 1) (((x10 + (idxB (fr (ix (splitI (bx ([10] : List UInt8) 0) a0) x3) (x10 + 1)) 34)) + 2) - 1)) true)]) ((x10 + (idxB (fr (ix (splitI (bx ([10] : List UInt8) 0) a0) x3) (x10 + 1)) 34)) + 2) x2 (ix (splitI (bx ([10] : List UInt8) 0) a0) x3) < minv_RowsW_1 a0 x7 x8 x2 (ix (splitI (bx ([10] : List UInt8) 0) a0) x3)))) ∧
((ln (ix (splitI (bx ([10] : List UInt8) 0) a0) x3)) ≤ ((x10 + (idxB (fr (ix (splitI (bx ([10] : List UInt8) 0) a0) x3) (x10 + 1)) 34)) + 2) →
(I64 (x10 + 1)) ∧
(I64 (((x10 + (idxB (fr (ix (splitI (bx ([10] : List UInt8) 0) a0) x3) (x10 + 1)) 34)) + 2) - 1)) ∧
((0 : Int) ≤ (x10 + 1) ∧ (x10 + 1) ≤ (((x10 + (idxB (fr (ix (splitI (bx ([10] : List UInt8) 0) a0) x3) (x10 + 1)) 34)) + 2) - 1) ∧ (((x10 + (idxB (fr (ix (splitI (bx ([10] : List UInt8) 0) a0) x3) (x10 + 1)) 34)) + 2) - 1) ≤ ln (ix (splitI (bx ([10] : List UInt8) 0) a0) x3)) ∧
(I64 (x10 + x2)) ∧
(True) ∧
(Short (List.length x7 + List.length [(Word.mk (x10 + x2) (sub (ix (splitI (bx ([10] : List UInt8) 0) a0) x3) (x10 + 1) (((x10 + (idxB (fr (ix (splitI (bx ([10] : List UInt8) 0) a0) x3) (x10 + 1)) 34)) + 2) - 1)) true)])) ∧
((x2 : Int) = x2) ∧
(x1 = x1) ∧
((ix (splitI (bx ([10] : List UInt8) 0) a0) x3) = (ix (splitI (bx ([10] : List UInt8) 0) a0) x3)) ∧
((0 : Int) = 0) ∧
((0 : Int) = 0) ∧
(inv_RowsW_1 a0 (x7 ++ [(Word.mk (x10 + x2) (sub (ix (splitI (bx ([10] : List UInt8) 0) a0) x3) (x10 + 1) (((x10 + (idxB (fr (ix (splitI (bx ([10] : List UInt8) 0) a0) x3) (x10 + 1)) 34)) + 2) - 1)) true)]) ((x10 + (idxB (fr (ix (splitI (bx ([10] : List UInt8) 0) a0) x3) (x10 + 1)) 34)) + 2) x2 (ix (splitI (bx ([10] : List UInt8) 0) a0) x3)) ∧
 minv_RowsW_1 a0 (x7 ++ [(Word.mk (x10 + x2) (sub (ix (splitI (bx ([10] : List UInt8) 0) a0) x3) (x10 + 1) (((x10 + (idxB (fr (ix (splitI (bx ([10] : List UInt8) 0) a0) x3) (x10 + 1)) 34)) + 2) - 1)) true)]) ((x10 + (idxB (fr (ix (splitI (bx ([10] : List UInt8) 0) a0) x3) (x10 + 1)) 34)) + 2) x2 (ix (splitI (bx ([10] : List UInt8) 0) a0) x3) < minv_RowsW_1 a0 x7 x8 x2 (ix (splitI (bx ([10] : List UInt8) 0) a0) x3))))))) ∧
(x10 ≤ 0 →
(((idxB (fr (ix (splitI (bx ([10] : List UInt8) 0) a0) x3) (x10 + 1)) 34) < 0 →
((0 ≤ x10 →
(I64 (x2 + x10)) ∧
(([] : List Row) = ((rowsR a0).1)) ∧
((3 : Int) = ((rowsR a0).2.1)) ∧
(((x2 + x10) : Int) = ((rowsR a0).2.2)) ∧
                     True)) ∧
(x10 < 0 →
(I64 (0 + x2)) ∧
(True) ∧
(Short (List.length x7 + List.length [(Word.mk (0 + x2) ([] : List UInt8) false)])) ∧
((x2 : Int) = x2) ∧
(x1 = x1) ∧
((ix (splitI (bx ([10] : List UInt8) 0) a0) x3) = (ix (splitI (bx ([10] : List UInt8) 0) a0) x3)) ∧
((0 : Int) = 0) ∧
((0 : Int) = 0) ∧
(inv_RowsW_1 a0 (x7 ++ [(Word.mk (0 + x2) ([] : List UInt8) false)]) x10 x2 (ix (splitI (bx ([10] : List UInt8) 0) a0) x3)) ∧
 minv_RowsW_1 a0 (x7 ++ [(Word.mk (0 + x2) ([] : List UInt8) false)]) x10 x2 (ix (splitI (bx ([10] : List UInt8) 0) a0) x3) < minv_RowsW_1 a0 x7 x8 x2 (ix (splitI (bx ([10] : List UInt8) 0) a0) x3)))) ∧
(0 ≤ (idxB (fr (ix (splitI (bx ([10] : List UInt8) 0) a0) x3) (x10 + 1)) 34) →
(I64 (x10 + 1)) ∧
(I64 (x10 + 1)) ∧
(I64 ((x10 + 1) + (idxB (fr (ix (splitI (bx ([10] : List UInt8) 0) a0) x3) (x10 + 1)) 34))) ∧
((0 : Int) ≤ (x10 + 1) ∧ (x10 + 1) ≤ ((x10 + 1) + (idxB (fr (ix (splitI (bx ([10] : List UInt8) 0) a0) x3) (x10 + 1)) 34)) ∧ ((x10 + 1) + (idxB (fr (ix (splitI (bx ([10] : List UInt8) 0) a0) x3) (x10 + 1)) 34)) ≤ ln (ix (splitI (bx ([10] : List UInt8) 0) a0) x3)) ∧
((ln (sub (ix (splitI (bx ([10] : List UInt8) 0) a0) x3) (x10 + 1) ((x10 + 1) + (idxB (fr (ix (splitI (bx ([10] : List UInt8) 0) a0) x3) (x10 + 1)) 34))) ≤ 1000000000)) ∧
(((quotedB (sub (ix (splitI (bx ([10] : List UInt8) 0) a0) x3) (x10 + 1) ((x10 + 1) + (idxB (fr (ix (splitI (bx ([10] : List UInt8) 0) a0) x3) (x10 + 1)) 34)))) = false →
((0 ≤ x10 →
(I64 (x2 + x10)) ∧
(([] : List Row) = ((rowsR a0).1)) ∧
((3 : Int) = ((rowsR a0).2.1)) ∧
(((x2 + x10) : Int) = ((rowsR a0).2.2)) ∧
                      True)) ∧
(x10 < 0 →
(I64 (0 + x2)) ∧
(True) ∧
(Short (List.length x7 + List.length [(Word.mk (0 + x2) ([] : List UInt8) false)])) ∧
((x2 : Int) = x2) ∧
(x1 = x1) ∧
((ix (splitI (bx ([10] : List UInt8) 0) a0) x3) = (ix (splitI (bx ([10] : List UInt8) 0) a0) x3)) ∧
((0 : Int) = 0) ∧
((0 : Int) = 0) ∧
(inv_RowsW_1 a0 (x7 ++ [(Word.mk (0 + x2) ([] : List UInt8) false)]) x10 x2 (ix (splitI (bx ([10] : List UInt8) 0) a0) x3)) ∧
 minv_RowsW_1 a0 (x7 ++ [(Word.mk (0 + x2) ([] : List UInt8) false)]) x10 x2 (ix (splitI (bx ([10] : List UInt8) 0) a0) x3) < minv_RowsW_1 a0 x7 x8 x2 (ix (splitI (bx ([10] : List UInt8) 0) a0) x3)))) ∧
((quotedB (sub (ix (splitI (bx ([10] : List UInt8) 0) a0) x3) (x10 + 1) ((x10 + 1) + (idxB (fr (ix (splitI (bx ([10] : List UInt8) 0) a0) x3) (x10 + 1)) 34)))) = true →
(I64 (x10 + (idxB (fr (ix (splitI (bx ([10] : List UInt8) 0) a0) x3) (x10 + 1)) 34))) ∧
(I64 ((x10 + (idxB (fr (ix (splitI (bx ([10] : List UInt8) 0) a0) x3) (x10 + 1)) 34)) + 2)) ∧
((((x10 + (idxB (fr (ix (splitI (bx ([10] : List UInt8) 0) a0) x3) (x10 + 1)) 34)) + 2) < (ln (ix (splitI (bx ([10] : List UInt8) 0) a0) x3)) →
(Wn ((x10 + (idxB (fr (ix (splitI (bx ([10] : List UInt8) 0) a0) x3) (x10 + 1)) 34)) + 2) (ln (ix (splitI (bx ([10] : List UInt8) 0) a0) x3))) ∧
(((bx (ix (splitI (bx ([10] : List UInt8) 0) a0) x3) ((x10 + (idxB (fr (ix (splitI (bx ([10] : List UInt8) 0) a0) x3) (x10 + 1)) 34)) + 2)) ≠ 32 →
(Wn ((x10 + (idxB (fr (ix (splitI (bx ([10] : List UInt8) 0) a0) x3) (x10 + 1)) 34)) + 2) (ln (ix (splitI (bx ([10] : List UInt8) 0) a0) x3))) ∧
(((bx (ix (splitI (bx ([10] : List UInt8) 0) a0) x3) ((x10 + (idxB (fr (ix (splitI (bx ([10] : List UInt8) 0) a0) x3) (x10 + 1)) 34)) + 2)) ≠ 59 →
((0 ≤ x10 →
(I64 (x2 + x10)) ∧
(([] : List Row) = ((rowsR a0).1)) ∧
((3 : Int) = ((rowsR a0).2.1)) ∧
(((x2 + x10) : Int) = ((rowsR a0).2.2)) ∧
                         True)) ∧
(x10 < 0 →
(I64 (0 + x2)) ∧
(True) ∧
(Short (List.length x7 + List.length [(Word.mk (0 + x2) ([] : List UInt8) false)])) ∧
((x2 : Int) = x2) ∧
(x1 = x1) ∧
((ix (splitI (bx ([10] : List UInt8) 0) a0) x3) = (ix (splitI (bx ([10] : List UInt8) 0) a0) x3)) ∧
((0 : Int) = 0) ∧
((0 : Int) = 0) ∧
(inv_RowsW_1 a0 (x7 ++ [(Word.mk (0 + x2) ([] : List UInt8) false)]) ((x10 + (idxB (fr (ix (splitI (bx ([10] : List UInt8) 0) a0) x3) (x10 + 1)) 34)) + 2) x2 (ix (splitI (bx ([10] : List UInt8) 0) a0) x3)) ∧
 minv_RowsW_1 a0 (x7 ++ [(Word.mk (0 + x2) ([] : List UInt8) false)]) ((x10 + (idxB (fr (ix (splitI (bx ([10] : List UInt8) 0) a0) x3) (x10 + 1)) 34)) + 2) x2 (ix (splitI (bx ([10] : List UInt8) 0) a0) x3) < minv_RowsW_1 a0 x7 x8 x2 (ix (splitI (bx ([10] : List UInt8) 0) a0) x3)))) ∧
((bx (ix (splitI (bx ([10] : List UInt8) 0) a0) x3) ((x10 + (idxB (fr (ix (splitI (bx ([10] : List UInt8) 0) a0) x3) (x10 + 1)) 34)) + 2)) = 59 →
(I64 (x10 + 1)) ∧
(I64 (((x10 + (idxB (fr (ix (splitI (bx ([10] : List UInt8) 0) a0) x3) (x10 + 1)) 34)) + 2) - 1)) ∧
((0 : Int) ≤ (x10 + 1) ∧ (x10 + 1) ≤ (((x10 + (idxB (fr (ix (splitI (bx ([10] : List UInt8) 0) a0) x3) (x10 + 1)) 34)) + 2) - 1) ∧ (((x10 + (idxB (fr (ix (splitI (bx ([10] : List UInt8) 0) a0) x3) (x10 + 1)) 34)) + 2) - 1) ≤ ln (ix (splitI (bx ([10] : List UInt8) 0) a0) x3)) ∧
(I64 (x10 + x2)) ∧
(True) ∧
(Short (List.length x7 + List.length [(Word.mk (x10 + x2) (sub (ix (splitI (bx ([10] : List UInt8) 0) a0) x3) (x10 + 1) (((x10 + (idxB (fr (ix (splitI (bx ([10] : List UInt8) 0) a0) x3) (x10 + 1)) 34)) + 2) - 1)) true)])) ∧
((x2 : Int) = x2) ∧
(x1 = x1) ∧
((ix (splitI (bx ([10] : List UInt8) 0) a0) x3) = (ix (splitI (bx ([10] : List UInt8) 0) a0) x3)) ∧
((0 : Int) = 0) ∧
((0 : Int) = 0) ∧
(inv_RowsW_1 a0 (x7 ++ [(Word.mk (x10 + x2) (sub (ix (splitI (bx ([10] : List UInt8) 0) a0) x3) (x10 + 1) (((x10 + (idxB (fr (ix (splitI (bx ([10] : List UInt8) 0) a0) x3) (x10 + 1)) 34)) + 2) - 1)) true)]) ((x10 + (idxB (fr (ix (splitI (bx ([10] : List UInt8) 0) a0) x3) (x10 + 1)) 34)) + 2) x2 (ix (splitI (bx ([10] : List UInt8) 0) a0) x3)) ∧
 minv_RowsW_1 a0 (x7 ++ [(Word.mk (x10 + x2) (sub (ix (splitI (bx ([10] : List UInt8) 0) a0) x3) (x10 + 1) (((x10 + (idxB (fr (ix (splitI (bx ([10] : List UInt8) 0) a0) x3) (x10 + 1)) 34)) + 2) - 1)) true)]) ((x10 + (idxB (fr (ix (splitI (bx ([10] : List UInt8) 0) a0) x3) (x10 + 1)) 34)) + 2) x2 (ix (splitI (bx ([10] : List UInt8) 0) a0) x3) < minv_RowsW_1 a0 x7 x8 x2 (ix (splitI (bx ([10] : List UInt8) 0) a0) x3)))) ∧
((bx (ix (splitI (bx ([10] : List UInt8) 0) a0) x3) ((x10 + (idxB (fr (ix (splitI (bx ([10] : List UInt8) 0) a0) x3) (x10 + 1)) 34)) + 2)) = 32 →
(I64 (x10 + 1)) ∧
(I64 (((x10 + (idxB (fr (ix (splitI (bx ([10] : List UInt8) 0) a0) x3) (x10 + 1)) 34)) + 2) - 1)) ∧
((0 : Int) ≤ (x10 + 1) ∧ (x10 + 1) ≤ (((x10 + (idxB (fr (ix (splitI (bx ([10] : List UInt8) 0) a0) x3) (x10 + 1)) 34)) + 2) - 1) ∧ (((x10 + (idxB (fr (ix (splitI (bx ([10] : List UInt8) 0) a0) x3) (x10 + 1)) 34)) + 2) - 1) ≤ ln (ix (splitI (bx ([10] : List UInt8) 0) a0) x3)) ∧
(I64 (x10 + x2)) ∧
(True) ∧
(Short (List.length x7 + List.length [(Word.mk (x10 + x2) (sub (ix (splitI (bx ([10] : List UInt8) 0) a0) x3) (x10 + 1) (((x10 + (idxB (fr (ix (splitI (bx ([10] : List UInt8) 0) a0) x3) (x10 + 1)) 34)) + 2) - 1)) true)])) ∧
((x2 : Int) = x2) ∧
(x1 = x1) ∧
((ix (splitI (bx ([10] : List UInt8) 0) a0) x3) = (ix (splitI (bx ([10] : List UInt8) 0) a0) x3)) ∧
((0 : Int) = 0) ∧
((0 : Int) = 0) ∧
(inv_RowsW_1 a0 (x7 ++ [(Word.mk (x10 + x2) (sub (ix (splitI (bx ([10] : List UInt8) 0) a0) x3) (x10 + 1) (((x10 + (idxB (fr (ix (splitI (bx ([10] : List UInt8) 0) a0) x3) (x10 + 1)) 34)) + 2) - 1)) true)]) ((x10 + (idxB (fr (ix (splitI (bx ([10] : List UInt8) 0) a0) x3) (x10 + 1)) 34)) + 2) x2 (ix (splitI (bx ([10] : List UInt8) 0) a0) x3)) ∧
 minv_RowsW_1 a0 (x7 ++ [(Word.mk (x10 + x2) (sub (ix (splitI (bx ([10] : List UInt8) 0) a0) x3) (x10 + 1) (((x10 + (idxB (fr (ix (splitI (bx ([10] : List UInt8) 0) a0) x3) (x10 + 1)) 34)) + 2) - 1)) true)]) ((x10 + (idxB (fr (ix (splitI (bx ([10] : List UInt8) 0) a0) x3) (x10 + 1)) 34)) + 2) x2 (ix (splitI (bx ([10] : List UInt8) 0) a0) x3) < minv_RowsW_1 a0 x7 x8 x2 (ix (splitI (bx ([10] : List UInt8) 0) a0) x3)))) ∧
((ln (ix (splitI (bx ([10] : List UInt8) 0) a0) x3)) ≤ ((x10 + (idxB (fr (ix (splitI (bx ([10] : List UInt8) 0) a0) x3) (x10 + 1)) 34)) + 2) →
(I64 (x10 + 1)) ∧
(I64 (((x10 + (idxB (fr (ix (splitI (bx ([10] : List UInt8) 0) a0) x3) (x10 + 1)) 34)) + 2) - 1)) ∧
((0 : Int) ≤ (x10 + 1) ∧ (x10 + 1) ≤ (((x10 + (idxB (fr (ix (splitI (bx ([10] : List UInt8) 0) a0) x3) (x10 + 1)) 34)) + 2) - 1) ∧ (((x10 + (idxB (fr (ix (splitI (bx ([10] : List UInt8) 0) a0) x3) (x10 + 1)) 34)) + 2) - 1) ≤ ln (ix (splitI (bx ([10] : List UInt8) 0) a0) x3)) ∧
(I64 (x10 + x2)) ∧
(True) ∧
(Short (List.length x7 + List.length [(Word.mk (x10 + x2) (sub (ix (splitI (bx ([10] : List UInt8) 0) a0) x3) (x10 + 1) (((x10 + (idxB (fr (ix (splitI (bx ([10] : List UInt8) 0) a0) x3) (x10 + 1)) 34)) + 2) - 1)) true)])) ∧
((x2 : Int) = x2) ∧
(x1 = x1) ∧
((ix (splitI (bx ([10] : List UInt8) 0) a0) x3) = (ix (splitI (bx ([10] : List UInt8) 0) a0) x3)) ∧
((0 : Int) = 0) ∧
((0 : Int) = 0) ∧
(inv_RowsW_1 a0 (x7 ++ [(Word.mk (x10 + x2) (sub (ix (splitI (bx ([10] : List UInt8) 0) a0) x3) (x10 + 1) (((x10 + (idxB (fr (ix (splitI (bx ([10] : List UInt8) 0) a0) x3) (x10 + 1)) 34)) + 2) - 1)) true)]) ((x10 + (idxB (fr (ix (splitI (bx ([10] : List UInt8) 0) a0) x3) (x10 + 1)) 34)) + 2) x2 (ix (splitI (bx ([10] : List UInt8) 0) a0) x3)) ∧
 minv_RowsW_1 a0 (x7 ++ [(Word.mk (x10 + x2) (sub (ix (splitI (bx ([10] : List UInt8) 0) a0) x3) (x10 + 1) (((x10 + (idxB (fr (ix (splitI (bx ([10] : List UInt8) 0) a0) x3) (x10 + 1)) 34)) + 2) - 1)) true)]) ((x10 + (idxB (fr (ix (splitI (bx ([10] : List UInt8) 0) a0) x3) (x10 + 1)) 34)) + 2) x2 (ix (splitI (bx ([10] : List UInt8) 0) a0) x3) < minv_RowsW_1 a0 x7 x8 x2 (ix (splitI (bx ([10] : List UInt8) 0) a0) x3))))))) ∧
((classI (bx (ix (splitI (bx ([10] : List UInt8) 0) a0) x3) x10)) ≠ 113 →
(inv_RowsW_3 a0 x10 (ix (splitI (bx ([10] : List UInt8) 0) a0) x3) x10) ∧
(∀ x18 : Int,
(inv_RowsW_3 a0 x18 (ix (splitI (bx ([10] : List UInt8) 0) a0) x3) x10 →
((x18 < (ln (ix (splitI (bx ([10] : List UInt8) 0) a0) x3)) →
(Wn x18 (ln (ix (splitI (bx ([10] : List UInt8) 0) a0) x3))) ∧
((U8 (bx (ix (splitI (bx ([10] : List UInt8) 0) a0) x3) x18))) ∧
(((classI (bx (ix (splitI (bx ([10] : List UInt8) 0) a0) x3) x18)) = 112 →
(I64 (x18 + 1)) ∧
((0 : Int) = 0) ∧
(([] : List UInt8) = ([] : List UInt8)) ∧
((0 : Int) = 0) ∧
((ix (splitI (bx ([10] : List UInt8) 0) a0) x3) = (ix (splitI (bx ([10] : List UInt8) 0) a0) x3)) ∧
((x2 : Int) = x2) ∧
(x7 = x7) ∧
((0 : Int) = 0) ∧
((0 : Int) = 0) ∧
(inv_RowsW_3 a0 (x18 + 1) (ix (splitI (bx ([10] : List UInt8) 0) a0) x3) x10) ∧
 minv_RowsW_3 a0 (x18 + 1) (ix (splitI (bx ([10] : List UInt8) 0) a0) x3) x10 < minv_RowsW_3 a0 x18 (ix (splitI (bx ([10] : List UInt8) 0) a0) x3) x10)) ∧
((classI (bx (ix (splitI (bx ([10] : List UInt8) 0) a0) x3) x18)) ≠ 112 →
((0 : Int) ≤ x10 ∧ x10 ≤ x18 ∧ x18 ≤ ln (ix (splitI (bx ([10] : List UInt8) 0) a0) x3)) ∧
(I64 (x10 + x2)) ∧
(True) ∧
(Short (List.length x7 + List.length [(Word.mk (x10 + x2) (sub (ix (splitI (bx ([10] : List UInt8) 0) a0) x3) x10 x18) false)])) ∧
((x2 : Int) = x2) ∧
(x1 = x1) ∧
((ix (splitI (bx ([10] : List UInt8) 0) a0) x3) = (ix (splitI (bx ([10] : List UInt8) 0) a0) x3)) ∧
((0 : Int) = 0) ∧
((0 : Int) = 0) ∧
(inv_RowsW_1 a0 (x7 ++ [(Word.mk (x10 + x2) (sub (ix (splitI (bx ([10] : List UInt8) 0) a0) x3) x10 x18) false)]) x18 x2 (ix (splitI (bx ([10] : List UInt8) 0) a0) x3)) ∧
 minv_RowsW_1 a0 (x7 ++ [(Word.mk (x10 + x2) (sub (ix (splitI (bx ([10] : List UInt8) 0) a0) x3) x10 x18) false)]) x18 x2 (ix (splitI (bx ([10] : List UInt8) 0) a0) x3) < minv_RowsW_1 a0 x7 x8 x2 (ix (splitI (bx ([10] : List UInt8) 0) a0) x3)))) ∧
((ln (ix (splitI (bx ([10] : List UInt8) 0) a0) x3)) ≤ x18 →
((0 : Int) ≤ x10 ∧ x10 ≤ x18 ∧ x18 ≤ ln (ix (splitI (bx ([10] : List UInt8) 0) a0) x3)) ∧
(I64 (x10 + x2)) ∧
(True) ∧
(Short (List.length x7 + List.length [(Word.mk (x10 + x2) (sub (ix (splitI (bx ([10] : List UInt8) 0) a0) x3) x10 x18) false)])) ∧
((x2 : Int) = x2) ∧
(x1 = x1) ∧
((ix (splitI (bx ([10] : List UInt8) 0) a0) x3) = (ix (splitI (bx ([10] : List UInt8) 0) a0) x3)) ∧
((0 : Int) = 0) ∧
((0 : Int) = 0) ∧
(inv_RowsW_1 a0 (x7 ++ [(Word.mk (x10 + x2) (sub (ix (splitI (bx ([10] : List UInt8) 0) a0) x3) x10 x18) false)]) x18 x2 (ix (splitI (bx ([10] : List UInt8) 0) a0) x3)) ∧
 minv_RowsW_1 a0 (x7 ++ [(Word.mk (x10 + x2) (sub (ix (splitI (bx ([10] : List UInt8) 0) a0) x3) x10 x18) false)]) x18 x2 (ix (splitI (bx ([10] : List UInt8) 0) a0) x3) < minv_RowsW_1 a0 x7 x8 x2 (ix (splitI (bx ([10] : List UInt8) 0) a0) x3))))))))))) ∧
((ln (ix (splitI (bx ([10] : List UInt8) 0) a0) x3)) ≤ x10 →
((x10 = (ln (ix (splitI (bx ([10] : List UInt8) 0) a0) x3)) →
((0 < (ln x7) →
(True) ∧
(Short (List.length x1 + List.length [(Row.mk x2 x7)])) ∧
(I64 (x3 + 1)) ∧
((0 : Int) = 0) ∧
((0 : Int) = 0) ∧
(inv_RowsW_0 a0 (x1 ++ [(Row.mk x2 x7)]) (x2 + ((ln (ix (splitI (bx ([10] : List UInt8) 0) a0) x3)) + 1)) (x3 + 1)) ∧
 minv_RowsW_0 a0 (x1 ++ [(Row.mk x2 x7)]) (x2 + ((ln (ix (splitI (bx ([10] : List UInt8) 0) a0) x3)) + 1)) (x3 + 1) < minv_RowsW_0 a0 x1 x2 x3)) ∧
((ln x7) ≤ 0 →
(I64 (x3 + 1)) ∧
((0 : Int) = 0) ∧
((0 : Int) = 0) ∧
(inv_RowsW_0 a0 x1 (x2 + ((ln (ix (splitI (bx ([10] : List UInt8) 0) a0) x3)) + 1)) (x3 + 1)) ∧
 minv_RowsW_0 a0 x1 (x2 + ((ln (ix (splitI (bx ([10] : List UInt8) 0) a0) x3)) + 1)) (x3 + 1) < minv_RowsW_0 a0 x1 x2 x3))) ∧
(x10 ≠ (ln (ix (splitI (bx ([10] : List UInt8) 0) a0) x3)) →
(Wn x10 (ln (ix (splitI (bx ([10] : List UInt8) 0) a0) x3))) ∧
(((bx (ix (splitI (bx ([10] : List UInt8) 0) a0) x3) x10) = 59 →
((0 < (ln x7) →
(True) ∧
(Short (List.length x1 + List.length [(Row.mk x2 x7)])) ∧
(I64 (x3 + 1)) ∧
((0 : Int) = 0) ∧
((0 : Int) = 0) ∧
(inv_RowsW_0 a0 (x1 ++ [(Row.mk x2 x7)]) (x2 + ((ln (ix (splitI (bx ([10] : List UInt8) 0) a0) x3)) + 1)) (x3 + 1)) ∧
 minv_RowsW_0 a0 (x1 ++ [(Row.mk x2 x7)]) (x2 + ((ln (ix (splitI (bx ([10] : List UInt8) 0) a0) x3)) + 1)) (x3 + 1) < minv_RowsW_0 a0 x1 x2 x3)) ∧
((ln x7) ≤ 0 →
(I64 (x3 + 1)) ∧
((0 : Int) = 0) ∧
((0 : Int) = 0) ∧
(inv_RowsW_0 a0 x1 (x2 + ((ln (ix (splitI (bx ([10] : List UInt8) 0) a0) x3)) + 1)) (x3 + 1)) ∧
 minv_RowsW_0 a0 x1 (x2 + ((ln (ix (splitI (bx ([10] : List UInt8) 0) a0) x3)) + 1)) (x3 + 1) < minv_RowsW_0 a0 x1 x2 x3))) ∧
((bx (ix (splitI (bx ([10] : List UInt8) 0) a0) x3) x10) ≠ 59 →
(Wn x10 (ln (ix (splitI (bx ([10] : List UInt8) 0) a0) x3))) ∧
((U8 (bx (ix (splitI (bx ([10] : List UInt8) 0) a0) x3) x10))) ∧
(((classI (bx (ix (splitI (bx ([10] : List UInt8) 0) a0) x3) x10)) = 120 →
((0 ≤ x10 →
(I64 (x2 + x10)) ∧
(([] : List Row) = ((rowsR a0).1)) ∧
((3 : Int) = ((rowsR a0).2.1)) ∧
(((x2 + x10) : Int) = ((rowsR a0).2.2)) ∧
                 True)) ∧
(x10 < 0 →
(I64 (0 + x2)) ∧
(True) ∧
(Short (List.length x7 + List.length [(Word.mk (0 + x2) ([] : List UInt8) false)])) ∧
((x2 : Int) = x2) ∧
(x1 = x1) ∧
((ix (splitI (bx ([10] : List UInt8) 0) a0) x3) = (ix (splitI (bx ([10] : List UInt8) 0) a0) x3)) ∧
((0 : Int) = 0) ∧
((0 : Int) = 0) ∧
(inv_RowsW_1 a0 (x7 ++ [(Word.mk (0 + x2) ([] : List UInt8) false)]) x10 x2 (ix (splitI (bx ([10] : List UInt8) 0) a0) x3)) ∧
 minv_RowsW_1 a0 (x7 ++ [(Word.mk (0 + x2) ([] : List UInt8) false)]) x10 x2 (ix (splitI (bx ([10] : List UInt8) 0) a0) x3) < minv_RowsW_1 a0 x7 x8 x2 (ix (splitI (bx ([10] : List UInt8) 0) a0) x3)))) ∧
((classI (bx (ix (splitI (bx ([10] : List UInt8) 0) a0) x3) x10)) ≠ 120 →
(((classI (bx (ix (splitI (bx ([10] : List UInt8) 0) a0) x3) x10)) = 113 →
(I64 (x10 + 1)) ∧
((0 : Int) ≤ (x10 + 1) ∧ (x10 + 1) ≤ ln (ix (splitI (bx ([10] : List UInt8) 0) a0) x3)) ∧
(True) ∧
((0 < x10 →
(I64 (x10 - 1)) ∧
(Wn (x10 - 1) (ln (ix (splitI (bx ([10] : List UInt8) 0) a0) x3))) ∧
(((bx (ix (splitI (bx ([10] : List UInt8) 0) a0) x3) (x10 - 1)) ≠ 32 →
((0 ≤ x10 →
(I64 (x2 + x10)) ∧
(([] : List Row) = ((rowsR a0).1)) ∧
((3 : Int) = ((rowsR a0).2.1)) ∧
(((x2 + x10) : Int) = ((rowsR a0).2.2)) ∧
                    True)) ∧
(x10 < 0 →
(I64 (0 + x2)) ∧
(True) ∧
(Short (List.length x7 + List.length [(Word.mk (0 + x2) ([] : List UInt8) false)])) ∧
((x2 : Int) = x2) ∧
(x1 = x1) ∧
((ix (splitI (bx ([10] : List UInt8) 0) a0) x3) = (ix (splitI (bx ([10] : List UInt8) 0) a0) x3)) ∧
((0 : Int) = 0) ∧
((0 : Int) = 0) ∧
(inv_RowsW_1 a0 (x7 ++ [(Word.mk (0 + x2) ([] : List UInt8) false)]) x10 x2 (ix (splitI (bx ([10] : List UInt8) 0) a0) x3)) ∧
 minv_RowsW_1 a0 (x7 ++ [(Word.mk (0 + x2) ([] : List UInt8) false)]) x10 x2 (ix (splitI (bx ([10] : List UInt8) 0) a0) x3) < minv_RowsW_1 a0 x7 x8 x2 (ix (splitI (bx ([10] : List UInt8) 0) a0) x3)))) ∧
((bx (ix (splitI (bx ([10] : List UInt8) 0) a0) x3) (x10 - 1)) = 32 →
(((idxB (fr (ix (splitI (bx ([10] : List UInt8) 0) a0) x3) (x10 + 1)) 34) < 0 →
((0 ≤ x10 →
(I64 (x2 + x10)) ∧
(([] : List Row) = ((rowsR a0).1)) ∧
((3 : Int) = ((rowsR a0).2.1)) ∧
(((x2 + x10) : Int) = ((rowsR a0).2.2)) ∧
                     True)) ∧
(x10 < 0 →
(I64 (0 + x2)) ∧
(True) ∧
(Short (List.length x7 + List.length [(Word.mk (0 + x2) ([] : List UInt8) false)])) ∧
((x2 : Int) = x2) ∧
(x1 = x1) ∧
((ix (splitI (bx ([10] : List UInt8) 0) a0) x3) = (ix (splitI (bx ([10] : List UInt8) 0) a0) x3)) ∧
((0 : Int) = 0) ∧
((0 : Int) = 0) ∧
(inv_RowsW_1 a0 (x7 ++ [(Word.mk (0 + x2) ([] : List UInt8) false)]) x10 x2 (ix (splitI (bx ([10] : List UInt8) 0) a0) x3)) ∧
 minv_RowsW_1 a0 (x7 ++ [(Word.mk (0 + x2) ([] : List UInt8) false)]) x10 x2 (ix (splitI (bx ([10] : List UInt8) 0) a0) x3) < minv_RowsW_1 a0 x7 x8 x2 (ix (splitI (bx ([10] : List UInt8) 0) a0) x3)))) ∧
(0 ≤ (idxB (fr (ix (splitI (bx ([10] : List UInt8) 0) a0) x3) (x10 + 1)) 34) →
(I64 (x10 + 1)) ∧
(I64 (x10 + 1)) ∧
(I64 ((x10 + 1) + (idxB (fr (ix (splitI (bx ([10] : List UInt8) 0) a0) x3) (x10 + 1)) 34))) ∧
((0 : Int) ≤ (x10 + 1) ∧ (x10 + 1) ≤ ((x10 + 1) + (idxB (fr (ix (splitI (bx ([10] : List UInt8) 0) a0) x3) (x10 + 1)) 34)) ∧ ((x10 + 1) + (idxB (fr (ix (splitI (bx ([10] : List UInt8) 0) a0) x3) (x10 + 1)) 34)) ≤ ln (ix (splitI (bx ([10] : List UInt8) 0) a0) x3)) ∧
((ln (sub (ix (splitI (bx ([10] : List UInt8) 0) a0) x3) (x10 + 1) ((x10 + 1) + (idxB (fr (ix (splitI (bx ([10] : List UInt8) 0) a0) x3) (x10 + 1)) 34))) ≤ 1000000000)) ∧
(((quotedB (sub (ix (splitI (bx ([10] : List UInt8) 0) a0) x3) (x10 + 1) ((x10 + 1) + (idxB (fr (ix (splitI (bx ([10] : List UInt8) 0) a0) x3) (x10 + 1)) 34)))) = false →
((0 ≤ x10 →
(I64 (x2 + x10)) ∧
(([] : List Row) = ((rowsR a0).1)) ∧
((3 : Int) = ((rowsR a0).2.1)) ∧
(((x2 + x10) : Int) = ((rowsR a0).2.2)) ∧
                      True)) ∧
(x10 < 0 →
(I64 (0 + x2)) ∧
(True) ∧
(Short (List.length x7 + List.length [(Word.mk (0 + x2) ([] : List UInt8) false)])) ∧
((x2 : Int) = x2) ∧
(x1 = x1) ∧
((ix (splitI (bx ([10] : List UInt8) 0) a0) x3) = (ix (splitI (bx ([10] : List UInt8) 0) a0) x3)) ∧
((0 : Int) = 0) ∧
((0 : Int) = 0) ∧
(inv_RowsW_1 a0 (x7 ++ [(Word.mk (0 + x2) ([] : List UInt8) false)]) x10 x2 (ix (splitI (bx ([10] : List UInt8) 0) a0) x3)) ∧
 minv_RowsW_1 a0 (x7 ++ [(Word.mk (0 + x2) ([] : List UInt8) false)]) x10 x2 (ix (splitI (bx ([10] : List UInt8) 0) a0) x3) < minv_RowsW_1 a0 x7 x8 x2 (ix (splitI (bx ([10] : List UInt8) 0) a0) x3)))) ∧
((quotedB (sub (ix (splitI (bx ([10] : List UInt8) 0) a0) x3) (x10 + 1) ((x10 + 1) + (idxB (fr (ix (splitI (bx ([10] : List UInt8) 0) a0) x3) (x10 + 1)) 34)))) = true →
(I64 (x10 + (idxB (fr (ix (splitI (bx ([10] : List UInt8) 0) a0) x3) (x10 + 1)) 34))) ∧
(I64 ((x10 + (idxB (fr (ix (splitI (bx ([10] : List UInt8) 0) a0) x3) (x10 + 1)) 34)) + 2)) ∧
((((x10 + (idxB (fr (ix (splitI (bx ([10] : List UInt8) 0) a0) x3) (x10 + 1)) 34)) + 2) < (ln (ix (splitI (bx ([10] : List UInt8) 0) a0) x3)) →
(Wn ((x10 + (idxB (fr (ix (splitI (bx ([10] : List UInt8) 0) a0) x3) (x10 + 1)) 34)) + 2) (ln (ix (splitI (bx ([10] : List UInt8) 0) a0) x3))) ∧
(((bx (ix (splitI (bx ([10] : List UInt8) 0) a0) x3) ((x10 + (idxB (fr (ix (splitI (bx ([10] : List UInt8) 0) a0) x3) (x10 + 1)) 34)) + 2)) ≠ 32 →
(Wn ((x10 + (idxB (fr (ix (splitI (bx ([10] : List UInt8) 0) a0) x3) (x10 + 1)) 34)) + 2) (ln (ix (splitI (bx ([10] : List UInt8) 0) a0) x3))) ∧
(((bx (ix (splitI (bx ([10] : List UInt8) 0) a0) x3) ((x10 + (idxB (fr (ix (splitI (bx ([10] : List UInt8) 0) a0) x3) (x10 + 1)) 34)) + 2)) ≠ 59 →
((0 ≤ x10 →
(I64 (x2 + x10)) ∧
(([] : List Row) = ((rowsR a0).1)) ∧
((3 : Int) = ((rowsR a0).2.1)) ∧
(((x2 + x10) : Int) = ((rowsR a0).2.2)) ∧
                         True)) ∧
(x10 < 0 →
(I64 (0 + x2)) ∧
(True) ∧
(Short (List.length x7 + List.length [(Word.mk (0 + x2) ([] : List UInt8) false)])) ∧
((x2 : Int) = x2) ∧
(x1 = x1) ∧
((ix (splitI (bx ([10] : List UInt8) 0) a0) x3) = (ix (splitI (bx ([10] : List UInt8) 0) a0) x3)) ∧
((0 : Int) = 0) ∧
((0 : Int) = 0) ∧
(inv_RowsW_1 a0 (x7 ++ [(Word.mk (0 + x2) ([] : List UInt8) false)]) ((x10 + (idxB (fr (ix (splitI (bx ([10] : List UInt8) 0) a0) x3) (x10 + 1)) 34)) + 2) x2 (ix (splitI (bx ([10] : List UInt8) 0) a0) x3)) ∧
 minv_RowsW_1 a0 (x7 ++ [(Word.mk (0 + x2) ([] : List UInt8) false)]) ((x10 + (idxB (fr (ix (splitI (bx ([10] : List UInt8) 0) a0) x3) (x10 + 1)) 34)) + 2) x2 (ix (splitI (bx ([10] : List UInt8) 0) a0) x3) < minv_RowsW_1 a0 x7 x8 x2 (ix (splitI (bx ([10] : List UInt8) 0) a0) x3)))) ∧
((bx (ix (splitI (bx ([10] : List UInt8) 0) a0) x3) ((x10 + (idxB (fr (ix (splitI (bx ([10] : List UInt8) 0) a0) x3) (x10 + 1)) 34)) + 2)) = 59 →
(I64 (x10 + 1)) ∧
(I64 (((x10 + (idxB (fr (ix (splitI (bx ([10] : List UInt8) 0) a0) x3) (x10 + 1)) 34)) + 2) - 1)) ∧
((0 : Int) ≤ (x10 + 1) ∧ (x10 + 1) ≤ (((x10 + (idxB (fr (ix (splitI (bx ([10] : List UInt8) 0) a0) x3) (x10 + 1)) 34)) + 2) - 1) ∧ (((x10 + (idxB (fr (ix (splitI (bx ([10] : List UInt8) 0) a0) x3) (x10 + 1)) 34)) + 2) - 1) ≤ ln (ix (splitI (bx ([10] : List UInt8) 0) a0) x3)) ∧
(I64 (x10 + x2)) ∧
(True) ∧
(Short (List.length x7 + List.length [(Word.mk (x10 + x2) (sub (ix (splitI (bx ([10] : List UInt8) 0) a0) x3) (x10 + 1) (((x10 + (idxB (fr (ix (splitI (bx ([10] : List UInt8) 0) a0) x3) (x10 + 1)) 34)) + 2) - 1)) true)])) ∧
((x2 : Int) = x2) ∧
(x1 = x1) ∧
((ix (splitI (bx ([10] : List UInt8) 0) a0) x3) = (ix (splitI (bx ([10] : List UInt8) 0) a0) x3)) ∧
((0 : Int) = 0) ∧
((0 : Int) = 0) ∧
(inv_RowsW_1 a0 (x7 ++ [(Word.mk (x10 + x2) (sub (ix (splitI (bx ([10] : List UInt8) 0) a0) x3) (x10 + 1) (((x10 + (idxB (fr (ix (splitI (bx ([10] : List UInt8) 0) a0) x3) (x10 + 1)) 34)) + 2) - 1)) true)]) ((x10 + (idxB (fr (ix (splitI (bx ([10] : List UInt8) 0) a0) x3) (x10 + 1)) 34)) + 2) x2 (ix (splitI (bx ([10] : List UInt8) 0) a0) x3)) ∧
 minv_RowsW_1 a0 (x7 ++ [(Word.mk (x10 + x2) (sub (ix (splitI (bx ([10] : List UInt8) 0) a0) x3) (x10 + 1) (((x10 + (idxB (fr (ix (splitI (bx ([10] : List UInt8) 0) a0) x3) (x10 + 1)) 34)) + 2) - 1)) true)]) ((x10 + (idxB (fr (ix (splitI (bx ([10] : List UInt8) 0) a0) x3) (x10 + 1)) 34)) + 2) x2 (ix (splitI (bx ([10] : List UInt8) 0) a0) x3) < minv_RowsW_1 a0 x7 x8 x2 (ix (splitI (bx ([10] : List UInt8) 0) a0) x3)))) ∧
((bx (ix (splitI (bx ([10] : List UInt8) 0) a0) x3) ((x10 + (idxB (fr (ix (splitI (bx ([10] : List UInt8) 0) a0) x3) (x10 + 1)) 34)) + 2)) = 32 →
(I64 (x10 + 1)) ∧
(I64 (((x10 + (idxB (fr (ix (splitI (bx ([10] : List UInt8) 0) a0) x3) (x10 + 1)) 34)) + 2) - 1)) ∧
((0 : Int) ≤ (x10 + 1) ∧ (x10 + 1) ≤ (((x10 + (idxB (fr (ix (splitI (bx ([10] : List UInt8) 0) a0) x3) (x10 + 1)) 34)) + 2) - 1) ∧ (((x10 + (idxB (fr (ix (splitI (bx ([10] : List UInt8) 0) a0) x3) (x10 + 1)) 34)) + 2) - 1) ≤ ln (ix (splitI (bx ([10] : List UInt8) 0) a0) x3)) ∧
(I64 (x10 + x2)) ∧
(True) ∧
(Short (List.length x7 + List.length [(Word.mk (x10 + x2) (sub (ix (splitI (bx ([10] : List UInt8) 0) a0) x3) (x10 + 1) (((x10 + (idxB (fr (ix (splitI (bx ([10] : List UInt8) 0) a0) x3) (x10 + 1)) 34)) + 2) - 1)) true)])) ∧
((x2 : Int) = x2) ∧
(x1 = x1) ∧
((ix (splitI (bx ([10] : List UInt8) 0) a0) x3) = (ix (splitI (bx ([10] : List UInt8) 0) a0) x3)) ∧
((0 : Int) = 0) ∧
((0 : Int) = 0) ∧
(inv_RowsW_1 a0 (x7 ++ [(Word.mk (x10 + x2) (sub (ix (splitI (bx ([10] : List UInt8) 0) a0) x3) (x10 + 1) (((x10 + (idxB (fr (ix (splitI (bx ([10] : List UInt8) 0) a0) x3) (x10 + 1)) 34)) + 2) - 1)) true)]) ((x10 + (idxB (fr (ix (splitI (bx ([10] : List UInt8) 0) a0) x3) (x10 + 1)) 34)) + 2) x2 (ix (splitI (bx ([10] : List UInt8) 0) a0) x3)) ∧
 minv_RowsW_1 a0 (x7 ++ [(Word.mk (x10 + x2) (sub (ix (splitI (bx ([10] : List UInt8) 0) a0) x3) (x10 + 1) (((x10 + (idxB (fr (ix (splitI (bx ([10] : List UInt8) 0) a0) x3) (x10 + 1)) 34)) + 2) - 1)) true)]) ((x10 + (idxB (fr (ix (splitI (bx ([10] : List UInt8) 0) a0) x3) (x10 + 1)) 34)) + 2) x2 (ix (splitI (bx ([10] : List UInt8) 0) a0) x3) < minv_RowsW_1 a0 x7 x8 x2 (ix (splitI (bx ([10] : List UInt8) 0) a0) x3)))) ∧
((ln (ix (splitI (bx ([10] : List UInt8) 0) a0) x3)) ≤ ((x10 + (idxB (fr (ix (splitI (bx ([10] : List UInt8) 0) a0) x3) (x10 + 1)) 34)) + 2) →
(I64 (x10 + 1)) ∧
(I64 (((x10 + (idxB (fr (ix (splitI (bx ([10] : List UInt8) 0) a0) x3) (x10 + 1)) 34)) + 2) - 1)) ∧
((0 : Int) ≤ (x10 + 1) ∧ (x10 + 1) ≤ (((x10 + (idxB (fr (ix (splitI (bx ([10] : List UInt8) 0) a0) x3) (x10 + 1)) 34)) + 2) - 1) ∧ (((x10 + (idxB (fr (ix (splitI (bx ([10] : List UInt8) 0) a0) x3) (x10 + 1)) 34)) + 2) - 1) ≤ ln (ix (splitI (bx ([10] : List UInt8) 0) a0) x3)) ∧
(I64 (x10 + x2)) ∧
(True) ∧
(Short (List.length x7 + List.length [(Word.mk (x10 + x2) (sub (ix (splitI (bx ([10] : List UInt8) 0) a0) x3) (x10 + 1) (((x10 + (idxB (fr (ix (splitI (bx ([10] : List UInt8) 0) a0) x3) (x10 + 1)) 34)) + 2) - 1)) true)])) ∧
((x2 : Int) = x2) ∧
(x1 = x1) ∧
((ix (splitI (bx ([10] : List UInt8) 0) a0) x3) = (ix (splitI (bx ([10] : List UInt8) 0) a0) x3)) ∧
((0 : Int) = 0) ∧
((0 : Int) = 0) ∧
(inv_RowsW_1 a0 (x7 ++ [(Word.mk (x10 + x2) (sub (ix (splitI (bx ([10] : List UInt8) 0) a0) x3) (x10 + 1) (((x10 + (idxB (fr (ix (splitI (bx ([10] : List UInt8) 0) a0) x3) (x10 + 1)) 34)) + 2) - 1)) true)]) ((x10 + (idxB (fr (ix (splitI (bx ([10] : List UInt8) 0) a0) x3) (x10 + 1)) 34)) + 2) x2 (ix (splitI (bx ([10] : List UInt8) 0) a0) x3)) ∧
 minv_RowsW_1 a0 (x7 ++ [(Word.mk (x10 + x2) (sub (ix (splitI (bx ([10] : List UInt8) 0) a0) x3) (x10 + 1) (((x10 + (idxB (fr (ix (splitI (bx ([10] : List UInt8) 0) a0) x3) (x10 + 1)) 34)) + 2) - 1)) true)]) ((x10 + (idxB (fr (ix (splitI (bx ([10] : List UInt8) 0) a0) x3) (x10 + 1)) 34)) + 2) x2 (ix (splitI (bx ([10] : List UInt8) 0) a0) x3) < minv_RowsW_1 a0 x7 x8 x2 (ix (splitI (bx ([10] : List UInt8) 0) a0) x3))))))) ∧
(x10 ≤ 0 →
(((idxB (fr (ix (splitI (bx ([10] : List UInt8) 0) a0) x3) (x10 + 1)) 34) < 0 →
((0 ≤ x10 →
(I64 (x2 + x10)) ∧
(([] : List Row) = ((rowsR a0).1)) ∧
((3 : Int) = ((rowsR a0).2.1)) ∧
(((x2 + x10) : Int) = ((rowsR a0).2.2)) ∧
                    True)) ∧
(x10 < 0 →
(I64 (0 + x2)) ∧
(True) ∧
(Short (List.length x7 + List.length [(Word.mk (0 + x2) ([] : List UInt8) false)])) ∧
((x2 : Int) = x2) ∧
(x1 = x1) ∧
((ix (splitI (bx ([10] : List UInt8) 0) a0) x3) = (ix (splitI (bx ([10] : List UInt8) 0) a0) x3)) ∧
((0 : Int) = 0) ∧
((0 : Int) = 0) ∧
(inv_RowsW_1 a0 (x7 ++ [(Word.mk (0 + x2) ([] : List UInt8) false)]) x10 x2 (ix (splitI (bx ([10] : List UInt8) 0) a0) x3)) ∧
 minv_RowsW_1 a0 (x7 ++ [(Word.mk (0 + x2) ([] : List UInt8) false)]) x10 x2 (ix (splitI (bx ([10] : List UInt8) 0) a0) x3) < minv_RowsW_1 a0 x7 x8 x2 (ix (splitI (bx ([10] : List UInt8) 0) a0) x3)))) ∧
(0 ≤ (idxB (fr (ix (splitI (bx ([10] : List UInt8) 0) a0) x3) (x10 + 1)) 34) →
(I64 (x10 + 1)) ∧
(I64 (x10 + 1)) ∧
(I64 ((x10 + 1) + (idxB (fr (ix (splitI (bx ([10] : List UInt8) 0) a0) x3) (x10 + 1)) 34))) ∧
((0 : Int) ≤ (x10 + 1) ∧ (x10 + 1) ≤ ((x10 + 1) + (idxB (fr (ix (splitI (bx ([10] : List UInt8) 0) a0) x3) (x10 + 1)) 34)) ∧ ((x10 + 1) + (idxB (fr (ix (splitI (bx ([10] : List UInt8) 0) a0) x3) (x10 + 1)) 34)) ≤ ln (ix (splitI (bx ([10] : List UInt8) 0) a0) x3)) ∧
((ln (sub (ix (splitI (bx ([10] : List UInt8) 0) a0) x3) (x10 + 1) ((x10 + 1) + (idxB (fr (ix (splitI (bx ([10] : List UInt8) 0) a0) x3) (x10 + 1)) 34))) ≤ 1000000000)) ∧
(((quotedB (sub (ix (splitI (bx ([10] : List UInt8) 0) a0) x3) (x10 + 1) ((x10 + 1) + (idxB (fr (ix (splitI (bx ([10] : List UInt8) 0) a0) x3) (x10 + 1)) 34)))) = false →
((0 ≤ x10 →
(I64 (x2 + x10)) ∧
(([] : List Row) = ((rowsR a0).1)) ∧
((3 : Int) = ((rowsR a0).2.1)) ∧
(((x2 + x10) : Int) = ((rowsR a0).2.2)) ∧
                     True)) ∧
(x10 < 0 →
(I64 (0 + x2)) ∧
(True) ∧
(Short (List.length x7 + List.length [(Word.mk (0 + x2) ([] : List UInt8) false)])) ∧
((x2 : Int) = x2) ∧
(x1 = x1) ∧
((ix (splitI (bx ([10] : List UInt8) 0) a0) x3) = (ix (splitI (bx ([10] : List UInt8) 0) a0) x3)) ∧
((0 : Int) = 0) ∧
((0 : Int) = 0) ∧
(inv_RowsW_1 a0 (x7 ++ [(Word.mk (0 + x2) ([] : List UInt8) false)]) x10 x2 (ix (splitI (bx ([10] : List UInt8) 0) a0) x3)) ∧
 minv_RowsW_1 a0 (x7 ++ [(Word.mk (0 + x2) ([] : List UInt8) false)]) x10 x2 (ix (splitI (bx ([10] : List UInt8) 0) a0) x3) < minv_RowsW_1 a0 x7 x8 x2 (ix (splitI (bx ([10] : List UInt8) 0) a0) x3)))) ∧
((quotedB (sub (ix (splitI (bx ([10] : List UInt8) 0) a0) x3) (x10 + 1) ((x10 + 1) + (idxB (fr (ix (splitI (bx ([10] : List UInt8) 0) a0) x3) (x10 + 1)) 34)))) = true →
(I64 (x10 + (idxB (fr (ix (splitI (bx ([10] : List UInt8) 0) a0) x3) (x10 + 1)) 34))) ∧
(I64 ((x10 + (idxB (fr (ix (splitI (bx ([10] : List UInt8) 0) a0) x3) (x10 + 1)) 34)) + 2)) ∧
((((x10 + (idxB (fr (ix (splitI (bx ([10] : List UInt8) 0) a0) x3) (x10 + 1)) 34)) + 2) < (ln (ix (splitI (bx ([10] : List UInt8) 0) a0) x3)) →
(Wn ((x10 + (idxB (fr (ix (splitI (bx ([10] : List UInt8) 0) a0) x3) (x10 + 1)) 34)) + 2) (ln (ix (splitI (bx ([10] : List UInt8) 0) a0) x3))) ∧
(((bx (ix (splitI (bx ([10] : List UInt8) 0) a0) x3) ((x10 + (idxB (fr (ix (splitI (bx ([10] : List UInt8) 0) a0) x3) (x10 + 1)) 34)) + 2)) ≠ 32 →
(Wn ((x10 + (idxB (fr (ix (splitI (bx ([10] : List UInt8) 0) a0) x3) (x10 + 1)) 34)) + 2) (ln (ix (splitI (bx ([10] : List UInt8) 0) a0) x3))) ∧
(((bx (ix (splitI (bx ([10] : List UInt8) 0) a0) x3) ((x10 + (idxB (fr (ix (splitI (bx ([10] : List UInt8) 0) a0) x3) (x10 + 1)) 34)) + 2)) ≠ 59 →
((0 ≤ x10 →
(I64 (x2 + x10)) ∧
(([] : List Row) = ((rowsR a0).1)) ∧
((3 : Int) = ((rowsR a0).2.1)) ∧
(((x2 + x10) : Int) = ((rowsR a0).2.2)) ∧
                        True)) ∧
(x10 < 0 →
(I64 (0 + x2)) ∧
(True) ∧
(Short (List.length x7 + List.length [(Word.mk (0 + x2) ([] : List UInt8) false)])) ∧
((x2 : Int) = x2) ∧
(x1 = x1) ∧
((ix (splitI (bx ([10] : List UInt8) 0) a0) x3) = (ix (splitI (bx ([10] : List UInt8) 0) a0) x3)) ∧
((0 : Int) = 0) ∧
((0 : Int) = 0) ∧
(inv_RowsW_1 a0 (x7 ++ [(Word.mk (0 + x2) ([] : List UInt8) false)]) ((x10 + (idxB (fr (ix (splitI (bx ([10] : List UInt8) 0) a0) x3) (x10 + 1)) 34)) + 2) x2 (ix (splitI (bx ([10] : List UInt8) 0) a0) x3)) ∧
 minv_RowsW_1 a0 (x7 ++ [(Word.mk (0 + x2) ([] : List UInt8) false)]) ((x10 + (idxB (fr (ix (splitI (bx ([10] : List UInt8) 0) a0) x3) (x10 + 1)) 34)) + 2) x2 (ix (splitI (bx ([10] : List UInt8) 0) a0) x3) < minv_RowsW_1 a0 x7 x8 x2 (ix (splitI (bx ([10] : List UInt8) 0) a0) x3)))) ∧
((bx (ix (splitI (bx ([10] : List UInt8) 0) a0) x3) ((x10 + (idxB (fr (ix (splitI (bx ([10] : List UInt8) 0) a0) x3) (x10 + 1)) 34)) + 2)) = 59 →
(I64 (x10 + 1)) ∧
(I64 (((x10 + (idxB (fr (ix (splitI (bx ([10] : List UInt8) 0) a0) x3) (x10 + 1)) 34)) + 2) - 1)) ∧
((0 : Int) ≤ (x10 + 1) ∧ (x10 + 1) ≤ (((x10 + (idxB (fr (ix (splitI (bx ([10] : List UInt8) 0) a0) x3) (x10 + 1)) 34)) + 2) - 1) ∧ (((x10 + (idxB (fr (ix (splitI (bx ([10] : List UInt8) 0) a0) x3) (x10 + 1)) 34)) + 2) - 1) ≤ ln (ix (splitI (bx ([10] : List UInt8) 0) a0) x3)) ∧
(I64 (x10 + x2)) ∧
(True) ∧
(Short (List.length x7 + List.length [(Word.mk (x10 + x2) (sub (ix (splitI (bx ([10] : List UInt8) 0) a0) x3) (x10 + 1) (((x10 + (idxB (fr (ix (splitI (bx ([10] : List UInt8) 0) a0) x3) (x10 + 1)) 34)) + 2) - 1)) true)])) ∧
((x2 : Int) = x2) ∧
(x1 = x1) ∧
((ix (splitI (bx ([10] : List UInt8) 0) a0) x3) = (ix (splitI (bx ([10] : List UInt8) 0) a0) x3)) ∧
((0 : Int) = 0) ∧
((0 : Int) = 0) ∧
(inv_RowsW_1 a0 (x7 ++ [(Word.mk (x10 + x2) (sub (ix (splitI (bx ([10] : List UInt8) 0) a0) x3) (x10 + 1) (((x10 + (idxB (fr (ix (splitI (bx ([10] : List UInt8) 0) a0) x3) (x10 + 1)) 34)) + 2) - 1)) true)]) ((x10 + (idxB (fr (ix (splitI (bx ([10] : List UInt8) 0) a0) x3) (x10 + 1)) 34)) + 2) x2 (ix (splitI (bx ([10] : List UInt8) 0) a0) x3)) ∧
 minv_RowsW_1 a0 (x7 ++ [(Word.mk (x10 + x2) (sub (ix (splitI (bx ([10] : List UInt8) 0) a0) x3) (x10 + 1) (((x10 + (idxB (fr (ix (splitI (bx ([10] : List UInt8) 0) a0) x3) (x10 + 1)) 34)) + 2) - 1)) true)]) ((x10 + (idxB (fr (ix (splitI (bx ([10] : List UInt8) 0) a0) x3) (x10 + 1)) 34)) + 2) x2 (ix (splitI (bx ([10] : List UInt8) 0) a0) x3) < minv_RowsW_1 a0 x7 x8 x2 (ix (splitI (bx ([10] : List UInt8) 0) a0) x3)))) ∧
((bx (ix (splitI (bx ([10] : List UInt8) 0) a0) x3) ((x10 + (idxB (fr (ix (splitI (bx ([10] : List UInt8) 0) a0) x3) (x10 + 1)) 34)) + 2)) = 32 →
(I64 (x10 + 1)) ∧
(I64 (((x10 + (idxB (fr (ix (splitI (bx ([10] : List UInt8) 0) a0) x3) (x10 + 1)) 34)) + 2) - 1)) ∧
((0 : Int) ≤ (x10 + 1) ∧ (x10 + 1) ≤ (((x10 + (idxB (fr (ix (splitI (bx ([10] : List UInt8) 0) a0) x3) (x10 + 1)) 34)) + 2) - 1) ∧ (((x10 + (idxB (fr (ix (splitI (bx ([10] : List UInt8) 0) a0) x3) (x10 + 1)) 34)) + 2) - 1) ≤ ln (ix (splitI (bx ([10] : List UInt8) 0) a0) x3)) ∧
(I64 (x10 + x2)) ∧
(True) ∧
(Short (List.length x7 + List.length [(Word.mk (x10 + x2) (sub (ix (splitI (bx ([10] : List UInt8) 0) a0) x3) (x10 + 1) (((x10 + (idxB (fr (ix (splitI (bx ([10] : List UInt8) 0) a0) x3) (x10 + 1)) 34)) + 2) - 1)) true)])) ∧
((x2 : Int) = x2) ∧
(x1 = x1) ∧
((ix (splitI (bx ([10] : List UInt8) 0) a0) x3) = (ix (splitI (bx ([10] : List UInt8) 0) a0) x3)) ∧
((0 : Int) = 0) ∧
((0 : Int) = 0) ∧
(inv_RowsW_1 a0 (x7 ++ [(Word.mk (x10 + x2) (sub (ix (splitI (bx ([10] : List UInt8) 0) a0) x3) (x10 + 1) (((x10 + (idxB (fr (ix (splitI (bx ([10] : List UInt8) 0) a0) x3) (x10 + 1)) 34)) + 2) - 1)) true)]) ((x10 + (idxB (fr (ix (splitI (bx ([10] : List UInt8) 0) a0) x3) (x10 + 1)) 34)) + 2) x2 (ix (splitI (bx ([10] : List UInt8) 0) a0) x3)) ∧
 minv_RowsW_1 a0 (x7 ++ [(Word.mk (x10 + x2) (sub (ix (splitI (bx ([10] : List UInt8) 0) a0) x3) (x10 + 1) (((x10 + (idxB (fr (ix (splitI (bx ([10] : List UInt8) 0) a0) x3) (x10 + 1)) 34)) + 2) - 1)) true)]) ((x10 + (idxB (fr (ix (splitI (bx ([10] : List UInt8) 0) a0) x3) (x10 + 1)) 34)) + 2) x2 (ix (splitI (bx ([10] : List UInt8) 0) a0) x3) < minv_RowsW_1 a0 x7 x8 x2 (ix (splitI (bx ([10] : List UInt8) 0) a0) x3)))) ∧
((ln (ix (splitI (bx ([10] : List UInt8) 0) a0) x3)) ≤ ((x10 + (idxB (fr (ix (splitI (bx ([10] : List UInt8) 0) a0) x3) (x10 + 1)) 34)) + 2) →
(I64 (x10 + 1)) ∧
(I64 (((x10 + (idxB (fr (ix (splitI (bx ([10] : List UInt8) 0) a0) x3) (x10 + 1)) 34)) + 2) - 1)) ∧
((0 : Int) ≤ (x10 + 1) ∧ (x10 + 1) ≤ (((x10 + (idxB (fr (ix (splitI (bx ([10] : List UInt8) 0) a0) x3) (x10 + 1)) 34)) + 2) - 1) ∧ (((x10 + (idxB (fr (ix (splitI (bx ([10] : List UInt8) 0) a0) x3) (x10 + 1)) 34)) + 2) - 1) ≤ ln (ix (splitI (bx ([10] : List UInt8) 0) a0) x3)) ∧
(I64 (x10 + x2)) ∧
(True) ∧
(Short (List.length x7 + List.length [(Word.mk (x10 + x2) (sub (ix (splitI (bx ([10] : List UInt8) 0) a0) x3) (x10 + 1) (((x10 + (idxB (fr (ix (splitI (bx ([10] : List UInt8) 0) a0) x3) (x10 + 1)) 34)) + 2) - 1)) true)])) ∧
((x2 : Int) = x2) ∧
(x1 = x1) ∧
((ix (splitI (bx ([10] : List UInt8) 0) a0) x3) = (ix (splitI (bx ([10] : List UInt8) 0) a0) x3)) ∧
((0 : Int) = 0) ∧
((0 : Int) = 0) ∧
(inv_RowsW_1 a0 (x7 ++ [(Word.mk (x10 + x2) (sub (ix (splitI (bx ([10] : List UInt8) 0) a0) x3) (x10 + 1) (((x10 + (idxB (fr (ix (splitI (bx ([10] : List UInt8) 0) a0) x3) (x10 + 1)) 34)) + 2) - 1)) true)]) ((x10 + (idxB (fr (ix (splitI (bx ([10] : List UInt8) 0) a0) x3) (x10 + 1)) 34)) + 2) x2 (ix (splitI (bx ([10] : List UInt8) 0) a0) x3)) ∧
 minv_RowsW_1 a0 (x7 ++ [(Word.mk (x10 + x2) (sub (ix (splitI (bx ([10] : List UInt8) 0) a0) x3) (x10 + 1) (((x10 + (idxB (fr (ix (splitI (bx ([10] : List UInt8) 0) a0) x3) (x10 + 1)) 34)) + 2) - 1)) true)]) ((x10 + (idxB (fr (ix (splitI (bx ([10] : List UInt8) 0) a0) x3) (x10 + 1)) 34)) + 2) x2 (ix (splitI (bx ([10] : List UInt8) 0) a0) x3) < minv_RowsW_1 a0 x7 x8 x2 (ix (splitI (bx ([10] : List UInt8) 0) a0) x3))))))) ∧
((classI (bx (ix (splitI (bx ([10] : List UInt8) 0) a0) x3) x10)) ≠ 113 →
(inv_RowsW_3 a0 x10 (ix (splitI (bx ([10] : List UInt8) 0) a0) x3) x10) ∧
(∀ x17 : Int,
(inv_RowsW_3 a0 x17 (ix (splitI (bx ([10] : List UInt8) 0) a0) x3) x10 →
((x17 < (ln (ix (splitI (bx ([10] : List UInt8) 0) a0) x3)) →
(Wn x17 (ln (ix (splitI (bx ([10] : List UInt8) 0) a0) x3))) ∧
((U8 (bx (ix (splitI (bx ([10] : List UInt8) 0) a0) x3) x17))) ∧
(((classI (bx (ix (splitI (bx ([10] : List UInt8) 0) a0) x3) x17)) = 112 →
(I64 (x17 + 1)) ∧
((0 : Int) = 0) ∧
(([] : List UInt8) = ([] : List UInt8)) ∧
((0 : Int) = 0) ∧
((ix (splitI (bx ([10] : List UInt8) 0) a0) x3) = (ix (splitI (bx ([10] : List UInt8) 0) a0) x3)) ∧
((x2 : Int) = x2) ∧
(x7 = x7) ∧
((0 : Int) = 0) ∧
((0 : Int) = 0) ∧
(inv_RowsW_3 a0 (x17 + 1) (ix (splitI (bx ([10] : List UInt8) 0) a0) x3) x10) ∧
 minv_RowsW_3 a0 (x17 + 1) (ix (splitI (bx ([10] : List UInt8) 0) a0) x3) x10 < minv_RowsW_3 a0 x17 (ix (splitI (bx ([10] : List UInt8) 0) a0) x3) x10)) ∧
((classI (bx (ix (splitI (bx ([10] : List UInt8) 0) a0) x3) x17)) ≠ 112 →
((0 : Int) ≤ x10 ∧ x10 ≤ x17 ∧ x17 ≤ ln (ix (splitI (bx ([10] : List UInt8) 0) a0) x3)) ∧
(I64 (x10 + x2)) ∧
(True) ∧
(Short (List.length x7 + List.length [(Word.mk (x10 + x2) (sub (ix (splitI (bx ([10] : List UInt8) 0) a0) x3) x10 x17) false)])) ∧
((x2 : Int) = x2) ∧
(x1 = x1) ∧
((ix (splitI (bx ([10] : List UInt8) 0) a0) x3) = (ix (splitI (bx ([10] : List UInt8) 0) a0) x3)) ∧
((0 : Int) = 0) ∧
((0 : Int) = 0) ∧
(inv_RowsW_1 a0 (x7 ++ [(Word.mk (x10 + x2) (sub (ix (splitI (bx ([10] : List UInt8) 0) a0) x3) x10 x17) false)]) x17 x2 (ix (splitI (bx ([10] : List UInt8) 0) a0) x3)) ∧
 minv_RowsW_1 a0 (x7 ++ [(Word.mk (x10 + x2) (sub (ix (splitI (bx ([10] : List UInt8) 0) a0) x3) x10 x17) false)]) x17 x2 (ix (splitI (bx ([10] : List UInt8) 0) a0) x3) < minv_RowsW_1 a0 x7 x8 x2 (ix (splitI (bx ([10] : List UInt8) 0) a0) x3)))) ∧
((ln (ix (splitI (bx ([10] : List UInt8) 0) a0) x3)) ≤ x17 →
((0 : Int) ≤ x10 ∧ x10 ≤ x17 ∧ x17 ≤ ln (ix (splitI (bx ([10] : List UInt8) 0) a0) x3)) ∧
(I64 (x10 + x2)) ∧
(True) ∧
(Short (List.length x7 + List.length [(Word.mk (x10 + x2) (sub (ix (splitI (bx ([10] : List UInt8) 0) a0) x3) x10 x17) false)])) ∧
((x2 : Int) = x2) ∧
(x1 = x1) ∧
((ix (splitI (bx ([10] : List UInt8) 0) a0) x3) = (ix (splitI (bx ([10] : List UInt8) 0) a0) x3)) ∧
((0 : Int) = 0) ∧
((0 : Int) = 0) ∧
(inv_RowsW_1 a0 (x7 ++ [(Word.mk (x10 + x2) (sub (ix (splitI (bx ([10] : List UInt8) 0) a0) x3) x10 x17) false)]) x17 x2 (ix (splitI (bx ([10] : List UInt8) 0) a0) x3)) ∧
 minv_RowsW_1 a0 (x7 ++ [(Word.mk (x10 + x2) (sub (ix (splitI (bx ([10] : List UInt8) 0) a0) x3) x10 x17) false)]) x17 x2 (ix (splitI (bx ([10] : List UInt8) 0) a0) x3) < minv_RowsW_1 a0 x7 x8 x2 (ix (splitI (bx ([10] : List UInt8) 0) a0) x3))))))))))))))))) ∧
((ln (splitI (bx ([10] : List UInt8) 0) a0)) ≤ x3 →
(x1 = ((rowsR a0).1)) ∧
((0 : Int) = ((rowsR a0).2.1)) ∧
((0 : Int) = ((rowsR a0).2.2)) ∧
      True))))))
theorem RowsW_vc (a0 : List UInt8) : wpTop (stdA XK (tblOf RowsW_tbl) (fun j ns => match j, ns with | 0, [.l 6 y0, .i y1, .i y2] => inv_RowsW_0 a0 y0 y1 y2 | 1, [.l 5 y0, .i y1, .i y2, .s y3] => inv_RowsW_1 a0 y0 y1 y2 y3 | 2, [.i y0, .s y1, .i y2] => inv_RowsW_2 a0 y0 y1 y2 | 3, [.i y0, .s y1, .i y2] => inv_RowsW_3 a0 y0 y1 y2 | _, _ => False) (fun j ns => match j, ns with | 0, [.l 6 y0, .i y1, .i y2] => minv_RowsW_0 a0 y0 y1 y2 | 1, [.l 5 y0, .i y1, .i y2, .s y3] => minv_RowsW_1 a0 y0 y1 y2 y3 | 2, [.i y0, .s y1, .i y2] => minv_RowsW_2 a0 y0 y1 y2 | 3, [.i y0, .s y1, .i y2] => minv_RowsW_3 a0 y0 y1 y2 | _, _ => 0)) { cfg sp with ann := annOf [(8, 890, .inv 0 [.one 4 (.list 6 true false), .one 5 (.int .i64), .one 19 (.int .i64)] []), (8, 3647102, .inv 1 [.via 9 [.keep, .list 5 true false], .cap 10 0 [.int .i64], .one 4 (.keep)] [.one 8 (.int .i64), .one 7 (.str)]), (38, 12, .inv 2 [.via 0 [.int .i64]] [.via 1 [.str], .via 0 [.int .i64]]), (38, 252, .inv 3 [.via 0 [.int .i64]] [.via 1 [.str], .one 3 (.int .i64)])] } 3 8 [.str (a0)] (RowsW_res a0) = RowsW_VC a0 := by kernel_rfl
def sameR__tbl : List (Nat × Ct KT) := []
abbrev sameR__res (a0 : List Row) (a1 : List Row) (a2 : Bool) : PV KT := .sb 0 false ((sameR a0 a1 a2)) ((sameR a0 a1 a2) = true) ((sameR a0 a1 a2) = false)
abbrev sameR__VC (a0 : List Row) (a1 : List Row) (a2 : Bool) : Prop :=
(((ln a0) ≠ (ln a1) →
(false = (sameR a0 a1 a2)) ∧
 True)) ∧
((ln a0) = (ln a1) →
(inv_sameR__0 a0 a1 a2 0) ∧
(∀ x1 : Int,
(inv_sameR__0 a0 a1 a2 x1 →
((x1 < (ln a0) →
(Wn x1 (ln a0)) ∧
(Wn x1 (ln a1)) ∧
(((ln (ix a0 x1).Words) ≠ (ln (ix a1 x1).Words) →
(false = (sameR a0 a1 a2)) ∧
     True)) ∧
((ln (ix a0 x1).Words) = (ln (ix a1 x1).Words) →
((a2 = true →
(Wn x1 (ln a0)) ∧
(Wn x1 (ln a1)) ∧
(((ix a0 x1).At ≠ (ix a1 x1).At →
(false = (sameR a0 a1 a2)) ∧
       True)) ∧
((ix a0 x1).At = (ix a1 x1).At →
(inv_sameR__1 a0 a1 a2 0 x1) ∧
(∀ x7 : Int,
(inv_sameR__1 a0 a1 a2 x7 x1 →
(Wn x1 (ln a0)) ∧
((x7 < (ln (ix a0 x1).Words) →
(Wn x1 (ln a0)) ∧
(Wn x7 (ln (ix a0 x1).Words)) ∧
(Wn x1 (ln a1)) ∧
(Wn x7 (ln (ix a1 x1).Words)) ∧
(((ix (ix a0 x1).Words x7).Text ≠ (ix (ix a1 x1).Words x7).Text →
(false = (sameR a0 a1 a2)) ∧
           True)) ∧
((ix (ix a0 x1).Words x7).Text = (ix (ix a1 x1).Words x7).Text →
(((ix (ix a0 x1).Words x7).Quoted ≠ (ix (ix a1 x1).Words x7).Quoted →
(false = (sameR a0 a1 a2)) ∧
            True)) ∧
((ix (ix a0 x1).Words x7).Quoted = (ix (ix a1 x1).Words x7).Quoted →
(((ix (ix a0 x1).Words x7).At ≠ (ix (ix a1 x1).Words x7).At →
(false = (sameR a0 a1 a2)) ∧
             True)) ∧
((ix (ix a0 x1).Words x7).At = (ix (ix a1 x1).Words x7).At →
(I64 (x7 + 1)) ∧
(inv_sameR__1 a0 a1 a2 (x7 + 1) x1) ∧
 minv_sameR__1 a0 a1 a2 (x7 + 1) x1 < minv_sameR__1 a0 a1 a2 x7 x1))))) ∧
((ln (ix a0 x1).Words) ≤ x7 →
(I64 (x1 + 1)) ∧
(inv_sameR__0 a0 a1 a2 (x1 + 1)) ∧
 minv_sameR__0 a0 a1 a2 (x1 + 1) < minv_sameR__0 a0 a1 a2 x1)))))) ∧
(a2 = false →
(inv_sameR__1 a0 a1 a2 0 x1) ∧
(∀ x6 : Int,
(inv_sameR__1 a0 a1 a2 x6 x1 →
(Wn x1 (ln a0)) ∧
((x6 < (ln (ix a0 x1).Words) →
(Wn x1 (ln a0)) ∧
(Wn x6 (ln (ix a0 x1).Words)) ∧
(Wn x1 (ln a1)) ∧
(Wn x6 (ln (ix a1 x1).Words)) ∧
(((ix (ix a0 x1).Words x6).Text ≠ (ix (ix a1 x1).Words x6).Text →
(false = (sameR a0 a1 a2)) ∧
          True)) ∧
((ix (ix a0 x1).Words x6).Text = (ix (ix a1 x1).Words x6).Text →
(((ix (ix a0 x1).Words x6).Quoted ≠ (ix (ix a1 x1).Words x6).Quoted →
(false = (sameR a0 a1 a2)) ∧
           True)) ∧
((ix (ix a0 x1).Words x6).Quoted = (ix (ix a1 x1).Words x6).Quoted →
(I64 (x6 + 1)) ∧
(inv_sameR__1 a0 a1 a2 (x6 + 1) x1) ∧
 minv_sameR__1 a0 a1 a2 (x6 + 1) x1 < minv_sameR__1 a0 a1 a2 x6 x1)))) ∧
((ln (ix a0 x1).Words) ≤ x6 →
(I64 (x1 + 1)) ∧
(inv_sameR__0 a0 a1 a2 (x1 + 1)) ∧
 minv_sameR__0 a0 a1 a2 (x1 + 1) < minv_sameR__0 a0 a1 a2 x1))))))) ∧
((ln a0) ≤ x1 →
(true = (sameR a0 a1 a2)) ∧
    True))))
theorem sameR__vc (a0 : List Row) (a1 : List Row) (a2 : Bool) : wpTop (stdA XK (tblOf sameR__tbl) (fun j ns => match j, ns with | 0, [.i y0] => inv_sameR__0 a0 a1 a2 y0 | 1, [.i y0, .i y1] => inv_sameR__1 a0 a1 a2 y0 y1 | _, _ => False) (fun j ns => match j, ns with | 0, [.i y0] => minv_sameR__0 a0 a1 a2 y0 | 1, [.i y0, .i y1] => minv_sameR__1 a0 a1 a2 y0 y1 | _, _ => 0)) { cfg sp with ann := annOf [(10, 58, .inv 0 [.one 7 (.int .i64)] []), (10, 7462, .inv 1 [.one 8 (.int .i64)] [.one 7 (.int .i64)])] } 3 10 [.list 6 (a0) none, .list 6 (a1) none, .sb 0 false (a2) (a2 = true) (a2 = false)] (sameR__res a0 a1 a2) = sameR__VC a0 a1 a2 := by kernel_rfl
def plainW_tbl : List (Nat × Ct KT) := [(39, ct39)]
abbrev plainW_res (a0 : List UInt8) : PV KT := .sb 0 false ((plainB a0)) ((plainB a0) = true) ((plainB a0) = false)
abbrev plainW_VC (a0 : List UInt8) : Prop :=
(inv_plainW_0 a0 0) ∧
(∀ x0 : Int,
(inv_plainW_0 a0 x0 →
((x0 < (ln a0) →
(Wn x0 (ln a0)) ∧
((U8 (bx a0 x0))) ∧
(((classI (bx a0 x0)) ≠ 112 →
(false = (plainB a0)) ∧
    True)) ∧
((classI (bx a0 x0)) = 112 →
(I64 (x0 + 1)) ∧
(inv_plainW_0 a0 (x0 + 1)) ∧
 minv_plainW_0 a0 (x0 + 1) < minv_plainW_0 a0 x0))) ∧
((ln a0) ≤ x0 →
((!(decide (a0 = ([] : List UInt8)))) = (plainB a0)) ∧
   True)))
theorem plainW_vc (a0 : List UInt8) : wpTop (stdA XK (tblOf plainW_tbl) (fun j ns => match j, ns with | 0, [.i y0] => inv_plainW_0 a0 y0 | _, _ => False) (fun j ns => match j, ns with | 0, [.i y0] => minv_plainW_0 a0 y0 | _, _ => 0)) { cfg sp with ann := annOf [(26, 26, .inv 0 [.one 6 (.int .i64)] [])] } 3 26 [.str (a0)] (plainW_res a0) = plainW_VC a0 := by kernel_rfl
def TextW_tbl : List (Nat × Ct KT) := [(25, ct25), (26, ct26)]
abbrev TextW_res (a0 : List Row) : PV KT := .tuple [.str (((textW a0).1)), .int .i64 none (((textW a0).2))]
abbrev TextW_VC (a0 : List Row) : Prop :=
((0 < (ln a0) →
(Wn 0 (ln a0)) ∧
(((ln (ix a0 0).Words) = 0 →
(([] : List UInt8) = ((textW a0).1)) ∧
((3 : Int) = ((textW a0).2)) ∧
  True)) ∧
((ln (ix a0 0).Words) ≠ 0 →
((0 < (ln (ix a0 0).Words) →
(Wn 0 (ln (ix a0 0).Words)) ∧
(((ix (ix a0 0).Words 0).Quoted = true →
((ln (ix (ix a0 0).Words 0).Text ≤ 1000000000)) ∧
(((quotedB (ix (ix a0 0).Words 0).Text) = false →
(([] : List UInt8) = ((textW a0).1)) ∧
((3 : Int) = ((textW a0).2)) ∧
     True)) ∧
((quotedB (ix (ix a0 0).Words 0).Text) = true →
(Short (List.length ([34] : List UInt8) + List.length (ix (ix a0 0).Words 0).Text)) ∧
(Short (List.length (([34] : List UInt8) ++ (ix (ix a0 0).Words 0).Text) + List.length ([34] : List UInt8))) ∧
(Short (List.length ([] : List UInt8) + List.length ((([34] : List UInt8) ++ (ix (ix a0 0).Words 0).Text) ++ ([34] : List UInt8)))) ∧
(inv_TextW_1 a0 1 (([] : List UInt8) ++ ((([34] : List UInt8) ++ (ix (ix a0 0).Words 0).Text) ++ ([34] : List UInt8))) 0 0) ∧
(∀ x5 : Int,
(∀ x6 : List UInt8,
(inv_TextW_1 a0 x5 x6 0 0 →
((x5 < (ln (ix a0 0).Words) →
(Wn x5 (ln (ix a0 0).Words)) ∧
(((ix (ix a0 0).Words x5).Quoted = true →
((ln (ix (ix a0 0).Words x5).Text ≤ 1000000000)) ∧
(((quotedB (ix (ix a0 0).Words x5).Text) = false →
(([] : List UInt8) = ((textW a0).1)) ∧
((3 : Int) = ((textW a0).2)) ∧
           True)) ∧
((quotedB (ix (ix a0 0).Words x5).Text) = true →
((0 < x5 →
(U8 (32)) ∧
(Short (List.length x6 + List.length [(UInt8.ofNat (Int.toNat (32)))])) ∧
(Short (List.length ([34] : List UInt8) + List.length (ix (ix a0 0).Words x5).Text)) ∧
(Short (List.length (([34] : List UInt8) ++ (ix (ix a0 0).Words x5).Text) + List.length ([34] : List UInt8))) ∧
(Short (List.length (x6 ++ [(UInt8.ofNat (Int.toNat (32)))]) + List.length ((([34] : List UInt8) ++ (ix (ix a0 0).Words x5).Text) ++ ([34] : List UInt8)))) ∧
(I64 (x5 + 1)) ∧
(((ix (ix a0 0).Words 0).At : Int) = (ix (ix a0 0).Words 0).At) ∧
((ix (ix a0 0).Words 0).Text = (ix (ix a0 0).Words 0).Text) ∧
((ix (ix a0 0).Words 0).Quoted = (ix (ix a0 0).Words 0).Quoted) ∧
(((ix a0 0).At : Int) = (ix a0 0).At) ∧
((ix a0 0).Words = (ix a0 0).Words) ∧
(inv_TextW_1 a0 (x5 + 1) ((x6 ++ [(UInt8.ofNat (Int.toNat (32)))]) ++ ((([34] : List UInt8) ++ (ix (ix a0 0).Words x5).Text) ++ ([34] : List UInt8))) 0 0) ∧
 minv_TextW_1 a0 (x5 + 1) ((x6 ++ [(UInt8.ofNat (Int.toNat (32)))]) ++ ((([34] : List UInt8) ++ (ix (ix a0 0).Words x5).Text) ++ ([34] : List UInt8))) 0 0 < minv_TextW_1 a0 x5 x6 0 0)) ∧
(x5 ≤ 0 →
(Short (List.length ([34] : List UInt8) + List.length (ix (ix a0 0).Words x5).Text)) ∧
(Short (List.length (([34] : List UInt8) ++ (ix (ix a0 0).Words x5).Text) + List.length ([34] : List UInt8))) ∧
(Short (List.length x6 + List.length ((([34] : List UInt8) ++ (ix (ix a0 0).Words x5).Text) ++ ([34] : List UInt8)))) ∧
(I64 (x5 + 1)) ∧
(((ix (ix a0 0).Words 0).At : Int) = (ix (ix a0 0).Words 0).At) ∧
((ix (ix a0 0).Words 0).Text = (ix (ix a0 0).Words 0).Text) ∧
((ix (ix a0 0).Words 0).Quoted = (ix (ix a0 0).Words 0).Quoted) ∧
(((ix a0 0).At : Int) = (ix a0 0).At) ∧
((ix a0 0).Words = (ix a0 0).Words) ∧
(inv_TextW_1 a0 (x5 + 1) (x6 ++ ((([34] : List UInt8) ++ (ix (ix a0 0).Words x5).Text) ++ ([34] : List UInt8))) 0 0) ∧
 minv_TextW_1 a0 (x5 + 1) (x6 ++ ((([34] : List UInt8) ++ (ix (ix a0 0).Words x5).Text) ++ ([34] : List UInt8))) 0 0 < minv_TextW_1 a0 x5 x6 0 0)))) ∧
((ix (ix a0 0).Words x5).Quoted = false →
((ln (ix (ix a0 0).Words x5).Text ≤ 1000000000)) ∧
(((plainB (ix (ix a0 0).Words x5).Text) = false →
(([] : List UInt8) = ((textW a0).1)) ∧
((3 : Int) = ((textW a0).2)) ∧
           True)) ∧
((plainB (ix (ix a0 0).Words x5).Text) = true →
((0 < x5 →
(U8 (32)) ∧
(Short (List.length x6 + List.length [(UInt8.ofNat (Int.toNat (32)))])) ∧
(Short (List.length (x6 ++ [(UInt8.ofNat (Int.toNat (32)))]) + List.length (ix (ix a0 0).Words x5).Text)) ∧
(I64 (x5 + 1)) ∧
(((ix (ix a0 0).Words 0).At : Int) = (ix (ix a0 0).Words 0).At) ∧
((ix (ix a0 0).Words 0).Text = (ix (ix a0 0).Words 0).Text) ∧
((ix (ix a0 0).Words 0).Quoted = (ix (ix a0 0).Words 0).Quoted) ∧
(((ix a0 0).At : Int) = (ix a0 0).At) ∧
((ix a0 0).Words = (ix a0 0).Words) ∧
(inv_TextW_1 a0 (x5 + 1) ((x6 ++ [(UInt8.ofNat (Int.toNat (32)))]) ++ (ix (ix a0 0).Words x5).Text) 0 0) ∧
 minv_TextW_1 a0 (x5 + 1) ((x6 ++ [(UInt8.ofNat (Int.toNat (32)))]) ++ (ix (ix a0 0).Words x5).Text) 0 0 < minv_TextW_1 a0 x5 x6 0 0)) ∧
(x5 ≤ 0 →
(Short (List.length x6 + List.length (ix (ix a0 0).Words x5).Text)) ∧
(I64 (x5 + 1)) ∧
(((ix (ix a0 0).Words 0).At : Int) = (ix (ix a0 0).Words 0).At) ∧
((ix (ix a0 0).Words 0).Text = (ix (ix a0 0).Words 0).Text) ∧
((ix (ix a0 0).Words 0).Quoted = (ix (ix a0 0).Words 0).Quoted) ∧
(((ix a0 0).At : Int) = (ix a0 0).At) ∧
((ix a0 0).Words = (ix a0 0).Words) ∧
(inv_TextW_1 a0 (x5 + 1) (x6 ++ (ix (ix a0 0).Words x5).Text) 0 0) ∧
 minv_TextW_1 a0 (x5 + 1) (x6 ++ (ix (ix a0 0).Words x5).Text) 0 0 < minv_TextW_1 a0 x5 x6 0 0))))) ∧
((ln (ix a0 0).Words) ≤ x5 →
(I64 ((ln x6) - 0)) ∧
((1000 < ((ln x6) - 0) →
(([] : List UInt8) = ((textW a0).1)) ∧
((4 : Int) = ((textW a0).2)) ∧
          True)) ∧
(((ln x6) - 0) ≤ 1000 →
(U8 (10)) ∧
(Short (List.length x6 + List.length [(UInt8.ofNat (Int.toNat (10)))])) ∧
((20000 < (ln (x6 ++ [(UInt8.ofNat (Int.toNat (10)))])) →
(([] : List UInt8) = ((textW a0).1)) ∧
((4 : Int) = ((textW a0).2)) ∧
           True)) ∧
((ln (x6 ++ [(UInt8.ofNat (Int.toNat (10)))])) ≤ 20000 →
(inv_TextW_0 a0 1 (x6 ++ [(UInt8.ofNat (Int.toNat (10)))])) ∧
(∀ x11 : Int,
(∀ x12 : List UInt8,
(inv_TextW_0 a0 x11 x12 →
((x11 < (ln a0) →
(Wn x11 (ln a0)) ∧
(((ln (ix a0 x11).Words) = 0 →
(([] : List UInt8) = ((textW a0).1)) ∧
((3 : Int) = ((textW a0).2)) ∧
                True)) ∧
((ln (ix a0 x11).Words) ≠ 0 →
((0 < (ln (ix a0 x11).Words) →
(Wn 0 (ln (ix a0 x11).Words)) ∧
(((ix (ix a0 x11).Words 0).Quoted = true →
((ln (ix (ix a0 x11).Words 0).Text ≤ 1000000000)) ∧
(((quotedB (ix (ix a0 x11).Words 0).Text) = false →
(([] : List UInt8) = ((textW a0).1)) ∧
((3 : Int) = ((textW a0).2)) ∧
                   True)) ∧
((quotedB (ix (ix a0 x11).Words 0).Text) = true →
(Short (List.length ([34] : List UInt8) + List.length (ix (ix a0 x11).Words 0).Text)) ∧
(Short (List.length (([34] : List UInt8) ++ (ix (ix a0 x11).Words 0).Text) + List.length ([34] : List UInt8))) ∧
(Short (List.length x12 + List.length ((([34] : List UInt8) ++ (ix (ix a0 x11).Words 0).Text) ++ ([34] : List UInt8)))) ∧
(inv_TextW_1 a0 1 (x12 ++ ((([34] : List UInt8) ++ (ix (ix a0 x11).Words 0).Text) ++ ([34] : List UInt8))) x11 (ln x12)) ∧
(∀ x19 : Int,
(∀ x20 : List UInt8,
(inv_TextW_1 a0 x19 x20 x11 (ln x12) →
((x19 < (ln (ix a0 x11).Words) →
(Wn x19 (ln (ix a0 x11).Words)) ∧
(((ix (ix a0 x11).Words x19).Quoted = true →
((ln (ix (ix a0 x11).Words x19).Text ≤ 1000000000)) ∧
(((quotedB (ix (ix a0 x11).Words x19).Text) = false →
(([] : List UInt8) = ((textW a0).1)) ∧
((3 : Int) = ((textW a0).2)) ∧
                         True)) ∧
((quotedB (ix (ix a0 x11).Words x19).Text) = true →
((0 < x19 →
(U8 (32)) ∧
(Short (List.length x20 + List.length [(UInt8.ofNat (Int.toNat (32)))])) ∧
(Short (List.length ([34] : List UInt8) + List.length (ix (ix a0 x11).Words x19).Text)) ∧
(Short (List.length (([34] : List UInt8) ++ (ix (ix a0 x11).Words x19).Text) + List.length ([34] : List UInt8))) ∧
(Short (List.length (x20 ++ [(UInt8.ofNat (Int.toNat (32)))]) + List.length ((([34] : List UInt8) ++ (ix (ix a0 x11).Words x19).Text) ++ ([34] : List UInt8)))) ∧
(I64 (x19 + 1)) ∧
(((ix (ix a0 x11).Words 0).At : Int) = (ix (ix a0 x11).Words 0).At) ∧
((ix (ix a0 x11).Words 0).Text = (ix (ix a0 x11).Words 0).Text) ∧
((ix (ix a0 x11).Words 0).Quoted = (ix (ix a0 x11).Words 0).Quoted) ∧
(((ix a0 x11).At : Int) = (ix a0 x11).At) ∧
((ix a0 x11).Words = (ix a0 x11).Words) ∧
(((ix (ix a0 0).Words 0).At : Int) = (ix (ix a0 0).Words 0).At) ∧
((ix (ix a0 0).Words 0).Text = (ix (ix a0 0).Words 0).Text) ∧
((ix (ix a0 0).Words 0).Quoted = (ix (ix a0 0).Words 0).Quoted) ∧
(((ix a0 0).At : Int) = (ix a0 0).At) ∧
((ix a0 0).Words = (ix a0 0).Words) ∧
(inv_TextW_1 a0 (x19 + 1) ((x20 ++ [(UInt8.ofNat (Int.toNat (32)))]) ++ ((([34] : List UInt8) ++ (ix (ix a0 x11).Words x19).Text) ++ ([34] : List UInt8))) x11 (ln x12)) ∧
 minv_TextW_1 a0 (x19 + 1) ((x20 ++ [(UInt8.ofNat (Int.toNat (32)))]) ++ ((([34] : List UInt8) ++ (ix (ix a0 x11).Words x19).Text) ++ ([34] : List UInt8))) x11 (ln x12) < minv_TextW_1 a0 x19 x20 x11 (ln x12))) ∧
(x19 ≤ 0 →
(Short (List.length ([34] : List UInt8) + List.length (ix (ix a0 x11).Words x19).Text)) ∧
(Short (List.length (([34] : List UInt8) ++ (ix (ix a0 x11).Words x19).Text) + List.length ([34] : List UInt8))) ∧
(Short (List.length x20 + List.length ((([34] : List UInt8) ++ (ix (ix a0 x11).Words x19).Text) ++ ([34] : List UInt8)))) ∧
(I64 (x19 + 1)) ∧
(((ix (ix a0 x11).Words 0).At : Int) = (ix (ix a0 x11).Words 0).At) ∧
((ix (ix a0 x11).Words 0).Text = (ix (ix a0 x11).Words 0).Text) ∧
((ix (ix a0 x11).Words 0).Quoted = (ix (ix a0 x11).Words 0).Quoted) ∧
(((ix a0 x11).At : Int) = (ix a0 x11).At) ∧
((ix a0 x11).Words = (ix a0 x11).Words) ∧
(((ix (ix a0 0).Words 0).At : Int) = (ix (ix a0 0).Words 0).At) ∧
((ix (ix a0 0).Words 0).Text = (ix (ix a0 0).Words 0).Text) ∧
((ix (ix a0 0).Words 0).Quoted = (ix (ix a0 0).Words 0).Quoted) ∧
(((ix a0 0).At : Int) = (ix a0 0).At) ∧
((ix a0 0).Words = (ix a0 0).Words) ∧
(inv_TextW_1 a0 (x19 + 1) (x20 ++ ((([34] : List UInt8) ++ (ix (ix a0 x11).Words x19).Text) ++ ([34] : List UInt8))) x11 (ln x12)) ∧
 minv_TextW_1 a0 (x19 + 1) (x20 ++ ((([34] : List UInt8) ++ (ix (ix a0 x11).Words x19).Text) ++ ([34] : List UInt8))) x11 (ln x12) < minv_TextW_1 a0 x19 x20 x11 (ln x12))))) ∧
((ix (ix a0 x11).Words x19).Quoted = false →
((ln (ix (ix a0 x11).Words x19).Text ≤ 1000000000)) ∧
(((plainB (ix (ix a0 x11).Words x19).Text) = false →
(([] : List UInt8) = ((textW a0).1)) ∧
((3 : Int) = ((textW a0).2)) ∧
                         True)) ∧
((plainB (ix (ix a0 x11).Words x19).Text) = true →
((0 < x19 →
(U8 (32)) ∧
(Short (List.length x20 + List.length [(UInt8.ofNat (Int.toNat (32)))])) ∧
(Short (List.length (x20 ++ [(UInt8.ofNat (Int.toNat (32)))]) + List.length (ix (ix a0 x11).Words x19).Text)) ∧
(I64 (x19 + 1)) ∧
(((ix (ix a0 x11).Words 0).At : Int) = (ix (ix a0 x11).Words 0).At) ∧
((ix (ix a0 x11).Words 0).Text = (ix (ix a0 x11).Words 0).Text) ∧
((ix (ix a0 x11).Words 0).Quoted = (ix (ix a0 x11).Words 0).Quoted) ∧
(((ix a0 x11).At : Int) = (ix a0 x11).At) ∧
((ix a0 x11).Words = (ix a0 x11).Words) ∧
(((ix (ix a0 0).Words 0).At : Int) = (ix (ix a0 0).Words 0).At) ∧
((ix (ix a0 0).Words 0).Text = (ix (ix a0 0).Words 0).Text) ∧
((ix (ix a0 0).Words 0).Quoted = (ix (ix a0 0).Words 0).Quoted) ∧
(((ix a0 0).At : Int) = (ix a0 0).At) ∧
((ix a0 0).Words = (ix a0 0).Words) ∧
(inv_TextW_1 a0 (x19 + 1) ((x20 ++ [(UInt8.ofNat (Int.toNat (32)))]) ++ (ix (ix a0 x11).Words x19).Text) x11 (ln x12)) ∧
 minv_TextW_1 a0 (x19 + 1) ((x20 ++ [(UInt8.ofNat (Int.toNat (32)))]) ++ (ix (ix a0 x11).Words x19).Text) x11 (ln x12) < minv_TextW_1 a0 x19 x20 x11 (ln x12))) ∧
(x19 ≤ 0 →
(Short (List.length x20 + List.length (ix (ix a0 x11).Words x19).Text)) ∧
(I64 (x19 + 1)) ∧
(((ix (ix a0 x11).Words 0).At : Int) = (ix (ix a0 x11).Words 0).At) ∧
((ix (ix a0 x11).Words 0).Text = (ix (ix a0 x11).Words 0).Text) ∧
((ix (ix a0 x11).Words 0).Quoted = (ix (ix a0 x11).Words 0).Quoted) ∧
(((ix a0 x11).At : Int) = (ix a0 x11).At) ∧
((ix a0 x11).Words = (ix a0 x11).Words) ∧
(((ix (ix a0 0).Words 0).At : Int) = (ix (ix a0 0).Words 0).At) ∧
((ix (ix a0 0).Words 0).Text = (ix (ix a0 0).Words 0).Text) ∧
((ix (ix a0 0).Words 0).Quoted = (ix (ix a0 0).Words 0).Quoted) ∧
(((ix a0 0).At : Int) = (ix a0 0).At) ∧
((ix a0 0).Words = (ix a0 0).Words) ∧
(inv_TextW_1 a0 (x19 + 1) (x20 ++ (ix (ix a0 x11).Words x19).Text) x11 (ln x12)) ∧
 minv_TextW_1 a0 (x19 + 1) (x20 ++ (ix (ix a0 x11).Words x19).Text) x11 (ln x12) < minv_TextW_1 a0 x19 x20 x11 (ln x12)))))) ∧
((ln (ix a0 x11).Words) ≤ x19 →
(I64 ((ln x20) - (ln x12))) ∧
((1000 < ((ln x20) - (ln x12)) →
(([] : List UInt8) = ((textW a0).1)) ∧
((4 : Int) = ((textW a0).2)) ∧
                        True)) ∧
(((ln x20) - (ln x12)) ≤ 1000 →
(U8 (10)) ∧
(Short (List.length x20 + List.length [(UInt8.ofNat (Int.toNat (10)))])) ∧
((20000 < (ln (x20 ++ [(UInt8.ofNat (Int.toNat (10)))])) →
(([] : List UInt8) = ((textW a0).1)) ∧
((4 : Int) = ((textW a0).2)) ∧
                         True)) ∧
((ln (x20 ++ [(UInt8.ofNat (Int.toNat (10)))])) ≤ 20000 →
(I64 (x11 + 1)) ∧
(((ix (ix a0 0).Words 0).At : Int) = (ix (ix a0 0).Words 0).At) ∧
((ix (ix a0 0).Words 0).Text = (ix (ix a0 0).Words 0).Text) ∧
((ix (ix a0 0).Words 0).Quoted = (ix (ix a0 0).Words 0).Quoted) ∧
(((ix a0 0).At : Int) = (ix a0 0).At) ∧
((ix a0 0).Words = (ix a0 0).Words) ∧
(inv_TextW_0 a0 (x11 + 1) (x20 ++ [(UInt8.ofNat (Int.toNat (10)))])) ∧
 minv_TextW_0 a0 (x11 + 1) (x20 ++ [(UInt8.ofNat (Int.toNat (10)))]) < minv_TextW_0 a0 x11 x12))))))))) ∧
((ix (ix a0 x11).Words 0).Quoted = false →
((ln (ix (ix a0 x11).Words 0).Text ≤ 1000000000)) ∧
(((plainB (ix (ix a0 x11).Words 0).Text) = false →
(([] : List UInt8) = ((textW a0).1)) ∧
((3 : Int) = ((textW a0).2)) ∧
                   True)) ∧
((plainB (ix (ix a0 x11).Words 0).Text) = true →
(Short (List.length x12 + List.length (ix (ix a0 x11).Words 0).Text)) ∧
(inv_TextW_1 a0 1 (x12 ++ (ix (ix a0 x11).Words 0).Text) x11 (ln x12)) ∧
(∀ x19 : Int,
(∀ x20 : List UInt8,
(inv_TextW_1 a0 x19 x20 x11 (ln x12) →
((x19 < (ln (ix a0 x11).Words) →
(Wn x19 (ln (ix a0 x11).Words)) ∧
(((ix (ix a0 x11).Words x19).Quoted = true →
((ln (ix (ix a0 x11).Words x19).Text ≤ 1000000000)) ∧
(((quotedB (ix (ix a0 x11).Words x19).Text) = false →
(([] : List UInt8) = ((textW a0).1)) ∧
((3 : Int) = ((textW a0).2)) ∧
                         True)) ∧
((quotedB (ix (ix a0 x11).Words x19).Text) = true →
((0 < x19 →
(U8 (32)) ∧
(Short (List.length x20 + List.length [(UInt8.ofNat (Int.toNat (32)))])) ∧
(Short (List.length ([34] : List UInt8) + List.length (ix (ix a0 x11).Words x19).Text)) ∧
(Short (List.length (([34] : List UInt8) ++ (ix (ix a0 x11).Words x19).Text) + List.length ([34] : List UInt8))) ∧
(Short (List.length (x20 ++ [(UInt8.ofNat (Int.toNat (32)))]) + List.length ((([34] : List UInt8) ++ (ix (ix a0 x11).Words x19).Text) ++ ([34] : List UInt8)))) ∧
(I64 (x19 + 1)) ∧
(((ix (ix a0 x11).Words 0).At : Int) = (ix (ix a0 x11).Words 0).At) ∧
((ix (ix a0 x11).Words 0).Text = (ix (ix a0 x11).Words 0).Text) ∧
((ix (ix a0 x11).Words 0).Quoted = (ix (ix a0 x11).Words 0).Quoted) ∧
(((ix a0 x11).At : Int) = (ix a0 x11).At) ∧
((ix a0 x11).Words = (ix a0 x11).Words) ∧
(((ix (ix a0 0).Words 0).At : Int) = (ix (ix a0 0).Words 0).At) ∧
((ix (ix a0 0).Words 0).Text = (ix (ix a0 0).Words 0).Text) ∧
((ix (ix a0 0).Words 0).Quoted = (ix (ix a0 0).Words 0).Quoted) ∧
(((ix a0 0).At : Int) = (ix a0 0).At) ∧
((ix a0 0).Words = (ix a0 0).Words) ∧
(inv_TextW_1 a0 (x19 + 1) ((x20 ++ [(UInt8.ofNat (Int.toNat (32)))]) ++ ((([34] : List UInt8) ++ (ix (ix a0 x11).Words x19).Text) ++ ([34] : List UInt8))) x11 (ln x12)) ∧
 minv_TextW_1 a0 (x19 + 1) ((x20 ++ [(UInt8.ofNat (Int.toNat (32)))]) ++ ((([34] : List UInt8) ++ (ix (ix a0 x11).Words x19).Text) ++ ([34] : List UInt8))) x11 (ln x12) < minv_TextW_1 a0 x19 x20 x11 (ln x12))) ∧
(x19 ≤ 0 →
(Short (List.length ([34] : List UInt8) + List.length (ix (ix a0 x11).Words x19).Text)) ∧
(Short (List.length (([34] : List UInt8) ++ (ix (ix a0 x11).Words x19).Text) + List.length ([34] : List UInt8))) ∧
(Short (List.length x20 + List.length ((([34] : List UInt8) ++ (ix (ix a0 x11).Words x19).Text) ++ ([34] : List UInt8)))) ∧
(I64 (x19 + 1)) ∧
(((ix (ix a0 x11).Words 0).At : Int) = (ix (ix a0 x11).Words 0).At) ∧
((ix (ix a0 x11).Words 0).Text = (ix (ix a0 x11).Words 0).Text) ∧
((ix (ix a0 x11).Words 0).Quoted = (ix (ix a0 x11).Words 0).Quoted) ∧
(((ix a0 x11).At : Int) = (ix a0 x11).At) ∧
((ix a0 x11).Words = (ix a0 x11).Words) ∧
(((ix (ix a0 0).Words 0).At : Int) = (ix (ix a0 0).Words 0).At) ∧
((ix (ix a0 0).Words 0).Text = (ix (ix a0 0).Words 0).Text) ∧
((ix (ix a0 0).Words 0).Quoted = (ix (ix a0 0).Words 0).Quoted) ∧
(((ix a0 0).At : Int) = (ix a0 0).At) ∧
((ix a0 0).Words = (ix a0 0).Words) ∧
(inv_TextW_1 a0 (x19 + 1) (x20 ++ ((([34] : List UInt8) ++ (ix (ix a0 x11).Words x19).Text) ++ ([34] : List UInt8))) x11 (ln x12)) ∧
 minv_TextW_1 a0 (x19 + 1) (x20 ++ ((([34] : List UInt8) ++ (ix (ix a0 x11).Words x19).Text) ++ ([34] : List UInt8))) x11 (ln x12) < minv_TextW_1 a0 x19 x20 x11 (ln x12))))) ∧
((ix (ix a0 x11).Words x19).Quoted = false →
((ln (ix (ix a0 x11).Words x19).Text ≤ 1000000000)) ∧
(((plainB (ix (ix a0 x11).Words x19).Text) = false →
(([] : List UInt8) = ((textW a0).1)) ∧
((3 : Int) = ((textW a0).2)) ∧
                         True)) ∧
((plainB (ix (ix a0 x11).Words x19).Text) = true →
((0 < x19 →
(U8 (32)) ∧
(Short (List.length x20 + List.length [(UInt8.ofNat (Int.toNat (32)))])) ∧
(Short (List.length (x20 ++ [(UInt8.ofNat (Int.toNat (32)))]) + List.length (ix (ix a0 x11).Words x19).Text)) ∧
(I64 (x19 + 1)) ∧
(((ix (ix a0 x11).Words 0).At : Int) = (ix (ix a0 x11).Words 0).At) ∧
((ix (ix a0 x11).Words 0).Text = (ix (ix a0 x11).Words 0).Text) ∧
((ix (ix a0 x11).Words 0).Quoted = (ix (ix a0 x11).Words 0).Quoted) ∧
(((ix a0 x11).At : Int) = (ix a0 x11).At) ∧
((ix a0 x11).Words = (ix a0 x11).Words) ∧
(((ix (ix a0 0).Words 0).At : Int) = (ix (ix a0 0).Words 0).At) ∧
((ix (ix a0 0).Words 0).Text = (ix (ix a0 0).Words 0).Text) ∧
((ix (ix a0 0).Words 0).Quoted = (ix (ix a0 0).Words 0).Quoted) ∧
(((ix a0 0).At : Int) = (ix a0 0).At) ∧
((ix a0 0).Words = (ix a0 0).Words) ∧
(inv_TextW_1 a0 (x19 + 1) ((x20 ++ [(UInt8.ofNat (Int.toNat (32)))]) ++ (ix (ix a0 x11).Words x19).Text) x11 (ln x12)) ∧
 minv_TextW_1 a0 (x19 + 1) ((x20 ++ [(UInt8.ofNat (Int.toNat (32)))]) ++ (ix (ix a0 x11).Words x19).Text) x11 (ln x12) < minv_TextW_1 a0 x19 x20 x11 (ln x12))) ∧
(x19 ≤ 0 →
(Short (List.length x20 + List.length (ix (ix a0 x11).Words x19).Text)) ∧
(I64 (x19 + 1)) ∧
(((ix (ix a0 x11).Words 0).At : Int) = (ix (ix a0 x11).Words 0).At) ∧
((ix (ix a0 x11).Words 0).Text = (ix (ix a0 x11).Words 0).Text) ∧
((ix (ix a0 x11).Words 0).Quoted = (ix (ix a0 x11).Words 0).Quoted) ∧
(((ix a0 x11).At : Int) = (ix a0 x11).At) ∧
((ix a0 x11).Words = (ix a0 x11).Words) ∧
(((ix (ix a0 0).Words 0).At : Int) = (ix (ix a0 0).Words 0).At) ∧
((ix (ix a0 0).Words 0).Text = (ix (ix a0 0).Words 0).Text) ∧
((ix (ix a0 0).Words 0).Quoted = (ix (ix a0 0).Words 0).Quoted) ∧
(((ix a0 0).At : Int) = (ix a0 0).At) ∧
((ix a0 0).Words = (ix a0 0).Words) ∧
(inv_TextW_1 a0 (x19 + 1) (x20 ++ (ix (ix a0 x11).Words x19).Text) x11 (ln x12)) ∧
 minv_TextW_1 a0 (x19 + 1) (x20 ++ (ix (ix a0 x11).Words x19).Text) x11 (ln x12) < minv_TextW_1 a0 x19 x20 x11 (ln x12)))))) ∧
((ln (ix a0 x11).Words) ≤ x19 →
(I64 ((ln x20) - (ln x12))) ∧
((1000 < ((ln x20) - (ln x12)) →
(([] : List UInt8) = ((textW a0).1)) ∧
((4 : Int) = ((textW a0).2)) ∧
                        True)) ∧
(((ln x20) - (ln x12)) ≤ 1000 →
(U8 (10)) ∧
(Short (List.length x20 + List.length [(UInt8.ofNat (Int.toNat (10)))])) ∧
((20000 < (ln (x20 ++ [(UInt8.ofNat (Int.toNat (10)))])) →
(([] : List UInt8) = ((textW a0).1)) ∧
((4 : Int) = ((textW a0).2)) ∧
                         True)) ∧
((ln (x20 ++ [(UInt8.ofNat (Int.toNat (10)))])) ≤ 20000 →
(I64 (x11 + 1)) ∧
(((ix (ix a0 0).Words 0).At : Int) = (ix (ix a0 0).Words 0).At) ∧
((ix (ix a0 0).Words 0).Text = (ix (ix a0 0).Words 0).Text) ∧
((ix (ix a0 0).Words 0).Quoted = (ix (ix a0 0).Words 0).Quoted) ∧
(((ix a0 0).At : Int) = (ix a0 0).At) ∧
((ix a0 0).Words = (ix a0 0).Words) ∧
(inv_TextW_0 a0 (x11 + 1) (x20 ++ [(UInt8.ofNat (Int.toNat (10)))])) ∧
 minv_TextW_0 a0 (x11 + 1) (x20 ++ [(UInt8.ofNat (Int.toNat (10)))]) < minv_TextW_0 a0 x11 x12)))))))))) ∧
((ln (ix a0 x11).Words) ≤ 0 →
(I64 ((ln x12) - (ln x12))) ∧
((1000 < ((ln x12) - (ln x12)) →
(([] : List UInt8) = ((textW a0).1)) ∧
((4 : Int) = ((textW a0).2)) ∧
                  True)) ∧
(((ln x12) - (ln x12)) ≤ 1000 →
(U8 (10)) ∧
(Short (List.length x12 + List.length [(UInt8.ofNat (Int.toNat (10)))])) ∧
((20000 < (ln (x12 ++ [(UInt8.ofNat (Int.toNat (10)))])) →
(([] : List UInt8) = ((textW a0).1)) ∧
((4 : Int) = ((textW a0).2)) ∧
                   True)) ∧
((ln (x12 ++ [(UInt8.ofNat (Int.toNat (10)))])) ≤ 20000 →
(I64 (x11 + 1)) ∧
(((ix (ix a0 0).Words 0).At : Int) = (ix (ix a0 0).Words 0).At) ∧
((ix (ix a0 0).Words 0).Text = (ix (ix a0 0).Words 0).Text) ∧
((ix (ix a0 0).Words 0).Quoted = (ix (ix a0 0).Words 0).Quoted) ∧
(((ix a0 0).At : Int) = (ix a0 0).At) ∧
((ix a0 0).Words = (ix a0 0).Words) ∧
(inv_TextW_0 a0 (x11 + 1) (x12 ++ [(UInt8.ofNat (Int.toNat (10)))])) ∧
 minv_TextW_0 a0 (x11 + 1) (x12 ++ [(UInt8.ofNat (Int.toNat (10)))]) < minv_TextW_0 a0 x11 x12)))))) ∧
((ln a0) ≤ x11 →
((ln x12) ≤ 140737488355328) ∧
(x12 = ((textW a0).1)) ∧
((0 : Int) = ((textW a0).2)) ∧
               True))))))))))))) ∧
((ix (ix a0 0).Words 0).Quoted = false →
((ln (ix (ix a0 0).Words 0).Text ≤ 1000000000)) ∧
(((plainB (ix (ix a0 0).Words 0).Text) = false →
(([] : List UInt8) = ((textW a0).1)) ∧
((3 : Int) = ((textW a0).2)) ∧
     True)) ∧
((plainB (ix (ix a0 0).Words 0).Text) = true →
(Short (List.length ([] : List UInt8) + List.length (ix (ix a0 0).Words 0).Text)) ∧
(inv_TextW_1 a0 1 (([] : List UInt8) ++ (ix (ix a0 0).Words 0).Text) 0 0) ∧
(∀ x5 : Int,
(∀ x6 : List UInt8,
(inv_TextW_1 a0 x5 x6 0 0 →
((x5 < (ln (ix a0 0).Words) →
(Wn x5 (ln (ix a0 0).Words)) ∧
(((ix (ix a0 0).Words x5).Quoted = true →
((ln (ix (ix a0 0).Words x5).Text ≤ 1000000000)) ∧
(((quotedB (ix (ix a0 0).Words x5).Text) = false →
(([] : List UInt8) = ((textW a0).1)) ∧
((3 : Int) = ((textW a0).2)) ∧
           True)) ∧
((quotedB (ix (ix a0 0).Words x5).Text) = true →
((0 < x5 →
(U8 (32)) ∧
(Short (List.length x6 + List.length [(UInt8.ofNat (Int.toNat (32)))])) ∧
(Short (List.length ([34] : List UInt8) + List.length (ix (ix a0 0).Words x5).Text)) ∧
(Short (List.length (([34] : List UInt8) ++ (ix (ix a0 0).Words x5).Text) + List.length ([34] : List UInt8))) ∧
(Short (List.length (x6 ++ [(UInt8.ofNat (Int.toNat (32)))]) + List.length ((([34] : List UInt8) ++ (ix (ix a0 0).Words x5).Text) ++ ([34] : List UInt8)))) ∧
(I64 (x5 + 1)) ∧
(((ix (ix a0 0).Words 0).At : Int) = (ix (ix a0 0).Words 0).At) ∧
((ix (ix a0 0).Words 0).Text = (ix (ix a0 0).Words 0).Text) ∧
((ix (ix a0 0).Words 0).Quoted = (ix (ix a0 0).Words 0).Quoted) ∧
(((ix a0 0).At : Int) = (ix a0 0).At) ∧
((ix a0 0).Words = (ix a0 0).Words) ∧
(inv_TextW_1 a0 (x5 + 1) ((x6 ++ [(UInt8.ofNat (Int.toNat (32)))]) ++ ((([34] : List UInt8) ++ (ix (ix a0 0).Words x5).Text) ++ ([34] : List UInt8))) 0 0) ∧
 minv_TextW_1 a0 (x5 + 1) ((x6 ++ [(UInt8.ofNat (Int.toNat (32)))]) ++ ((([34] : List UInt8) ++ (ix (ix a0 0).Words x5).Text) ++ ([34] : List UInt8))) 0 0 < minv_TextW_1 a0 x5 x6 0 0)) ∧
(x5 ≤ 0 →
(Short (List.length ([34] : List UInt8) + List.length (ix (ix a0 0).Words x5).Text)) ∧
(Short (List.length (([34] : List UInt8) ++ (ix (ix a0 0).Words x5).Text) + List.length ([34] : List UInt8))) ∧
(Short (List.length x6 + List.length ((([34] : List UInt8) ++ (ix (ix a0 0).Words x5).Text) ++ ([34] : List UInt8)))) ∧
(I64 (x5 + 1)) ∧
(((ix (ix a0 0).Words 0).At : Int) = (ix (ix a0 0).Words 0).At) ∧
((ix (ix a0 0).Words 0).Text = (ix (ix a0 0).Words 0).Text) ∧
((ix (ix a0 0).Words 0).Quoted = (ix (ix a0 0).Words 0).Quoted) ∧
(((ix a0 0).At : Int) = (ix a0 0).At) ∧
((ix a0 0).Words = (ix a0 0).Words) ∧
(inv_TextW_1 a0 (x5 + 1) (x6 ++ ((([34] : List UInt8) ++ (ix (ix a0 0).Words x5).Text) ++ ([34] : List UInt8))) 0 0) ∧
 minv_TextW_1 a0 (x5 + 1) (x6 ++ ((([34] : List UInt8) ++ (ix (ix a0 0).Words x5).Text) ++ ([34] : List UInt8))) 0 0 < minv_TextW_1 a0 x5 x6 0 0)))) ∧
((ix (ix a0 0).Words x5).Quoted = false →
((ln (ix (ix a0 0).Words x5).Text ≤ 1000000000)) ∧
(((plainB (ix (ix a0 0).Words x5).Text) = false →
(([] : List UInt8) = ((textW a0).1)) ∧
((3 : Int) = ((textW a0).2)) ∧
           True)) ∧
((plainB (ix (ix a0 0).Words x5).Text) = true →
((0 < x5 →
(U8 (32)) ∧
(Short (List.length x6 + List.length [(UInt8.ofNat (Int.toNat (32)))])) ∧
(Short (List.length (x6 ++ [(UInt8.ofNat (Int.toNat (32)))]) + List.length (ix (ix a0 0).Words x5).Text)) ∧
(I64 (x5 + 1)) ∧
(((ix (ix a0 0).Words 0).At : Int) = (ix (ix a0 0).Words 0).At) ∧
((ix (ix a0 0).Words 0).Text = (ix (ix a0 0).Words 0).Text) ∧
((ix (ix a0 0).Words 0).Quoted = (ix (ix a0 0).Words 0).Quoted) ∧
(((ix a0 0).At : Int) = (ix a0 0).At) ∧
((ix a0 0).Words = (ix a0 0).Words) ∧
(inv_TextW_1 a0 (x5 + 1) ((x6 ++ [(UInt8.ofNat (Int.toNat (32)))]) ++ (ix (ix a0 0).Words x5).Text) 0 0) ∧
 minv_TextW_1 a0 (x5 + 1) ((x6 ++ [(UInt8.ofNat (Int.toNat (32)))]) ++ (ix (ix a0 0).Words x5).Text) 0 0 < minv_TextW_1 a0 x5 x6 0 0)) ∧
(x5 ≤ 0 →
(Short (List.length x6 + List.length (ix (ix a0 0).Words x5).Text)) ∧
(I64 (x5 + 1)) ∧
(((ix (ix a0 0).Words 0).At : Int) = (ix (ix a0 0).Words 0).At) ∧
((ix (ix a0 0).Words 0).Text = (ix (ix a0 0).Words 0).Text) ∧
((ix (ix a0 0).Words 0).Quoted = (ix (ix a0 0).Words 0).Quoted) ∧
(((ix a0 0).At : Int) = (ix a0 0).At) ∧
((ix a0 0).Words = (ix a0 0).Words) ∧
(inv_TextW_1 a0 (x5 + 1) (x6 ++ (ix (ix a0 0).Words x5).Text) 0 0) ∧
 minv_TextW_1 a0 (x5 + 1) (x6 ++ (ix (ix a0 0).Words x5).Text) 0 0 < minv_TextW_1 a0 x5 x6 0 0))))) ∧
((ln (ix a0 0).Words) ≤ x5 →
(I64 ((ln x6) - 0)) ∧
((1000 < ((ln x6) - 0) →
(([] : List UInt8) = ((textW a0).1)) ∧
((4 : Int) = ((textW a0).2)) ∧
          True)) ∧
(((ln x6) - 0) ≤ 1000 →
(U8 (10)) ∧
(Short (List.length x6 + List.length [(UInt8.ofNat (Int.toNat (10)))])) ∧
((20000 < (ln (x6 ++ [(UInt8.ofNat (Int.toNat (10)))])) →
(([] : List UInt8) = ((textW a0).1)) ∧
((4 : Int) = ((textW a0).2)) ∧
           True)) ∧
((ln (x6 ++ [(UInt8.ofNat (Int.toNat (10)))])) ≤ 20000 →
(inv_TextW_0 a0 1 (x6 ++ [(UInt8.ofNat (Int.toNat (10)))])) ∧
(∀ x11 : Int,
(∀ x12 : List UInt8,
(inv_TextW_0 a0 x11 x12 →
((x11 < (ln a0) →
(Wn x11 (ln a0)) ∧
(((ln (ix a0 x11).Words) = 0 →
(([] : List UInt8) = ((textW a0).1)) ∧
((3 : Int) = ((textW a0).2)) ∧
                True)) ∧
((ln (ix a0 x11).Words) ≠ 0 →
((0 < (ln (ix a0 x11).Words) →
(Wn 0 (ln (ix a0 x11).Words)) ∧
(((ix (ix a0 x11).Words 0).Quoted = true →
((ln (ix (ix a0 x11).Words 0).Text ≤ 1000000000)) ∧
(((quotedB (ix (ix a0 x11).Words 0).Text) = false →
(([] : List UInt8) = ((textW a0).1)) ∧
((3 : Int) = ((textW a0).2)) ∧
                   True)) ∧
((quotedB (ix (ix a0 x11).Words 0).Text) = true →
(Short (List.length ([34] : List UInt8) + List.length (ix (ix a0 x11).Words 0).Text)) ∧
(Short (List.length (([34] : List UInt8) ++ (ix (ix a0 x11).Words 0).Text) + List.length ([34] : List UInt8))) ∧
(Short (List.length x12 + List.length ((([34] : List UInt8) ++ (ix (ix a0 x11).Words 0).Text) ++ ([34] : List UInt8)))) ∧
(inv_TextW_1 a0 1 (x12 ++ ((([34] : List UInt8) ++ (ix (ix a0 x11).Words 0).Text) ++ ([34] : List UInt8))) x11 (ln x12)) ∧
(∀ x19 : Int,
(∀ x20 : List UInt8,
(inv_TextW_1 a0 x19 x20 x11 (ln x12) →
((x19 < (ln (ix a0 x11).Words) →
(Wn x19 (ln (ix a0 x11).Words)) ∧
(((ix (ix a0 x11).Words x19).Quoted = true →
((ln (ix (ix a0 x11).Words x19).Text ≤ 1000000000)) ∧
(((quotedB (ix (ix a0 x11).Words x19).Text) = false →
(([] : List UInt8) = ((textW a0).1)) ∧
((3 : Int) = ((textW a0).2)) ∧
                         True)) ∧
((quotedB (ix (ix a0 x11).Words x19).Text) = true →
((0 < x19 →
(U8 (32)) ∧
(Short (List.length x20 + List.length [(UInt8.ofNat (Int.toNat (32)))])) ∧
(Short (List.length ([34] : List UInt8) + List.length (ix (ix a0 x11).Words x19).Text)) ∧
(Short (List.length (([34] : List UInt8) ++ (ix (ix a0 x11).Words x19).Text) + List.length ([34] : List UInt8))) ∧
(Short (List.length (x20 ++ [(UInt8.ofNat (Int.toNat (32)))]) + List.length ((([34] : List UInt8) ++ (ix (ix a0 x11).Words x19).Text) ++ ([34] : List UInt8)))) ∧
(I64 (x19 + 1)) ∧
(((ix (ix a0 x11).Words 0).At : Int) = (ix (ix a0 x11).Words 0).At) ∧
((ix (ix a0 x11).Words 0).Text = (ix (ix a0 x11).Words 0).Text) ∧
((ix (ix a0 x11).Words 0).Quoted = (ix (ix a0 x11).Words 0).Quoted) ∧
(((ix a0 x11).At : Int) = (ix a0 x11).At) ∧
((ix a0 x11).Words = (ix a0 x11).Words) ∧
(((ix (ix a0 0).Words 0).At : Int) = (ix (ix a0 0).Words 0).At) ∧
((ix (ix a0 0).Words 0).Text = (ix (ix a0 0).Words 0).Text) ∧
((ix (ix a0 0).Words 0).Quoted = (ix (ix a0 0).Words 0).Quoted) ∧
(((ix a0 0).At : Int) = (ix a0 0).At) ∧
((ix a0 0).Words = (ix a0 0).Words) ∧
(inv_TextW_1 a0 (x19 + 1) ((x20 ++ [(UInt8.ofNat (Int.toNat (32)))]) ++ ((([34] : List UInt8) ++ (ix (ix a0 x11).Words x19).Text) ++ ([34] : List UInt8))) x11 (ln x12)) ∧
 minv_TextW_1 a0 (x19 + 1) ((x20 ++ [(UInt8.ofNat (Int.toNat (32)))]) ++ ((([34] : List UInt8) ++ (ix (ix a0 x11).Words x19).Text) ++ ([34] : List UInt8))) x11 (ln x12) < minv_TextW_1 a0 x19 x20 x11 (ln x12))) ∧
(x19 ≤ 0 →
(Short (List.length ([34] : List UInt8) + List.length (ix (ix a0 x11).Words x19).Text)) ∧
(Short (List.length (([34] : List UInt8) ++ (ix (ix a0 x11).Words x19).Text) + List.length ([34] : List UInt8))) ∧
(Short (List.length x20 + List.length ((([34] : List UInt8) ++ (ix (ix a0 x11).Words x19).Text) ++ ([34] : List UInt8)))) ∧
(I64 (x19 + 1)) ∧
(((ix (ix a0 x11).Words 0).At : Int) = (ix (ix a0 x11).Words 0).At) ∧
((ix (ix a0 x11).Words 0).Text = (ix (ix a0 x11).Words 0).Text) ∧
((ix (ix a0 x11).Words 0).Quoted = (ix (ix a0 x11).Words 0).Quoted) ∧
(((ix a0 x11).At : Int) = (ix a0 x11).At) ∧
((ix a0 x11).Words = (ix a0 x11).Words) ∧
(((ix (ix a0 0).Words 0).At : Int) = (ix (ix a0 0).Words 0).At) ∧
((ix (ix a0 0).Words 0).Text = (ix (ix a0 0).Words 0).Text) ∧
((ix (ix a0 0).Words 0).Quoted = (ix (ix a0 0).Words 0).Quoted) ∧
(((ix a0 0).At : Int) = (ix a0 0).At) ∧
((ix a0 0).Words = (ix a0 0).Words) ∧
(inv_TextW_1 a0 (x19 + 1) (x20 ++ ((([34] : List UInt8) ++ (ix (ix a0 x11).Words x19).Text) ++ ([34] : List UInt8))) x11 (ln x12)) ∧
 minv_TextW_1 a0 (x19 + 1) (x20 ++ ((([34] : List UInt8) ++ (ix (ix a0 x11).Words x19).Text) ++ ([34] : List UInt8))) x11 (ln x12) < minv_TextW_1 a0 x19 x20 x11 (ln x12))))) ∧
((ix (ix a0 x11).Words x19).Quoted = false →
((ln (ix (ix a0 x11).Words x19).Text ≤ 1000000000)) ∧
(((plainB (ix (ix a0 x11).Words x19).Text) = false →
(([] : List UInt8) = ((textW a0).1)) ∧
((3 : Int) = ((textW a0).2)) ∧
                         True)) ∧
((plainB (ix (ix a0 x11).Words x19).Text) = true →
((0 < x19 →
(U8 (32)) ∧
(Short (List.length x20 + List.length [(UInt8.ofNat (Int.toNat (32)))])) ∧
(Short (List.length (x20 ++ [(UInt8.ofNat (Int.toNat (32)))]) + List.length (ix (ix a0 x11).Words x19).Text)) ∧
(I64 (x19 + 1)) ∧
(((ix (ix a0 x11).Words 0).At : Int) = (ix (ix a0 x11).Words 0).At) ∧
((ix (ix a0 x11).Words 0).Text = (ix (ix a0 x11).Words 0).Text) ∧
((ix (ix a0 x11).Words 0).Quoted = (ix (ix a0 x11).Words 0).Quoted) ∧
(((ix a0 x11).At : Int) = (ix a0 x11).At) ∧
((ix a0 x11).Words = (ix a0 x11).Words) ∧
(((ix (ix a0 0).Words 0).At : Int) = (ix (ix a0 0).Words 0).At) ∧
((ix (ix a0 0).Words 0).Text = (ix (ix a0 0).Words 0).Text) ∧
((ix (ix a0 0).Words 0).Quoted = (ix (ix a0 0).Words 0).Quoted) ∧
(((ix a0 0).At : Int) = (ix a0 0).At) ∧
((ix a0 0).Words = (ix a0 0).Words) ∧
(inv_TextW_1 a0 (x19 + 1) ((x20 ++ [(UInt8.ofNat (Int.toNat (32)))]) ++ (ix (ix a0 x11).Words x19).Text) x11 (ln x12)) ∧
 minv_TextW_1 a0 (x19 + 1) ((x20 ++ [(UInt8.ofNat (Int.toNat (32)))]) ++ (ix (ix a0 x11).Words x19).Text) x11 (ln x12) < minv_TextW_1 a0 x19 x20 x11 (ln x12))) ∧
(x19 ≤ 0 →
(Short (List.length x20 + List.length (ix (ix a0 x11).Words x19).Text)) ∧
(I64 (x19 + 1)) ∧
(((ix (ix a0 x11).Words 0).At : Int) = (ix (ix a0 x11).Words 0).At) ∧
((ix (ix a0 x11).Words 0).Text = (ix (ix a0 x11).Words 0).Text) ∧
((ix (ix a0 x11).Words 0).Quoted = (ix (ix a0 x11).Words 0).Quoted) ∧
(((ix a0 x11).At : Int) = (ix a0 x11).At) ∧
((ix a0 x11).Words = (ix a0 x11).Words) ∧
(((ix (ix a0 0).Words 0).At : Int) = (ix (ix a0 0).Words 0).At) ∧
((ix (ix a0 0).Words 0).Text = (ix (ix a0 0).Words 0).Text) ∧
((ix (ix a0 0).Words 0).Quoted = (ix (ix a0 0).Words 0).Quoted) ∧
(((ix a0 0).At : Int) = (ix a0 0).At) ∧
((ix a0 0).Words = (ix a0 0).Words) ∧
(inv_TextW_1 a0 (x19 + 1) (x20 ++ (ix (ix a0 x11).Words x19).Text) x11 (ln x12)) ∧
 minv_TextW_1 a0 (x19 + 1) (x20 ++ (ix (ix a0 x11).Words x19).Text) x11 (ln x12) < minv_TextW_1 a0 x19 x20 x11 (ln x12)))))) ∧
((ln (ix a0 x11).Words) ≤ x19 →
(I64 ((ln x20) - (ln x12))) ∧
((1000 < ((ln x20) - (ln x12)) →
(([] : List UInt8) = ((textW a0).1)) ∧
((4 : Int) = ((textW a0).2)) ∧
                        True)) ∧
(((ln x20) - (ln x12)) ≤ 1000 →
(U8 (10)) ∧
(Short (List.length x20 + List.length [(UInt8.ofNat (Int.toNat (10)))])) ∧
((20000 < (ln (x20 ++ [(UInt8.ofNat (Int.toNat (10)))])) →
(([] : List UInt8) = ((textW a0).1)) ∧
((4 : Int) = ((textW a0).2)) ∧
                         True)) ∧
((ln (x20 ++ [(UInt8.ofNat (Int.toNat (10)))])) ≤ 20000 →
(I64 (x11 + 1)) ∧
(((ix (ix a0 0).Words 0).At : Int) = (ix (ix a0 0).Words 0).At) ∧
((ix (ix a0 0).Words 0).Text = (ix (ix a0 0).Words 0).Text) ∧
((ix (ix a0 0).Words 0).Quoted = (ix (ix a0 0).Words 0).Quoted) ∧
(((ix a0 0).At : Int) = (ix a0 0).At) ∧
((ix a0 0).Words = (ix a0 0).Words) ∧
(inv_TextW_0 a0 (x11 + 1) (x20 ++ [(UInt8.ofNat (Int.toNat (10)))])) ∧
 minv_TextW_0 a0 (x11 + 1) (x20 ++ [(UInt8.ofNat (Int.toNat (10)))]) < minv_TextW_0 a0 x11 x12))))))))) ∧
((ix (ix a0 x11).Words 0).Quoted = false →
((ln (ix (ix a0 x11).Words 0).Text ≤ 1000000000)) ∧
(((plainB (ix (ix a0 x11).Words 0).Text) = false →
(([] : List UInt8) = ((textW a0).1)) ∧
((3 : Int) = ((textW a0).2)) ∧
                   True)) ∧
((plainB (ix (ix a0 x11).Words 0).Text) = true →
(Short (List.length x12 + List.length (ix (ix a0 x11).Words 0).Text)) ∧
(inv_TextW_1 a0 1 (x12 ++ (ix (ix a0 x11).Words 0).Text) x11 (ln x12)) ∧
(∀ x19 : Int,
(∀ x20 : List UInt8,
(inv_TextW_1 a0 x19 x20 x11 (ln x12) →
((x19 < (ln (ix a0 x11).Words) →
(Wn x19 (ln (ix a0 x11).Words)) ∧
(((ix (ix a0 x11).Words x19).Quoted = true →
((ln (ix (ix a0 x11).Words x19).Text ≤ 1000000000)) ∧
(((quotedB (ix (ix a0 x11).Words x19).Text) = false →
(([] : List UInt8) = ((textW a0).1)) ∧
((3 : Int) = ((textW a0).2)) ∧
                         True)) ∧
((quotedB (ix (ix a0 x11).Words x19).Text) = true →
((0 < x19 →
(U8 (32)) ∧
(Short (List.length x20 + List.length [(UInt8.ofNat (Int.toNat (32)))])) ∧
(Short (List.length ([34] : List UInt8) + List.length (ix (ix a0 x11).Words x19).Text)) ∧
(Short (List.length (([34] : List UInt8) ++ (ix (ix a0 x11).Words x19).Text) + List.length ([34] : List UInt8))) ∧
(Short (List.length (x20 ++ [(UInt8.ofNat (Int.toNat (32)))]) + List.length ((([34] : List UInt8) ++ (ix (ix a0 x11).Words x19).Text) ++ ([34] : List UInt8)))) ∧
(I64 (x19 + 1)) ∧
(((ix (ix a0 x11).Words 0).At : Int) = (ix (ix a0 x11).Words 0).At) ∧
((ix (ix a0 x11).Words 0).Text = (ix (ix a0 x11).Words 0).Text) ∧
((ix (ix a0 x11).Words 0).Quoted = (ix (ix a0 x11).Words 0).Quoted) ∧
(((ix a0 x11).At : Int) = (ix a0 x11).At) ∧
((ix a0 x11).Words = (ix a0 x11).Words) ∧
(((ix (ix a0 0).Words 0).At : Int) = (ix (ix a0 0).Words 0).At) ∧
((ix (ix a0 0).Words 0).Text = (ix (ix a0 0).Words 0).Text) ∧
((ix (ix a0 0).Words 0).Quoted = (ix (ix a0 0).Words 0).Quoted) ∧
(((ix a0 0).At : Int) = (ix a0 0).At) ∧
((ix a0 0).Words = (ix a0 0).Words) ∧
(inv_TextW_1 a0 (x19 + 1) ((x20 ++ [(UInt8.ofNat (Int.toNat (32)))]) ++ ((([34] : List UInt8) ++ (ix (ix a0 x11).Words x19).Text) ++ ([34] : List UInt8))) x11 (ln x12)) ∧
 minv_TextW_1 a0 (x19 + 1) ((x20 ++ [(UInt8.ofNat (Int.toNat (32)))]) ++ ((([34] : List UInt8) ++ (ix (ix a0 x11).Words x19).Text) ++ ([34] : List UInt8))) x11 (ln x12) < minv_TextW_1 a0 x19 x20 x11 (ln x12))) ∧
(x19 ≤ 0 →
(Short (List.length ([34] : List UInt8) + List.length (ix (ix a0 x11).Words x19).Text)) ∧
(Short (List.length (([34] : List UInt8) ++ (ix (ix a0 x11).Words x19).Text) + List.length ([34] : List UInt8))) ∧
(Short (List.length x20 + List.length ((([34] : List UInt8) ++ (ix (ix a0 x11).Words x19).Text) ++ ([34] : List UInt8)))) ∧
(I64 (x19 + 1)) ∧
(((ix (ix a0 x11).Words 0).At : Int) = (ix (ix a0 x11).Words 0).At) ∧
((ix (ix a0 x11).Words 0).Text = (ix (ix a0 x11).Words 0).Text) ∧
((ix (ix a0 x11).Words 0).Quoted = (ix (ix a0 x11).Words 0).Quoted) ∧
(((ix a0 x11).At : Int) = (ix a0 x11).At) ∧
((ix a0 x11).Words = (ix a0 x11).Words) ∧
(((ix (ix a0 0).Words 0).At : Int) = (ix (ix a0 0).Words 0).At) ∧
((ix (ix a0 0).Words 0).Text = (ix (ix a0 0).Words 0).Text) ∧
((ix (ix a0 0).Words 0).Quoted = (ix (ix a0 0).Words 0).Quoted) ∧
(((ix a0 0).At : Int) = (ix a0 0).At) ∧
((ix a0 0).Words = (ix a0 0).Words) ∧
(inv_TextW_1 a0 (x19 + 1) (x20 ++ ((([34] : List UInt8) ++ (ix (ix a0 x11).Words x19).Text) ++ ([34] : List UInt8))) x11 (ln x12)) ∧
 minv_TextW_1 a0 (x19 + 1) (x20 ++ ((([34] : List UInt8) ++ (ix (ix a0 x11).Words x19).Text) ++ ([34] : List UInt8))) x11 (ln x12) < minv_TextW_1 a0 x19 x20 x11 (ln x12))))) ∧
((ix (ix a0 x11).Words x19).Quoted = false →
((ln (ix (ix a0 x11).Words x19).Text ≤ 1000000000)) ∧
(((plainB (ix (ix a0 x11).Words x19).Text) = false →
(([] : List UInt8) = ((textW a0).1)) ∧
((3 : Int) = ((textW a0).2)) ∧
                         True)) ∧
((plainB (ix (ix a0 x11).Words x19).Text) = true →
((0 < x19 →
(U8 (32)) ∧
(Short (List.length x20 + List.length [(UInt8.ofNat (Int.toNat (32)))])) ∧
(Short (List.length (x20 ++ [(UInt8.ofNat (Int.toNat (32)))]) + List.length (ix (ix a0 x11).Words x19).Text)) ∧
(I64 (x19 + 1)) ∧
(((ix (ix a0 x11).Words 0).At : Int) = (ix (ix a0 x11).Words 0).At) ∧
((ix (ix a0 x11).Words 0).Text = (ix (ix a0 x11).Words 0).Text) ∧
((ix (ix a0 x11).Words 0).Quoted = (ix (ix a0 x11).Words 0).Quoted) ∧
(((ix a0 x11).At : Int) = (ix a0 x11).At) ∧
((ix a0 x11).Words = (ix a0 x11).Words) ∧
(((ix (ix a0 0).Words 0).At : Int) = (ix (ix a0 0).Words 0).At) ∧
((ix (ix a0 0).Words 0).Text = (ix (ix a0 0).Words 0).Text) ∧
((ix (ix a0 0).Words 0).Quoted = (ix (ix a0 0).Words 0).Quoted) ∧
(((ix a0 0).At : Int) = (ix a0 0).At) ∧
((ix a0 0).Words = (ix a0 0).Words) ∧
(inv_TextW_1 a0 (x19 + 1) ((x20 ++ [(UInt8.ofNat (Int.toNat (32)))]) ++ (ix (ix a0 x11).Words x19).Text) x11 (ln x12)) ∧
 minv_TextW_1 a0 (x19 + 1) ((x20 ++ [(UInt8.ofNat (Int.toNat (32)))]) ++ (ix (ix a0 x11).Words x19).Text) x11 (ln x12) < minv_TextW_1 a0 x19 x20 x11 (ln x12))) ∧
(x19 ≤ 0 →
(Short (List.length x20 + List.length (ix (ix a0 x11).Words x19).Text)) ∧
(I64 (x19 + 1)) ∧
(((ix (ix a0 x11).Words 0).At : Int) = (ix (ix a0 x11).Words 0).At) ∧
((ix (ix a0 x11).Words 0).Text = (ix (ix a0 x11).Words 0).Text) ∧
((ix (ix a0 x11).Words 0).Quoted = (ix (ix a0 x11).Words 0).Quoted) ∧
(((ix a0 x11).At : Int) = (ix a0 x11).At) ∧
((ix a0 x11).Words = (ix a0 x11).Words) ∧
(((ix (ix a0 0).Words 0).At : Int) = (ix (ix a0 0).Words 0).At) ∧
((ix (ix a0 0).Words 0).Text = (ix (ix a0 0).Words 0).Text) ∧
((ix (ix a0 0).Words 0).Quoted = (ix (ix a0 0).Words 0).Quoted) ∧
(((ix a0 0).At : Int) = (ix a0 0).At) ∧
((ix a0 0).Words = (ix a0 0).Words) ∧
(inv_TextW_1 a0 (x19 + 1) (x20 ++ (ix (ix a0 x11).Words x19).Text) x11 (ln x12)) ∧
 minv_TextW_1 a0 (x19 + 1) (x20 ++ (ix (ix a0 x11).Words x19).Text) x11 (ln x12) < minv_TextW_1 a0 x19 x20 x11 (ln x12)))))) ∧
((ln (ix a0 x11).Words) ≤ x19 →
(I64 ((ln x20) - (ln x12))) ∧
((1000 < ((ln x20) - (ln x12)) →
(([] : List UInt8) = ((textW a0).1)) ∧
((4 : Int) = ((textW a0).2)) ∧
                        True)) ∧
(((ln x20) - (ln x12)) ≤ 1000 →
(U8 (10)) ∧
(Short (List.length x20 + List.length [(UInt8.ofNat (Int.toNat (10)))])) ∧
((20000 < (ln (x20 ++ [(UInt8.ofNat (Int.toNat (10)))])) →
(([] : List UInt8) = ((textW a0).1)) ∧
((4 : Int) = ((textW a0).2)) ∧
                         True)) ∧
((ln (x20 ++ [(UInt8.ofNat (Int.toNat (10)))])) ≤ 20000 →
(I64 (x11 + 1)) ∧
(((ix (ix a0 0).Words 0).At : Int) = (ix (ix a0 0).Words 0).At) ∧
((ix (ix a0 0).Words 0).Text = (ix (ix a0 0).Words 0).Text) ∧
((ix (ix a0 0).Words 0).Quoted = (ix (ix a0 0).Words 0).Quoted) ∧
(((ix a0 0).At : Int) = (ix a0 0).At) ∧
((ix a0 0).Words = (ix a0 0).Words) ∧
(inv_TextW_0 a0 (x11 + 1) (x20 ++ [(UInt8.ofNat (Int.toNat (10)))])) ∧
 minv_TextW_0 a0 (x11 + 1) (x20 ++ [(UInt8.ofNat (Int.toNat (10)))]) < minv_TextW_0 a0 x11 x12)))))))))) ∧
((ln (ix a0 x11).Words) ≤ 0 →
(I64 ((ln x12) - (ln x12))) ∧
((1000 < ((ln x12) - (ln x12)) →
(([] : List UInt8) = ((textW a0).1)) ∧
((4 : Int) = ((textW a0).2)) ∧
                  True)) ∧
(((ln x12) - (ln x12)) ≤ 1000 →
(U8 (10)) ∧
(Short (List.length x12 + List.length [(UInt8.ofNat (Int.toNat (10)))])) ∧
((20000 < (ln (x12 ++ [(UInt8.ofNat (Int.toNat (10)))])) →
(([] : List UInt8) = ((textW a0).1)) ∧
((4 : Int) = ((textW a0).2)) ∧
                   True)) ∧
((ln (x12 ++ [(UInt8.ofNat (Int.toNat (10)))])) ≤ 20000 →
(I64 (x11 + 1)) ∧
(((ix (ix a0 0).Words 0).At : Int) = (ix (ix a0 0).Words 0).At) ∧
((ix (ix a0 0).Words 0).Text = (ix (ix a0 0).Words 0).Text) ∧
((ix (ix a0 0).Words 0).Quoted = (ix (ix a0 0).Words 0).Quoted) ∧
(((ix a0 0).At : Int) = (ix a0 0).At) ∧
((ix a0 0).Words = (ix a0 0).Words) ∧
(inv_TextW_0 a0 (x11 + 1) (x12 ++ [(UInt8.ofNat (Int.toNat (10)))])) ∧
 minv_TextW_0 a0 (x11 + 1) (x12 ++ [(UInt8.ofNat (Int.toNat (10)))]) < minv_TextW_0 a0 x11 x12)))))) ∧
((ln a0) ≤ x11 →
((ln x12) ≤ 140737488355328) ∧
(x12 = ((textW a0).1)) ∧
((0 : Int) = ((textW a0).2)) ∧
               True)))))))))))))) ∧
((ln (ix a0 0).Words) ≤ 0 →
(U8 (10)) ∧
(Short (List.length ([] : List UInt8) + List.length [(UInt8.ofNat (Int.toNat (10)))])) ∧
((20000 < (ln (([] : List UInt8) ++ [(UInt8.ofNat (Int.toNat (10)))])) →
(([] : List UInt8) = ((textW a0).1)) ∧
((4 : Int) = ((textW a0).2)) ∧
    True)) ∧
((ln (([] : List UInt8) ++ [(UInt8.ofNat (Int.toNat (10)))])) ≤ 20000 →
(inv_TextW_0 a0 1 (([] : List UInt8) ++ [(UInt8.ofNat (Int.toNat (10)))])) ∧
(∀ x4 : Int,
(∀ x5 : List UInt8,
(inv_TextW_0 a0 x4 x5 →
((x4 < (ln a0) →
(Wn x4 (ln a0)) ∧
(((ln (ix a0 x4).Words) = 0 →
(([] : List UInt8) = ((textW a0).1)) ∧
((3 : Int) = ((textW a0).2)) ∧
         True)) ∧
((ln (ix a0 x4).Words) ≠ 0 →
((0 < (ln (ix a0 x4).Words) →
(Wn 0 (ln (ix a0 x4).Words)) ∧
(((ix (ix a0 x4).Words 0).Quoted = true →
((ln (ix (ix a0 x4).Words 0).Text ≤ 1000000000)) ∧
(((quotedB (ix (ix a0 x4).Words 0).Text) = false →
(([] : List UInt8) = ((textW a0).1)) ∧
((3 : Int) = ((textW a0).2)) ∧
            True)) ∧
((quotedB (ix (ix a0 x4).Words 0).Text) = true →
(Short (List.length ([34] : List UInt8) + List.length (ix (ix a0 x4).Words 0).Text)) ∧
(Short (List.length (([34] : List UInt8) ++ (ix (ix a0 x4).Words 0).Text) + List.length ([34] : List UInt8))) ∧
(Short (List.length x5 + List.length ((([34] : List UInt8) ++ (ix (ix a0 x4).Words 0).Text) ++ ([34] : List UInt8)))) ∧
(inv_TextW_1 a0 1 (x5 ++ ((([34] : List UInt8) ++ (ix (ix a0 x4).Words 0).Text) ++ ([34] : List UInt8))) x4 (ln x5)) ∧
(∀ x12 : Int,
(∀ x13 : List UInt8,
(inv_TextW_1 a0 x12 x13 x4 (ln x5) →
((x12 < (ln (ix a0 x4).Words) →
(Wn x12 (ln (ix a0 x4).Words)) ∧
(((ix (ix a0 x4).Words x12).Quoted = true →
((ln (ix (ix a0 x4).Words x12).Text ≤ 1000000000)) ∧
(((quotedB (ix (ix a0 x4).Words x12).Text) = false →
(([] : List UInt8) = ((textW a0).1)) ∧
((3 : Int) = ((textW a0).2)) ∧
                  True)) ∧
((quotedB (ix (ix a0 x4).Words x12).Text) = true →
((0 < x12 →
(U8 (32)) ∧
(Short (List.length x13 + List.length [(UInt8.ofNat (Int.toNat (32)))])) ∧
(Short (List.length ([34] : List UInt8) + List.length (ix (ix a0 x4).Words x12).Text)) ∧
(Short (List.length (([34] : List UInt8) ++ (ix (ix a0 x4).Words x12).Text) + List.length ([34] : List UInt8))) ∧
(Short (List.length (x13 ++ [(UInt8.ofNat (Int.toNat (32)))]) + List.length ((([34] : List UInt8) ++ (ix (ix a0 x4).Words x12).Text) ++ ([34] : List UInt8)))) ∧
(I64 (x12 + 1)) ∧
(((ix (ix a0 x4).Words 0).At : Int) = (ix (ix a0 x4).Words 0).At) ∧
((ix (ix a0 x4).Words 0).Text = (ix (ix a0 x4).Words 0).Text) ∧
((ix (ix a0 x4).Words 0).Quoted = (ix (ix a0 x4).Words 0).Quoted) ∧
(((ix a0 x4).At : Int) = (ix a0 x4).At) ∧
((ix a0 x4).Words = (ix a0 x4).Words) ∧
(((ix a0 0).At : Int) = (ix a0 0).At) ∧
((ix a0 0).Words = (ix a0 0).Words) ∧
(inv_TextW_1 a0 (x12 + 1) ((x13 ++ [(UInt8.ofNat (Int.toNat (32)))]) ++ ((([34] : List UInt8) ++ (ix (ix a0 x4).Words x12).Text) ++ ([34] : List UInt8))) x4 (ln x5)) ∧
 minv_TextW_1 a0 (x12 + 1) ((x13 ++ [(UInt8.ofNat (Int.toNat (32)))]) ++ ((([34] : List UInt8) ++ (ix (ix a0 x4).Words x12).Text) ++ ([34] : List UInt8))) x4 (ln x5) < minv_TextW_1 a0 x12 x13 x4 (ln x5))) ∧
(x12 ≤ 0 →
(Short (List.length ([34] : List UInt8) + List.length (ix (ix a0 x4).Words x12).Text)) ∧
(Short (List.length (([34] : List UInt8) ++ (ix (ix a0 x4).Words x12).Text) + List.length ([34] : List UInt8))) ∧
(Short (List.length x13 + List.length ((([34] : List UInt8) ++ (ix (ix a0 x4).Words x12).Text) ++ ([34] : List UInt8)))) ∧
(I64 (x12 + 1)) ∧
(((ix (ix a0 x4).Words 0).At : Int) = (ix (ix a0 x4).Words 0).At) ∧
((ix (ix a0 x4).Words 0).Text = (ix (ix a0 x4).Words 0).Text) ∧
((ix (ix a0 x4).Words 0).Quoted = (ix (ix a0 x4).Words 0).Quoted) ∧
(((ix a0 x4).At : Int) = (ix a0 x4).At) ∧
((ix a0 x4).Words = (ix a0 x4).Words) ∧
(((ix a0 0).At : Int) = (ix a0 0).At) ∧
((ix a0 0).Words = (ix a0 0).Words) ∧
(inv_TextW_1 a0 (x12 + 1) (x13 ++ ((([34] : List UInt8) ++ (ix (ix a0 x4).Words x12).Text) ++ ([34] : List UInt8))) x4 (ln x5)) ∧
 minv_TextW_1 a0 (x12 + 1) (x13 ++ ((([34] : List UInt8) ++ (ix (ix a0 x4).Words x12).Text) ++ ([34] : List UInt8))) x4 (ln x5) < minv_TextW_1 a0 x12 x13 x4 (ln x5))))) ∧
((ix (ix a0 x4).Words x12).Quoted = false →
((ln (ix (ix a0 x4).Words x12).Text ≤ 1000000000)) ∧
(((plainB (ix (ix a0 x4).Words x12).Text) = false →
(([] : List UInt8) = ((textW a0).1)) ∧
((3 : Int) = ((textW a0).2)) ∧
                  True)) ∧
((plainB (ix (ix a0 x4).Words x12).Text) = true →
((0 < x12 →
(U8 (32)) ∧
(Short (List.length x13 + List.length [(UInt8.ofNat (Int.toNat (32)))])) ∧
(Short (List.length (x13 ++ [(UInt8.ofNat (Int.toNat (32)))]) + List.length (ix (ix a0 x4).Words x12).Text)) ∧
(I64 (x12 + 1)) ∧
(((ix (ix a0 x4).Words 0).At : Int) = (ix (ix a0 x4).Words 0).At) ∧
((ix (ix a0 x4).Words 0).Text = (ix (ix a0 x4).Words 0).Text) ∧
((ix (ix a0 x4).Words 0).Quoted = (ix (ix a0 x4).Words 0).Quoted) ∧
(((ix a0 x4).At : Int) = (ix a0 x4).At) ∧
((ix a0 x4).Words = (ix a0 x4).Words) ∧
(((ix a0 0).At : Int) = (ix a0 0).At) ∧
((ix a0 0).Words = (ix a0 0).Words) ∧
(inv_TextW_1 a0 (x12 + 1) ((x13 ++ [(UInt8.ofNat (Int.toNat (32)))]) ++ (ix (ix a0 x4).Words x12).Text) x4 (ln x5)) ∧
 minv_TextW_1 a0 (x12 + 1) ((x13 ++ [(UInt8.ofNat (Int.toNat (32)))]) ++ (ix (ix a0 x4).Words x12).Text) x4 (ln x5) < minv_TextW_1 a0 x12 x13 x4 (ln x5))) ∧
(x12 ≤ 0 →
(Short (List.length x13 + List.length (ix (ix a0 x4).Words x12).Text)) ∧
(I64 (x12 + 1)) ∧
(((ix (ix a0 x4).Words 0).At : Int) = (ix (ix a0 x4).Words 0).At) ∧
((ix (ix a0 x4).Words 0).Text = (ix (ix a0 x4).Words 0).Text) ∧
((ix (ix a0 x4).Words 0).Quoted = (ix (ix a0 x4).Words 0).Quoted) ∧
(((ix a0 x4).At : Int) = (ix a0 x4).At) ∧
((ix a0 x4).Words = (ix a0 x4).Words) ∧
(((ix a0 0).At : Int) = (ix a0 0).At) ∧
((ix a0 0).Words = (ix a0 0).Words) ∧
(inv_TextW_1 a0 (x12 + 1) (x13 ++ (ix (ix a0 x4).Words x12).Text) x4 (ln x5)) ∧
 minv_TextW_1 a0 (x12 + 1) (x13 ++ (ix (ix a0 x4).Words x12).Text) x4 (ln x5) < minv_TextW_1 a0 x12 x13 x4 (ln x5)))))) ∧
((ln (ix a0 x4).Words) ≤ x12 →
(I64 ((ln x13) - (ln x5))) ∧
((1000 < ((ln x13) - (ln x5)) →
(([] : List UInt8) = ((textW a0).1)) ∧
((4 : Int) = ((textW a0).2)) ∧
                 True)) ∧
(((ln x13) - (ln x5)) ≤ 1000 →
(U8 (10)) ∧
(Short (List.length x13 + List.length [(UInt8.ofNat (Int.toNat (10)))])) ∧
((20000 < (ln (x13 ++ [(UInt8.ofNat (Int.toNat (10)))])) →
(([] : List UInt8) = ((textW a0).1)) ∧
((4 : Int) = ((textW a0).2)) ∧
                  True)) ∧
((ln (x13 ++ [(UInt8.ofNat (Int.toNat (10)))])) ≤ 20000 →
(I64 (x4 + 1)) ∧
(((ix a0 0).At : Int) = (ix a0 0).At) ∧
((ix a0 0).Words = (ix a0 0).Words) ∧
(inv_TextW_0 a0 (x4 + 1) (x13 ++ [(UInt8.ofNat (Int.toNat (10)))])) ∧
 minv_TextW_0 a0 (x4 + 1) (x13 ++ [(UInt8.ofNat (Int.toNat (10)))]) < minv_TextW_0 a0 x4 x5))))))))) ∧
((ix (ix a0 x4).Words 0).Quoted = false →
((ln (ix (ix a0 x4).Words 0).Text ≤ 1000000000)) ∧
(((plainB (ix (ix a0 x4).Words 0).Text) = false →
(([] : List UInt8) = ((textW a0).1)) ∧
((3 : Int) = ((textW a0).2)) ∧
            True)) ∧
((plainB (ix (ix a0 x4).Words 0).Text) = true →
(Short (List.length x5 + List.length (ix (ix a0 x4).Words 0).Text)) ∧
(inv_TextW_1 a0 1 (x5 ++ (ix (ix a0 x4).Words 0).Text) x4 (ln x5)) ∧
(∀ x12 : Int,
(∀ x13 : List UInt8,
(inv_TextW_1 a0 x12 x13 x4 (ln x5) →
((x12 < (ln (ix a0 x4).Words) →
(Wn x12 (ln (ix a0 x4).Words)) ∧
(((ix (ix a0 x4).Words x12).Quoted = true →
((ln (ix (ix a0 x4).Words x12).Text ≤ 1000000000)) ∧
(((quotedB (ix (ix a0 x4).Words x12).Text) = false →
(([] : List UInt8) = ((textW a0).1)) ∧
((3 : Int) = ((textW a0).2)) ∧
                  True)) ∧
((quotedB (ix (ix a0 x4).Words x12).Text) = true →
((0 < x12 →
(U8 (32)) ∧
(Short (List.length x13 + List.length [(UInt8.ofNat (Int.toNat (32)))])) ∧
(Short (List.length ([34] : List UInt8) + List.length (ix (ix a0 x4).Words x12).Text)) ∧
(Short (List.length (([34] : List UInt8) ++ (ix (ix a0 x4).Words x12).Text) + List.length ([34] : List UInt8))) ∧
(Short (List.length (x13 ++ [(UInt8.ofNat (Int.toNat (32)))]) + List.length ((([34] : List UInt8) ++ (ix (ix a0 x4).Words x12).Text) ++ ([34] : List UInt8)))) ∧
(I64 (x12 + 1)) ∧
(((ix (ix a0 x4).Words 0).At : Int) = (ix (ix a0 x4).Words 0).At) ∧
((ix (ix a0 x4).Words 0).Text = (ix (ix a0 x4).Words 0).Text) ∧
((ix (ix a0 x4).Words 0).Quoted = (ix (ix a0 x4).Words 0).Quoted) ∧
(((ix a0 x4).At : Int) = (ix a0 x4).At) ∧
((ix a0 x4).Words = (ix a0 x4).Words) ∧
(((ix a0 0).At : Int) = (ix a0 0).At) ∧
((ix a0 0).Words = (ix a0 0).Words) ∧
(inv_TextW_1 a0 (x12 + 1) ((x13 ++ [(UInt8.ofNat (Int.toNat (32)))]) ++ ((([34] : List UInt8) ++ (ix (ix a0 x4).Words x12).Text) ++ ([34] : List UInt8))) x4 (ln x5)) ∧
 minv_TextW_1 a0 (x12 + 1) ((x13 ++ [(UInt8.ofNat (Int.toNat (32)))]) ++ ((([34] : List UInt8) ++ (ix (ix a0 x4).Words x12).Text) ++ ([34] : List UInt8))) x4 (ln x5) < minv_TextW_1 a0 x12 x13 x4 (ln x5))) ∧
(x12 ≤ 0 →
(Short (List.length ([34] : List UInt8) + List.length (ix (ix a0 x4).Words x12).Text)) ∧
(Short (List.length (([34] : List UInt8) ++ (ix (ix a0 x4).Words x12).Text) + List.length ([34] : List UInt8))) ∧
(Short (List.length x13 + List.length ((([34] : List UInt8) ++ (ix (ix a0 x4).Words x12).Text) ++ ([34] : List UInt8)))) ∧
(I64 (x12 + 1)) ∧
(((ix (ix a0 x4).Words 0).At : Int) = (ix (ix a0 x4).Words 0).At) ∧
((ix (ix a0 x4).Words 0).Text = (ix (ix a0 x4).Words 0).Text) ∧
((ix (ix a0 x4).Words 0).Quoted = (ix (ix a0 x4).Words 0).Quoted) ∧
(((ix a0 x4).At : Int) = (ix a0 x4).At) ∧
((ix a0 x4).Words = (ix a0 x4).Words) ∧
(((ix a0 0).At : Int) = (ix a0 0).At) ∧
((ix a0 0).Words = (ix a0 0).Words) ∧
(inv_TextW_1 a0 (x12 + 1) (x13 ++ ((([34] : List UInt8) ++ (ix (ix a0 x4).Words x12).Text) ++ ([34] : List UInt8))) x4 (ln x5)) ∧
 minv_TextW_1 a0 (x12 + 1) (x13 ++ ((([34] : List UInt8) ++ (ix (ix a0 x4).Words x12).Text) ++ ([34] : List UInt8))) x4 (ln x5) < minv_TextW_1 a0 x12 x13 x4 (ln x5))))) ∧
((ix (ix a0 x4).Words x12).Quoted = false →
((ln (ix (ix a0 x4).Words x12).Text ≤ 1000000000)) ∧
(((plainB (ix (ix a0 x4).Words x12).Text) = false →
(([] : List UInt8) = ((textW a0).1)) ∧
((3 : Int) = ((textW a0).2)) ∧
                  True)) ∧
((plainB (ix (ix a0 x4).Words x12).Text) = true →
((0 < x12 →
(U8 (32)) ∧
(Short (List.length x13 + List.length [(UInt8.ofNat (Int.toNat (32)))])) ∧
(Short (List.length (x13 ++ [(UInt8.ofNat (Int.toNat (32)))]) + List.length (ix (ix a0 x4).Words x12).Text)) ∧
(I64 (x12 + 1)) ∧
(((ix (ix a0 x4).Words 0).At : Int) = (ix (ix a0 x4).Words 0).At) ∧
((ix (ix a0 x4).Words 0).Text = (ix (ix a0 x4).Words 0).Text) ∧
((ix (ix a0 x4).Words 0).Quoted = (ix (ix a0 x4).Words 0).Quoted) ∧
(((ix a0 x4).At : Int) = (ix a0 x4).At) ∧
((ix a0 x4).Words = (ix a0 x4).Words) ∧
(((ix a0 0).At : Int) = (ix a0 0).At) ∧
((ix a0 0).Words = (ix a0 0).Words) ∧
(inv_TextW_1 a0 (x12 + 1) ((x13 ++ [(UInt8.ofNat (Int.toNat (32)))]) ++ (ix (ix a0 x4).Words x12).Text) x4 (ln x5)) ∧
 minv_TextW_1 a0 (x12 + 1) ((x13 ++ [(UInt8.ofNat (Int.toNat (32)))]) ++ (ix (ix a0 x4).Words x12).Text) x4 (ln x5) < minv_TextW_1 a0 x12 x13 x4 (ln x5))) ∧
(x12 ≤ 0 →
(Short (List.length x13 + List.length (ix (ix a0 x4).Words x12).Text)) ∧
(I64 (x12 + 1)) ∧
(((ix (ix a0 x4).Words 0).At : Int) = (ix (ix a0 x4).Words 0).At) ∧
((ix (ix a0 x4).Words 0).Text = (ix (ix a0 x4).Words 0).Text) ∧
((ix (ix a0 x4).Words 0).Quoted = (ix (ix a0 x4).Words 0).Quoted) ∧
(((ix a0 x4).At : Int) = (ix a0 x4).At) ∧
((ix a0 x4).Words = (ix a0 x4).Words) ∧
(((ix a0 0).At : Int) = (ix a0 0).At) ∧
((ix a0 0).Words = (ix a0 0).Words) ∧
(inv_TextW_1 a0 (x12 + 1) (x13 ++ (ix (ix a0 x4).Words x12).Text) x4 (ln x5)) ∧
 minv_TextW_1 a0 (x12 + 1) (x13 ++ (ix (ix a0 x4).Words x12).Text) x4 (ln x5) < minv_TextW_1 a0 x12 x13 x4 (ln x5)))))) ∧
((ln (ix a0 x4).Words) ≤ x12 →
(I64 ((ln x13) - (ln x5))) ∧
((1000 < ((ln x13) - (ln x5)) →
(([] : List UInt8) = ((textW a0).1)) ∧
((4 : Int) = ((textW a0).2)) ∧
                 True)) ∧
(((ln x13) - (ln x5)) ≤ 1000 →
(U8 (10)) ∧
(Short (List.length x13 + List.length [(UInt8.ofNat (Int.toNat (10)))])) ∧
((20000 < (ln (x13 ++ [(UInt8.ofNat (Int.toNat (10)))])) →
(([] : List UInt8) = ((textW a0).1)) ∧
((4 : Int) = ((textW a0).2)) ∧
                  True)) ∧
((ln (x13 ++ [(UInt8.ofNat (Int.toNat (10)))])) ≤ 20000 →
(I64 (x4 + 1)) ∧
(((ix a0 0).At : Int) = (ix a0 0).At) ∧
((ix a0 0).Words = (ix a0 0).Words) ∧
(inv_TextW_0 a0 (x4 + 1) (x13 ++ [(UInt8.ofNat (Int.toNat (10)))])) ∧
 minv_TextW_0 a0 (x4 + 1) (x13 ++ [(UInt8.ofNat (Int.toNat (10)))]) < minv_TextW_0 a0 x4 x5)))))))))) ∧
((ln (ix a0 x4).Words) ≤ 0 →
(I64 ((ln x5) - (ln x5))) ∧
((1000 < ((ln x5) - (ln x5)) →
(([] : List UInt8) = ((textW a0).1)) ∧
((4 : Int) = ((textW a0).2)) ∧
           True)) ∧
(((ln x5) - (ln x5)) ≤ 1000 →
(U8 (10)) ∧
(Short (List.length x5 + List.length [(UInt8.ofNat (Int.toNat (10)))])) ∧
((20000 < (ln (x5 ++ [(UInt8.ofNat (Int.toNat (10)))])) →
(([] : List UInt8) = ((textW a0).1)) ∧
((4 : Int) = ((textW a0).2)) ∧
            True)) ∧
((ln (x5 ++ [(UInt8.ofNat (Int.toNat (10)))])) ≤ 20000 →
(I64 (x4 + 1)) ∧
(((ix a0 0).At : Int) = (ix a0 0).At) ∧
((ix a0 0).Words = (ix a0 0).Words) ∧
(inv_TextW_0 a0 (x4 + 1) (x5 ++ [(UInt8.ofNat (Int.toNat (10)))])) ∧
 minv_TextW_0 a0 (x4 + 1) (x5 ++ [(UInt8.ofNat (Int.toNat (10)))]) < minv_TextW_0 a0 x4 x5)))))) ∧
((ln a0) ≤ x4 →
((ln x5) ≤ 140737488355328) ∧
(x5 = ((textW a0).1)) ∧
((0 : Int) = ((textW a0).2)) ∧
        True))))))))) ∧
((ln a0) ≤ 0 →
(([] : List UInt8) = ((textW a0).1)) ∧
((0 : Int) = ((textW a0).2)) ∧
 True)
theorem TextW_vc (a0 : List Row) : wpTop (stdA XK (tblOf TextW_tbl) (fun j ns => match j, ns with | 0, [.i y0, .l 0 y1] => inv_TextW_0 a0 y0 y1 | 1, [.i y0, .l 0 y1, .i y2, .i y3] => inv_TextW_1 a0 y0 y1 y2 y3 | _, _ => False) (fun j ns => match j, ns with | 0, [.i y0, .l 0 y1] => minv_TextW_0 a0 y0 y1 | 1, [.i y0, .l 0 y1, .i y2, .i y3] => minv_TextW_1 a0 y0 y1 y2 y3 | _, _ => 0)) { cfg sp with ann := annOf [(13, 58, .peel 0 [.one 12 (.int .i64), .via 4 [.keep, .list 0 true true]] []), (13, 119610, .peel 1 [.one 24 (.int .i64), .via 4 [.keep, .list 0 true true]] [.one 12 (.int .i64), .one 7 (.int .i64)])] } 6 13 [.list 6 (a0) none] (TextW_res a0) = TextW_VC a0 := by kernel_rfl
def Mod_tbl : List (Nat × Ct KT) := []
abbrev Mod_res (a0 : Int) (a1 : Int) : PV KT := .int .i64 none ((modI a0 a1))
abbrev Mod_VC (a0 : Int) (a1 : Int) : Prop :=
((a1 < 1 →
((0 : Int) = (modI a0 a1)) ∧
 True)) ∧
(1 ≤ a1 →
((a1 : Int) ≠ 0) ∧
(((Int.tmod a0 a1) < 0 →
(I64 ((Int.tmod a0 a1) + a1)) ∧
((((Int.tmod a0 a1) + a1) : Int) = (modI a0 a1)) ∧
  True)) ∧
(0 ≤ (Int.tmod a0 a1) →
(((Int.tmod a0 a1) : Int) = (modI a0 a1)) ∧
  True))
theorem Mod_vc (a0 : Int) (a1 : Int) : wpTop (stdA XK (tblOf Mod_tbl) (fun _ _ => False) (fun _ _ => 0)) { cfg sp with ann := annOf [] } 3 17 [.int .i64 none (a0), .int .i64 none (a1)] (Mod_res a0 a1) = Mod_VC a0 a1 := by kernel_rfl
def made_tbl : List (Nat × Ct KT) := [(17, ct17)]
abbrev made_res (a0 : List Int) : PV KT := .list 6 ((madeR a0)) (some (0, 0))
abbrev made_VC (a0 : List Int) : Prop :=
(True) ∧
(True) ∧
(True) ∧
(True) ∧
(True) ∧
(True) ∧
(True) ∧
(True) ∧
(True) ∧
(True) ∧
(True) ∧
(True) ∧
(True) ∧
(inv_made_0 a0 0 ([] : List Row) ([] : List Word)) ∧
(∀ x0 : Int,
(∀ x1 : List Row,
(∀ x2 : List Word,
(inv_made_0 a0 x0 x1 x2 →
((x0 < (ln a0) →
(((ln x1) < 12 →
(Wn x0 (ln a0)) ∧
(((0 : Int) < (ln texts13) ∧ ((ln texts13) : Int) ≤ 1000)) ∧
(Wn (modI (ix a0 x0) (ln texts13)) (ln texts13)) ∧
(((ix texts13 (modI (ix a0 x0) (ln texts13))) = ([] : List UInt8) →
(True) ∧
(Short (List.length x2 + List.length [(Word.mk 0 (ix texts13 (modI (ix a0 x0) (ln texts13))) true)])) ∧
(((ln (x2 ++ [(Word.mk 0 (ix texts13 (modI (ix a0 x0) (ln texts13))) true)])) = 8 →
(True) ∧
(Short (List.length x1 + List.length [(Row.mk 0 (x2 ++ [(Word.mk 0 (ix texts13 (modI (ix a0 x0) (ln texts13))) true)]))])) ∧
(I64 (x0 + 1)) ∧
((0 : Int) = 0) ∧
(inv_made_0 a0 (x0 + 1) (x1 ++ [(Row.mk 0 (x2 ++ [(Word.mk 0 (ix texts13 (modI (ix a0 x0) (ln texts13))) true)]))]) ([] : List Word)) ∧
 minv_made_0 a0 (x0 + 1) (x1 ++ [(Row.mk 0 (x2 ++ [(Word.mk 0 (ix texts13 (modI (ix a0 x0) (ln texts13))) true)]))]) ([] : List Word) < minv_made_0 a0 x0 x1 x2)) ∧
((ln (x2 ++ [(Word.mk 0 (ix texts13 (modI (ix a0 x0) (ln texts13))) true)])) ≠ 8 →
(Wn x0 (ln a0)) ∧
((64 : Int) ≠ 0 ∧ I64 (Int.tdiv (ix a0 x0) 64)) ∧
(((0 : Int) < 3 ∧ (3 : Int) ≤ 1000)) ∧
(((modI (Int.tdiv (ix a0 x0) 64) 3) = 0 →
(True) ∧
(Short (List.length x1 + List.length [(Row.mk 0 (x2 ++ [(Word.mk 0 (ix texts13 (modI (ix a0 x0) (ln texts13))) true)]))])) ∧
(I64 (x0 + 1)) ∧
((0 : Int) = 0) ∧
(inv_made_0 a0 (x0 + 1) (x1 ++ [(Row.mk 0 (x2 ++ [(Word.mk 0 (ix texts13 (modI (ix a0 x0) (ln texts13))) true)]))]) ([] : List Word)) ∧
 minv_made_0 a0 (x0 + 1) (x1 ++ [(Row.mk 0 (x2 ++ [(Word.mk 0 (ix texts13 (modI (ix a0 x0) (ln texts13))) true)]))]) ([] : List Word) < minv_made_0 a0 x0 x1 x2)) ∧
((modI (Int.tdiv (ix a0 x0) 64) 3) ≠ 0 →
(I64 (x0 + 1)) ∧
((0 : Int) = 0) ∧
(inv_made_0 a0 (x0 + 1) x1 (x2 ++ [(Word.mk 0 (ix texts13 (modI (ix a0 x0) (ln texts13))) true)])) ∧
 minv_made_0 a0 (x0 + 1) x1 (x2 ++ [(Word.mk 0 (ix texts13 (modI (ix a0 x0) (ln texts13))) true)]) < minv_made_0 a0 x0 x1 x2)))) ∧
((ix texts13 (modI (ix a0 x0) (ln texts13))) ≠ ([] : List UInt8) →
(((ix texts13 (modI (ix a0 x0) (ln texts13))) = ([97, 32, 98] : List UInt8) →
(True) ∧
(Short (List.length x2 + List.length [(Word.mk 0 (ix texts13 (modI (ix a0 x0) (ln texts13))) true)])) ∧
(((ln (x2 ++ [(Word.mk 0 (ix texts13 (modI (ix a0 x0) (ln texts13))) true)])) = 8 →
(True) ∧
(Short (List.length x1 + List.length [(Row.mk 0 (x2 ++ [(Word.mk 0 (ix texts13 (modI (ix a0 x0) (ln texts13))) true)]))])) ∧
(I64 (x0 + 1)) ∧
((0 : Int) = 0) ∧
(inv_made_0 a0 (x0 + 1) (x1 ++ [(Row.mk 0 (x2 ++ [(Word.mk 0 (ix texts13 (modI (ix a0 x0) (ln texts13))) true)]))]) ([] : List Word)) ∧
 minv_made_0 a0 (x0 + 1) (x1 ++ [(Row.mk 0 (x2 ++ [(Word.mk 0 (ix texts13 (modI (ix a0 x0) (ln texts13))) true)]))]) ([] : List Word) < minv_made_0 a0 x0 x1 x2)) ∧
((ln (x2 ++ [(Word.mk 0 (ix texts13 (modI (ix a0 x0) (ln texts13))) true)])) ≠ 8 →
(Wn x0 (ln a0)) ∧
((64 : Int) ≠ 0 ∧ I64 (Int.tdiv (ix a0 x0) 64)) ∧
(((0 : Int) < 3 ∧ (3 : Int) ≤ 1000)) ∧
(((modI (Int.tdiv (ix a0 x0) 64) 3) = 0 →
(True) ∧
(Short (List.length x1 + List.length [(Row.mk 0 (x2 ++ [(Word.mk 0 (ix texts13 (modI (ix a0 x0) (ln texts13))) true)]))])) ∧
(I64 (x0 + 1)) ∧
((0 : Int) = 0) ∧
(inv_made_0 a0 (x0 + 1) (x1 ++ [(Row.mk 0 (x2 ++ [(Word.mk 0 (ix texts13 (modI (ix a0 x0) (ln texts13))) true)]))]) ([] : List Word)) ∧
 minv_made_0 a0 (x0 + 1) (x1 ++ [(Row.mk 0 (x2 ++ [(Word.mk 0 (ix texts13 (modI (ix a0 x0) (ln texts13))) true)]))]) ([] : List Word) < minv_made_0 a0 x0 x1 x2)) ∧
((modI (Int.tdiv (ix a0 x0) 64) 3) ≠ 0 →
(I64 (x0 + 1)) ∧
((0 : Int) = 0) ∧
(inv_made_0 a0 (x0 + 1) x1 (x2 ++ [(Word.mk 0 (ix texts13 (modI (ix a0 x0) (ln texts13))) true)])) ∧
 minv_made_0 a0 (x0 + 1) x1 (x2 ++ [(Word.mk 0 (ix texts13 (modI (ix a0 x0) (ln texts13))) true)]) < minv_made_0 a0 x0 x1 x2)))) ∧
((ix texts13 (modI (ix a0 x0) (ln texts13))) ≠ ([97, 32, 98] : List UInt8) →
(((ix texts13 (modI (ix a0 x0) (ln texts13))) = ([120, 59] : List UInt8) →
(True) ∧
(Short (List.length x2 + List.length [(Word.mk 0 (ix texts13 (modI (ix a0 x0) (ln texts13))) true)])) ∧
(((ln (x2 ++ [(Word.mk 0 (ix texts13 (modI (ix a0 x0) (ln texts13))) true)])) = 8 →
(True) ∧
(Short (List.length x1 + List.length [(Row.mk 0 (x2 ++ [(Word.mk 0 (ix texts13 (modI (ix a0 x0) (ln texts13))) true)]))])) ∧
(I64 (x0 + 1)) ∧
((0 : Int) = 0) ∧
(inv_made_0 a0 (x0 + 1) (x1 ++ [(Row.mk 0 (x2 ++ [(Word.mk 0 (ix texts13 (modI (ix a0 x0) (ln texts13))) true)]))]) ([] : List Word)) ∧
 minv_made_0 a0 (x0 + 1) (x1 ++ [(Row.mk 0 (x2 ++ [(Word.mk 0 (ix texts13 (modI (ix a0 x0) (ln texts13))) true)]))]) ([] : List Word) < minv_made_0 a0 x0 x1 x2)) ∧
((ln (x2 ++ [(Word.mk 0 (ix texts13 (modI (ix a0 x0) (ln texts13))) true)])) ≠ 8 →
(Wn x0 (ln a0)) ∧
((64 : Int) ≠ 0 ∧ I64 (Int.tdiv (ix a0 x0) 64)) ∧
(((0 : Int) < 3 ∧ (3 : Int) ≤ 1000)) ∧
(((modI (Int.tdiv (ix a0 x0) 64) 3) = 0 →
(True) ∧
(Short (List.length x1 + List.length [(Row.mk 0 (x2 ++ [(Word.mk 0 (ix texts13 (modI (ix a0 x0) (ln texts13))) true)]))])) ∧
(I64 (x0 + 1)) ∧
((0 : Int) = 0) ∧
(inv_made_0 a0 (x0 + 1) (x1 ++ [(Row.mk 0 (x2 ++ [(Word.mk 0 (ix texts13 (modI (ix a0 x0) (ln texts13))) true)]))]) ([] : List Word)) ∧
 minv_made_0 a0 (x0 + 1) (x1 ++ [(Row.mk 0 (x2 ++ [(Word.mk 0 (ix texts13 (modI (ix a0 x0) (ln texts13))) true)]))]) ([] : List Word) < minv_made_0 a0 x0 x1 x2)) ∧
((modI (Int.tdiv (ix a0 x0) 64) 3) ≠ 0 →
(I64 (x0 + 1)) ∧
((0 : Int) = 0) ∧
(inv_made_0 a0 (x0 + 1) x1 (x2 ++ [(Word.mk 0 (ix texts13 (modI (ix a0 x0) (ln texts13))) true)])) ∧
 minv_made_0 a0 (x0 + 1) x1 (x2 ++ [(Word.mk 0 (ix texts13 (modI (ix a0 x0) (ln texts13))) true)]) < minv_made_0 a0 x0 x1 x2)))) ∧
((ix texts13 (modI (ix a0 x0) (ln texts13))) ≠ ([120, 59] : List UInt8) →
(Wn x0 (ln a0)) ∧
((16 : Int) ≠ 0 ∧ I64 (Int.tdiv (ix a0 x0) 16)) ∧
(((0 : Int) < 4 ∧ (4 : Int) ≤ 1000)) ∧
(True) ∧
(Short (List.length x2 + List.length [(Word.mk 0 (ix texts13 (modI (ix a0 x0) (ln texts13))) (decide ((modI (Int.tdiv (ix a0 x0) 16) 4) = 0)))])) ∧
(((ln (x2 ++ [(Word.mk 0 (ix texts13 (modI (ix a0 x0) (ln texts13))) (decide ((modI (Int.tdiv (ix a0 x0) 16) 4) = 0)))])) = 8 →
(True) ∧
(Short (List.length x1 + List.length [(Row.mk 0 (x2 ++ [(Word.mk 0 (ix texts13 (modI (ix a0 x0) (ln texts13))) (decide ((modI (Int.tdiv (ix a0 x0) 16) 4) = 0)))]))])) ∧
(I64 (x0 + 1)) ∧
((0 : Int) = 0) ∧
(inv_made_0 a0 (x0 + 1) (x1 ++ [(Row.mk 0 (x2 ++ [(Word.mk 0 (ix texts13 (modI (ix a0 x0) (ln texts13))) (decide ((modI (Int.tdiv (ix a0 x0) 16) 4) = 0)))]))]) ([] : List Word)) ∧
 minv_made_0 a0 (x0 + 1) (x1 ++ [(Row.mk 0 (x2 ++ [(Word.mk 0 (ix texts13 (modI (ix a0 x0) (ln texts13))) (decide ((modI (Int.tdiv (ix a0 x0) 16) 4) = 0)))]))]) ([] : List Word) < minv_made_0 a0 x0 x1 x2)) ∧
((ln (x2 ++ [(Word.mk 0 (ix texts13 (modI (ix a0 x0) (ln texts13))) (decide ((modI (Int.tdiv (ix a0 x0) 16) 4) = 0)))])) ≠ 8 →
(Wn x0 (ln a0)) ∧
((64 : Int) ≠ 0 ∧ I64 (Int.tdiv (ix a0 x0) 64)) ∧
(((0 : Int) < 3 ∧ (3 : Int) ≤ 1000)) ∧
(((modI (Int.tdiv (ix a0 x0) 64) 3) = 0 →
(True) ∧
(Short (List.length x1 + List.length [(Row.mk 0 (x2 ++ [(Word.mk 0 (ix texts13 (modI (ix a0 x0) (ln texts13))) (decide ((modI (Int.tdiv (ix a0 x0) 16) 4) = 0)))]))])) ∧
(I64 (x0 + 1)) ∧
((0 : Int) = 0) ∧
(inv_made_0 a0 (x0 + 1) (x1 ++ [(Row.mk 0 (x2 ++ [(Word.mk 0 (ix texts13 (modI (ix a0 x0) (ln texts13))) (decide ((modI (Int.tdiv (ix a0 x0) 16) 4) = 0)))]))]) ([] : List Word)) ∧
 minv_made_0 a0 (x0 + 1) (x1 ++ [(Row.mk 0 (x2 ++ [(Word.mk 0 (ix texts13 (modI (ix a0 x0) (ln texts13))) (decide ((modI (Int.tdiv (ix a0 x0) 16) 4) = 0)))]))]) ([] : List Word) < minv_made_0 a0 x0 x1 x2)) ∧
((modI (Int.tdiv (ix a0 x0) 64) 3) ≠ 0 →
(I64 (x0 + 1)) ∧
((0 : Int) = 0) ∧
(inv_made_0 a0 (x0 + 1) x1 (x2 ++ [(Word.mk 0 (ix texts13 (modI (ix a0 x0) (ln texts13))) (decide ((modI (Int.tdiv (ix a0 x0) 16) 4) = 0)))])) ∧
 minv_made_0 a0 (x0 + 1) x1 (x2 ++ [(Word.mk 0 (ix texts13 (modI (ix a0 x0) (ln texts13))) (decide ((modI (Int.tdiv (ix a0 x0) 16) 4) = 0)))]) < minv_made_0 a0 x0 x1 x2))))))) ∧
(12 ≤ (ln x1) →
((0 < (ln x2) →
(True) ∧
(Short (List.length x1 + List.length [(Row.mk 0 x2)])) ∧
((x1 ++ [(Row.mk 0 x2)]) = (madeR a0)) ∧
       True)) ∧
((ln x2) ≤ 0 →
(x1 = (madeR a0)) ∧
       True)))) ∧
((ln a0) ≤ x0 →
((0 < (ln x2) →
(True) ∧
(Short (List.length x1 + List.length [(Row.mk 0 x2)])) ∧
((x1 ++ [(Row.mk 0 x2)]) = (madeR a0)) ∧
      True)) ∧
((ln x2) ≤ 0 →
(x1 = (madeR a0)) ∧
      True))))))
theorem made_vc (a0 : List Int) : wpTop (stdA XK (tblOf made_tbl) (fun j ns => match j, ns with | 0, [.i y0, .l 6 y1, .l 5 y2] => inv_made_0 a0 y0 y1 y2 | _, _ => False) (fun j ns => match j, ns with | 0, [.i y0, .l 6 y1, .l 5 y2] => minv_made_0 a0 y0 y1 y2 | _, _ => 0)) { cfg sp with ann := annOf [(16, 250, .inv 0 [.one 6 (.int .i64), .one 4 (.list 6 true false), .via 5 [.keep, .list 5 true false]] [])] } 3 16 [.list 1 (a0) none] (made_res a0) = made_VC a0 := by kernel_rfl
def At_tbl : List (Nat × Ct KT) := []
abbrev At_res (a0 : List Int) (a1 : Int) : PV KT := .int .i64 none ((atI a0 a1))
abbrev At_VC (a0 : List Int) (a1 : Int) : Prop :=
((a1 < 0 →
((0 : Int) = (atI a0 a1)) ∧
 True)) ∧
(0 ≤ a1 →
(((ln a0) ≤ a1 →
((0 : Int) = (atI a0 a1)) ∧
  True)) ∧
(a1 < (ln a0) →
(Wn a1 (ln a0)) ∧
(((ix a0 a1) : Int) = (atI a0 a1)) ∧
  True))
theorem At_vc (a0 : List Int) (a1 : Int) : wpTop (stdA XK (tblOf At_tbl) (fun _ _ => False) (fun _ _ => 0)) { cfg sp with ann := annOf [] } 3 18 [.list 1 (a0) none, .int .i64 none (a1)] (At_res a0 a1) = At_VC a0 a1 := by kernel_rfl
def own_tbl : List (Nat × Ct KT) := []
abbrev own_res (a0 : List Row) : PV KT := .list 6 ((ownR a0)) (some (0, 0))
abbrev own_VC (a0 : List Row) : Prop :=
(inv_own_0 a0 0 ([] : List Row)) ∧
(∀ x0 : Int,
(∀ x1 : List Row,
(inv_own_0 a0 x0 x1 →
((x0 < (ln a0) →
(Wn x0 (ln a0)) ∧
(Wn x0 (ln a0)) ∧
(Short (List.length ([] : List Word) + List.length (ix a0 x0).Words)) ∧
(True) ∧
(Short (List.length x1 + List.length [(Row.mk (ix a0 x0).At (([] : List Word) ++ (ix a0 x0).Words))])) ∧
(I64 (x0 + 1)) ∧
(inv_own_0 a0 (x0 + 1) (x1 ++ [(Row.mk (ix a0 x0).At (([] : List Word) ++ (ix a0 x0).Words))])) ∧
 minv_own_0 a0 (x0 + 1) (x1 ++ [(Row.mk (ix a0 x0).At (([] : List Word) ++ (ix a0 x0).Words))]) < minv_own_0 a0 x0 x1)) ∧
((ln a0) ≤ x0 →
(x1 = (ownR a0)) ∧
    True))))
theorem own_vc (a0 : List Row) : wpTop (stdA XK (tblOf own_tbl) (fun j ns => match j, ns with | 0, [.i y0, .l 6 y1] => inv_own_0 a0 y0 y1 | _, _ => False) (fun j ns => match j, ns with | 0, [.i y0, .l 6 y1] => minv_own_0 a0 y0 y1 | _, _ => 0)) { cfg sp with ann := annOf [(12, 58, .inv 0 [.one 4 (.int .i64), .one 3 (.list 6 true false)] [])] } 3 12 [.list 6 (a0) none] (own_res a0) = own_VC a0 := by kernel_rfl
def lawLoose_tbl : List (Nat × Ct KT) := [(15, ct15), (16, ct16), (13, ct13), (18, ct18), (17, ct17), (8, ct8), (10, ct10), (12, ct12)]
abbrev lawLoose_res (a0 : List Int) (a1 : List Int) (a2 : List Int) : PV KT := .sb 0 false ((true)) ((true) = true) ((true) = false)
abbrev lawLoose_VC (a0 : List Int) (a1 : List Int) (a2 : List Int) : Prop :=
(True) ∧
((goodL a0)) ∧
((goodL a1)) ∧
((6 < (ln (madeR a0)) →
((0 : Int) ≤ 6 ∧ 6 ≤ ln (madeR a0)) ∧
((6 < (ln (madeR a1)) →
((0 : Int) ≤ 6 ∧ 6 ≤ ln (madeR a1)) ∧
  looseBody a0 a1 a2 (upto (madeR a0) 6) (upto (madeR a1) 6))) ∧
((ln (madeR a1)) ≤ 6 →
  looseBody a0 a1 a2 (upto (madeR a0) 6) (madeR a1)))) ∧
((ln (madeR a0)) ≤ 6 →
((6 < (ln (madeR a1)) →
((0 : Int) ≤ 6 ∧ 6 ≤ ln (madeR a1)) ∧
  looseBody a0 a1 a2 (madeR a0) (upto (madeR a1) 6))) ∧
((ln (madeR a1)) ≤ 6 →
  looseBody a0 a1 a2 (madeR a0) (madeR a1)))
theorem lawLoose_vc (a0 : List Int) (a1 : List Int) (a2 : List Int) : wpTop (stdA XK (tblOf lawLoose_tbl) (fun j ns => match j, ns with | 0, [.i y0, .s y1, .l 6 y2, .l 6 y3] => inv_lawLoose_0 a0 a1 a2 y0 y1 y2 y3 | _, _ => False) (fun j ns => match j, ns with | 0, [.i y0, .s y1, .l 6 y2, .l 6 y3] => minv_lawLoose_0 a0 a1 a2 y0 y1 y2 y3 | _, _ => 0)) { cfg sp with ann := annOf [(6, 1018, .inv 0 [.one 11 (.int .i64), .one 10 (.str)] [.one 8 (.list 6 false false), .one 9 (.list 6 false false)])] } 3 6 [.list 1 (a0) none, .list 1 (a1) none, .list 1 (a2) none] (lawLoose_res a0 a1 a2) = lawLoose_VC a0 a1 a2 := by kernel_rfl
end Go.Proofs.YtofmpipjklcjhaaDoor
