/- THE CONDITIONS of the functions of the chapter 2, as E3 computes them. Made by program (vc.py). -/
import Derived.Test.YtofmpipjklcjhaaDoorInvT
import Derived.Test.YtofmpipjklcjhaaDoorCfg
namespace Go.Proofs.YtofmpipjklcjhaaDoor
open Go Go.E2 Go.E3
set_option maxRecDepth 100000
variable {sp : Nat → Option (List V → Heap → Option (CR × Heap))}

def zcb : Ct KT := ([.one (.str), .one (.int .u8)], fun ns => match ns with
  | [.s a0, .i a1] => some (True, .int .i64 none ((qbn a0 a1)))
  | _ => none)
def zca : Ct KT := ([.one (.str), .one (.int .u8)], fun ns => match ns with
  | [.s a0, .i a1] => some (True, .int .i64 none ((qlf a0 a1)))
  | _ => none)
def q69 : Ct KT := ([.one (.int .u8)], fun ns => match ns with
  | [.i a0] => some ((U8 a0), .int .u8 none ((jt a0)))
  | _ => none)
def q9x : Ct KT := ([.one (.str)], fun ns => match ns with
  | [.s a0] => some ((ln a0 ≤ 1000000000), .sb 0 false ((qx a0)) ((qx a0) = true) ((qx a0) = false))
  | _ => none)
def q9s : Ct KT := ([.one (.list 6 false false), .one (.list 6 false false), .one (.bool)], fun ns => match ns with
  | [.l 6 a0, .l 6 a1, .b a2] => some ((ln a0 ≤ 1000000000 ∧ (∀ r ∈ a0, ln r.Words ≤ 1000000000)), .sb 0 false ((j9 a0 a1 a2)) ((j9 a0 a1 a2) = true) ((j9 a0 a1 a2) = false))
  | _ => none)
def q9y : Ct KT := ([.one (.str)], fun ns => match ns with
  | [.s a0] => some ((ln a0 ≤ 1000000000), .sb 0 false ((zd a0)) ((zd a0) = true) ((zd a0) = false))
  | _ => none)
def q9v : Ct KT := ([.one (.list 6 false false)], fun ns => match ns with
  | [.l 6 a0] => some ((qez a0), .tuple [.str (((qf a0).1)), .int .i64 none (((qf a0).2))])
  | _ => none)
def q9u : Ct KT := ([.one (.list 6 false false)], fun ns => match ns with
  | [.l 6 a0] => some ((qez a0), .list 6 ((qie a0)) (some (0, 0)))
  | _ => none)
def q90 : Ct KT := ([.one (.int .u8)], fun ns => match ns with
  | [.i a0] => some ((U8 a0), .sb 0 false ((zg a0)) ((zg a0) = true) ((zg a0) = false))
  | _ => none)
def q91 : Ct KT := ([.one (.int .u8)], fun ns => match ns with
  | [.i a0] => some ((U8 a0), .sb 0 false ((za a0)) ((za a0) = true) ((za a0) = false))
  | _ => none)
def q9z : Ct KT := ([.agg [.int .i64, .str, .bool]], fun ns => match ns with
  | [.i a0, .s a1, .b a2] => some ((ln a1 ≤ 100000), .tuple [.str (((km a0 a1 a2).1)), .sb 0 false (((km a0 a1 a2).2)) (((km a0 a1 a2).2) = true) (((km a0 a1 a2).2) = false)])
  | _ => none)
def q9w : Ct KT := ([.one (.list 6 false false)], fun ns => match ns with
  | [.l 6 a0] => some ((qez a0), .tuple [.str (((qf a0).1)), .int .i64 none (((qf a0).2))])
  | _ => none)
def q9t : Ct KT := ([.one (.list 6 false false)], fun ns => match ns with
  | [.l 6 a0] => some (True, .sb 0 false ((qbx a0)) ((qbx a0) = true) ((qbx a0) = false))
  | _ => none)
def ct7 : Ct KT := ([], fun ns => match ns with
  | [] => some (True, .sb 0 false ((true)) ((true) = true) ((true) = false))
  | _ => none)
def ct4 : Ct KT := ([.one (.list 6 false false)], fun ns => match ns with
  | [.l 6 a0] => some (True, .sb 0 false ((true)) ((true) = true) ((true) = false))
  | _ => none)
abbrev q13 : PV KT := .sb 0 false ((true)) ((true) = true) ((true) = false)
def q1e : List (Nat × Ct KT) := []
abbrev qsh (a0 : Int) : PV KT := .int .u8 none ((jt a0))
abbrev qv0 (a0 : Int) : Prop :=
(I64 a0) ∧
((127 ≤ a0 →
((120 : Int) = (jt a0)) ∧
 True)) ∧
(a0 < 127 →
(Wn a0 (ln ([120, 120, 120, 120, 120, 120, 120, 120, 120, 120, 120, 120, 120, 120, 120, 120, 120, 120, 120, 120, 120, 120, 120, 120, 120, 120, 120, 120, 120, 120, 120, 120, 32, 112, 113, 112, 112, 112, 112, 112, 112, 112, 112, 112, 112, 112, 112, 112, 112, 112, 112, 112, 112, 112, 112, 112, 112, 112, 112, 99, 112, 112, 112, 112, 112, 112, 112, 112, 112, 112, 112, 112, 112, 112, 112, 112, 112, 112, 112, 112, 112, 112, 112, 112, 112, 112, 112, 112, 112, 112, 112, 112, 112, 112, 112, 112, 112, 112, 112, 112, 112, 112, 112, 112, 112, 112, 112, 112, 112, 112, 112, 112, 112, 112, 112, 112, 112, 112, 112, 112, 112, 112, 112, 112, 112, 112, 112] : List UInt8))) ∧
(((bx ([120, 120, 120, 120, 120, 120, 120, 120, 120, 120, 120, 120, 120, 120, 120, 120, 120, 120, 120, 120, 120, 120, 120, 120, 120, 120, 120, 120, 120, 120, 120, 120, 32, 112, 113, 112, 112, 112, 112, 112, 112, 112, 112, 112, 112, 112, 112, 112, 112, 112, 112, 112, 112, 112, 112, 112, 112, 112, 112, 99, 112, 112, 112, 112, 112, 112, 112, 112, 112, 112, 112, 112, 112, 112, 112, 112, 112, 112, 112, 112, 112, 112, 112, 112, 112, 112, 112, 112, 112, 112, 112, 112, 112, 112, 112, 112, 112, 112, 112, 112, 112, 112, 112, 112, 112, 112, 112, 112, 112, 112, 112, 112, 112, 112, 112, 112, 112, 112, 112, 112, 112, 112, 112, 112, 112, 112, 112] : List UInt8) a0) : Int) = (jt a0)) ∧
 True)
theorem q35 (a0 : Int) : qgm (qo XK (qc7 q1e) (fun _ _ => False) (fun _ _ => 0)) { cfg sp with ann := qfz [] } 3 39 [.int .u8 none (a0)] (qsh a0) = qv0 a0 := by kernel_rfl
def qzg : List (Nat × Ct KT) := [(39, q69)]
abbrev qqo (a0 : List UInt8) : PV KT := .sb 0 false ((qx a0)) ((qx a0) = true) ((qx a0) = false)
abbrev qtf (a0 : List UInt8) : Prop :=
(qfd a0 0) ∧
(∀ x0 : Int,
(qfd a0 x0 →
((x0 < (ln a0) →
(Wn x0 (ln a0)) ∧
((U8 (bx a0 x0))) ∧
(((jt (bx a0 x0)) = 120 →
(false = (qx a0)) ∧
    True)) ∧
((jt (bx a0 x0)) ≠ 120 →
(((jt (bx a0 x0)) = 113 →
(false = (qx a0)) ∧
     True)) ∧
((jt (bx a0 x0)) ≠ 113 →
(I64 (x0 + 1)) ∧
(qfd a0 (x0 + 1)) ∧
 qeh a0 (x0 + 1) < qeh a0 x0)))) ∧
((ln a0) ≤ x0 →
(true = (qx a0)) ∧
   True)))
theorem q2w (a0 : List UInt8) : qgm (qo XK (qc7 qzg) (fun j ns => match j, ns with | 0, [.i y0] => qfd a0 y0 | _, _ => False) (fun j ns => match j, ns with | 0, [.i y0] => qeh a0 y0 | _, _ => 0)) { cfg sp with ann := qfz [(25, 26, .inv 0 [.one 7 (.int .i64)] [])] } 3 25 [.str (a0)] (qqo a0) = qtf a0 := by kernel_rfl
def qzj : List (Nat × Ct KT) := []
abbrev qqz (a0 : List Row) (a1 : List Row) (a2 : Bool) : PV KT := .sb 0 false ((j9 a0 a1 a2)) ((j9 a0 a1 a2) = true) ((j9 a0 a1 a2) = false)
abbrev qnb (a0 : List Row) (a1 : List Row) (a2 : Bool) : Prop :=
(((ln a0) ≠ (ln a1) →
(false = (j9 a0 a1 a2)) ∧
 True)) ∧
((ln a0) = (ln a1) →
(qb4 a0 a1 a2 0) ∧
(∀ x1 : Int,
(qb4 a0 a1 a2 x1 →
((x1 < (ln a0) →
(Wn x1 (ln a0)) ∧
(Wn x1 (ln a1)) ∧
(((ln (ix a0 x1).Words) ≠ (ln (ix a1 x1).Words) →
(false = (j9 a0 a1 a2)) ∧
     True)) ∧
((ln (ix a0 x1).Words) = (ln (ix a1 x1).Words) →
((a2 = true →
(Wn x1 (ln a0)) ∧
(Wn x1 (ln a1)) ∧
(((ix a0 x1).At ≠ (ix a1 x1).At →
(false = (j9 a0 a1 a2)) ∧
       True)) ∧
((ix a0 x1).At = (ix a1 x1).At →
(qae a0 a1 a2 0 x1) ∧
(∀ x7 : Int,
(qae a0 a1 a2 x7 x1 →
(Wn x1 (ln a0)) ∧
((x7 < (ln (ix a0 x1).Words) →
(Wn x1 (ln a0)) ∧
(Wn x7 (ln (ix a0 x1).Words)) ∧
(Wn x1 (ln a1)) ∧
(Wn x7 (ln (ix a1 x1).Words)) ∧
(((ix (ix a0 x1).Words x7).Text ≠ (ix (ix a1 x1).Words x7).Text →
(false = (j9 a0 a1 a2)) ∧
           True)) ∧
((ix (ix a0 x1).Words x7).Text = (ix (ix a1 x1).Words x7).Text →
(((ix (ix a0 x1).Words x7).Quoted ≠ (ix (ix a1 x1).Words x7).Quoted →
(false = (j9 a0 a1 a2)) ∧
            True)) ∧
((ix (ix a0 x1).Words x7).Quoted = (ix (ix a1 x1).Words x7).Quoted →
(((ix (ix a0 x1).Words x7).At ≠ (ix (ix a1 x1).Words x7).At →
(false = (j9 a0 a1 a2)) ∧
             True)) ∧
((ix (ix a0 x1).Words x7).At = (ix (ix a1 x1).Words x7).At →
(I64 (x7 + 1)) ∧
(qae a0 a1 a2 (x7 + 1) x1) ∧
 qbj a0 a1 a2 (x7 + 1) x1 < qbj a0 a1 a2 x7 x1))))) ∧
((ln (ix a0 x1).Words) ≤ x7 →
(I64 (x1 + 1)) ∧
(qb4 a0 a1 a2 (x1 + 1)) ∧
 qbi a0 a1 a2 (x1 + 1) < qbi a0 a1 a2 x1)))))) ∧
(a2 = false →
(qae a0 a1 a2 0 x1) ∧
(∀ x6 : Int,
(qae a0 a1 a2 x6 x1 →
(Wn x1 (ln a0)) ∧
((x6 < (ln (ix a0 x1).Words) →
(Wn x1 (ln a0)) ∧
(Wn x6 (ln (ix a0 x1).Words)) ∧
(Wn x1 (ln a1)) ∧
(Wn x6 (ln (ix a1 x1).Words)) ∧
(((ix (ix a0 x1).Words x6).Text ≠ (ix (ix a1 x1).Words x6).Text →
(false = (j9 a0 a1 a2)) ∧
          True)) ∧
((ix (ix a0 x1).Words x6).Text = (ix (ix a1 x1).Words x6).Text →
(((ix (ix a0 x1).Words x6).Quoted ≠ (ix (ix a1 x1).Words x6).Quoted →
(false = (j9 a0 a1 a2)) ∧
           True)) ∧
((ix (ix a0 x1).Words x6).Quoted = (ix (ix a1 x1).Words x6).Quoted →
(I64 (x6 + 1)) ∧
(qae a0 a1 a2 (x6 + 1) x1) ∧
 qbj a0 a1 a2 (x6 + 1) x1 < qbj a0 a1 a2 x6 x1)))) ∧
((ln (ix a0 x1).Words) ≤ x6 →
(I64 (x1 + 1)) ∧
(qb4 a0 a1 a2 (x1 + 1)) ∧
 qbi a0 a1 a2 (x1 + 1) < qbi a0 a1 a2 x1))))))) ∧
((ln a0) ≤ x1 →
(true = (j9 a0 a1 a2)) ∧
    True))))
theorem q23 (a0 : List Row) (a1 : List Row) (a2 : Bool) : qgm (qo XK (qc7 qzj) (fun j ns => match j, ns with | 0, [.i y0] => qb4 a0 a1 a2 y0 | 1, [.i y0, .i y1] => qae a0 a1 a2 y0 y1 | _, _ => False) (fun j ns => match j, ns with | 0, [.i y0] => qbi a0 a1 a2 y0 | 1, [.i y0, .i y1] => qbj a0 a1 a2 y0 y1 | _, _ => 0)) { cfg sp with ann := qfz [(10, 58, .inv 0 [.one 7 (.int .i64)] []), (10, 7462, .inv 1 [.one 8 (.int .i64)] [.one 7 (.int .i64)])] } 3 10 [.list 6 (a0) none, .list 6 (a1) none, .sb 0 false (a2) (a2 = true) (a2 = false)] (qqz a0 a1 a2) = qnb a0 a1 a2 := by kernel_rfl
def qzc : List (Nat × Ct KT) := [(39, q69)]
abbrev qqm (a0 : List UInt8) : PV KT := .sb 0 false ((zd a0)) ((zd a0) = true) ((zd a0) = false)
abbrev qtc (a0 : List UInt8) : Prop :=
(qfc a0 0) ∧
(∀ x0 : Int,
(qfc a0 x0 →
((x0 < (ln a0) →
(Wn x0 (ln a0)) ∧
((U8 (bx a0 x0))) ∧
(((jt (bx a0 x0)) ≠ 112 →
(false = (zd a0)) ∧
    True)) ∧
((jt (bx a0 x0)) = 112 →
(I64 (x0 + 1)) ∧
(qfc a0 (x0 + 1)) ∧
 qeg a0 (x0 + 1) < qeg a0 x0))) ∧
((ln a0) ≤ x0 →
((!(decide (a0 = ([] : List UInt8)))) = (zd a0)) ∧
   True)))
theorem q2t (a0 : List UInt8) : qgm (qo XK (qc7 qzc) (fun j ns => match j, ns with | 0, [.i y0] => qfc a0 y0 | _, _ => False) (fun j ns => match j, ns with | 0, [.i y0] => qeg a0 y0 | _, _ => 0)) { cfg sp with ann := qfz [(26, 26, .inv 0 [.one 6 (.int .i64)] [])] } 3 26 [.str (a0)] (qqm a0) = qtc a0 := by kernel_rfl
def q06 : List (Nat × Ct KT) := [(25, q9x), (26, q9y)]
abbrev qsa (a0 : List Row) : PV KT := .tuple [.str (((qf a0).1)), .int .i64 none (((qf a0).2))]
abbrev qo8 (a0 : List Row) : Prop :=
((0 < (ln a0) →
(Wn 0 (ln a0)) ∧
(((ln (ix a0 0).Words) = 0 →
(([] : List UInt8) = ((qf a0).1)) ∧
((3 : Int) = ((qf a0).2)) ∧
  True)) ∧
((ln (ix a0 0).Words) ≠ 0 →
((0 < (ln (ix a0 0).Words) →
(Wn 0 (ln (ix a0 0).Words)) ∧
(((ix (ix a0 0).Words 0).Quoted = true →
((ln (ix (ix a0 0).Words 0).Text ≤ 1000000000)) ∧
(((qx (ix (ix a0 0).Words 0).Text) = false →
(([] : List UInt8) = ((qf a0).1)) ∧
((3 : Int) = ((qf a0).2)) ∧
     True)) ∧
((qx (ix (ix a0 0).Words 0).Text) = true →
(qj (List.length ([34] : List UInt8) + List.length (ix (ix a0 0).Words 0).Text)) ∧
(qj (List.length (([34] : List UInt8) ++ (ix (ix a0 0).Words 0).Text) + List.length ([34] : List UInt8))) ∧
(qj (List.length ([] : List UInt8) + List.length ((([34] : List UInt8) ++ (ix (ix a0 0).Words 0).Text) ++ ([34] : List UInt8)))) ∧
(qa a0 1 (([] : List UInt8) ++ ((([34] : List UInt8) ++ (ix (ix a0 0).Words 0).Text) ++ ([34] : List UInt8))) 0 0) ∧
(∀ x5 : Int,
(∀ x6 : List UInt8,
(qa a0 x5 x6 0 0 →
((x5 < (ln (ix a0 0).Words) →
(Wn x5 (ln (ix a0 0).Words)) ∧
(((ix (ix a0 0).Words x5).Quoted = true →
((ln (ix (ix a0 0).Words x5).Text ≤ 1000000000)) ∧
(((qx (ix (ix a0 0).Words x5).Text) = false →
(([] : List UInt8) = ((qf a0).1)) ∧
((3 : Int) = ((qf a0).2)) ∧
           True)) ∧
((qx (ix (ix a0 0).Words x5).Text) = true →
((0 < x5 →
(U8 (32)) ∧
(qj (List.length x6 + List.length [(UInt8.ofNat (Int.toNat (32)))])) ∧
(qj (List.length ([34] : List UInt8) + List.length (ix (ix a0 0).Words x5).Text)) ∧
(qj (List.length (([34] : List UInt8) ++ (ix (ix a0 0).Words x5).Text) + List.length ([34] : List UInt8))) ∧
(qj (List.length (x6 ++ [(UInt8.ofNat (Int.toNat (32)))]) + List.length ((([34] : List UInt8) ++ (ix (ix a0 0).Words x5).Text) ++ ([34] : List UInt8)))) ∧
(I64 (x5 + 1)) ∧
(((ix (ix a0 0).Words 0).At : Int) = (ix (ix a0 0).Words 0).At) ∧
((ix (ix a0 0).Words 0).Text = (ix (ix a0 0).Words 0).Text) ∧
((ix (ix a0 0).Words 0).Quoted = (ix (ix a0 0).Words 0).Quoted) ∧
(((ix a0 0).At : Int) = (ix a0 0).At) ∧
((ix a0 0).Words = (ix a0 0).Words) ∧
(qa a0 (x5 + 1) ((x6 ++ [(UInt8.ofNat (Int.toNat (32)))]) ++ ((([34] : List UInt8) ++ (ix (ix a0 0).Words x5).Text) ++ ([34] : List UInt8))) 0 0) ∧
 qb a0 (x5 + 1) ((x6 ++ [(UInt8.ofNat (Int.toNat (32)))]) ++ ((([34] : List UInt8) ++ (ix (ix a0 0).Words x5).Text) ++ ([34] : List UInt8))) 0 0 < qb a0 x5 x6 0 0)) ∧
(x5 ≤ 0 →
(qj (List.length ([34] : List UInt8) + List.length (ix (ix a0 0).Words x5).Text)) ∧
(qj (List.length (([34] : List UInt8) ++ (ix (ix a0 0).Words x5).Text) + List.length ([34] : List UInt8))) ∧
(qj (List.length x6 + List.length ((([34] : List UInt8) ++ (ix (ix a0 0).Words x5).Text) ++ ([34] : List UInt8)))) ∧
(I64 (x5 + 1)) ∧
(((ix (ix a0 0).Words 0).At : Int) = (ix (ix a0 0).Words 0).At) ∧
((ix (ix a0 0).Words 0).Text = (ix (ix a0 0).Words 0).Text) ∧
((ix (ix a0 0).Words 0).Quoted = (ix (ix a0 0).Words 0).Quoted) ∧
(((ix a0 0).At : Int) = (ix a0 0).At) ∧
((ix a0 0).Words = (ix a0 0).Words) ∧
(qa a0 (x5 + 1) (x6 ++ ((([34] : List UInt8) ++ (ix (ix a0 0).Words x5).Text) ++ ([34] : List UInt8))) 0 0) ∧
 qb a0 (x5 + 1) (x6 ++ ((([34] : List UInt8) ++ (ix (ix a0 0).Words x5).Text) ++ ([34] : List UInt8))) 0 0 < qb a0 x5 x6 0 0)))) ∧
((ix (ix a0 0).Words x5).Quoted = false →
((ln (ix (ix a0 0).Words x5).Text ≤ 1000000000)) ∧
(((zd (ix (ix a0 0).Words x5).Text) = false →
(([] : List UInt8) = ((qf a0).1)) ∧
((3 : Int) = ((qf a0).2)) ∧
           True)) ∧
((zd (ix (ix a0 0).Words x5).Text) = true →
((0 < x5 →
(U8 (32)) ∧
(qj (List.length x6 + List.length [(UInt8.ofNat (Int.toNat (32)))])) ∧
(qj (List.length (x6 ++ [(UInt8.ofNat (Int.toNat (32)))]) + List.length (ix (ix a0 0).Words x5).Text)) ∧
(I64 (x5 + 1)) ∧
(((ix (ix a0 0).Words 0).At : Int) = (ix (ix a0 0).Words 0).At) ∧
((ix (ix a0 0).Words 0).Text = (ix (ix a0 0).Words 0).Text) ∧
((ix (ix a0 0).Words 0).Quoted = (ix (ix a0 0).Words 0).Quoted) ∧
(((ix a0 0).At : Int) = (ix a0 0).At) ∧
((ix a0 0).Words = (ix a0 0).Words) ∧
(qa a0 (x5 + 1) ((x6 ++ [(UInt8.ofNat (Int.toNat (32)))]) ++ (ix (ix a0 0).Words x5).Text) 0 0) ∧
 qb a0 (x5 + 1) ((x6 ++ [(UInt8.ofNat (Int.toNat (32)))]) ++ (ix (ix a0 0).Words x5).Text) 0 0 < qb a0 x5 x6 0 0)) ∧
(x5 ≤ 0 →
(qj (List.length x6 + List.length (ix (ix a0 0).Words x5).Text)) ∧
(I64 (x5 + 1)) ∧
(((ix (ix a0 0).Words 0).At : Int) = (ix (ix a0 0).Words 0).At) ∧
((ix (ix a0 0).Words 0).Text = (ix (ix a0 0).Words 0).Text) ∧
((ix (ix a0 0).Words 0).Quoted = (ix (ix a0 0).Words 0).Quoted) ∧
(((ix a0 0).At : Int) = (ix a0 0).At) ∧
((ix a0 0).Words = (ix a0 0).Words) ∧
(qa a0 (x5 + 1) (x6 ++ (ix (ix a0 0).Words x5).Text) 0 0) ∧
 qb a0 (x5 + 1) (x6 ++ (ix (ix a0 0).Words x5).Text) 0 0 < qb a0 x5 x6 0 0))))) ∧
((ln (ix a0 0).Words) ≤ x5 →
(I64 ((ln x6) - 0)) ∧
((1000 < ((ln x6) - 0) →
(([] : List UInt8) = ((qf a0).1)) ∧
((4 : Int) = ((qf a0).2)) ∧
          True)) ∧
(((ln x6) - 0) ≤ 1000 →
(U8 (10)) ∧
(qj (List.length x6 + List.length [(UInt8.ofNat (Int.toNat (10)))])) ∧
((20000 < (ln (x6 ++ [(UInt8.ofNat (Int.toNat (10)))])) →
(([] : List UInt8) = ((qf a0).1)) ∧
((4 : Int) = ((qf a0).2)) ∧
           True)) ∧
((ln (x6 ++ [(UInt8.ofNat (Int.toNat (10)))])) ≤ 20000 →
(qm a0 1 (x6 ++ [(UInt8.ofNat (Int.toNat (10)))])) ∧
(∀ x11 : Int,
(∀ x12 : List UInt8,
(qm a0 x11 x12 →
((x11 < (ln a0) →
(Wn x11 (ln a0)) ∧
(((ln (ix a0 x11).Words) = 0 →
(([] : List UInt8) = ((qf a0).1)) ∧
((3 : Int) = ((qf a0).2)) ∧
                True)) ∧
((ln (ix a0 x11).Words) ≠ 0 →
((0 < (ln (ix a0 x11).Words) →
(Wn 0 (ln (ix a0 x11).Words)) ∧
(((ix (ix a0 x11).Words 0).Quoted = true →
((ln (ix (ix a0 x11).Words 0).Text ≤ 1000000000)) ∧
(((qx (ix (ix a0 x11).Words 0).Text) = false →
(([] : List UInt8) = ((qf a0).1)) ∧
((3 : Int) = ((qf a0).2)) ∧
                   True)) ∧
((qx (ix (ix a0 x11).Words 0).Text) = true →
(qj (List.length ([34] : List UInt8) + List.length (ix (ix a0 x11).Words 0).Text)) ∧
(qj (List.length (([34] : List UInt8) ++ (ix (ix a0 x11).Words 0).Text) + List.length ([34] : List UInt8))) ∧
(qj (List.length x12 + List.length ((([34] : List UInt8) ++ (ix (ix a0 x11).Words 0).Text) ++ ([34] : List UInt8)))) ∧
(qa a0 1 (x12 ++ ((([34] : List UInt8) ++ (ix (ix a0 x11).Words 0).Text) ++ ([34] : List UInt8))) x11 (ln x12)) ∧
(∀ x19 : Int,
(∀ x20 : List UInt8,
(qa a0 x19 x20 x11 (ln x12) →
((x19 < (ln (ix a0 x11).Words) →
(Wn x19 (ln (ix a0 x11).Words)) ∧
(((ix (ix a0 x11).Words x19).Quoted = true →
((ln (ix (ix a0 x11).Words x19).Text ≤ 1000000000)) ∧
(((qx (ix (ix a0 x11).Words x19).Text) = false →
(([] : List UInt8) = ((qf a0).1)) ∧
((3 : Int) = ((qf a0).2)) ∧
                         True)) ∧
((qx (ix (ix a0 x11).Words x19).Text) = true →
((0 < x19 →
(U8 (32)) ∧
(qj (List.length x20 + List.length [(UInt8.ofNat (Int.toNat (32)))])) ∧
(qj (List.length ([34] : List UInt8) + List.length (ix (ix a0 x11).Words x19).Text)) ∧
(qj (List.length (([34] : List UInt8) ++ (ix (ix a0 x11).Words x19).Text) + List.length ([34] : List UInt8))) ∧
(qj (List.length (x20 ++ [(UInt8.ofNat (Int.toNat (32)))]) + List.length ((([34] : List UInt8) ++ (ix (ix a0 x11).Words x19).Text) ++ ([34] : List UInt8)))) ∧
(I64 (x19 + 1)) ∧
(((ix (ix a0 x11).Words 0).At : Int) = (ix (ix a0 x11).Words 0).At) ∧
((ix (ix a0 x11).Words 0).Text = (ix (ix a0 x11).Words 0).Text) ∧
((ix (ix a0 x11).Words 0).Quoted = (ix (ix a0 x11).Words 0).Quoted) ∧
(((ix a0 x11).At : Int) = (ix a0 x11).At) ∧
((ix a0 x11).Words = (ix a0 x11).Words) ∧
(((ix (ix a0 0).Words 0).At : Int) = (ix (ix a0 0).Words 0).At) ∧
((ix (ix a0 0).Words 0).Text = (ix (ix a0 0).Words 0).Text) ∧
((ix (ix a0 0).Words 0).Quoted = (ix (ix a0 0).Words 0).Quoted) ∧
(((ix a0 0).At : Int) = (ix a0 0).At) ∧
((ix a0 0).Words = (ix a0 0).Words) ∧
(qa a0 (x19 + 1) ((x20 ++ [(UInt8.ofNat (Int.toNat (32)))]) ++ ((([34] : List UInt8) ++ (ix (ix a0 x11).Words x19).Text) ++ ([34] : List UInt8))) x11 (ln x12)) ∧
 qb a0 (x19 + 1) ((x20 ++ [(UInt8.ofNat (Int.toNat (32)))]) ++ ((([34] : List UInt8) ++ (ix (ix a0 x11).Words x19).Text) ++ ([34] : List UInt8))) x11 (ln x12) < qb a0 x19 x20 x11 (ln x12))) ∧
(x19 ≤ 0 →
(qj (List.length ([34] : List UInt8) + List.length (ix (ix a0 x11).Words x19).Text)) ∧
(qj (List.length (([34] : List UInt8) ++ (ix (ix a0 x11).Words x19).Text) + List.length ([34] : List UInt8))) ∧
(qj (List.length x20 + List.length ((([34] : List UInt8) ++ (ix (ix a0 x11).Words x19).Text) ++ ([34] : List UInt8)))) ∧
(I64 (x19 + 1)) ∧
(((ix (ix a0 x11).Words 0).At : Int) = (ix (ix a0 x11).Words 0).At) ∧
((ix (ix a0 x11).Words 0).Text = (ix (ix a0 x11).Words 0).Text) ∧
((ix (ix a0 x11).Words 0).Quoted = (ix (ix a0 x11).Words 0).Quoted) ∧
(((ix a0 x11).At : Int) = (ix a0 x11).At) ∧
((ix a0 x11).Words = (ix a0 x11).Words) ∧
(((ix (ix a0 0).Words 0).At : Int) = (ix (ix a0 0).Words 0).At) ∧
((ix (ix a0 0).Words 0).Text = (ix (ix a0 0).Words 0).Text) ∧
((ix (ix a0 0).Words 0).Quoted = (ix (ix a0 0).Words 0).Quoted) ∧
(((ix a0 0).At : Int) = (ix a0 0).At) ∧
((ix a0 0).Words = (ix a0 0).Words) ∧
(qa a0 (x19 + 1) (x20 ++ ((([34] : List UInt8) ++ (ix (ix a0 x11).Words x19).Text) ++ ([34] : List UInt8))) x11 (ln x12)) ∧
 qb a0 (x19 + 1) (x20 ++ ((([34] : List UInt8) ++ (ix (ix a0 x11).Words x19).Text) ++ ([34] : List UInt8))) x11 (ln x12) < qb a0 x19 x20 x11 (ln x12))))) ∧
((ix (ix a0 x11).Words x19).Quoted = false →
((ln (ix (ix a0 x11).Words x19).Text ≤ 1000000000)) ∧
(((zd (ix (ix a0 x11).Words x19).Text) = false →
(([] : List UInt8) = ((qf a0).1)) ∧
((3 : Int) = ((qf a0).2)) ∧
                         True)) ∧
((zd (ix (ix a0 x11).Words x19).Text) = true →
((0 < x19 →
(U8 (32)) ∧
(qj (List.length x20 + List.length [(UInt8.ofNat (Int.toNat (32)))])) ∧
(qj (List.length (x20 ++ [(UInt8.ofNat (Int.toNat (32)))]) + List.length (ix (ix a0 x11).Words x19).Text)) ∧
(I64 (x19 + 1)) ∧
(((ix (ix a0 x11).Words 0).At : Int) = (ix (ix a0 x11).Words 0).At) ∧
((ix (ix a0 x11).Words 0).Text = (ix (ix a0 x11).Words 0).Text) ∧
((ix (ix a0 x11).Words 0).Quoted = (ix (ix a0 x11).Words 0).Quoted) ∧
(((ix a0 x11).At : Int) = (ix a0 x11).At) ∧
((ix a0 x11).Words = (ix a0 x11).Words) ∧
(((ix (ix a0 0).Words 0).At : Int) = (ix (ix a0 0).Words 0).At) ∧
((ix (ix a0 0).Words 0).Text = (ix (ix a0 0).Words 0).Text) ∧
((ix (ix a0 0).Words 0).Quoted = (ix (ix a0 0).Words 0).Quoted) ∧
(((ix a0 0).At : Int) = (ix a0 0).At) ∧
((ix a0 0).Words = (ix a0 0).Words) ∧
(qa a0 (x19 + 1) ((x20 ++ [(UInt8.ofNat (Int.toNat (32)))]) ++ (ix (ix a0 x11).Words x19).Text) x11 (ln x12)) ∧
 qb a0 (x19 + 1) ((x20 ++ [(UInt8.ofNat (Int.toNat (32)))]) ++ (ix (ix a0 x11).Words x19).Text) x11 (ln x12) < qb a0 x19 x20 x11 (ln x12))) ∧
(x19 ≤ 0 →
(qj (List.length x20 + List.length (ix (ix a0 x11).Words x19).Text)) ∧
(I64 (x19 + 1)) ∧
(((ix (ix a0 x11).Words 0).At : Int) = (ix (ix a0 x11).Words 0).At) ∧
((ix (ix a0 x11).Words 0).Text = (ix (ix a0 x11).Words 0).Text) ∧
((ix (ix a0 x11).Words 0).Quoted = (ix (ix a0 x11).Words 0).Quoted) ∧
(((ix a0 x11).At : Int) = (ix a0 x11).At) ∧
((ix a0 x11).Words = (ix a0 x11).Words) ∧
(((ix (ix a0 0).Words 0).At : Int) = (ix (ix a0 0).Words 0).At) ∧
((ix (ix a0 0).Words 0).Text = (ix (ix a0 0).Words 0).Text) ∧
((ix (ix a0 0).Words 0).Quoted = (ix (ix a0 0).Words 0).Quoted) ∧
(((ix a0 0).At : Int) = (ix a0 0).At) ∧
((ix a0 0).Words = (ix a0 0).Words) ∧
(qa a0 (x19 + 1) (x20 ++ (ix (ix a0 x11).Words x19).Text) x11 (ln x12)) ∧
 qb a0 (x19 + 1) (x20 ++ (ix (ix a0 x11).Words x19).Text) x11 (ln x12) < qb a0 x19 x20 x11 (ln x12)))))) ∧
((ln (ix a0 x11).Words) ≤ x19 →
(I64 ((ln x20) - (ln x12))) ∧
((1000 < ((ln x20) - (ln x12)) →
(([] : List UInt8) = ((qf a0).1)) ∧
((4 : Int) = ((qf a0).2)) ∧
                        True)) ∧
(((ln x20) - (ln x12)) ≤ 1000 →
(U8 (10)) ∧
(qj (List.length x20 + List.length [(UInt8.ofNat (Int.toNat (10)))])) ∧
((20000 < (ln (x20 ++ [(UInt8.ofNat (Int.toNat (10)))])) →
(([] : List UInt8) = ((qf a0).1)) ∧
((4 : Int) = ((qf a0).2)) ∧
                         True)) ∧
((ln (x20 ++ [(UInt8.ofNat (Int.toNat (10)))])) ≤ 20000 →
(I64 (x11 + 1)) ∧
(((ix (ix a0 0).Words 0).At : Int) = (ix (ix a0 0).Words 0).At) ∧
((ix (ix a0 0).Words 0).Text = (ix (ix a0 0).Words 0).Text) ∧
((ix (ix a0 0).Words 0).Quoted = (ix (ix a0 0).Words 0).Quoted) ∧
(((ix a0 0).At : Int) = (ix a0 0).At) ∧
((ix a0 0).Words = (ix a0 0).Words) ∧
(qm a0 (x11 + 1) (x20 ++ [(UInt8.ofNat (Int.toNat (10)))])) ∧
 qz a0 (x11 + 1) (x20 ++ [(UInt8.ofNat (Int.toNat (10)))]) < qz a0 x11 x12))))))))) ∧
((ix (ix a0 x11).Words 0).Quoted = false →
((ln (ix (ix a0 x11).Words 0).Text ≤ 1000000000)) ∧
(((zd (ix (ix a0 x11).Words 0).Text) = false →
(([] : List UInt8) = ((qf a0).1)) ∧
((3 : Int) = ((qf a0).2)) ∧
                   True)) ∧
((zd (ix (ix a0 x11).Words 0).Text) = true →
(qj (List.length x12 + List.length (ix (ix a0 x11).Words 0).Text)) ∧
(qa a0 1 (x12 ++ (ix (ix a0 x11).Words 0).Text) x11 (ln x12)) ∧
(∀ x19 : Int,
(∀ x20 : List UInt8,
(qa a0 x19 x20 x11 (ln x12) →
((x19 < (ln (ix a0 x11).Words) →
(Wn x19 (ln (ix a0 x11).Words)) ∧
(((ix (ix a0 x11).Words x19).Quoted = true →
((ln (ix (ix a0 x11).Words x19).Text ≤ 1000000000)) ∧
(((qx (ix (ix a0 x11).Words x19).Text) = false →
(([] : List UInt8) = ((qf a0).1)) ∧
((3 : Int) = ((qf a0).2)) ∧
                         True)) ∧
((qx (ix (ix a0 x11).Words x19).Text) = true →
((0 < x19 →
(U8 (32)) ∧
(qj (List.length x20 + List.length [(UInt8.ofNat (Int.toNat (32)))])) ∧
(qj (List.length ([34] : List UInt8) + List.length (ix (ix a0 x11).Words x19).Text)) ∧
(qj (List.length (([34] : List UInt8) ++ (ix (ix a0 x11).Words x19).Text) + List.length ([34] : List UInt8))) ∧
(qj (List.length (x20 ++ [(UInt8.ofNat (Int.toNat (32)))]) + List.length ((([34] : List UInt8) ++ (ix (ix a0 x11).Words x19).Text) ++ ([34] : List UInt8)))) ∧
(I64 (x19 + 1)) ∧
(((ix (ix a0 x11).Words 0).At : Int) = (ix (ix a0 x11).Words 0).At) ∧
((ix (ix a0 x11).Words 0).Text = (ix (ix a0 x11).Words 0).Text) ∧
((ix (ix a0 x11).Words 0).Quoted = (ix (ix a0 x11).Words 0).Quoted) ∧
(((ix a0 x11).At : Int) = (ix a0 x11).At) ∧
((ix a0 x11).Words = (ix a0 x11).Words) ∧
(((ix (ix a0 0).Words 0).At : Int) = (ix (ix a0 0).Words 0).At) ∧
((ix (ix a0 0).Words 0).Text = (ix (ix a0 0).Words 0).Text) ∧
((ix (ix a0 0).Words 0).Quoted = (ix (ix a0 0).Words 0).Quoted) ∧
(((ix a0 0).At : Int) = (ix a0 0).At) ∧
((ix a0 0).Words = (ix a0 0).Words) ∧
(qa a0 (x19 + 1) ((x20 ++ [(UInt8.ofNat (Int.toNat (32)))]) ++ ((([34] : List UInt8) ++ (ix (ix a0 x11).Words x19).Text) ++ ([34] : List UInt8))) x11 (ln x12)) ∧
 qb a0 (x19 + 1) ((x20 ++ [(UInt8.ofNat (Int.toNat (32)))]) ++ ((([34] : List UInt8) ++ (ix (ix a0 x11).Words x19).Text) ++ ([34] : List UInt8))) x11 (ln x12) < qb a0 x19 x20 x11 (ln x12))) ∧
(x19 ≤ 0 →
(qj (List.length ([34] : List UInt8) + List.length (ix (ix a0 x11).Words x19).Text)) ∧
(qj (List.length (([34] : List UInt8) ++ (ix (ix a0 x11).Words x19).Text) + List.length ([34] : List UInt8))) ∧
(qj (List.length x20 + List.length ((([34] : List UInt8) ++ (ix (ix a0 x11).Words x19).Text) ++ ([34] : List UInt8)))) ∧
(I64 (x19 + 1)) ∧
(((ix (ix a0 x11).Words 0).At : Int) = (ix (ix a0 x11).Words 0).At) ∧
((ix (ix a0 x11).Words 0).Text = (ix (ix a0 x11).Words 0).Text) ∧
((ix (ix a0 x11).Words 0).Quoted = (ix (ix a0 x11).Words 0).Quoted) ∧
(((ix a0 x11).At : Int) = (ix a0 x11).At) ∧
((ix a0 x11).Words = (ix a0 x11).Words) ∧
(((ix (ix a0 0).Words 0).At : Int) = (ix (ix a0 0).Words 0).At) ∧
((ix (ix a0 0).Words 0).Text = (ix (ix a0 0).Words 0).Text) ∧
((ix (ix a0 0).Words 0).Quoted = (ix (ix a0 0).Words 0).Quoted) ∧
(((ix a0 0).At : Int) = (ix a0 0).At) ∧
((ix a0 0).Words = (ix a0 0).Words) ∧
(qa a0 (x19 + 1) (x20 ++ ((([34] : List UInt8) ++ (ix (ix a0 x11).Words x19).Text) ++ ([34] : List UInt8))) x11 (ln x12)) ∧
 qb a0 (x19 + 1) (x20 ++ ((([34] : List UInt8) ++ (ix (ix a0 x11).Words x19).Text) ++ ([34] : List UInt8))) x11 (ln x12) < qb a0 x19 x20 x11 (ln x12))))) ∧
((ix (ix a0 x11).Words x19).Quoted = false →
((ln (ix (ix a0 x11).Words x19).Text ≤ 1000000000)) ∧
(((zd (ix (ix a0 x11).Words x19).Text) = false →
(([] : List UInt8) = ((qf a0).1)) ∧
((3 : Int) = ((qf a0).2)) ∧
                         True)) ∧
((zd (ix (ix a0 x11).Words x19).Text) = true →
((0 < x19 →
(U8 (32)) ∧
(qj (List.length x20 + List.length [(UInt8.ofNat (Int.toNat (32)))])) ∧
(qj (List.length (x20 ++ [(UInt8.ofNat (Int.toNat (32)))]) + List.length (ix (ix a0 x11).Words x19).Text)) ∧
(I64 (x19 + 1)) ∧
(((ix (ix a0 x11).Words 0).At : Int) = (ix (ix a0 x11).Words 0).At) ∧
((ix (ix a0 x11).Words 0).Text = (ix (ix a0 x11).Words 0).Text) ∧
((ix (ix a0 x11).Words 0).Quoted = (ix (ix a0 x11).Words 0).Quoted) ∧
(((ix a0 x11).At : Int) = (ix a0 x11).At) ∧
((ix a0 x11).Words = (ix a0 x11).Words) ∧
(((ix (ix a0 0).Words 0).At : Int) = (ix (ix a0 0).Words 0).At) ∧
((ix (ix a0 0).Words 0).Text = (ix (ix a0 0).Words 0).Text) ∧
((ix (ix a0 0).Words 0).Quoted = (ix (ix a0 0).Words 0).Quoted) ∧
(((ix a0 0).At : Int) = (ix a0 0).At) ∧
((ix a0 0).Words = (ix a0 0).Words) ∧
(qa a0 (x19 + 1) ((x20 ++ [(UInt8.ofNat (Int.toNat (32)))]) ++ (ix (ix a0 x11).Words x19).Text) x11 (ln x12)) ∧
 qb a0 (x19 + 1) ((x20 ++ [(UInt8.ofNat (Int.toNat (32)))]) ++ (ix (ix a0 x11).Words x19).Text) x11 (ln x12) < qb a0 x19 x20 x11 (ln x12))) ∧
(x19 ≤ 0 →
(qj (List.length x20 + List.length (ix (ix a0 x11).Words x19).Text)) ∧
(I64 (x19 + 1)) ∧
(((ix (ix a0 x11).Words 0).At : Int) = (ix (ix a0 x11).Words 0).At) ∧
((ix (ix a0 x11).Words 0).Text = (ix (ix a0 x11).Words 0).Text) ∧
((ix (ix a0 x11).Words 0).Quoted = (ix (ix a0 x11).Words 0).Quoted) ∧
(((ix a0 x11).At : Int) = (ix a0 x11).At) ∧
((ix a0 x11).Words = (ix a0 x11).Words) ∧
(((ix (ix a0 0).Words 0).At : Int) = (ix (ix a0 0).Words 0).At) ∧
((ix (ix a0 0).Words 0).Text = (ix (ix a0 0).Words 0).Text) ∧
((ix (ix a0 0).Words 0).Quoted = (ix (ix a0 0).Words 0).Quoted) ∧
(((ix a0 0).At : Int) = (ix a0 0).At) ∧
((ix a0 0).Words = (ix a0 0).Words) ∧
(qa a0 (x19 + 1) (x20 ++ (ix (ix a0 x11).Words x19).Text) x11 (ln x12)) ∧
 qb a0 (x19 + 1) (x20 ++ (ix (ix a0 x11).Words x19).Text) x11 (ln x12) < qb a0 x19 x20 x11 (ln x12)))))) ∧
((ln (ix a0 x11).Words) ≤ x19 →
(I64 ((ln x20) - (ln x12))) ∧
((1000 < ((ln x20) - (ln x12)) →
(([] : List UInt8) = ((qf a0).1)) ∧
((4 : Int) = ((qf a0).2)) ∧
                        True)) ∧
(((ln x20) - (ln x12)) ≤ 1000 →
(U8 (10)) ∧
(qj (List.length x20 + List.length [(UInt8.ofNat (Int.toNat (10)))])) ∧
((20000 < (ln (x20 ++ [(UInt8.ofNat (Int.toNat (10)))])) →
(([] : List UInt8) = ((qf a0).1)) ∧
((4 : Int) = ((qf a0).2)) ∧
                         True)) ∧
((ln (x20 ++ [(UInt8.ofNat (Int.toNat (10)))])) ≤ 20000 →
(I64 (x11 + 1)) ∧
(((ix (ix a0 0).Words 0).At : Int) = (ix (ix a0 0).Words 0).At) ∧
((ix (ix a0 0).Words 0).Text = (ix (ix a0 0).Words 0).Text) ∧
((ix (ix a0 0).Words 0).Quoted = (ix (ix a0 0).Words 0).Quoted) ∧
(((ix a0 0).At : Int) = (ix a0 0).At) ∧
((ix a0 0).Words = (ix a0 0).Words) ∧
(qm a0 (x11 + 1) (x20 ++ [(UInt8.ofNat (Int.toNat (10)))])) ∧
 qz a0 (x11 + 1) (x20 ++ [(UInt8.ofNat (Int.toNat (10)))]) < qz a0 x11 x12)))))))))) ∧
((ln (ix a0 x11).Words) ≤ 0 →
(I64 ((ln x12) - (ln x12))) ∧
((1000 < ((ln x12) - (ln x12)) →
(([] : List UInt8) = ((qf a0).1)) ∧
((4 : Int) = ((qf a0).2)) ∧
                  True)) ∧
(((ln x12) - (ln x12)) ≤ 1000 →
(U8 (10)) ∧
(qj (List.length x12 + List.length [(UInt8.ofNat (Int.toNat (10)))])) ∧
((20000 < (ln (x12 ++ [(UInt8.ofNat (Int.toNat (10)))])) →
(([] : List UInt8) = ((qf a0).1)) ∧
((4 : Int) = ((qf a0).2)) ∧
                   True)) ∧
((ln (x12 ++ [(UInt8.ofNat (Int.toNat (10)))])) ≤ 20000 →
(I64 (x11 + 1)) ∧
(((ix (ix a0 0).Words 0).At : Int) = (ix (ix a0 0).Words 0).At) ∧
((ix (ix a0 0).Words 0).Text = (ix (ix a0 0).Words 0).Text) ∧
((ix (ix a0 0).Words 0).Quoted = (ix (ix a0 0).Words 0).Quoted) ∧
(((ix a0 0).At : Int) = (ix a0 0).At) ∧
((ix a0 0).Words = (ix a0 0).Words) ∧
(qm a0 (x11 + 1) (x12 ++ [(UInt8.ofNat (Int.toNat (10)))])) ∧
 qz a0 (x11 + 1) (x12 ++ [(UInt8.ofNat (Int.toNat (10)))]) < qz a0 x11 x12)))))) ∧
((ln a0) ≤ x11 →
((ln x12) ≤ 140737488355328) ∧
(x12 = ((qf a0).1)) ∧
((0 : Int) = ((qf a0).2)) ∧
               True))))))))))))) ∧
((ix (ix a0 0).Words 0).Quoted = false →
((ln (ix (ix a0 0).Words 0).Text ≤ 1000000000)) ∧
(((zd (ix (ix a0 0).Words 0).Text) = false →
(([] : List UInt8) = ((qf a0).1)) ∧
((3 : Int) = ((qf a0).2)) ∧
     True)) ∧
((zd (ix (ix a0 0).Words 0).Text) = true →
(qj (List.length ([] : List UInt8) + List.length (ix (ix a0 0).Words 0).Text)) ∧
(qa a0 1 (([] : List UInt8) ++ (ix (ix a0 0).Words 0).Text) 0 0) ∧
(∀ x5 : Int,
(∀ x6 : List UInt8,
(qa a0 x5 x6 0 0 →
((x5 < (ln (ix a0 0).Words) →
(Wn x5 (ln (ix a0 0).Words)) ∧
(((ix (ix a0 0).Words x5).Quoted = true →
((ln (ix (ix a0 0).Words x5).Text ≤ 1000000000)) ∧
(((qx (ix (ix a0 0).Words x5).Text) = false →
(([] : List UInt8) = ((qf a0).1)) ∧
((3 : Int) = ((qf a0).2)) ∧
           True)) ∧
((qx (ix (ix a0 0).Words x5).Text) = true →
((0 < x5 →
(U8 (32)) ∧
(qj (List.length x6 + List.length [(UInt8.ofNat (Int.toNat (32)))])) ∧
(qj (List.length ([34] : List UInt8) + List.length (ix (ix a0 0).Words x5).Text)) ∧
(qj (List.length (([34] : List UInt8) ++ (ix (ix a0 0).Words x5).Text) + List.length ([34] : List UInt8))) ∧
(qj (List.length (x6 ++ [(UInt8.ofNat (Int.toNat (32)))]) + List.length ((([34] : List UInt8) ++ (ix (ix a0 0).Words x5).Text) ++ ([34] : List UInt8)))) ∧
(I64 (x5 + 1)) ∧
(((ix (ix a0 0).Words 0).At : Int) = (ix (ix a0 0).Words 0).At) ∧
((ix (ix a0 0).Words 0).Text = (ix (ix a0 0).Words 0).Text) ∧
((ix (ix a0 0).Words 0).Quoted = (ix (ix a0 0).Words 0).Quoted) ∧
(((ix a0 0).At : Int) = (ix a0 0).At) ∧
((ix a0 0).Words = (ix a0 0).Words) ∧
(qa a0 (x5 + 1) ((x6 ++ [(UInt8.ofNat (Int.toNat (32)))]) ++ ((([34] : List UInt8) ++ (ix (ix a0 0).Words x5).Text) ++ ([34] : List UInt8))) 0 0) ∧
 qb a0 (x5 + 1) ((x6 ++ [(UInt8.ofNat (Int.toNat (32)))]) ++ ((([34] : List UInt8) ++ (ix (ix a0 0).Words x5).Text) ++ ([34] : List UInt8))) 0 0 < qb a0 x5 x6 0 0)) ∧
(x5 ≤ 0 →
(qj (List.length ([34] : List UInt8) + List.length (ix (ix a0 0).Words x5).Text)) ∧
(qj (List.length (([34] : List UInt8) ++ (ix (ix a0 0).Words x5).Text) + List.length ([34] : List UInt8))) ∧
(qj (List.length x6 + List.length ((([34] : List UInt8) ++ (ix (ix a0 0).Words x5).Text) ++ ([34] : List UInt8)))) ∧
(I64 (x5 + 1)) ∧
(((ix (ix a0 0).Words 0).At : Int) = (ix (ix a0 0).Words 0).At) ∧
((ix (ix a0 0).Words 0).Text = (ix (ix a0 0).Words 0).Text) ∧
((ix (ix a0 0).Words 0).Quoted = (ix (ix a0 0).Words 0).Quoted) ∧
(((ix a0 0).At : Int) = (ix a0 0).At) ∧
((ix a0 0).Words = (ix a0 0).Words) ∧
(qa a0 (x5 + 1) (x6 ++ ((([34] : List UInt8) ++ (ix (ix a0 0).Words x5).Text) ++ ([34] : List UInt8))) 0 0) ∧
 qb a0 (x5 + 1) (x6 ++ ((([34] : List UInt8) ++ (ix (ix a0 0).Words x5).Text) ++ ([34] : List UInt8))) 0 0 < qb a0 x5 x6 0 0)))) ∧
((ix (ix a0 0).Words x5).Quoted = false →
((ln (ix (ix a0 0).Words x5).Text ≤ 1000000000)) ∧
(((zd (ix (ix a0 0).Words x5).Text) = false →
(([] : List UInt8) = ((qf a0).1)) ∧
((3 : Int) = ((qf a0).2)) ∧
           True)) ∧
((zd (ix (ix a0 0).Words x5).Text) = true →
((0 < x5 →
(U8 (32)) ∧
(qj (List.length x6 + List.length [(UInt8.ofNat (Int.toNat (32)))])) ∧
(qj (List.length (x6 ++ [(UInt8.ofNat (Int.toNat (32)))]) + List.length (ix (ix a0 0).Words x5).Text)) ∧
(I64 (x5 + 1)) ∧
(((ix (ix a0 0).Words 0).At : Int) = (ix (ix a0 0).Words 0).At) ∧
((ix (ix a0 0).Words 0).Text = (ix (ix a0 0).Words 0).Text) ∧
((ix (ix a0 0).Words 0).Quoted = (ix (ix a0 0).Words 0).Quoted) ∧
(((ix a0 0).At : Int) = (ix a0 0).At) ∧
((ix a0 0).Words = (ix a0 0).Words) ∧
(qa a0 (x5 + 1) ((x6 ++ [(UInt8.ofNat (Int.toNat (32)))]) ++ (ix (ix a0 0).Words x5).Text) 0 0) ∧
 qb a0 (x5 + 1) ((x6 ++ [(UInt8.ofNat (Int.toNat (32)))]) ++ (ix (ix a0 0).Words x5).Text) 0 0 < qb a0 x5 x6 0 0)) ∧
(x5 ≤ 0 →
(qj (List.length x6 + List.length (ix (ix a0 0).Words x5).Text)) ∧
(I64 (x5 + 1)) ∧
(((ix (ix a0 0).Words 0).At : Int) = (ix (ix a0 0).Words 0).At) ∧
((ix (ix a0 0).Words 0).Text = (ix (ix a0 0).Words 0).Text) ∧
((ix (ix a0 0).Words 0).Quoted = (ix (ix a0 0).Words 0).Quoted) ∧
(((ix a0 0).At : Int) = (ix a0 0).At) ∧
((ix a0 0).Words = (ix a0 0).Words) ∧
(qa a0 (x5 + 1) (x6 ++ (ix (ix a0 0).Words x5).Text) 0 0) ∧
 qb a0 (x5 + 1) (x6 ++ (ix (ix a0 0).Words x5).Text) 0 0 < qb a0 x5 x6 0 0))))) ∧
((ln (ix a0 0).Words) ≤ x5 →
(I64 ((ln x6) - 0)) ∧
((1000 < ((ln x6) - 0) →
(([] : List UInt8) = ((qf a0).1)) ∧
((4 : Int) = ((qf a0).2)) ∧
          True)) ∧
(((ln x6) - 0) ≤ 1000 →
(U8 (10)) ∧
(qj (List.length x6 + List.length [(UInt8.ofNat (Int.toNat (10)))])) ∧
((20000 < (ln (x6 ++ [(UInt8.ofNat (Int.toNat (10)))])) →
(([] : List UInt8) = ((qf a0).1)) ∧
((4 : Int) = ((qf a0).2)) ∧
           True)) ∧
((ln (x6 ++ [(UInt8.ofNat (Int.toNat (10)))])) ≤ 20000 →
(qm a0 1 (x6 ++ [(UInt8.ofNat (Int.toNat (10)))])) ∧
(∀ x11 : Int,
(∀ x12 : List UInt8,
(qm a0 x11 x12 →
((x11 < (ln a0) →
(Wn x11 (ln a0)) ∧
(((ln (ix a0 x11).Words) = 0 →
(([] : List UInt8) = ((qf a0).1)) ∧
((3 : Int) = ((qf a0).2)) ∧
                True)) ∧
((ln (ix a0 x11).Words) ≠ 0 →
((0 < (ln (ix a0 x11).Words) →
(Wn 0 (ln (ix a0 x11).Words)) ∧
(((ix (ix a0 x11).Words 0).Quoted = true →
((ln (ix (ix a0 x11).Words 0).Text ≤ 1000000000)) ∧
(((qx (ix (ix a0 x11).Words 0).Text) = false →
(([] : List UInt8) = ((qf a0).1)) ∧
((3 : Int) = ((qf a0).2)) ∧
                   True)) ∧
((qx (ix (ix a0 x11).Words 0).Text) = true →
(qj (List.length ([34] : List UInt8) + List.length (ix (ix a0 x11).Words 0).Text)) ∧
(qj (List.length (([34] : List UInt8) ++ (ix (ix a0 x11).Words 0).Text) + List.length ([34] : List UInt8))) ∧
(qj (List.length x12 + List.length ((([34] : List UInt8) ++ (ix (ix a0 x11).Words 0).Text) ++ ([34] : List UInt8)))) ∧
(qa a0 1 (x12 ++ ((([34] : List UInt8) ++ (ix (ix a0 x11).Words 0).Text) ++ ([34] : List UInt8))) x11 (ln x12)) ∧
(∀ x19 : Int,
(∀ x20 : List UInt8,
(qa a0 x19 x20 x11 (ln x12) →
((x19 < (ln (ix a0 x11).Words) →
(Wn x19 (ln (ix a0 x11).Words)) ∧
(((ix (ix a0 x11).Words x19).Quoted = true →
((ln (ix (ix a0 x11).Words x19).Text ≤ 1000000000)) ∧
(((qx (ix (ix a0 x11).Words x19).Text) = false →
(([] : List UInt8) = ((qf a0).1)) ∧
((3 : Int) = ((qf a0).2)) ∧
                         True)) ∧
((qx (ix (ix a0 x11).Words x19).Text) = true →
((0 < x19 →
(U8 (32)) ∧
(qj (List.length x20 + List.length [(UInt8.ofNat (Int.toNat (32)))])) ∧
(qj (List.length ([34] : List UInt8) + List.length (ix (ix a0 x11).Words x19).Text)) ∧
(qj (List.length (([34] : List UInt8) ++ (ix (ix a0 x11).Words x19).Text) + List.length ([34] : List UInt8))) ∧
(qj (List.length (x20 ++ [(UInt8.ofNat (Int.toNat (32)))]) + List.length ((([34] : List UInt8) ++ (ix (ix a0 x11).Words x19).Text) ++ ([34] : List UInt8)))) ∧
(I64 (x19 + 1)) ∧
(((ix (ix a0 x11).Words 0).At : Int) = (ix (ix a0 x11).Words 0).At) ∧
((ix (ix a0 x11).Words 0).Text = (ix (ix a0 x11).Words 0).Text) ∧
((ix (ix a0 x11).Words 0).Quoted = (ix (ix a0 x11).Words 0).Quoted) ∧
(((ix a0 x11).At : Int) = (ix a0 x11).At) ∧
((ix a0 x11).Words = (ix a0 x11).Words) ∧
(((ix (ix a0 0).Words 0).At : Int) = (ix (ix a0 0).Words 0).At) ∧
((ix (ix a0 0).Words 0).Text = (ix (ix a0 0).Words 0).Text) ∧
((ix (ix a0 0).Words 0).Quoted = (ix (ix a0 0).Words 0).Quoted) ∧
(((ix a0 0).At : Int) = (ix a0 0).At) ∧
((ix a0 0).Words = (ix a0 0).Words) ∧
(qa a0 (x19 + 1) ((x20 ++ [(UInt8.ofNat (Int.toNat (32)))]) ++ ((([34] : List UInt8) ++ (ix (ix a0 x11).Words x19).Text) ++ ([34] : List UInt8))) x11 (ln x12)) ∧
 qb a0 (x19 + 1) ((x20 ++ [(UInt8.ofNat (Int.toNat (32)))]) ++ ((([34] : List UInt8) ++ (ix (ix a0 x11).Words x19).Text) ++ ([34] : List UInt8))) x11 (ln x12) < qb a0 x19 x20 x11 (ln x12))) ∧
(x19 ≤ 0 →
(qj (List.length ([34] : List UInt8) + List.length (ix (ix a0 x11).Words x19).Text)) ∧
(qj (List.length (([34] : List UInt8) ++ (ix (ix a0 x11).Words x19).Text) + List.length ([34] : List UInt8))) ∧
(qj (List.length x20 + List.length ((([34] : List UInt8) ++ (ix (ix a0 x11).Words x19).Text) ++ ([34] : List UInt8)))) ∧
(I64 (x19 + 1)) ∧
(((ix (ix a0 x11).Words 0).At : Int) = (ix (ix a0 x11).Words 0).At) ∧
((ix (ix a0 x11).Words 0).Text = (ix (ix a0 x11).Words 0).Text) ∧
((ix (ix a0 x11).Words 0).Quoted = (ix (ix a0 x11).Words 0).Quoted) ∧
(((ix a0 x11).At : Int) = (ix a0 x11).At) ∧
((ix a0 x11).Words = (ix a0 x11).Words) ∧
(((ix (ix a0 0).Words 0).At : Int) = (ix (ix a0 0).Words 0).At) ∧
((ix (ix a0 0).Words 0).Text = (ix (ix a0 0).Words 0).Text) ∧
((ix (ix a0 0).Words 0).Quoted = (ix (ix a0 0).Words 0).Quoted) ∧
(((ix a0 0).At : Int) = (ix a0 0).At) ∧
((ix a0 0).Words = (ix a0 0).Words) ∧
(qa a0 (x19 + 1) (x20 ++ ((([34] : List UInt8) ++ (ix (ix a0 x11).Words x19).Text) ++ ([34] : List UInt8))) x11 (ln x12)) ∧
 qb a0 (x19 + 1) (x20 ++ ((([34] : List UInt8) ++ (ix (ix a0 x11).Words x19).Text) ++ ([34] : List UInt8))) x11 (ln x12) < qb a0 x19 x20 x11 (ln x12))))) ∧
((ix (ix a0 x11).Words x19).Quoted = false →
((ln (ix (ix a0 x11).Words x19).Text ≤ 1000000000)) ∧
(((zd (ix (ix a0 x11).Words x19).Text) = false →
(([] : List UInt8) = ((qf a0).1)) ∧
((3 : Int) = ((qf a0).2)) ∧
                         True)) ∧
((zd (ix (ix a0 x11).Words x19).Text) = true →
((0 < x19 →
(U8 (32)) ∧
(qj (List.length x20 + List.length [(UInt8.ofNat (Int.toNat (32)))])) ∧
(qj (List.length (x20 ++ [(UInt8.ofNat (Int.toNat (32)))]) + List.length (ix (ix a0 x11).Words x19).Text)) ∧
(I64 (x19 + 1)) ∧
(((ix (ix a0 x11).Words 0).At : Int) = (ix (ix a0 x11).Words 0).At) ∧
((ix (ix a0 x11).Words 0).Text = (ix (ix a0 x11).Words 0).Text) ∧
((ix (ix a0 x11).Words 0).Quoted = (ix (ix a0 x11).Words 0).Quoted) ∧
(((ix a0 x11).At : Int) = (ix a0 x11).At) ∧
((ix a0 x11).Words = (ix a0 x11).Words) ∧
(((ix (ix a0 0).Words 0).At : Int) = (ix (ix a0 0).Words 0).At) ∧
((ix (ix a0 0).Words 0).Text = (ix (ix a0 0).Words 0).Text) ∧
((ix (ix a0 0).Words 0).Quoted = (ix (ix a0 0).Words 0).Quoted) ∧
(((ix a0 0).At : Int) = (ix a0 0).At) ∧
((ix a0 0).Words = (ix a0 0).Words) ∧
(qa a0 (x19 + 1) ((x20 ++ [(UInt8.ofNat (Int.toNat (32)))]) ++ (ix (ix a0 x11).Words x19).Text) x11 (ln x12)) ∧
 qb a0 (x19 + 1) ((x20 ++ [(UInt8.ofNat (Int.toNat (32)))]) ++ (ix (ix a0 x11).Words x19).Text) x11 (ln x12) < qb a0 x19 x20 x11 (ln x12))) ∧
(x19 ≤ 0 →
(qj (List.length x20 + List.length (ix (ix a0 x11).Words x19).Text)) ∧
(I64 (x19 + 1)) ∧
(((ix (ix a0 x11).Words 0).At : Int) = (ix (ix a0 x11).Words 0).At) ∧
((ix (ix a0 x11).Words 0).Text = (ix (ix a0 x11).Words 0).Text) ∧
((ix (ix a0 x11).Words 0).Quoted = (ix (ix a0 x11).Words 0).Quoted) ∧
(((ix a0 x11).At : Int) = (ix a0 x11).At) ∧
((ix a0 x11).Words = (ix a0 x11).Words) ∧
(((ix (ix a0 0).Words 0).At : Int) = (ix (ix a0 0).Words 0).At) ∧
((ix (ix a0 0).Words 0).Text = (ix (ix a0 0).Words 0).Text) ∧
((ix (ix a0 0).Words 0).Quoted = (ix (ix a0 0).Words 0).Quoted) ∧
(((ix a0 0).At : Int) = (ix a0 0).At) ∧
((ix a0 0).Words = (ix a0 0).Words) ∧
(qa a0 (x19 + 1) (x20 ++ (ix (ix a0 x11).Words x19).Text) x11 (ln x12)) ∧
 qb a0 (x19 + 1) (x20 ++ (ix (ix a0 x11).Words x19).Text) x11 (ln x12) < qb a0 x19 x20 x11 (ln x12)))))) ∧
((ln (ix a0 x11).Words) ≤ x19 →
(I64 ((ln x20) - (ln x12))) ∧
((1000 < ((ln x20) - (ln x12)) →
(([] : List UInt8) = ((qf a0).1)) ∧
((4 : Int) = ((qf a0).2)) ∧
                        True)) ∧
(((ln x20) - (ln x12)) ≤ 1000 →
(U8 (10)) ∧
(qj (List.length x20 + List.length [(UInt8.ofNat (Int.toNat (10)))])) ∧
((20000 < (ln (x20 ++ [(UInt8.ofNat (Int.toNat (10)))])) →
(([] : List UInt8) = ((qf a0).1)) ∧
((4 : Int) = ((qf a0).2)) ∧
                         True)) ∧
((ln (x20 ++ [(UInt8.ofNat (Int.toNat (10)))])) ≤ 20000 →
(I64 (x11 + 1)) ∧
(((ix (ix a0 0).Words 0).At : Int) = (ix (ix a0 0).Words 0).At) ∧
((ix (ix a0 0).Words 0).Text = (ix (ix a0 0).Words 0).Text) ∧
((ix (ix a0 0).Words 0).Quoted = (ix (ix a0 0).Words 0).Quoted) ∧
(((ix a0 0).At : Int) = (ix a0 0).At) ∧
((ix a0 0).Words = (ix a0 0).Words) ∧
(qm a0 (x11 + 1) (x20 ++ [(UInt8.ofNat (Int.toNat (10)))])) ∧
 qz a0 (x11 + 1) (x20 ++ [(UInt8.ofNat (Int.toNat (10)))]) < qz a0 x11 x12))))))))) ∧
((ix (ix a0 x11).Words 0).Quoted = false →
((ln (ix (ix a0 x11).Words 0).Text ≤ 1000000000)) ∧
(((zd (ix (ix a0 x11).Words 0).Text) = false →
(([] : List UInt8) = ((qf a0).1)) ∧
((3 : Int) = ((qf a0).2)) ∧
                   True)) ∧
((zd (ix (ix a0 x11).Words 0).Text) = true →
(qj (List.length x12 + List.length (ix (ix a0 x11).Words 0).Text)) ∧
(qa a0 1 (x12 ++ (ix (ix a0 x11).Words 0).Text) x11 (ln x12)) ∧
(∀ x19 : Int,
(∀ x20 : List UInt8,
(qa a0 x19 x20 x11 (ln x12) →
((x19 < (ln (ix a0 x11).Words) →
(Wn x19 (ln (ix a0 x11).Words)) ∧
(((ix (ix a0 x11).Words x19).Quoted = true →
((ln (ix (ix a0 x11).Words x19).Text ≤ 1000000000)) ∧
(((qx (ix (ix a0 x11).Words x19).Text) = false →
(([] : List UInt8) = ((qf a0).1)) ∧
((3 : Int) = ((qf a0).2)) ∧
                         True)) ∧
((qx (ix (ix a0 x11).Words x19).Text) = true →
((0 < x19 →
(U8 (32)) ∧
(qj (List.length x20 + List.length [(UInt8.ofNat (Int.toNat (32)))])) ∧
(qj (List.length ([34] : List UInt8) + List.length (ix (ix a0 x11).Words x19).Text)) ∧
(qj (List.length (([34] : List UInt8) ++ (ix (ix a0 x11).Words x19).Text) + List.length ([34] : List UInt8))) ∧
(qj (List.length (x20 ++ [(UInt8.ofNat (Int.toNat (32)))]) + List.length ((([34] : List UInt8) ++ (ix (ix a0 x11).Words x19).Text) ++ ([34] : List UInt8)))) ∧
(I64 (x19 + 1)) ∧
(((ix (ix a0 x11).Words 0).At : Int) = (ix (ix a0 x11).Words 0).At) ∧
((ix (ix a0 x11).Words 0).Text = (ix (ix a0 x11).Words 0).Text) ∧
((ix (ix a0 x11).Words 0).Quoted = (ix (ix a0 x11).Words 0).Quoted) ∧
(((ix a0 x11).At : Int) = (ix a0 x11).At) ∧
((ix a0 x11).Words = (ix a0 x11).Words) ∧
(((ix (ix a0 0).Words 0).At : Int) = (ix (ix a0 0).Words 0).At) ∧
((ix (ix a0 0).Words 0).Text = (ix (ix a0 0).Words 0).Text) ∧
((ix (ix a0 0).Words 0).Quoted = (ix (ix a0 0).Words 0).Quoted) ∧
(((ix a0 0).At : Int) = (ix a0 0).At) ∧
((ix a0 0).Words = (ix a0 0).Words) ∧
(qa a0 (x19 + 1) ((x20 ++ [(UInt8.ofNat (Int.toNat (32)))]) ++ ((([34] : List UInt8) ++ (ix (ix a0 x11).Words x19).Text) ++ ([34] : List UInt8))) x11 (ln x12)) ∧
 qb a0 (x19 + 1) ((x20 ++ [(UInt8.ofNat (Int.toNat (32)))]) ++ ((([34] : List UInt8) ++ (ix (ix a0 x11).Words x19).Text) ++ ([34] : List UInt8))) x11 (ln x12) < qb a0 x19 x20 x11 (ln x12))) ∧
(x19 ≤ 0 →
(qj (List.length ([34] : List UInt8) + List.length (ix (ix a0 x11).Words x19).Text)) ∧
(qj (List.length (([34] : List UInt8) ++ (ix (ix a0 x11).Words x19).Text) + List.length ([34] : List UInt8))) ∧
(qj (List.length x20 + List.length ((([34] : List UInt8) ++ (ix (ix a0 x11).Words x19).Text) ++ ([34] : List UInt8)))) ∧
(I64 (x19 + 1)) ∧
(((ix (ix a0 x11).Words 0).At : Int) = (ix (ix a0 x11).Words 0).At) ∧
((ix (ix a0 x11).Words 0).Text = (ix (ix a0 x11).Words 0).Text) ∧
((ix (ix a0 x11).Words 0).Quoted = (ix (ix a0 x11).Words 0).Quoted) ∧
(((ix a0 x11).At : Int) = (ix a0 x11).At) ∧
((ix a0 x11).Words = (ix a0 x11).Words) ∧
(((ix (ix a0 0).Words 0).At : Int) = (ix (ix a0 0).Words 0).At) ∧
((ix (ix a0 0).Words 0).Text = (ix (ix a0 0).Words 0).Text) ∧
((ix (ix a0 0).Words 0).Quoted = (ix (ix a0 0).Words 0).Quoted) ∧
(((ix a0 0).At : Int) = (ix a0 0).At) ∧
((ix a0 0).Words = (ix a0 0).Words) ∧
(qa a0 (x19 + 1) (x20 ++ ((([34] : List UInt8) ++ (ix (ix a0 x11).Words x19).Text) ++ ([34] : List UInt8))) x11 (ln x12)) ∧
 qb a0 (x19 + 1) (x20 ++ ((([34] : List UInt8) ++ (ix (ix a0 x11).Words x19).Text) ++ ([34] : List UInt8))) x11 (ln x12) < qb a0 x19 x20 x11 (ln x12))))) ∧
((ix (ix a0 x11).Words x19).Quoted = false →
((ln (ix (ix a0 x11).Words x19).Text ≤ 1000000000)) ∧
(((zd (ix (ix a0 x11).Words x19).Text) = false →
(([] : List UInt8) = ((qf a0).1)) ∧
((3 : Int) = ((qf a0).2)) ∧
                         True)) ∧
((zd (ix (ix a0 x11).Words x19).Text) = true →
((0 < x19 →
(U8 (32)) ∧
(qj (List.length x20 + List.length [(UInt8.ofNat (Int.toNat (32)))])) ∧
(qj (List.length (x20 ++ [(UInt8.ofNat (Int.toNat (32)))]) + List.length (ix (ix a0 x11).Words x19).Text)) ∧
(I64 (x19 + 1)) ∧
(((ix (ix a0 x11).Words 0).At : Int) = (ix (ix a0 x11).Words 0).At) ∧
((ix (ix a0 x11).Words 0).Text = (ix (ix a0 x11).Words 0).Text) ∧
((ix (ix a0 x11).Words 0).Quoted = (ix (ix a0 x11).Words 0).Quoted) ∧
(((ix a0 x11).At : Int) = (ix a0 x11).At) ∧
((ix a0 x11).Words = (ix a0 x11).Words) ∧
(((ix (ix a0 0).Words 0).At : Int) = (ix (ix a0 0).Words 0).At) ∧
((ix (ix a0 0).Words 0).Text = (ix (ix a0 0).Words 0).Text) ∧
((ix (ix a0 0).Words 0).Quoted = (ix (ix a0 0).Words 0).Quoted) ∧
(((ix a0 0).At : Int) = (ix a0 0).At) ∧
((ix a0 0).Words = (ix a0 0).Words) ∧
(qa a0 (x19 + 1) ((x20 ++ [(UInt8.ofNat (Int.toNat (32)))]) ++ (ix (ix a0 x11).Words x19).Text) x11 (ln x12)) ∧
 qb a0 (x19 + 1) ((x20 ++ [(UInt8.ofNat (Int.toNat (32)))]) ++ (ix (ix a0 x11).Words x19).Text) x11 (ln x12) < qb a0 x19 x20 x11 (ln x12))) ∧
(x19 ≤ 0 →
(qj (List.length x20 + List.length (ix (ix a0 x11).Words x19).Text)) ∧
(I64 (x19 + 1)) ∧
(((ix (ix a0 x11).Words 0).At : Int) = (ix (ix a0 x11).Words 0).At) ∧
((ix (ix a0 x11).Words 0).Text = (ix (ix a0 x11).Words 0).Text) ∧
((ix (ix a0 x11).Words 0).Quoted = (ix (ix a0 x11).Words 0).Quoted) ∧
(((ix a0 x11).At : Int) = (ix a0 x11).At) ∧
((ix a0 x11).Words = (ix a0 x11).Words) ∧
(((ix (ix a0 0).Words 0).At : Int) = (ix (ix a0 0).Words 0).At) ∧
((ix (ix a0 0).Words 0).Text = (ix (ix a0 0).Words 0).Text) ∧
((ix (ix a0 0).Words 0).Quoted = (ix (ix a0 0).Words 0).Quoted) ∧
(((ix a0 0).At : Int) = (ix a0 0).At) ∧
((ix a0 0).Words = (ix a0 0).Words) ∧
(qa a0 (x19 + 1) (x20 ++ (ix (ix a0 x11).Words x19).Text) x11 (ln x12)) ∧
 qb a0 (x19 + 1) (x20 ++ (ix (ix a0 x11).Words x19).Text) x11 (ln x12) < qb a0 x19 x20 x11 (ln x12)))))) ∧
((ln (ix a0 x11).Words) ≤ x19 →
(I64 ((ln x20) - (ln x12))) ∧
((1000 < ((ln x20) - (ln x12)) →
(([] : List UInt8) = ((qf a0).1)) ∧
((4 : Int) = ((qf a0).2)) ∧
                        True)) ∧
(((ln x20) - (ln x12)) ≤ 1000 →
(U8 (10)) ∧
(qj (List.length x20 + List.length [(UInt8.ofNat (Int.toNat (10)))])) ∧
((20000 < (ln (x20 ++ [(UInt8.ofNat (Int.toNat (10)))])) →
(([] : List UInt8) = ((qf a0).1)) ∧
((4 : Int) = ((qf a0).2)) ∧
                         True)) ∧
((ln (x20 ++ [(UInt8.ofNat (Int.toNat (10)))])) ≤ 20000 →
(I64 (x11 + 1)) ∧
(((ix (ix a0 0).Words 0).At : Int) = (ix (ix a0 0).Words 0).At) ∧
((ix (ix a0 0).Words 0).Text = (ix (ix a0 0).Words 0).Text) ∧
((ix (ix a0 0).Words 0).Quoted = (ix (ix a0 0).Words 0).Quoted) ∧
(((ix a0 0).At : Int) = (ix a0 0).At) ∧
((ix a0 0).Words = (ix a0 0).Words) ∧
(qm a0 (x11 + 1) (x20 ++ [(UInt8.ofNat (Int.toNat (10)))])) ∧
 qz a0 (x11 + 1) (x20 ++ [(UInt8.ofNat (Int.toNat (10)))]) < qz a0 x11 x12)))))))))) ∧
((ln (ix a0 x11).Words) ≤ 0 →
(I64 ((ln x12) - (ln x12))) ∧
((1000 < ((ln x12) - (ln x12)) →
(([] : List UInt8) = ((qf a0).1)) ∧
((4 : Int) = ((qf a0).2)) ∧
                  True)) ∧
(((ln x12) - (ln x12)) ≤ 1000 →
(U8 (10)) ∧
(qj (List.length x12 + List.length [(UInt8.ofNat (Int.toNat (10)))])) ∧
((20000 < (ln (x12 ++ [(UInt8.ofNat (Int.toNat (10)))])) →
(([] : List UInt8) = ((qf a0).1)) ∧
((4 : Int) = ((qf a0).2)) ∧
                   True)) ∧
((ln (x12 ++ [(UInt8.ofNat (Int.toNat (10)))])) ≤ 20000 →
(I64 (x11 + 1)) ∧
(((ix (ix a0 0).Words 0).At : Int) = (ix (ix a0 0).Words 0).At) ∧
((ix (ix a0 0).Words 0).Text = (ix (ix a0 0).Words 0).Text) ∧
((ix (ix a0 0).Words 0).Quoted = (ix (ix a0 0).Words 0).Quoted) ∧
(((ix a0 0).At : Int) = (ix a0 0).At) ∧
((ix a0 0).Words = (ix a0 0).Words) ∧
(qm a0 (x11 + 1) (x12 ++ [(UInt8.ofNat (Int.toNat (10)))])) ∧
 qz a0 (x11 + 1) (x12 ++ [(UInt8.ofNat (Int.toNat (10)))]) < qz a0 x11 x12)))))) ∧
((ln a0) ≤ x11 →
((ln x12) ≤ 140737488355328) ∧
(x12 = ((qf a0).1)) ∧
((0 : Int) = ((qf a0).2)) ∧
               True)))))))))))))) ∧
((ln (ix a0 0).Words) ≤ 0 →
(U8 (10)) ∧
(qj (List.length ([] : List UInt8) + List.length [(UInt8.ofNat (Int.toNat (10)))])) ∧
((20000 < (ln (([] : List UInt8) ++ [(UInt8.ofNat (Int.toNat (10)))])) →
(([] : List UInt8) = ((qf a0).1)) ∧
((4 : Int) = ((qf a0).2)) ∧
    True)) ∧
((ln (([] : List UInt8) ++ [(UInt8.ofNat (Int.toNat (10)))])) ≤ 20000 →
(qm a0 1 (([] : List UInt8) ++ [(UInt8.ofNat (Int.toNat (10)))])) ∧
(∀ x4 : Int,
(∀ x5 : List UInt8,
(qm a0 x4 x5 →
((x4 < (ln a0) →
(Wn x4 (ln a0)) ∧
(((ln (ix a0 x4).Words) = 0 →
(([] : List UInt8) = ((qf a0).1)) ∧
((3 : Int) = ((qf a0).2)) ∧
         True)) ∧
((ln (ix a0 x4).Words) ≠ 0 →
((0 < (ln (ix a0 x4).Words) →
(Wn 0 (ln (ix a0 x4).Words)) ∧
(((ix (ix a0 x4).Words 0).Quoted = true →
((ln (ix (ix a0 x4).Words 0).Text ≤ 1000000000)) ∧
(((qx (ix (ix a0 x4).Words 0).Text) = false →
(([] : List UInt8) = ((qf a0).1)) ∧
((3 : Int) = ((qf a0).2)) ∧
            True)) ∧
((qx (ix (ix a0 x4).Words 0).Text) = true →
(qj (List.length ([34] : List UInt8) + List.length (ix (ix a0 x4).Words 0).Text)) ∧
(qj (List.length (([34] : List UInt8) ++ (ix (ix a0 x4).Words 0).Text) + List.length ([34] : List UInt8))) ∧
(qj (List.length x5 + List.length ((([34] : List UInt8) ++ (ix (ix a0 x4).Words 0).Text) ++ ([34] : List UInt8)))) ∧
(qa a0 1 (x5 ++ ((([34] : List UInt8) ++ (ix (ix a0 x4).Words 0).Text) ++ ([34] : List UInt8))) x4 (ln x5)) ∧
(∀ x12 : Int,
(∀ x13 : List UInt8,
(qa a0 x12 x13 x4 (ln x5) →
((x12 < (ln (ix a0 x4).Words) →
(Wn x12 (ln (ix a0 x4).Words)) ∧
(((ix (ix a0 x4).Words x12).Quoted = true →
((ln (ix (ix a0 x4).Words x12).Text ≤ 1000000000)) ∧
(((qx (ix (ix a0 x4).Words x12).Text) = false →
(([] : List UInt8) = ((qf a0).1)) ∧
((3 : Int) = ((qf a0).2)) ∧
                  True)) ∧
((qx (ix (ix a0 x4).Words x12).Text) = true →
((0 < x12 →
(U8 (32)) ∧
(qj (List.length x13 + List.length [(UInt8.ofNat (Int.toNat (32)))])) ∧
(qj (List.length ([34] : List UInt8) + List.length (ix (ix a0 x4).Words x12).Text)) ∧
(qj (List.length (([34] : List UInt8) ++ (ix (ix a0 x4).Words x12).Text) + List.length ([34] : List UInt8))) ∧
(qj (List.length (x13 ++ [(UInt8.ofNat (Int.toNat (32)))]) + List.length ((([34] : List UInt8) ++ (ix (ix a0 x4).Words x12).Text) ++ ([34] : List UInt8)))) ∧
(I64 (x12 + 1)) ∧
(((ix (ix a0 x4).Words 0).At : Int) = (ix (ix a0 x4).Words 0).At) ∧
((ix (ix a0 x4).Words 0).Text = (ix (ix a0 x4).Words 0).Text) ∧
((ix (ix a0 x4).Words 0).Quoted = (ix (ix a0 x4).Words 0).Quoted) ∧
(((ix a0 x4).At : Int) = (ix a0 x4).At) ∧
((ix a0 x4).Words = (ix a0 x4).Words) ∧
(((ix a0 0).At : Int) = (ix a0 0).At) ∧
((ix a0 0).Words = (ix a0 0).Words) ∧
(qa a0 (x12 + 1) ((x13 ++ [(UInt8.ofNat (Int.toNat (32)))]) ++ ((([34] : List UInt8) ++ (ix (ix a0 x4).Words x12).Text) ++ ([34] : List UInt8))) x4 (ln x5)) ∧
 qb a0 (x12 + 1) ((x13 ++ [(UInt8.ofNat (Int.toNat (32)))]) ++ ((([34] : List UInt8) ++ (ix (ix a0 x4).Words x12).Text) ++ ([34] : List UInt8))) x4 (ln x5) < qb a0 x12 x13 x4 (ln x5))) ∧
(x12 ≤ 0 →
(qj (List.length ([34] : List UInt8) + List.length (ix (ix a0 x4).Words x12).Text)) ∧
(qj (List.length (([34] : List UInt8) ++ (ix (ix a0 x4).Words x12).Text) + List.length ([34] : List UInt8))) ∧
(qj (List.length x13 + List.length ((([34] : List UInt8) ++ (ix (ix a0 x4).Words x12).Text) ++ ([34] : List UInt8)))) ∧
(I64 (x12 + 1)) ∧
(((ix (ix a0 x4).Words 0).At : Int) = (ix (ix a0 x4).Words 0).At) ∧
((ix (ix a0 x4).Words 0).Text = (ix (ix a0 x4).Words 0).Text) ∧
((ix (ix a0 x4).Words 0).Quoted = (ix (ix a0 x4).Words 0).Quoted) ∧
(((ix a0 x4).At : Int) = (ix a0 x4).At) ∧
((ix a0 x4).Words = (ix a0 x4).Words) ∧
(((ix a0 0).At : Int) = (ix a0 0).At) ∧
((ix a0 0).Words = (ix a0 0).Words) ∧
(qa a0 (x12 + 1) (x13 ++ ((([34] : List UInt8) ++ (ix (ix a0 x4).Words x12).Text) ++ ([34] : List UInt8))) x4 (ln x5)) ∧
 qb a0 (x12 + 1) (x13 ++ ((([34] : List UInt8) ++ (ix (ix a0 x4).Words x12).Text) ++ ([34] : List UInt8))) x4 (ln x5) < qb a0 x12 x13 x4 (ln x5))))) ∧
((ix (ix a0 x4).Words x12).Quoted = false →
((ln (ix (ix a0 x4).Words x12).Text ≤ 1000000000)) ∧
(((zd (ix (ix a0 x4).Words x12).Text) = false →
(([] : List UInt8) = ((qf a0).1)) ∧
((3 : Int) = ((qf a0).2)) ∧
                  True)) ∧
((zd (ix (ix a0 x4).Words x12).Text) = true →
((0 < x12 →
(U8 (32)) ∧
(qj (List.length x13 + List.length [(UInt8.ofNat (Int.toNat (32)))])) ∧
(qj (List.length (x13 ++ [(UInt8.ofNat (Int.toNat (32)))]) + List.length (ix (ix a0 x4).Words x12).Text)) ∧
(I64 (x12 + 1)) ∧
(((ix (ix a0 x4).Words 0).At : Int) = (ix (ix a0 x4).Words 0).At) ∧
((ix (ix a0 x4).Words 0).Text = (ix (ix a0 x4).Words 0).Text) ∧
((ix (ix a0 x4).Words 0).Quoted = (ix (ix a0 x4).Words 0).Quoted) ∧
(((ix a0 x4).At : Int) = (ix a0 x4).At) ∧
((ix a0 x4).Words = (ix a0 x4).Words) ∧
(((ix a0 0).At : Int) = (ix a0 0).At) ∧
((ix a0 0).Words = (ix a0 0).Words) ∧
(qa a0 (x12 + 1) ((x13 ++ [(UInt8.ofNat (Int.toNat (32)))]) ++ (ix (ix a0 x4).Words x12).Text) x4 (ln x5)) ∧
 qb a0 (x12 + 1) ((x13 ++ [(UInt8.ofNat (Int.toNat (32)))]) ++ (ix (ix a0 x4).Words x12).Text) x4 (ln x5) < qb a0 x12 x13 x4 (ln x5))) ∧
(x12 ≤ 0 →
(qj (List.length x13 + List.length (ix (ix a0 x4).Words x12).Text)) ∧
(I64 (x12 + 1)) ∧
(((ix (ix a0 x4).Words 0).At : Int) = (ix (ix a0 x4).Words 0).At) ∧
((ix (ix a0 x4).Words 0).Text = (ix (ix a0 x4).Words 0).Text) ∧
((ix (ix a0 x4).Words 0).Quoted = (ix (ix a0 x4).Words 0).Quoted) ∧
(((ix a0 x4).At : Int) = (ix a0 x4).At) ∧
((ix a0 x4).Words = (ix a0 x4).Words) ∧
(((ix a0 0).At : Int) = (ix a0 0).At) ∧
((ix a0 0).Words = (ix a0 0).Words) ∧
(qa a0 (x12 + 1) (x13 ++ (ix (ix a0 x4).Words x12).Text) x4 (ln x5)) ∧
 qb a0 (x12 + 1) (x13 ++ (ix (ix a0 x4).Words x12).Text) x4 (ln x5) < qb a0 x12 x13 x4 (ln x5)))))) ∧
((ln (ix a0 x4).Words) ≤ x12 →
(I64 ((ln x13) - (ln x5))) ∧
((1000 < ((ln x13) - (ln x5)) →
(([] : List UInt8) = ((qf a0).1)) ∧
((4 : Int) = ((qf a0).2)) ∧
                 True)) ∧
(((ln x13) - (ln x5)) ≤ 1000 →
(U8 (10)) ∧
(qj (List.length x13 + List.length [(UInt8.ofNat (Int.toNat (10)))])) ∧
((20000 < (ln (x13 ++ [(UInt8.ofNat (Int.toNat (10)))])) →
(([] : List UInt8) = ((qf a0).1)) ∧
((4 : Int) = ((qf a0).2)) ∧
                  True)) ∧
((ln (x13 ++ [(UInt8.ofNat (Int.toNat (10)))])) ≤ 20000 →
(I64 (x4 + 1)) ∧
(((ix a0 0).At : Int) = (ix a0 0).At) ∧
((ix a0 0).Words = (ix a0 0).Words) ∧
(qm a0 (x4 + 1) (x13 ++ [(UInt8.ofNat (Int.toNat (10)))])) ∧
 qz a0 (x4 + 1) (x13 ++ [(UInt8.ofNat (Int.toNat (10)))]) < qz a0 x4 x5))))))))) ∧
((ix (ix a0 x4).Words 0).Quoted = false →
((ln (ix (ix a0 x4).Words 0).Text ≤ 1000000000)) ∧
(((zd (ix (ix a0 x4).Words 0).Text) = false →
(([] : List UInt8) = ((qf a0).1)) ∧
((3 : Int) = ((qf a0).2)) ∧
            True)) ∧
((zd (ix (ix a0 x4).Words 0).Text) = true →
(qj (List.length x5 + List.length (ix (ix a0 x4).Words 0).Text)) ∧
(qa a0 1 (x5 ++ (ix (ix a0 x4).Words 0).Text) x4 (ln x5)) ∧
(∀ x12 : Int,
(∀ x13 : List UInt8,
(qa a0 x12 x13 x4 (ln x5) →
((x12 < (ln (ix a0 x4).Words) →
(Wn x12 (ln (ix a0 x4).Words)) ∧
(((ix (ix a0 x4).Words x12).Quoted = true →
((ln (ix (ix a0 x4).Words x12).Text ≤ 1000000000)) ∧
(((qx (ix (ix a0 x4).Words x12).Text) = false →
(([] : List UInt8) = ((qf a0).1)) ∧
((3 : Int) = ((qf a0).2)) ∧
                  True)) ∧
((qx (ix (ix a0 x4).Words x12).Text) = true →
((0 < x12 →
(U8 (32)) ∧
(qj (List.length x13 + List.length [(UInt8.ofNat (Int.toNat (32)))])) ∧
(qj (List.length ([34] : List UInt8) + List.length (ix (ix a0 x4).Words x12).Text)) ∧
(qj (List.length (([34] : List UInt8) ++ (ix (ix a0 x4).Words x12).Text) + List.length ([34] : List UInt8))) ∧
(qj (List.length (x13 ++ [(UInt8.ofNat (Int.toNat (32)))]) + List.length ((([34] : List UInt8) ++ (ix (ix a0 x4).Words x12).Text) ++ ([34] : List UInt8)))) ∧
(I64 (x12 + 1)) ∧
(((ix (ix a0 x4).Words 0).At : Int) = (ix (ix a0 x4).Words 0).At) ∧
((ix (ix a0 x4).Words 0).Text = (ix (ix a0 x4).Words 0).Text) ∧
((ix (ix a0 x4).Words 0).Quoted = (ix (ix a0 x4).Words 0).Quoted) ∧
(((ix a0 x4).At : Int) = (ix a0 x4).At) ∧
((ix a0 x4).Words = (ix a0 x4).Words) ∧
(((ix a0 0).At : Int) = (ix a0 0).At) ∧
((ix a0 0).Words = (ix a0 0).Words) ∧
(qa a0 (x12 + 1) ((x13 ++ [(UInt8.ofNat (Int.toNat (32)))]) ++ ((([34] : List UInt8) ++ (ix (ix a0 x4).Words x12).Text) ++ ([34] : List UInt8))) x4 (ln x5)) ∧
 qb a0 (x12 + 1) ((x13 ++ [(UInt8.ofNat (Int.toNat (32)))]) ++ ((([34] : List UInt8) ++ (ix (ix a0 x4).Words x12).Text) ++ ([34] : List UInt8))) x4 (ln x5) < qb a0 x12 x13 x4 (ln x5))) ∧
(x12 ≤ 0 →
(qj (List.length ([34] : List UInt8) + List.length (ix (ix a0 x4).Words x12).Text)) ∧
(qj (List.length (([34] : List UInt8) ++ (ix (ix a0 x4).Words x12).Text) + List.length ([34] : List UInt8))) ∧
(qj (List.length x13 + List.length ((([34] : List UInt8) ++ (ix (ix a0 x4).Words x12).Text) ++ ([34] : List UInt8)))) ∧
(I64 (x12 + 1)) ∧
(((ix (ix a0 x4).Words 0).At : Int) = (ix (ix a0 x4).Words 0).At) ∧
((ix (ix a0 x4).Words 0).Text = (ix (ix a0 x4).Words 0).Text) ∧
((ix (ix a0 x4).Words 0).Quoted = (ix (ix a0 x4).Words 0).Quoted) ∧
(((ix a0 x4).At : Int) = (ix a0 x4).At) ∧
((ix a0 x4).Words = (ix a0 x4).Words) ∧
(((ix a0 0).At : Int) = (ix a0 0).At) ∧
((ix a0 0).Words = (ix a0 0).Words) ∧
(qa a0 (x12 + 1) (x13 ++ ((([34] : List UInt8) ++ (ix (ix a0 x4).Words x12).Text) ++ ([34] : List UInt8))) x4 (ln x5)) ∧
 qb a0 (x12 + 1) (x13 ++ ((([34] : List UInt8) ++ (ix (ix a0 x4).Words x12).Text) ++ ([34] : List UInt8))) x4 (ln x5) < qb a0 x12 x13 x4 (ln x5))))) ∧
((ix (ix a0 x4).Words x12).Quoted = false →
((ln (ix (ix a0 x4).Words x12).Text ≤ 1000000000)) ∧
(((zd (ix (ix a0 x4).Words x12).Text) = false →
(([] : List UInt8) = ((qf a0).1)) ∧
((3 : Int) = ((qf a0).2)) ∧
                  True)) ∧
((zd (ix (ix a0 x4).Words x12).Text) = true →
((0 < x12 →
(U8 (32)) ∧
(qj (List.length x13 + List.length [(UInt8.ofNat (Int.toNat (32)))])) ∧
(qj (List.length (x13 ++ [(UInt8.ofNat (Int.toNat (32)))]) + List.length (ix (ix a0 x4).Words x12).Text)) ∧
(I64 (x12 + 1)) ∧
(((ix (ix a0 x4).Words 0).At : Int) = (ix (ix a0 x4).Words 0).At) ∧
((ix (ix a0 x4).Words 0).Text = (ix (ix a0 x4).Words 0).Text) ∧
((ix (ix a0 x4).Words 0).Quoted = (ix (ix a0 x4).Words 0).Quoted) ∧
(((ix a0 x4).At : Int) = (ix a0 x4).At) ∧
((ix a0 x4).Words = (ix a0 x4).Words) ∧
(((ix a0 0).At : Int) = (ix a0 0).At) ∧
((ix a0 0).Words = (ix a0 0).Words) ∧
(qa a0 (x12 + 1) ((x13 ++ [(UInt8.ofNat (Int.toNat (32)))]) ++ (ix (ix a0 x4).Words x12).Text) x4 (ln x5)) ∧
 qb a0 (x12 + 1) ((x13 ++ [(UInt8.ofNat (Int.toNat (32)))]) ++ (ix (ix a0 x4).Words x12).Text) x4 (ln x5) < qb a0 x12 x13 x4 (ln x5))) ∧
(x12 ≤ 0 →
(qj (List.length x13 + List.length (ix (ix a0 x4).Words x12).Text)) ∧
(I64 (x12 + 1)) ∧
(((ix (ix a0 x4).Words 0).At : Int) = (ix (ix a0 x4).Words 0).At) ∧
((ix (ix a0 x4).Words 0).Text = (ix (ix a0 x4).Words 0).Text) ∧
((ix (ix a0 x4).Words 0).Quoted = (ix (ix a0 x4).Words 0).Quoted) ∧
(((ix a0 x4).At : Int) = (ix a0 x4).At) ∧
((ix a0 x4).Words = (ix a0 x4).Words) ∧
(((ix a0 0).At : Int) = (ix a0 0).At) ∧
((ix a0 0).Words = (ix a0 0).Words) ∧
(qa a0 (x12 + 1) (x13 ++ (ix (ix a0 x4).Words x12).Text) x4 (ln x5)) ∧
 qb a0 (x12 + 1) (x13 ++ (ix (ix a0 x4).Words x12).Text) x4 (ln x5) < qb a0 x12 x13 x4 (ln x5)))))) ∧
((ln (ix a0 x4).Words) ≤ x12 →
(I64 ((ln x13) - (ln x5))) ∧
((1000 < ((ln x13) - (ln x5)) →
(([] : List UInt8) = ((qf a0).1)) ∧
((4 : Int) = ((qf a0).2)) ∧
                 True)) ∧
(((ln x13) - (ln x5)) ≤ 1000 →
(U8 (10)) ∧
(qj (List.length x13 + List.length [(UInt8.ofNat (Int.toNat (10)))])) ∧
((20000 < (ln (x13 ++ [(UInt8.ofNat (Int.toNat (10)))])) →
(([] : List UInt8) = ((qf a0).1)) ∧
((4 : Int) = ((qf a0).2)) ∧
                  True)) ∧
((ln (x13 ++ [(UInt8.ofNat (Int.toNat (10)))])) ≤ 20000 →
(I64 (x4 + 1)) ∧
(((ix a0 0).At : Int) = (ix a0 0).At) ∧
((ix a0 0).Words = (ix a0 0).Words) ∧
(qm a0 (x4 + 1) (x13 ++ [(UInt8.ofNat (Int.toNat (10)))])) ∧
 qz a0 (x4 + 1) (x13 ++ [(UInt8.ofNat (Int.toNat (10)))]) < qz a0 x4 x5)))))))))) ∧
((ln (ix a0 x4).Words) ≤ 0 →
(I64 ((ln x5) - (ln x5))) ∧
((1000 < ((ln x5) - (ln x5)) →
(([] : List UInt8) = ((qf a0).1)) ∧
((4 : Int) = ((qf a0).2)) ∧
           True)) ∧
(((ln x5) - (ln x5)) ≤ 1000 →
(U8 (10)) ∧
(qj (List.length x5 + List.length [(UInt8.ofNat (Int.toNat (10)))])) ∧
((20000 < (ln (x5 ++ [(UInt8.ofNat (Int.toNat (10)))])) →
(([] : List UInt8) = ((qf a0).1)) ∧
((4 : Int) = ((qf a0).2)) ∧
            True)) ∧
((ln (x5 ++ [(UInt8.ofNat (Int.toNat (10)))])) ≤ 20000 →
(I64 (x4 + 1)) ∧
(((ix a0 0).At : Int) = (ix a0 0).At) ∧
((ix a0 0).Words = (ix a0 0).Words) ∧
(qm a0 (x4 + 1) (x5 ++ [(UInt8.ofNat (Int.toNat (10)))])) ∧
 qz a0 (x4 + 1) (x5 ++ [(UInt8.ofNat (Int.toNat (10)))]) < qz a0 x4 x5)))))) ∧
((ln a0) ≤ x4 →
((ln x5) ≤ 140737488355328) ∧
(x5 = ((qf a0).1)) ∧
((0 : Int) = ((qf a0).2)) ∧
        True))))))))) ∧
((ln a0) ≤ 0 →
(([] : List UInt8) = ((qf a0).1)) ∧
((0 : Int) = ((qf a0).2)) ∧
 True)
theorem q3r (a0 : List Row) : qgm (qo XK (qc7 q06) (fun j ns => match j, ns with | 0, [.i y0, .l 0 y1] => qm a0 y0 y1 | 1, [.i y0, .l 0 y1, .i y2, .i y3] => qa a0 y0 y1 y2 y3 | _, _ => False) (fun j ns => match j, ns with | 0, [.i y0, .l 0 y1] => qz a0 y0 y1 | 1, [.i y0, .l 0 y1, .i y2, .i y3] => qb a0 y0 y1 y2 y3 | _, _ => 0)) { cfg sp with ann := qfz [(13, 58, .peel 0 [.one 12 (.int .i64), .via 4 [.keep, .list 0 true true]] []), (13, 119610, .peel 1 [.one 24 (.int .i64), .via 4 [.keep, .list 0 true true]] [.one 12 (.int .i64), .one 7 (.int .i64)])] } 6 13 [.list 6 (a0) none] (qsa a0) = qo8 a0 := by kernel_rfl
def q8e : List (Nat × Ct KT) := []
abbrev q0q (a0 : List Row) : PV KT := .list 6 ((qie a0)) (some (0, 0))
abbrev qy9 (a0 : List Row) : Prop :=
(qjo a0 0 ([] : List Row)) ∧
(∀ x0 : Int,
(∀ x1 : List Row,
(qjo a0 x0 x1 →
((x0 < (ln a0) →
(Wn x0 (ln a0)) ∧
(Wn x0 (ln a0)) ∧
(qj (List.length ([] : List Word) + List.length (ix a0 x0).Words)) ∧
(True) ∧
(qj (List.length x1 + List.length [(Row.mk (ix a0 x0).At (([] : List Word) ++ (ix a0 x0).Words))])) ∧
(I64 (x0 + 1)) ∧
(qjo a0 (x0 + 1) (x1 ++ [(Row.mk (ix a0 x0).At (([] : List Word) ++ (ix a0 x0).Words))])) ∧
 qkp a0 (x0 + 1) (x1 ++ [(Row.mk (ix a0 x0).At (([] : List Word) ++ (ix a0 x0).Words))]) < qkp a0 x0 x1)) ∧
((ln a0) ≤ x0 →
(x1 = (qie a0)) ∧
    True))))
theorem zaq (a0 : List Row) : qgm (qo XK (qc7 q8e) (fun j ns => match j, ns with | 0, [.i y0, .l 6 y1] => qjo a0 y0 y1 | _, _ => False) (fun j ns => match j, ns with | 0, [.i y0, .l 6 y1] => qkp a0 y0 y1 | _, _ => 0)) { cfg sp with ann := qfz [(12, 58, .inv 0 [.one 4 (.int .i64), .one 3 (.list 6 true false)] [])] } 3 12 [.list 6 (a0) none] (q0q a0) = qy9 a0 := by kernel_rfl
def qzb : List (Nat × Ct KT) := []
abbrev qql (a0 : Int) : PV KT := .sb 0 false ((zg a0)) ((zg a0) = true) ((zg a0) = false)
abbrev qm7 (a0 : Int) : Prop :=
((33 ≤ a0 →
((a0 ≤ 126 →
((a0 ≠ 59 →
((!(decide (a0 = 34))) = (zg a0)) ∧
   True)) ∧
(a0 = 59 →
(false = (zg a0)) ∧
   True))) ∧
(126 < a0 →
(false = (zg a0)) ∧
  True))) ∧
(a0 < 33 →
(false = (zg a0)) ∧
 True)
theorem q2q (a0 : Int) : qgm (qo XK (qc7 qzb) (fun _ _ => False) (fun _ _ => 0)) { cfg sp with ann := qfz [] } 3 42 [.int .u8 none (a0)] (qql a0) = qm7 a0 := by kernel_rfl
def qws : List (Nat × Ct KT) := []
abbrev qnz (a0 : Int) : PV KT := .sb 0 false ((za a0)) ((za a0) = true) ((za a0) = false)
abbrev qkk (a0 : Int) : Prop :=
((32 ≤ a0 →
((a0 ≤ 126 →
((!(decide (a0 = 34))) = (za a0)) ∧
  True)) ∧
(126 < a0 →
(false = (za a0)) ∧
  True))) ∧
(a0 < 32 →
(false = (za a0)) ∧
 True)
theorem qyx (a0 : Int) : qgm (qo XK (qc7 qws) (fun _ _ => False) (fun _ _ => 0)) { cfg sp with ann := qfz [] } 3 44 [.int .u8 none (a0)] (qnz a0) = qkk a0 := by kernel_rfl
def q3d : List (Nat × Ct KT) := [(44, q91), (42, q90)]
abbrev qt0 (a0 : Int) (a1 : List UInt8) (a2 : Bool) : PV KT := .tuple [.str (((km a0 a1 a2).1)), .sb 0 false (((km a0 a1 a2).2)) (((km a0 a1 a2).2) = true) (((km a0 a1 a2).2) = false)]
abbrev qri (a0 : Int) (a1 : List UInt8) (a2 : Bool) : Prop :=
(qaf a0 a1 a2 0) ∧
(∀ x0 : Int,
(qaf a0 a1 a2 x0 →
((x0 < (ln a1) →
((a2 = true →
(Wn x0 (ln a1)) ∧
((U8 (bx a1 x0))) ∧
(((za (bx a1 x0)) = false →
(([] : List UInt8) = ((km a0 a1 a2).1)) ∧
(false = ((km a0 a1 a2).2)) ∧
     True)) ∧
((za (bx a1 x0)) = true →
(I64 (x0 + 1)) ∧
((a0 : Int) = a0) ∧
(a1 = a1) ∧
(a2 = a2) ∧
(qaf a0 a1 a2 (x0 + 1)) ∧
 qa4 a0 a1 a2 (x0 + 1) < qa4 a0 a1 a2 x0))) ∧
(a2 = false →
(Wn x0 (ln a1)) ∧
((U8 (bx a1 x0))) ∧
(((zg (bx a1 x0)) = false →
(([] : List UInt8) = ((km a0 a1 a2).1)) ∧
(false = ((km a0 a1 a2).2)) ∧
     True)) ∧
((zg (bx a1 x0)) = true →
(I64 (x0 + 1)) ∧
((a0 : Int) = a0) ∧
(a1 = a1) ∧
(a2 = a2) ∧
(qaf a0 a1 a2 (x0 + 1)) ∧
 qa4 a0 a1 a2 (x0 + 1) < qa4 a0 a1 a2 x0)))) ∧
((ln a1) ≤ x0 →
((a2 = true →
(qj (List.length ([34] : List UInt8) + List.length a1)) ∧
(qj (List.length (([34] : List UInt8) ++ a1) + List.length ([34] : List UInt8))) ∧
(((([34] : List UInt8) ++ a1) ++ ([34] : List UInt8)) = ((km a0 a1 a2).1)) ∧
(true = ((km a0 a1 a2).2)) ∧
    True)) ∧
(a2 = false →
(a1 = ((km a0 a1 a2).1)) ∧
((!(decide (a1 = ([] : List UInt8)))) = ((km a0 a1 a2).2)) ∧
    True))))
theorem q6n (a0 : Int) (a1 : List UInt8) (a2 : Bool) : qgm (qo XK (qc7 q3d) (fun j ns => match j, ns with | 0, [.i y0] => qaf a0 a1 a2 y0 | _, _ => False) (fun j ns => match j, ns with | 0, [.i y0] => qa4 a0 a1 a2 y0 | _, _ => 0)) { cfg sp with ann := qfz [(30, 26, .inv 0 [.one 4 (.int .i64)] [])] } 3 30 [.agg [.int .i64 none (a0), .str (a1), .sb 0 false (a2) (a2 = true) (a2 = false)]] (qt0 a0 a1 a2) = qri a0 a1 a2 := by kernel_rfl
def q05 : List (Nat × Ct KT) := [(30, q9z)]
abbrev qr9 (a0 : List Row) : PV KT := .tuple [.str (((qf a0).1)), .int .i64 none (((qf a0).2))]
abbrev qo7 (a0 : List Row) : Prop :=
(qax a0 ([] : List UInt8) 0) ∧
(∀ x0 : List UInt8,
(∀ x1 : Int,
(qax a0 x0 x1 →
((x1 < (ln a0) →
(Wn x1 (ln a0)) ∧
(((ln (ix a0 x1).Words) = 0 →
(([] : List UInt8) = ((qf a0).1)) ∧
((3 : Int) = ((qf a0).2)) ∧
     True)) ∧
((ln (ix a0 x1).Words) ≠ 0 →
(qay a0 ([] : List UInt8) 0 x0 x1) ∧
(∀ x5 : List UInt8,
(∀ x6 : Int,
(qay a0 x5 x6 x0 x1 →
(Wn x1 (ln a0)) ∧
((x6 < (ln (ix a0 x1).Words) →
(Wn x1 (ln a0)) ∧
(Wn x6 (ln (ix a0 x1).Words)) ∧
((ln (ix (ix a0 x1).Words x6).Text ≤ 100000)) ∧
((((km (ix (ix a0 x1).Words x6).At (ix (ix a0 x1).Words x6).Text (ix (ix a0 x1).Words x6).Quoted).2) = false →
(([] : List UInt8) = ((qf a0).1)) ∧
((3 : Int) = ((qf a0).2)) ∧
          True)) ∧
(((km (ix (ix a0 x1).Words x6).At (ix (ix a0 x1).Words x6).Text (ix (ix a0 x1).Words x6).Quoted).2) = true →
((0 < x6 →
(qj (List.length x5 + List.length ([32] : List UInt8))) ∧
(qj (List.length (x5 ++ ([32] : List UInt8)) + List.length ((km (ix (ix a0 x1).Words x6).At (ix (ix a0 x1).Words x6).Text (ix (ix a0 x1).Words x6).Quoted).1))) ∧
(I64 (x6 + 1)) ∧
(qay a0 ((x5 ++ ([32] : List UInt8)) ++ ((km (ix (ix a0 x1).Words x6).At (ix (ix a0 x1).Words x6).Text (ix (ix a0 x1).Words x6).Quoted).1)) (x6 + 1) x0 x1) ∧
 qa3 a0 ((x5 ++ ([32] : List UInt8)) ++ ((km (ix (ix a0 x1).Words x6).At (ix (ix a0 x1).Words x6).Text (ix (ix a0 x1).Words x6).Quoted).1)) (x6 + 1) x0 x1 < qa3 a0 x5 x6 x0 x1)) ∧
(x6 ≤ 0 →
(qj (List.length x5 + List.length ((km (ix (ix a0 x1).Words x6).At (ix (ix a0 x1).Words x6).Text (ix (ix a0 x1).Words x6).Quoted).1))) ∧
(I64 (x6 + 1)) ∧
(qay a0 (x5 ++ ((km (ix (ix a0 x1).Words x6).At (ix (ix a0 x1).Words x6).Text (ix (ix a0 x1).Words x6).Quoted).1)) (x6 + 1) x0 x1) ∧
 qa3 a0 (x5 ++ ((km (ix (ix a0 x1).Words x6).At (ix (ix a0 x1).Words x6).Text (ix (ix a0 x1).Words x6).Quoted).1)) (x6 + 1) x0 x1 < qa3 a0 x5 x6 x0 x1)))) ∧
((ln (ix a0 x1).Words) ≤ x6 →
(qj (List.length x0 + List.length x5)) ∧
(qj (List.length (x0 ++ x5) + List.length ([10] : List UInt8))) ∧
((1000 < (ln x5) →
(([] : List UInt8) = ((qf a0).1)) ∧
((4 : Int) = ((qf a0).2)) ∧
          True)) ∧
((ln x5) ≤ 1000 →
((20000 < (ln ((x0 ++ x5) ++ ([10] : List UInt8))) →
(([] : List UInt8) = ((qf a0).1)) ∧
((4 : Int) = ((qf a0).2)) ∧
           True)) ∧
((ln ((x0 ++ x5) ++ ([10] : List UInt8))) ≤ 20000 →
(I64 (x1 + 1)) ∧
(qax a0 ((x0 ++ x5) ++ ([10] : List UInt8)) (x1 + 1)) ∧
 qfg a0 ((x0 ++ x5) ++ ([10] : List UInt8)) (x1 + 1) < qfg a0 x0 x1))))))))) ∧
((ln a0) ≤ x1 →
(x0 = ((qf a0).1)) ∧
((0 : Int) = ((qf a0).2)) ∧
    True))))
theorem q3o (a0 : List Row) : qgm (qo XK (qc7 q05) (fun j ns => match j, ns with | 0, [.s y0, .i y1] => qax a0 y0 y1 | 1, [.s y0, .i y1, .s y2, .i y3] => qay a0 y0 y1 y2 y3 | _, _ => False) (fun j ns => match j, ns with | 0, [.s y0, .i y1] => qfg a0 y0 y1 | 1, [.s y0, .i y1, .s y2, .i y3] => qa3 a0 y0 y1 y2 y3 | _, _ => 0)) { cfg sp with ann := qfz [(14, 58, .inv 0 [.one 4 (.str), .one 5 (.int .i64)] []), (14, 29850, .inv 1 [.one 6 (.str), .one 7 (.int .i64)] [.one 4 (.str), .one 5 (.int .i64)])] } 3 14 [.list 6 (a0) none] (qr9 a0) = qo7 a0 := by kernel_rfl
def qy1 : List (Nat × Ct KT) := []
abbrev qqb (a0 : List Row) : PV KT := .sb 0 false ((qbx a0)) ((qbx a0) = true) ((qbx a0) = false)
abbrev qmw (a0 : List Row) : Prop :=
((300 < (ln a0) →
(true = (qbx a0)) ∧
 True)) ∧
((ln a0) ≤ 300 →
(qfa a0 0 0) ∧
(∀ x1 : Int,
(∀ x2 : Int,
(qfa a0 x1 x2 →
((x2 < (ln a0) →
(Wn x2 (ln a0)) ∧
((300 < (ln (ix a0 x2).Words) →
(true = (qbx a0)) ∧
      True)) ∧
((ln (ix a0 x2).Words) ≤ 300 →
(Wn x2 (ln a0)) ∧
(I64 (x1 + (ln (ix a0 x2).Words))) ∧
(qfb a0 (x1 + (ln (ix a0 x2).Words)) 0 x2) ∧
(∀ x6 : Int,
(∀ x7 : Int,
(qfb a0 x6 x7 x2 →
(Wn x2 (ln a0)) ∧
((x7 < (ln (ix a0 x2).Words) →
(Wn x2 (ln a0)) ∧
(Wn x7 (ln (ix a0 x2).Words)) ∧
((3000 < (ln (ix (ix a0 x2).Words x7).Text) →
(true = (qbx a0)) ∧
           True)) ∧
((ln (ix (ix a0 x2).Words x7).Text) ≤ 3000 →
(Wn x2 (ln a0)) ∧
(Wn x7 (ln (ix a0 x2).Words)) ∧
((100 : Int) ≠ 0 ∧ I64 (Int.tdiv (ln (ix (ix a0 x2).Words x7).Text) 100)) ∧
(I64 (x6 + (Int.tdiv (ln (ix (ix a0 x2).Words x7).Text) 100))) ∧
(I64 (x7 + 1)) ∧
(qfb a0 (x6 + (Int.tdiv (ln (ix (ix a0 x2).Words x7).Text) 100)) (x7 + 1) x2) ∧
 qef a0 (x6 + (Int.tdiv (ln (ix (ix a0 x2).Words x7).Text) 100)) (x7 + 1) x2 < qef a0 x6 x7 x2))) ∧
((ln (ix a0 x2).Words) ≤ x7 →
(I64 (x2 + 1)) ∧
(qfa a0 x6 (x2 + 1)) ∧
 qee a0 x6 (x2 + 1) < qee a0 x1 x2))))))) ∧
((ln a0) ≤ x2 →
((decide (1500 < x1)) = (qbx a0)) ∧
     True)))))
theorem q16 (a0 : List Row) : qgm (qo XK (qc7 qy1) (fun j ns => match j, ns with | 0, [.i y0, .i y1] => qfa a0 y0 y1 | 1, [.i y0, .i y1, .i y2] => qfb a0 y0 y1 y2 | _, _ => False) (fun j ns => match j, ns with | 0, [.i y0, .i y1] => qee a0 y0 y1 | 1, [.i y0, .i y1, .i y2] => qef a0 y0 y1 y2 | _, _ => 0)) { cfg sp with ann := qfz [(11, 122, .inv 0 [.one 3 (.int .i64), .one 4 (.int .i64)] []), (11, 31310, .inv 1 [.one 3 (.int .i64), .one 5 (.int .i64)] [.one 4 (.int .i64)])] } 3 11 [.list 6 (a0) none] (qqb a0) = qmw a0 := by kernel_rfl
def quk : List (Nat × Ct KT) := [(11, q9t), (7, ct7), (12, q9u), (13, q9v), (14, q9w), (10, q9s)]
abbrev qlw (a0 : List Row) : PV KT := .sb 0 false ((true)) ((true) = true) ((true) = false)
abbrev qi1 (a0 : List Row) : Prop :=
(True) ∧
(((qbx a0) = true →
(True) ∧
((true) = (true)) ∧
 True)) ∧
((qbx a0) = false →
((qez a0)) ∧
((qez (qie a0))) ∧
((qez a0)) ∧
((((qf (qie a0)).1) = ((qf a0).1) →
((((qf (qie a0)).2) = ((qf a0).2) →
((ln (qie a0) ≤ 1000000000 ∧ (∀ r ∈ (qie a0), ln r.Words ≤ 1000000000))) ∧
(((j9 (qie a0) a0 true) = true →
(True) ∧
((true) = (true)) ∧
    True)) ∧
((j9 (qie a0) a0 true) = false →
(false = (true)) ∧
    True))) ∧
(((qf (qie a0)).2) ≠ ((qf a0).2) →
(false = (true)) ∧
   True))) ∧
(((qf (qie a0)).1) ≠ ((qf a0).1) →
(false = (true)) ∧
  True))
theorem qwv (a0 : List Row) : qgm (qo XK (qc7 quk) (fun _ _ => False) (fun _ _ => 0)) { cfg sp with ann := qfz [] } 3 4 [.list 6 (a0) none] (qlw a0) = qi1 a0 := by kernel_rfl
end Go.Proofs.YtofmpipjklcjhaaDoor
