/- CONTRACTS. Made by program (vc.py). -/
import Derived.Test.YtlkfjinaiepocaaDoorInv2
import Derived.Test.YtlkfjinaiepocaaDoorCfg
namespace Go.Proofs.YtlkfjinaiepocaaDoor
open Go Go.E2 Go.E3
set_option maxRecDepth 100000
variable {sp : Nat → Option (List V → Heap → Option (CR × Heap))}

def q9e : Ct KT := ([.one (.str)], fun ns => match ns with
  | [.s a0] => some ((ln a0 ≤ 9223372036854775806), .sb 0 false ((ju a0)) ((ju a0) = true) ((ju a0) = false))
  | _ => none)
def zcg : Ct KT := ([.agg [.int .i64, .int .i64, .int .i64, .int .i64]], fun ns => match ns with
  | [.i a0, .i a1, .i a2, .i a3] => some (True, .int .i64 none ((qil a0 a1 a2 a3)))
  | _ => none)
def zcc : Ct KT := ([.agg [.int .i64, .int .i64, .int .i64, .int .i64, .bool, .int .i64, .bool, .bool, .int .i64, .int .i64, .int .i64, .int .i64, .bool, .int .i64, .int .i64, .int .i64, .int .i64]], fun ns => match ns with
  | [.i a0, .i a1, .i a2, .i a3, .b a4, .i a5, .b a6, .b a7, .i a8, .i a9, .i a10, .i a11, .b a12, .i a13, .i a14, .i a15, .i a16] => some (True, .int .i64 none ((qqe (Sign.mk a0 a1 a2 a3 a4 a5 a6 a7 a8 a9 a10 a11 a12 a13 a14 a15 a16))))
  | _ => none)
def q88 : Ct KT := ([.agg [.str, .list 4 false false]], fun ns => match ns with
  | [.s a0, .l 4 a1] => some ((ln a0 ≤ 1000000000 ∧ ln a1 ≤ 1000000000), .tuple [.int .i64 none (((zl a0 a1).1)), .int .i64 none (((zl a0 a1).2))])
  | _ => none)
def q9d : Ct KT := ([.one (.list 4 false false)], fun ns => match ns with
  | [.l 4 a0] => some ((ln a0 ≤ 10000000), .list 4 ((a0)) (some (0, 0)))
  | _ => none)
def q89 : Ct KT := ([.agg [.list 4 false false, .list 4 false false]], fun ns => match ns with
  | [.l 4 a0, .l 4 a1] => some ((ln a0 ≤ 1 ∧ ln a1 ≤ 1), .list 4 (((a0 ++ a1))) (some (0, 0)))
  | _ => none)
def q9b : Ct KT := ([.agg [.list 4 false false, .list 4 false false], .agg [.int .i64, .int .i64, .int .i64, .int .i64, .bool, .int .i64, .bool, .bool, .int .i64, .int .i64, .int .i64, .int .i64, .bool, .int .i64, .int .i64, .int .i64, .int .i64]], fun ns => match ns with
  | [.l 4 a0, .l 4 a1, .i a2, .i a3, .i a4, .i a5, .b a6, .i a7, .b a8, .b a9, .i a10, .i a11, .i a12, .i a13, .b a14, .i a15, .i a16, .i a17, .i a18] => some (True, .agg [.list 4 (((kh a0 a1 (Sign.mk a2 a3 a4 a5 a6 a7 a8 a9 a10 a11 a12 a13 a14 a15 a16 a17 a18)).1)) none, .list 4 (((kh a0 a1 (Sign.mk a2 a3 a4 a5 a6 a7 a8 a9 a10 a11 a12 a13 a14 a15 a16 a17 a18)).2)) none])
  | _ => none)
def q9c : Ct KT := ([.one (.list 4 false false)], fun ns => match ns with
  | [.l 4 a0] => some ((ln a0 ≤ 1000000000), .tuple [.sb 0 false (((zo a0).1)) (((zo a0).1) = true) (((zo a0).1) = false), .int .i64 none (((zo a0).2))])
  | _ => none)
def zb7 : Ct KT := ([.one (.list 4 false false), .one (.int .i64), .one (.bool)], fun ns => match ns with
  | [.l 4 a0, .i a1, .b a2] => some ((ln a0 ≤ 500), .int .i64 none ((qj a0 a1 a2)))
  | _ => none)
def zb3 : Ct KT := ([.agg [.str, .list 4 false false], .one (.int .i64), .one (.int .i64)], fun ns => match ns with
  | [.s a0, .l 4 a1, .i a2, .i a3] => some ((ln a0 ≤ 1000000000 ∧ ln a1 ≤ 500), .tuple [.agg [.str (((mkB a0 a1 a2 a3).1)), .list 8 (((mkB a0 a1 a2 a3).2.1)) none], .int .i64 none (((mkB a0 a1 a2 a3).2.2))])
  | _ => none)
def q51 : Ct KT := ([.agg [.str, .list 8 false false]], fun ns => match ns with
  | [.s a0, .l 8 a1] => some ((smB a1), .list 7 ((qc a1)) none)
  | _ => none)
def zca : Ct KT := ([.agg [.str, .list 8 false false]], fun ns => match ns with
  | [.s a0, .l 8 a1] => some ((smB a1 ∧ qn a1), .agg [.str ((a0)), .list 4 ((qd a1)) none])
  | _ => none)
def zcd : Ct KT := ([.agg [.str, .list 8 false false], .one (.int .i64)], fun ns => match ns with
  | [.s a0, .l 8 a1, .i a2] => some ((smB a1 ∧ qn a1 ∧ (0 : Int) ≤ a2 ∧ (a2 : Int) ≤ 1000000000000), .int .i64 none ((zj a1 a2)))
  | _ => none)
def zb8 : Ct KT := ([.agg [.list 4 false false, .int .i64, .bool, .int .i64], .agg [.list 4 false false, .list 4 false false]], fun ns => match ns with
  | [.l 4 a0, .i a1, .b a2, .i a3, .l 4 a4, .l 4 a5] => some ((ln a0 ≤ 500 ∧ ln a4 ≤ 1 ∧ ln a5 ≤ 1), .int .i64 none ((kp (Staff.mk a0 a1 a2 a3) a4 a5)))
  | _ => none)
def zb9 : Ct KT := ([.agg [.str, .list 8 false false]], fun ns => match ns with
  | [.s a0, .l 8 a1] => some ((ln a0 ≤ 1000000000 ∧ smB a1 ∧ qn a1), .tuple [.int .i64 none (((za a0 a1).1)), .int .i64 none (((za a0 a1).2))])
  | _ => none)
def zb4 : Ct KT := ([.agg [.str, .list 8 false false]], fun ns => match ns with
  | [.s a0, .l 8 a1] => some ((ln a0 ≤ 1000000000 ∧ smB a1), .tuple [.int .i64 none (((jb a0 a1).1)), .int .i64 none (((jb a0 a1).2))])
  | _ => none)
def zb5 : Ct KT := ([.agg [.str, .list 8 false false]], fun ns => match ns with
  | [.s a0, .l 8 a1] => some ((ln a0 ≤ 1000000000 ∧ smB a1), .tuple [.list 1 (((zh a0 a1).1)) none, .list 3 (((zh a0 a1).2.1)) none, .int .i64 none (((zh a0 a1).2.2))])
  | _ => none)
def q87 : Ct KT := ([.one (.int .i64), .one (.int .i64)], fun ns => match ns with
  | [.i a0, .i a1] => some ((I64 a0 ∧ (1 : Int) ≤ a1 ∧ (a1 : Int) ≤ 1048576), .int .i64 none ((qa a0 a1)))
  | _ => none)
def zce : Ct KT := ([.one (.list 1 false false), .one (.int .i64)], fun ns => match ns with
  | [.l 1 a0, .i a1] => some ((ln a0 ≤ 1000000000), .int .i64 none ((atI a0 a1)))
  | _ => none)
def zcf : Ct KT := ([.agg [.int .i64, .int .i64, .int .i64, .int .i64], .one (.int .i64)], fun ns => match ns with
  | [.i a0, .i a1, .i a2, .i a3, .i a4] => some (((0 : Int) ≤ a4 ∧ (a4 : Int) ≤ 100), .sb 0 false ((qco a0 a1 a2 a3 a4)) ((qco a0 a1 a2 a3 a4) = true) ((qco a0 a1 a2 a3 a4) = false))
  | _ => none)
def zcb : Ct KT := ([.one (.list 1 false false)], fun ns => match ns with
  | [.l 1 a0] => some ((ln a0 ≤ 80 ∧ ∀ n ∈ a0, I64 n), .agg [.str (((qw a0).1)), .list 4 (((qw a0).2)) none])
  | _ => none)
def zb6 : Ct KT := ([.one (.list 1 false false)], fun ns => match ns with
  | [.l 1 a0] => some ((ln a0 ≤ 80 ∧ ∀ n ∈ a0, I64 n), .agg [.str (((qb a0).1)), .list 4 (((qb a0).2)) none])
  | _ => none)
def q85 : Ct KT := ([], fun ns => match ns with
  | [] => some (True, .sb 0 false ((true)) ((true) = true) ((true) = false))
  | _ => none)
abbrev q3q : PV KT := .sb 0 false ((true)) ((true) = true) ((true) = false)
end Go.Proofs.YtlkfjinaiepocaaDoor
