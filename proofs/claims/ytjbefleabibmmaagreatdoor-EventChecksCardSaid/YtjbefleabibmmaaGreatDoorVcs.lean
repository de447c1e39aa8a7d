/- THE CONDITIONS of the functions on times and voices, as E3 computes them. Made by program (vc.py). -/
import Derived.Test.YtjbefleabibmmaaGreatDoorInv
import Derived.Test.YtjbefleabibmmaaGreatDoorCfg
namespace Go.Proofs.YtjbefleabibmmaaGreatDoor
open Go Go.E2 Go.E3
set_option maxRecDepth 100000
variable {sp : Nat → Option (List V → Heap → Option (CR × Heap))}

def ct83 : Ct KT := ([.one (.int .i64), .one (.int .i64)], fun ns => match ns with
  | [.i a0, .i a1] => some ((0 ≤ a0 ∧ 0 ≤ a1 ∧ a0 ≤ 4611686018427387904 ∧ a1 ≤ 4611686018427387904), .int .i64 none ((gcdI a0 a1)))
  | _ => none)
def ct84 : Ct KT := ([.one (.int .i64), .one (.int .i64)], fun ns => match ns with
  | [.i a0, .i a1] => some ((0 ≤ a0 ∧ 0 ≤ a1 ∧ a0 ≤ 4611686018427387904 ∧ a1 ≤ 4611686018427387904), .int .i64 none ((gcdI a0 a1)))
  | _ => none)
def ct49 : Ct KT := ([.agg [.int .i64, .int .i64]], fun ns => match ns with
  | [.i a0, .i a1] => some (True, .int .i64 none ((checkT a0 a1)))
  | _ => none)
def ct53 : Ct KT := ([.agg [.int .i64, .int .i64]], fun ns => match ns with
  | [.i a0, .i a1] => some (True, .int .i64 none ((checkT a0 a1)))
  | _ => none)
def ct51 : Ct KT := ([.one (.list 9 false false)], fun ns => match ns with
  | [.l 9 a0] => some ((ln a0 ≤ 1000000000), .int .i64 none ((firstT a0)))
  | _ => none)
def ct52 : Ct KT := ([.one (.int .i64), .one (.int .i64)], fun ns => match ns with
  | [.i a0, .i a1] => some ((0 ≤ a0 ∧ 1 ≤ a1 ∧ a0 ≤ 4611686018427387904 ∧ a1 ≤ 4611686018427387904), .tuple [.agg [.int .i64 none (((ofT a0 a1).1)), .int .i64 none (((ofT a0 a1).2.1))], .int .i64 none (((ofT a0 a1).2.2))])
  | _ => none)
def ct56 : Ct KT := ([.one (.int .i64), .one (.int .i64)], fun ns => match ns with
  | [.i a0, .i a1] => some ((0 ≤ a0 ∧ 1 ≤ a1 ∧ a0 ≤ 4611686018427387904 ∧ a1 ≤ 4611686018427387904), .tuple [.agg [.int .i64 none (((ofT a0 a1).1)), .int .i64 none (((ofT a0 a1).2.1))], .int .i64 none (((ofT a0 a1).2.2))])
  | _ => none)
def ct27 : Ct KT := ([.agg [.int .i64, .int .i64], .agg [.int .i64, .int .i64]], fun ns => match ns with
  | [.i a0, .i a1, .i a2, .i a3] => some (True, .tuple [.agg [.int .i64 none (((addT a0 a1 a2 a3).1)), .int .i64 none (((addT a0 a1 a2 a3).2.1))], .int .i64 none (((addT a0 a1 a2 a3).2.2))])
  | _ => none)
def ct29 : Ct KT := ([.agg [.int .i64, .int .i64], .agg [.int .i64, .int .i64]], fun ns => match ns with
  | [.i a0, .i a1, .i a2, .i a3] => some (True, .tuple [.agg [.int .i64 none (((addT a0 a1 a2 a3).1)), .int .i64 none (((addT a0 a1 a2 a3).2.1))], .int .i64 none (((addT a0 a1 a2 a3).2.2))])
  | _ => none)
def ct30 : Ct KT := ([.agg [.int .i64, .int .i64], .agg [.int .i64, .int .i64]], fun ns => match ns with
  | [.i a0, .i a1, .i a2, .i a3] => some (True, .tuple [.int .i64 none (((cmpT a0 a1 a2 a3).1)), .int .i64 none (((cmpT a0 a1 a2 a3).2))])
  | _ => none)
def ct33 : Ct KT := ([.agg [.int .i64, .int .i64], .agg [.int .i64, .int .i64]], fun ns => match ns with
  | [.i a0, .i a1, .i a2, .i a3] => some (True, .tuple [.int .i64 none (((cmpT a0 a1 a2 a3).1)), .int .i64 none (((cmpT a0 a1 a2 a3).2))])
  | _ => none)
def ct32 : Ct KT := ([.agg [.int .i64, .int .i64, .int .i64, .int .i64, .int .i64, .int .i64, .int .i64, .bool, .int .i64, .int .i64], .agg [.int .i64, .int .i64]], fun ns => match ns with
  | [.i a0, .i a1, .i a2, .i a3, .i a4, .i a5, .i a6, .b a7, .i a8, .i a9, .i a10, .i a11] => some (True, .int .i64 none (((cmpT a0 a1 a10 a11).1)))
  | _ => none)
def ct50 : Ct KT := ([.agg [.int .i64, .int .i64, .int .i64]], fun ns => match ns with
  | [.i a0, .i a1, .i a2] => some (True, .int .i64 none ((pitchC a0 a1 a2)))
  | _ => none)
def ct54 : Ct KT := ([.agg [.int .i64, .int .i64, .int .i64]], fun ns => match ns with
  | [.i a0, .i a1, .i a2] => some (True, .int .i64 none ((pitchC a0 a1 a2)))
  | _ => none)
def ct26 : Ct KT := ([.agg [.int .i64, .int .i64, .int .i64, .int .i64, .int .i64, .int .i64, .int .i64, .bool, .int .i64, .int .i64]], fun ns => match ns with
  | [.i a0, .i a1, .i a2, .i a3, .i a4, .i a5, .i a6, .b a7, .i a8, .i a9] => some (True, .int .i64 none ((oneE (Event.mk a0 a1 a2 a3 a4 a5 a6 a7 a8 a9))))
  | _ => none)
def ct28 : Ct KT := ([.agg [.int .i64, .int .i64, .int .i64, .int .i64, .int .i64, .int .i64, .int .i64, .bool, .int .i64, .int .i64], .agg [.int .i64, .int .i64]], fun ns => match ns with
  | [.i a0, .i a1, .i a2, .i a3, .i a4, .i a5, .i a6, .b a7, .i a8, .i a9, .i a10, .i a11] => some (True, .int .i64 none ((oneR (Event.mk a0 a1 a2 a3 a4 a5 a6 a7 a8 a9) a10 a11)))
  | _ => none)
def ct7 : Ct KT := ([.one (.list 11 false false)], fun ns => match ns with
  | [.l 11 a0] => some ((ln a0 ≤ 1000000000), .tuple [.int .i64 none (((checkE a0).1)), .int .i64 none (((checkE a0).2))])
  | _ => none)
def ct8 : Ct KT := ([.one (.list 11 false false)], fun ns => match ns with
  | [.l 11 a0] => some ((ln a0 ≤ 1000000000), .tuple [.int .i64 none (((checkE a0).1)), .int .i64 none (((checkE a0).2))])
  | _ => none)
def ct9 : Ct KT := ([.one (.list 11 false false)], fun ns => match ns with
  | [.l 11 a0] => some ((ln a0 ≤ 1000000000), .tuple [.agg [.int .i64 none (((endE a0).1)), .int .i64 none (((endE a0).2.1))], .int .i64 none (((endE a0).2.2))])
  | _ => none)
def ct10 : Ct KT := ([.one (.list 11 false false)], fun ns => match ns with
  | [.l 11 a0] => some ((ln a0 ≤ 1000000000), .tuple [.agg [.int .i64 none (((endE a0).1)), .int .i64 none (((endE a0).2.1))], .int .i64 none (((endE a0).2.2))])
  | _ => none)
def ct11 : Ct KT := ([.one (.list 11 false false), .agg [.int .i64, .int .i64]], fun ns => match ns with
  | [.l 11 a0, .i a1, .i a2] => some ((ln a0 ≤ 1000000000), .tuple [.int .i64 none (((atE a0 a1 a2).1)), .int .i64 none (((atE a0 a1 a2).2))])
  | _ => none)
def ct12 : Ct KT := ([.one (.list 11 false false), .agg [.int .i64, .int .i64]], fun ns => match ns with
  | [.l 11 a0, .i a1, .i a2] => some ((ln a0 ≤ 1000000000), .tuple [.int .i64 none (((atE a0 a1 a2).1)), .int .i64 none (((atE a0 a1 a2).2))])
  | _ => none)
def ct13 : Ct KT := ([.one (.list 11 false false), .one (.list 11 false false)], fun ns => match ns with
  | [.l 11 a0, .l 11 a1] => some ((ln a0 ≤ 1000000000), .sb 0 false ((sameEv a0 a1)) ((sameEv a0 a1) = true) ((sameEv a0 a1) = false))
  | _ => none)
def ct6 : Ct KT := ([.one (.list 11 false false)], fun ns => match ns with
  | [.l 11 a0] => some ((ln a0 ≤ 100000000), .list 11 ((a0)) none)
  | _ => none)
def ct5 : Ct KT := ([], fun ns => match ns with
  | [] => some (True, .sb 0 false ((true)) ((true) = true) ((true) = false))
  | _ => none)
def ct3 : Ct KT := ([.one (.list 11 false false), .agg [.int .i64, .int .i64]], fun ns => match ns with
  | [.l 11 a0, .i a1, .i a2] => some ((ln a0 ≤ 9223372036854775807), .sb 0 false ((true)) ((true) = true) ((true) = false))
  | _ => none)
abbrev known_res : PV KT := .sb 0 false ((true)) ((true) = true) ((true) = false)
def ctR83 (a0 : Int) (a1 : Int) : Ct KT := ([.one (.int .i64), .one (.int .i64)], fun ns => match ns with
  | [.i b0, .i b1] => some (((0 ≤ b0 ∧ 0 ≤ b1 ∧ b0 ≤ 4611686018427387904 ∧ b1 ≤ 4611686018427387904)) ∧ (Int.toNat b1) < (Int.toNat a1), .int .i64 none ((gcdI b0 b1)))
  | _ => none)
def divisor_tbl (a0 : Int) (a1 : Int) : List (Nat × Ct KT) := [(83, ctR83 a0 a1)]
abbrev divisor_res (a0 : Int) (a1 : Int) : PV KT := .int .i64 none ((gcdI a0 a1))
abbrev divisor_VC (a0 : Int) (a1 : Int) : Prop :=
((a1 = 0 →
((a0 : Int) = (gcdI a0 a1)) ∧
 True)) ∧
(a1 ≠ 0 →
((a1 : Int) ≠ 0 ∧ I64 (Int.tdiv a0 a1)) ∧
((a1 : Int) ≠ 0) ∧
(((0 ≤ a1 ∧ 0 ≤ (Int.tmod a0 a1) ∧ a1 ≤ 4611686018427387904 ∧ (Int.tmod a0 a1) ≤ 4611686018427387904)) ∧ (Int.toNat (Int.tmod a0 a1)) < (Int.toNat a1)) ∧
(((gcdI a1 (Int.tmod a0 a1)) : Int) = (gcdI a0 a1)) ∧
 True)
theorem divisor_vc (a0 : Int) (a1 : Int) : wpTop (stdA XK (tblOf (divisor_tbl a0 a1)) (fun _ _ => False) (fun _ _ => 0)) { cfg sp with ann := annOf [] } 3 83 [.int .i64 none (a0), .int .i64 none (a1)] (divisor_res a0 a1) = divisor_VC a0 a1 := by kernel_rfl
def gcdR_tbl : List (Nat × Ct KT) := []
abbrev gcdR_res (a0 : Int) (a1 : Int) : PV KT := .int .i64 none ((gcdI a0 a1))
abbrev gcdR_VC (a0 : Int) (a1 : Int) : Prop :=
(inv_gcdR_0 a0 a1 a0 a1) ∧
(∀ x0 : Int,
(∀ x1 : Int,
(inv_gcdR_0 a0 a1 x0 x1 →
((0 < x1 →
((x1 : Int) ≠ 0) ∧
(inv_gcdR_0 a0 a1 x1 (Int.tmod x0 x1)) ∧
 minv_gcdR_0 a0 a1 x1 (Int.tmod x0 x1) < minv_gcdR_0 a0 a1 x0 x1)) ∧
(x1 ≤ 0 →
((x0 : Int) = (gcdI a0 a1)) ∧
    True))))
theorem gcdR_vc (a0 : Int) (a1 : Int) : wpTop (stdA XK (tblOf gcdR_tbl) (fun j ns => match j, ns with | 0, [.i y0, .i y1] => inv_gcdR_0 a0 a1 y0 y1 | _, _ => False) (fun j ns => match j, ns with | 0, [.i y0, .i y1] => minv_gcdR_0 a0 a1 y0 y1 | _, _ => 0)) { cfg sp with ann := annOf [(84, 12, .inv 0 [.one 0 (.int .i64), .one 1 (.int .i64)] [])] } 3 84 [.int .i64 none (a0), .int .i64 none (a1)] (gcdR_res a0 a1) = gcdR_VC a0 a1 := by kernel_rfl
def CheckS_tbl : List (Nat × Ct KT) := [(83, ct83)]
abbrev CheckS_res (a0 : Int) (a1 : Int) : PV KT := .int .i64 none ((checkT a0 a1))
abbrev CheckS_VC (a0 : Int) (a1 : Int) : Prop :=
((a0 < 0 →
((2 : Int) = (checkT a0 a1)) ∧
 True)) ∧
(0 ≤ a0 →
((1099511627776 < a0 →
((2 : Int) = (checkT a0 a1)) ∧
  True)) ∧
(a0 ≤ 1099511627776 →
((a1 < 1 →
((2 : Int) = (checkT a0 a1)) ∧
   True)) ∧
(1 ≤ a1 →
((1048576 < a1 →
((2 : Int) = (checkT a0 a1)) ∧
    True)) ∧
(a1 ≤ 1048576 →
((0 ≤ a0 ∧ 0 ≤ a1 ∧ a0 ≤ 4611686018427387904 ∧ a1 ≤ 4611686018427387904)) ∧
((1 < (gcdI a0 a1) →
((3 : Int) = (checkT a0 a1)) ∧
     True)) ∧
((gcdI a0 a1) ≤ 1 →
((0 : Int) = (checkT a0 a1)) ∧
     True)))))
theorem CheckS_vc (a0 : Int) (a1 : Int) : wpTop (stdA XK (tblOf CheckS_tbl) (fun _ _ => False) (fun _ _ => 0)) { cfg sp with ann := annOf [] } 3 49 [.agg [.int .i64 none (a0), .int .i64 none (a1)]] (CheckS_res a0 a1) = CheckS_VC a0 a1 := by kernel_rfl
def CheckR_tbl : List (Nat × Ct KT) := [(84, ct84)]
abbrev CheckR_res (a0 : Int) (a1 : Int) : PV KT := .int .i64 none ((checkT a0 a1))
abbrev CheckR_VC (a0 : Int) (a1 : Int) : Prop :=
((a0 < 0 →
((2 : Int) = (checkT a0 a1)) ∧
 True)) ∧
(0 ≤ a0 →
((1099511627776 < a0 →
((2 : Int) = (checkT a0 a1)) ∧
  True)) ∧
(a0 ≤ 1099511627776 →
((a1 < 1 →
((2 : Int) = (checkT a0 a1)) ∧
   True)) ∧
(1 ≤ a1 →
((1048576 < a1 →
((2 : Int) = (checkT a0 a1)) ∧
    True)) ∧
(a1 ≤ 1048576 →
((0 ≤ a0 ∧ 0 ≤ a1 ∧ a0 ≤ 4611686018427387904 ∧ a1 ≤ 4611686018427387904)) ∧
(((gcdI a0 a1) ≠ 1 →
((3 : Int) = (checkT a0 a1)) ∧
     True)) ∧
((gcdI a0 a1) = 1 →
((0 : Int) = (checkT a0 a1)) ∧
     True)))))
theorem CheckR_vc (a0 : Int) (a1 : Int) : wpTop (stdA XK (tblOf CheckR_tbl) (fun _ _ => False) (fun _ _ => 0)) { cfg sp with ann := annOf [] } 3 53 [.agg [.int .i64 none (a0), .int .i64 none (a1)]] (CheckR_res a0 a1) = CheckR_VC a0 a1 := by kernel_rfl
def firstS_tbl : List (Nat × Ct KT) := [(49, ct49)]
abbrev firstS_res (a0 : List Time) : PV KT := .int .i64 none ((firstT a0))
abbrev firstS_VC (a0 : List Time) : Prop :=
(inv_firstS_0 a0 0) ∧
(∀ x0 : Int,
(inv_firstS_0 a0 x0 →
((x0 < (ln a0) →
(Wn x0 (ln a0)) ∧
(True) ∧
(((checkT (ix a0 x0).N (ix a0 x0).D) ≠ 0 →
(((checkT (ix a0 x0).N (ix a0 x0).D) : Int) = (firstT a0)) ∧
    True)) ∧
((checkT (ix a0 x0).N (ix a0 x0).D) = 0 →
(I64 (x0 + 1)) ∧
(inv_firstS_0 a0 (x0 + 1)) ∧
 minv_firstS_0 a0 (x0 + 1) < minv_firstS_0 a0 x0))) ∧
((ln a0) ≤ x0 →
((0 : Int) = (firstT a0)) ∧
   True)))
theorem firstS_vc (a0 : List Time) : wpTop (stdA XK (tblOf firstS_tbl) (fun j ns => match j, ns with | 0, [.i y0] => inv_firstS_0 a0 y0 | _, _ => False) (fun j ns => match j, ns with | 0, [.i y0] => minv_firstS_0 a0 y0 | _, _ => 0)) { cfg sp with ann := annOf [(51, 26, .inv 0 [.one 8 (.int .i64)] [])] } 3 51 [.list 9 (a0) none] (firstS_res a0) = firstS_VC a0 := by kernel_rfl
def MakeS_tbl : List (Nat × Ct KT) := [(83, ct83)]
abbrev MakeS_res (a0 : Int) (a1 : Int) : PV KT := .tuple [.agg [.int .i64 none (((ofT a0 a1).1)), .int .i64 none (((ofT a0 a1).2.1))], .int .i64 none (((ofT a0 a1).2.2))]
abbrev MakeS_VC (a0 : Int) (a1 : Int) : Prop :=
((a0 < 0 →
((0 : Int) = ((ofT a0 a1).1)) ∧
((0 : Int) = ((ofT a0 a1).2.1)) ∧
((2 : Int) = ((ofT a0 a1).2.2)) ∧
 True)) ∧
(0 ≤ a0 →
((a1 < 0 →
((0 : Int) = ((ofT a0 a1).1)) ∧
((0 : Int) = ((ofT a0 a1).2.1)) ∧
((2 : Int) = ((ofT a0 a1).2.2)) ∧
  True)) ∧
(0 ≤ a1 →
((a1 = 0 →
((0 : Int) = ((ofT a0 a1).1)) ∧
((0 : Int) = ((ofT a0 a1).2.1)) ∧
((5 : Int) = ((ofT a0 a1).2.2)) ∧
   True)) ∧
(a1 ≠ 0 →
((0 ≤ a0 ∧ 0 ≤ a1 ∧ a0 ≤ 4611686018427387904 ∧ a1 ≤ 4611686018427387904)) ∧
(((gcdI a0 a1) : Int) ≠ 0 ∧ I64 (Int.tdiv a0 (gcdI a0 a1))) ∧
(((gcdI a0 a1) : Int) ≠ 0 ∧ I64 (Int.tdiv a1 (gcdI a0 a1))) ∧
((1099511627776 < (Int.tdiv a0 (gcdI a0 a1)) →
((0 : Int) = ((ofT a0 a1).1)) ∧
((0 : Int) = ((ofT a0 a1).2.1)) ∧
((4 : Int) = ((ofT a0 a1).2.2)) ∧
    True)) ∧
((Int.tdiv a0 (gcdI a0 a1)) ≤ 1099511627776 →
((1048576 < (Int.tdiv a1 (gcdI a0 a1)) →
((0 : Int) = ((ofT a0 a1).1)) ∧
((0 : Int) = ((ofT a0 a1).2.1)) ∧
((4 : Int) = ((ofT a0 a1).2.2)) ∧
     True)) ∧
((Int.tdiv a1 (gcdI a0 a1)) ≤ 1048576 →
(((Int.tdiv a0 (gcdI a0 a1)) : Int) = ((ofT a0 a1).1)) ∧
(((Int.tdiv a1 (gcdI a0 a1)) : Int) = ((ofT a0 a1).2.1)) ∧
((0 : Int) = ((ofT a0 a1).2.2)) ∧
     True)))))
theorem MakeS_vc (a0 : Int) (a1 : Int) : wpTop (stdA XK (tblOf MakeS_tbl) (fun _ _ => False) (fun _ _ => 0)) { cfg sp with ann := annOf [] } 3 52 [.int .i64 none (a0), .int .i64 none (a1)] (MakeS_res a0 a1) = MakeS_VC a0 a1 := by kernel_rfl
def ofR_tbl : List (Nat × Ct KT) := [(84, ct84)]
abbrev ofR_res (a0 : Int) (a1 : Int) : PV KT := .tuple [.agg [.int .i64 none (((ofT a0 a1).1)), .int .i64 none (((ofT a0 a1).2.1))], .int .i64 none (((ofT a0 a1).2.2))]
abbrev ofR_VC (a0 : Int) (a1 : Int) : Prop :=
((0 ≤ a0 ∧ 0 ≤ a1 ∧ a0 ≤ 4611686018427387904 ∧ a1 ≤ 4611686018427387904)) ∧
(((gcdI a0 a1) : Int) ≠ 0 ∧ I64 (Int.tdiv a0 (gcdI a0 a1))) ∧
(((gcdI a0 a1) : Int) ≠ 0 ∧ I64 (Int.tdiv a1 (gcdI a0 a1))) ∧
((1099511627776 < (Int.tdiv a0 (gcdI a0 a1)) →
((0 : Int) = ((ofT a0 a1).1)) ∧
((0 : Int) = ((ofT a0 a1).2.1)) ∧
((4 : Int) = ((ofT a0 a1).2.2)) ∧
 True)) ∧
((Int.tdiv a0 (gcdI a0 a1)) ≤ 1099511627776 →
((1048576 < (Int.tdiv a1 (gcdI a0 a1)) →
((0 : Int) = ((ofT a0 a1).1)) ∧
((0 : Int) = ((ofT a0 a1).2.1)) ∧
((4 : Int) = ((ofT a0 a1).2.2)) ∧
  True)) ∧
((Int.tdiv a1 (gcdI a0 a1)) ≤ 1048576 →
(((Int.tdiv a0 (gcdI a0 a1)) : Int) = ((ofT a0 a1).1)) ∧
(((Int.tdiv a1 (gcdI a0 a1)) : Int) = ((ofT a0 a1).2.1)) ∧
((0 : Int) = ((ofT a0 a1).2.2)) ∧
  True))
theorem ofR_vc (a0 : Int) (a1 : Int) : wpTop (stdA XK (tblOf ofR_tbl) (fun _ _ => False) (fun _ _ => 0)) { cfg sp with ann := annOf [] } 3 56 [.int .i64 none (a0), .int .i64 none (a1)] (ofR_res a0 a1) = ofR_VC a0 a1 := by kernel_rfl
def AddS_tbl : List (Nat × Ct KT) := [(51, ct51), (52, ct52)]
abbrev AddS_res (a0 : Int) (a1 : Int) (a2 : Int) (a3 : Int) : PV KT := .tuple [.agg [.int .i64 none (((addT a0 a1 a2 a3).1)), .int .i64 none (((addT a0 a1 a2 a3).2.1))], .int .i64 none (((addT a0 a1 a2 a3).2.2))]
abbrev AddS_VC (a0 : Int) (a1 : Int) (a2 : Int) (a3 : Int) : Prop :=
(True) ∧
(True) ∧
((ln [(Time.mk a0 a1), (Time.mk a2 a3)] ≤ 1000000000)) ∧
(((firstT [(Time.mk a0 a1), (Time.mk a2 a3)]) ≠ 0 →
((0 : Int) = ((addT a0 a1 a2 a3).1)) ∧
((0 : Int) = ((addT a0 a1 a2 a3).2.1)) ∧
(((firstT [(Time.mk a0 a1), (Time.mk a2 a3)]) : Int) = ((addT a0 a1 a2 a3).2.2)) ∧
 True)) ∧
((firstT [(Time.mk a0 a1), (Time.mk a2 a3)]) = 0 →
(I64 (a0 * a3)) ∧
(I64 (a2 * a1)) ∧
(I64 ((a0 * a3) + (a2 * a1))) ∧
(I64 (a1 * a3)) ∧
((0 ≤ ((a0 * a3) + (a2 * a1)) ∧ 1 ≤ (a1 * a3) ∧ ((a0 * a3) + (a2 * a1)) ≤ 4611686018427387904 ∧ (a1 * a3) ≤ 4611686018427387904)) ∧
((((ofT ((a0 * a3) + (a2 * a1)) (a1 * a3)).1) : Int) = ((addT a0 a1 a2 a3).1)) ∧
((((ofT ((a0 * a3) + (a2 * a1)) (a1 * a3)).2.1) : Int) = ((addT a0 a1 a2 a3).2.1)) ∧
((((ofT ((a0 * a3) + (a2 * a1)) (a1 * a3)).2.2) : Int) = ((addT a0 a1 a2 a3).2.2)) ∧
 True)
theorem AddS_vc (a0 : Int) (a1 : Int) (a2 : Int) (a3 : Int) : wpTop (stdA XK (tblOf AddS_tbl) (fun _ _ => False) (fun _ _ => 0)) { cfg sp with ann := annOf [] } 3 27 [.agg [.int .i64 none (a0), .int .i64 none (a1)], .agg [.int .i64 none (a2), .int .i64 none (a3)]] (AddS_res a0 a1 a2 a3) = AddS_VC a0 a1 a2 a3 := by kernel_rfl
def AddR_tbl : List (Nat × Ct KT) := [(53, ct53), (56, ct56)]
abbrev AddR_res (a0 : Int) (a1 : Int) (a2 : Int) (a3 : Int) : PV KT := .tuple [.agg [.int .i64 none (((addT a0 a1 a2 a3).1)), .int .i64 none (((addT a0 a1 a2 a3).2.1))], .int .i64 none (((addT a0 a1 a2 a3).2.2))]
abbrev AddR_VC (a0 : Int) (a1 : Int) (a2 : Int) (a3 : Int) : Prop :=
(True) ∧
(((checkT a0 a1) ≠ 0 →
(((checkT a0 a1) ≠ 0 →
((0 : Int) = ((addT a0 a1 a2 a3).1)) ∧
((0 : Int) = ((addT a0 a1 a2 a3).2.1)) ∧
(((checkT a0 a1) : Int) = ((addT a0 a1 a2 a3).2.2)) ∧
  True)) ∧
((checkT a0 a1) = 0 →
(I64 (a0 * a3)) ∧
(I64 (a2 * a1)) ∧
(I64 ((a0 * a3) + (a2 * a1))) ∧
(I64 (a1 * a3)) ∧
((0 ≤ ((a0 * a3) + (a2 * a1)) ∧ 1 ≤ (a1 * a3) ∧ ((a0 * a3) + (a2 * a1)) ≤ 4611686018427387904 ∧ (a1 * a3) ≤ 4611686018427387904)) ∧
((((ofT ((a0 * a3) + (a2 * a1)) (a1 * a3)).1) : Int) = ((addT a0 a1 a2 a3).1)) ∧
((((ofT ((a0 * a3) + (a2 * a1)) (a1 * a3)).2.1) : Int) = ((addT a0 a1 a2 a3).2.1)) ∧
((((ofT ((a0 * a3) + (a2 * a1)) (a1 * a3)).2.2) : Int) = ((addT a0 a1 a2 a3).2.2)) ∧
  True))) ∧
((checkT a0 a1) = 0 →
(True) ∧
(((checkT a2 a3) ≠ 0 →
((0 : Int) = ((addT a0 a1 a2 a3).1)) ∧
((0 : Int) = ((addT a0 a1 a2 a3).2.1)) ∧
(((checkT a2 a3) : Int) = ((addT a0 a1 a2 a3).2.2)) ∧
  True)) ∧
((checkT a2 a3) = 0 →
(I64 (a0 * a3)) ∧
(I64 (a2 * a1)) ∧
(I64 ((a0 * a3) + (a2 * a1))) ∧
(I64 (a1 * a3)) ∧
((0 ≤ ((a0 * a3) + (a2 * a1)) ∧ 1 ≤ (a1 * a3) ∧ ((a0 * a3) + (a2 * a1)) ≤ 4611686018427387904 ∧ (a1 * a3) ≤ 4611686018427387904)) ∧
((((ofT ((a0 * a3) + (a2 * a1)) (a1 * a3)).1) : Int) = ((addT a0 a1 a2 a3).1)) ∧
((((ofT ((a0 * a3) + (a2 * a1)) (a1 * a3)).2.1) : Int) = ((addT a0 a1 a2 a3).2.1)) ∧
((((ofT ((a0 * a3) + (a2 * a1)) (a1 * a3)).2.2) : Int) = ((addT a0 a1 a2 a3).2.2)) ∧
  True))
theorem AddR_vc (a0 : Int) (a1 : Int) (a2 : Int) (a3 : Int) : wpTop (stdA XK (tblOf AddR_tbl) (fun _ _ => False) (fun _ _ => 0)) { cfg sp with ann := annOf [] } 3 29 [.agg [.int .i64 none (a0), .int .i64 none (a1)], .agg [.int .i64 none (a2), .int .i64 none (a3)]] (AddR_res a0 a1 a2 a3) = AddR_VC a0 a1 a2 a3 := by kernel_rfl
def CompareS_tbl : List (Nat × Ct KT) := [(51, ct51)]
abbrev CompareS_res (a0 : Int) (a1 : Int) (a2 : Int) (a3 : Int) : PV KT := .tuple [.int .i64 none (((cmpT a0 a1 a2 a3).1)), .int .i64 none (((cmpT a0 a1 a2 a3).2))]
abbrev CompareS_VC (a0 : Int) (a1 : Int) (a2 : Int) (a3 : Int) : Prop :=
(True) ∧
(True) ∧
((ln [(Time.mk a0 a1), (Time.mk a2 a3)] ≤ 1000000000)) ∧
(((firstT [(Time.mk a0 a1), (Time.mk a2 a3)]) ≠ 0 →
((0 : Int) = ((cmpT a0 a1 a2 a3).1)) ∧
(((firstT [(Time.mk a0 a1), (Time.mk a2 a3)]) : Int) = ((cmpT a0 a1 a2 a3).2)) ∧
 True)) ∧
((firstT [(Time.mk a0 a1), (Time.mk a2 a3)]) = 0 →
(I64 (a0 * a3)) ∧
(I64 (a2 * a1)) ∧
(I64 ((a0 * a3) - (a2 * a1))) ∧
((((a0 * a3) - (a2 * a1)) < 0 →
(((-1) : Int) = ((cmpT a0 a1 a2 a3).1)) ∧
((0 : Int) = ((cmpT a0 a1 a2 a3).2)) ∧
  True)) ∧
(0 ≤ ((a0 * a3) - (a2 * a1)) →
((0 < ((a0 * a3) - (a2 * a1)) →
((1 : Int) = ((cmpT a0 a1 a2 a3).1)) ∧
((0 : Int) = ((cmpT a0 a1 a2 a3).2)) ∧
   True)) ∧
(((a0 * a3) - (a2 * a1)) ≤ 0 →
((0 : Int) = ((cmpT a0 a1 a2 a3).1)) ∧
((0 : Int) = ((cmpT a0 a1 a2 a3).2)) ∧
   True)))
theorem CompareS_vc (a0 : Int) (a1 : Int) (a2 : Int) (a3 : Int) : wpTop (stdA XK (tblOf CompareS_tbl) (fun _ _ => False) (fun _ _ => 0)) { cfg sp with ann := annOf [] } 3 30 [.agg [.int .i64 none (a0), .int .i64 none (a1)], .agg [.int .i64 none (a2), .int .i64 none (a3)]] (CompareS_res a0 a1 a2 a3) = CompareS_VC a0 a1 a2 a3 := by kernel_rfl
def CompareR_tbl : List (Nat × Ct KT) := [(53, ct53)]
abbrev CompareR_res (a0 : Int) (a1 : Int) (a2 : Int) (a3 : Int) : PV KT := .tuple [.int .i64 none (((cmpT a0 a1 a2 a3).1)), .int .i64 none (((cmpT a0 a1 a2 a3).2))]
abbrev CompareR_VC (a0 : Int) (a1 : Int) (a2 : Int) (a3 : Int) : Prop :=
(True) ∧
(((checkT a0 a1) ≠ 0 →
(((checkT a0 a1) ≠ 0 →
((0 : Int) = ((cmpT a0 a1 a2 a3).1)) ∧
(((checkT a0 a1) : Int) = ((cmpT a0 a1 a2 a3).2)) ∧
  True)) ∧
((checkT a0 a1) = 0 →
(I64 (a0 * a3)) ∧
(I64 (a2 * a1)) ∧
(((a0 * a3) < (a2 * a1) →
(((-1) : Int) = ((cmpT a0 a1 a2 a3).1)) ∧
((0 : Int) = ((cmpT a0 a1 a2 a3).2)) ∧
   True)) ∧
((a2 * a1) ≤ (a0 * a3) →
(((a2 * a1) < (a0 * a3) →
((1 : Int) = ((cmpT a0 a1 a2 a3).1)) ∧
((0 : Int) = ((cmpT a0 a1 a2 a3).2)) ∧
    True)) ∧
((a0 * a3) ≤ (a2 * a1) →
((0 : Int) = ((cmpT a0 a1 a2 a3).1)) ∧
((0 : Int) = ((cmpT a0 a1 a2 a3).2)) ∧
    True))))) ∧
((checkT a0 a1) = 0 →
(True) ∧
(((checkT a2 a3) ≠ 0 →
((0 : Int) = ((cmpT a0 a1 a2 a3).1)) ∧
(((checkT a2 a3) : Int) = ((cmpT a0 a1 a2 a3).2)) ∧
  True)) ∧
((checkT a2 a3) = 0 →
(I64 (a0 * a3)) ∧
(I64 (a2 * a1)) ∧
(((a0 * a3) < (a2 * a1) →
(((-1) : Int) = ((cmpT a0 a1 a2 a3).1)) ∧
((0 : Int) = ((cmpT a0 a1 a2 a3).2)) ∧
   True)) ∧
((a2 * a1) ≤ (a0 * a3) →
(((a2 * a1) < (a0 * a3) →
((1 : Int) = ((cmpT a0 a1 a2 a3).1)) ∧
((0 : Int) = ((cmpT a0 a1 a2 a3).2)) ∧
    True)) ∧
((a0 * a3) ≤ (a2 * a1) →
((0 : Int) = ((cmpT a0 a1 a2 a3).1)) ∧
((0 : Int) = ((cmpT a0 a1 a2 a3).2)) ∧
    True))))
theorem CompareR_vc (a0 : Int) (a1 : Int) (a2 : Int) (a3 : Int) : wpTop (stdA XK (tblOf CompareR_tbl) (fun _ _ => False) (fun _ _ => 0)) { cfg sp with ann := annOf [] } 3 33 [.agg [.int .i64 none (a0), .int .i64 none (a1)], .agg [.int .i64 none (a2), .int .i64 none (a3)]] (CompareR_res a0 a1 a2 a3) = CompareR_VC a0 a1 a2 a3 := by kernel_rfl
def At1_tbl : List (Nat × Ct KT) := [(30, ct30)]
abbrev At1_res (a0 : Int) (a1 : Int) (a2 : Int) (a3 : Int) (a4 : Int) (a5 : Int) (a6 : Int) (a7 : Bool) (a8 : Int) (a9 : Int) (a10 : Int) (a11 : Int) : PV KT := .int .i64 none (((cmpT a0 a1 a10 a11).1))
abbrev At1_VC (a0 : Int) (a1 : Int) (a2 : Int) (a3 : Int) (a4 : Int) (a5 : Int) (a6 : Int) (a7 : Bool) (a8 : Int) (a9 : Int) (a10 : Int) (a11 : Int) : Prop :=
(True) ∧
((((cmpT a0 a1 a10 a11).1) : Int) = ((cmpT a0 a1 a10 a11).1)) ∧
 True
theorem At1_vc (a0 : Int) (a1 : Int) (a2 : Int) (a3 : Int) (a4 : Int) (a5 : Int) (a6 : Int) (a7 : Bool) (a8 : Int) (a9 : Int) (a10 : Int) (a11 : Int) : wpTop (stdA XK (tblOf At1_tbl) (fun _ _ => False) (fun _ _ => 0)) { cfg sp with ann := annOf [] } 3 32 [.agg [.int .i64 none (a0), .int .i64 none (a1), .int .i64 none (a2), .int .i64 none (a3), .int .i64 none (a4), .int .i64 none (a5), .int .i64 none (a6), .sb 0 false (a7) (a7 = true) (a7 = false), .int .i64 none (a8), .int .i64 none (a9)], .agg [.int .i64 none (a10), .int .i64 none (a11)]] (At1_res a0 a1 a2 a3 a4 a5 a6 a7 a8 a9 a10 a11) = At1_VC a0 a1 a2 a3 a4 a5 a6 a7 a8 a9 a10 a11 := by kernel_rfl
def CheckP_tbl : List (Nat × Ct KT) := []
abbrev CheckP_res (a0 : Int) (a1 : Int) (a2 : Int) : PV KT := .int .i64 none ((pitchC a0 a1 a2))
abbrev CheckP_VC (a0 : Int) (a1 : Int) (a2 : Int) : Prop :=
((a0 < 0 →
((2 : Int) = (pitchC a0 a1 a2)) ∧
 True)) ∧
(0 ≤ a0 →
((6 < a0 →
((2 : Int) = (pitchC a0 a1 a2)) ∧
  True)) ∧
(a0 ≤ 6 →
((a1 < 0 →
((2 : Int) = (pitchC a0 a1 a2)) ∧
   True)) ∧
(0 ≤ a1 →
((8 < a1 →
((2 : Int) = (pitchC a0 a1 a2)) ∧
    True)) ∧
(a1 ≤ 8 →
((a2 < (-1) →
((2 : Int) = (pitchC a0 a1 a2)) ∧
     True)) ∧
((-1) ≤ a2 →
((1 < a2 →
((2 : Int) = (pitchC a0 a1 a2)) ∧
      True)) ∧
(a2 ≤ 1 →
((0 : Int) = (pitchC a0 a1 a2)) ∧
      True))))))
theorem CheckP_vc (a0 : Int) (a1 : Int) (a2 : Int) : wpTop (stdA XK (tblOf CheckP_tbl) (fun _ _ => False) (fun _ _ => 0)) { cfg sp with ann := annOf [] } 3 50 [.agg [.int .i64 none (a0), .int .i64 none (a1), .int .i64 none (a2)]] (CheckP_res a0 a1 a2) = CheckP_VC a0 a1 a2 := by kernel_rfl
def CheckPR_tbl : List (Nat × Ct KT) := []
abbrev CheckPR_res (a0 : Int) (a1 : Int) (a2 : Int) : PV KT := .int .i64 none ((pitchC a0 a1 a2))
abbrev CheckPR_VC (a0 : Int) (a1 : Int) (a2 : Int) : Prop :=
((a0 < 0 →
((2 : Int) = (pitchC a0 a1 a2)) ∧
 True)) ∧
(0 ≤ a0 →
((6 < a0 →
((2 : Int) = (pitchC a0 a1 a2)) ∧
  True)) ∧
(a0 ≤ 6 →
((a1 < 0 →
((2 : Int) = (pitchC a0 a1 a2)) ∧
   True)) ∧
(0 ≤ a1 →
((8 < a1 →
((2 : Int) = (pitchC a0 a1 a2)) ∧
    True)) ∧
(a1 ≤ 8 →
((a2 < (-1) →
((2 : Int) = (pitchC a0 a1 a2)) ∧
     True)) ∧
((-1) ≤ a2 →
((1 < a2 →
((2 : Int) = (pitchC a0 a1 a2)) ∧
      True)) ∧
(a2 ≤ 1 →
((0 : Int) = (pitchC a0 a1 a2)) ∧
      True))))))
theorem CheckPR_vc (a0 : Int) (a1 : Int) (a2 : Int) : wpTop (stdA XK (tblOf CheckPR_tbl) (fun _ _ => False) (fun _ _ => 0)) { cfg sp with ann := annOf [] } 3 54 [.agg [.int .i64 none (a0), .int .i64 none (a1), .int .i64 none (a2)]] (CheckPR_res a0 a1 a2) = CheckPR_VC a0 a1 a2 := by kernel_rfl
def oneS_tbl : List (Nat × Ct KT) := [(49, ct49), (50, ct50)]
abbrev oneS_res (a0 : Int) (a1 : Int) (a2 : Int) (a3 : Int) (a4 : Int) (a5 : Int) (a6 : Int) (a7 : Bool) (a8 : Int) (a9 : Int) : PV KT := .int .i64 none ((oneE (Event.mk a0 a1 a2 a3 a4 a5 a6 a7 a8 a9)))
abbrev oneS_VC (a0 : Int) (a1 : Int) (a2 : Int) (a3 : Int) (a4 : Int) (a5 : Int) (a6 : Int) (a7 : Bool) (a8 : Int) (a9 : Int) : Prop :=
(True) ∧
(True) ∧
(inv_oneS_0 a0 a1 a2 a3 a4 a5 a6 a7 a8 a9 0) ∧
(∀ x0 : Int,
(inv_oneS_0 a0 a1 a2 a3 a4 a5 a6 a7 a8 a9 x0 →
((x0 < (ln [(Time.mk a0 a1), (Time.mk a2 a3)]) →
(Wn x0 (ln [(Time.mk a0 a1), (Time.mk a2 a3)])) ∧
(True) ∧
(((checkT (ix [(Time.mk a0 a1), (Time.mk a2 a3)] x0).N (ix [(Time.mk a0 a1), (Time.mk a2 a3)] x0).D) ≠ 0 →
(((checkT (ix [(Time.mk a0 a1), (Time.mk a2 a3)] x0).N (ix [(Time.mk a0 a1), (Time.mk a2 a3)] x0).D) : Int) = (oneE (Event.mk a0 a1 a2 a3 a4 a5 a6 a7 a8 a9))) ∧
    True)) ∧
((checkT (ix [(Time.mk a0 a1), (Time.mk a2 a3)] x0).N (ix [(Time.mk a0 a1), (Time.mk a2 a3)] x0).D) = 0 →
(I64 (x0 + 1)) ∧
((a0 : Int) = a0) ∧
((a1 : Int) = a1) ∧
((a2 : Int) = a2) ∧
((a3 : Int) = a3) ∧
((a4 : Int) = a4) ∧
((a5 : Int) = a5) ∧
((a6 : Int) = a6) ∧
(a7 = a7) ∧
((a8 : Int) = a8) ∧
((a9 : Int) = a9) ∧
(inv_oneS_0 a0 a1 a2 a3 a4 a5 a6 a7 a8 a9 (x0 + 1)) ∧
 minv_oneS_0 a0 a1 a2 a3 a4 a5 a6 a7 a8 a9 (x0 + 1) < minv_oneS_0 a0 a1 a2 a3 a4 a5 a6 a7 a8 a9 x0))) ∧
((ln [(Time.mk a0 a1), (Time.mk a2 a3)]) ≤ x0 →
((a2 = 0 →
((2 : Int) = (oneE (Event.mk a0 a1 a2 a3 a4 a5 a6 a7 a8 a9))) ∧
    True)) ∧
(a2 ≠ 0 →
((a7 = true →
(((a4 ≠ 0 ∨ (a5 ≠ 0 ∨ a6 ≠ 0)) →
((3 : Int) = (oneE (Event.mk a0 a1 a2 a3 a4 a5 a6 a7 a8 a9))) ∧
      True)) ∧
((a4 = 0 ∧ (a5 = 0 ∧ a6 = 0)) →
((a8 < 0 →
((2 : Int) = (oneE (Event.mk a0 a1 a2 a3 a4 a5 a6 a7 a8 a9))) ∧
       True)) ∧
(0 ≤ a8 →
((a9 < 0 →
((2 : Int) = (oneE (Event.mk a0 a1 a2 a3 a4 a5 a6 a7 a8 a9))) ∧
        True)) ∧
(0 ≤ a9 →
((0 : Int) = (oneE (Event.mk a0 a1 a2 a3 a4 a5 a6 a7 a8 a9))) ∧
        True))))) ∧
(a7 = false →
(True) ∧
(((pitchC a4 a5 a6) ≠ 0 →
(((pitchC a4 a5 a6) : Int) = (oneE (Event.mk a0 a1 a2 a3 a4 a5 a6 a7 a8 a9))) ∧
      True)) ∧
((pitchC a4 a5 a6) = 0 →
((a8 < 0 →
((2 : Int) = (oneE (Event.mk a0 a1 a2 a3 a4 a5 a6 a7 a8 a9))) ∧
       True)) ∧
(0 ≤ a8 →
((a9 < 0 →
((2 : Int) = (oneE (Event.mk a0 a1 a2 a3 a4 a5 a6 a7 a8 a9))) ∧
        True)) ∧
(0 ≤ a9 →
((0 : Int) = (oneE (Event.mk a0 a1 a2 a3 a4 a5 a6 a7 a8 a9))) ∧
        True))))))))
theorem oneS_vc (a0 : Int) (a1 : Int) (a2 : Int) (a3 : Int) (a4 : Int) (a5 : Int) (a6 : Int) (a7 : Bool) (a8 : Int) (a9 : Int) : wpTop (stdA XK (tblOf oneS_tbl) (fun j ns => match j, ns with | 0, [.i y0] => inv_oneS_0 a0 a1 a2 a3 a4 a5 a6 a7 a8 a9 y0 | _, _ => False) (fun j ns => match j, ns with | 0, [.i y0] => minv_oneS_0 a0 a1 a2 a3 a4 a5 a6 a7 a8 a9 y0 | _, _ => 0)) { cfg sp with ann := annOf [(26, 26, .inv 0 [.one 13 (.int .i64)] [])] } 3 26 [.agg [.int .i64 none (a0), .int .i64 none (a1), .int .i64 none (a2), .int .i64 none (a3), .int .i64 none (a4), .int .i64 none (a5), .int .i64 none (a6), .sb 0 false (a7) (a7 = true) (a7 = false), .int .i64 none (a8), .int .i64 none (a9)]] (oneS_res a0 a1 a2 a3 a4 a5 a6 a7 a8 a9) = oneS_VC a0 a1 a2 a3 a4 a5 a6 a7 a8 a9 := by kernel_rfl
def oneR__tbl : List (Nat × Ct KT) := [(53, ct53), (54, ct54), (29, ct29)]
abbrev oneR__res (a0 : Int) (a1 : Int) (a2 : Int) (a3 : Int) (a4 : Int) (a5 : Int) (a6 : Int) (a7 : Bool) (a8 : Int) (a9 : Int) (a10 : Int) (a11 : Int) : PV KT := .int .i64 none ((oneR (Event.mk a0 a1 a2 a3 a4 a5 a6 a7 a8 a9) a10 a11))
abbrev oneR__VC (a0 : Int) (a1 : Int) (a2 : Int) (a3 : Int) (a4 : Int) (a5 : Int) (a6 : Int) (a7 : Bool) (a8 : Int) (a9 : Int) (a10 : Int) (a11 : Int) : Prop :=
(True) ∧
(((checkT a0 a1) ≠ 0 →
(((checkT a0 a1) : Int) = (oneR (Event.mk a0 a1 a2 a3 a4 a5 a6 a7 a8 a9) a10 a11)) ∧
 True)) ∧
((checkT a0 a1) = 0 →
(True) ∧
(((checkT a2 a3) ≠ 0 →
(((checkT a2 a3) : Int) = (oneR (Event.mk a0 a1 a2 a3 a4 a5 a6 a7 a8 a9) a10 a11)) ∧
  True)) ∧
((checkT a2 a3) = 0 →
((a2 = 0 →
((2 : Int) = (oneR (Event.mk a0 a1 a2 a3 a4 a5 a6 a7 a8 a9) a10 a11)) ∧
   True)) ∧
(a2 ≠ 0 →
((a7 = true →
(((a4 ≠ 0 ∨ (a5 ≠ 0 ∨ a6 ≠ 0)) →
((3 : Int) = (oneR (Event.mk a0 a1 a2 a3 a4 a5 a6 a7 a8 a9) a10 a11)) ∧
     True)) ∧
((a4 = 0 ∧ (a5 = 0 ∧ a6 = 0)) →
((a8 < 0 →
((2 : Int) = (oneR (Event.mk a0 a1 a2 a3 a4 a5 a6 a7 a8 a9) a10 a11)) ∧
      True)) ∧
(0 ≤ a8 →
((a9 < 0 →
((2 : Int) = (oneR (Event.mk a0 a1 a2 a3 a4 a5 a6 a7 a8 a9) a10 a11)) ∧
       True)) ∧
(0 ≤ a9 →
(((a0 ≠ a10 ∨ a1 ≠ a11) →
((6 : Int) = (oneR (Event.mk a0 a1 a2 a3 a4 a5 a6 a7 a8 a9) a10 a11)) ∧
        True)) ∧
((a0 = a10 ∧ a1 = a11) →
(True) ∧
((((addT a0 a1 a2 a3).2.2) : Int) = (oneR (Event.mk a0 a1 a2 a3 a4 a5 a6 a7 a8 a9) a10 a11)) ∧
        True)))))) ∧
(a7 = false →
(True) ∧
(((pitchC a4 a5 a6) ≠ 0 →
(((pitchC a4 a5 a6) : Int) = (oneR (Event.mk a0 a1 a2 a3 a4 a5 a6 a7 a8 a9) a10 a11)) ∧
     True)) ∧
((pitchC a4 a5 a6) = 0 →
((a8 < 0 →
((2 : Int) = (oneR (Event.mk a0 a1 a2 a3 a4 a5 a6 a7 a8 a9) a10 a11)) ∧
      True)) ∧
(0 ≤ a8 →
((a9 < 0 →
((2 : Int) = (oneR (Event.mk a0 a1 a2 a3 a4 a5 a6 a7 a8 a9) a10 a11)) ∧
       True)) ∧
(0 ≤ a9 →
(((a0 ≠ a10 ∨ a1 ≠ a11) →
((6 : Int) = (oneR (Event.mk a0 a1 a2 a3 a4 a5 a6 a7 a8 a9) a10 a11)) ∧
        True)) ∧
((a0 = a10 ∧ a1 = a11) →
(True) ∧
((((addT a0 a1 a2 a3).2.2) : Int) = (oneR (Event.mk a0 a1 a2 a3 a4 a5 a6 a7 a8 a9) a10 a11)) ∧
        True))))))))
theorem oneR__vc (a0 : Int) (a1 : Int) (a2 : Int) (a3 : Int) (a4 : Int) (a5 : Int) (a6 : Int) (a7 : Bool) (a8 : Int) (a9 : Int) (a10 : Int) (a11 : Int) : wpTop (stdA XK (tblOf oneR__tbl) (fun _ _ => False) (fun _ _ => 0)) { cfg sp with ann := annOf [] } 3 28 [.agg [.int .i64 none (a0), .int .i64 none (a1), .int .i64 none (a2), .int .i64 none (a3), .int .i64 none (a4), .int .i64 none (a5), .int .i64 none (a6), .sb 0 false (a7) (a7 = true) (a7 = false), .int .i64 none (a8), .int .i64 none (a9)], .agg [.int .i64 none (a10), .int .i64 none (a11)]] (oneR__res a0 a1 a2 a3 a4 a5 a6 a7 a8 a9 a10 a11) = oneR__VC a0 a1 a2 a3 a4 a5 a6 a7 a8 a9 a10 a11 := by kernel_rfl
def CheckE_tbl : List (Nat × Ct KT) := [(26, ct26), (27, ct27)]
abbrev CheckE_res (a0 : List Event) : PV KT := .tuple [.int .i64 none (((checkE a0).1)), .int .i64 none (((checkE a0).2))]
abbrev CheckE_VC (a0 : List Event) : Prop :=
((2000 < (ln a0) →
((11 : Int) = ((checkE a0).1)) ∧
((0 : Int) = ((checkE a0).2)) ∧
 True)) ∧
((ln a0) ≤ 2000 →
(inv_CheckE_0 a0 0 0 1) ∧
(∀ x1 : Int,
(∀ x2 : Int,
(∀ x3 : Int,
(inv_CheckE_0 a0 x1 x2 x3 →
((x1 < (ln a0) →
(Wn x1 (ln a0)) ∧
(True) ∧
(((oneE (Event.mk (ix a0 x1).AtN (ix a0 x1).AtD (ix a0 x1).DurN (ix a0 x1).DurD (ix a0 x1).PitchStep (ix a0 x1).PitchOctave (ix a0 x1).PitchAlter (ix a0 x1).Rest (ix a0 x1).Sign (ix a0 x1).Pass)) ≠ 0 →
(((oneE (Event.mk (ix a0 x1).AtN (ix a0 x1).AtD (ix a0 x1).DurN (ix a0 x1).DurD (ix a0 x1).PitchStep (ix a0 x1).PitchOctave (ix a0 x1).PitchAlter (ix a0 x1).Rest (ix a0 x1).Sign (ix a0 x1).Pass)) : Int) = ((checkE a0).1)) ∧
((x1 : Int) = ((checkE a0).2)) ∧
       True)) ∧
((oneE (Event.mk (ix a0 x1).AtN (ix a0 x1).AtD (ix a0 x1).DurN (ix a0 x1).DurD (ix a0 x1).PitchStep (ix a0 x1).PitchOctave (ix a0 x1).PitchAlter (ix a0 x1).Rest (ix a0 x1).Sign (ix a0 x1).Pass)) = 0 →
((((ix a0 x1).AtN ≠ x2 ∨ (ix a0 x1).AtD ≠ x3) →
((6 : Int) = ((checkE a0).1)) ∧
((x1 : Int) = ((checkE a0).2)) ∧
        True)) ∧
(((ix a0 x1).AtN = x2 ∧ (ix a0 x1).AtD = x3) →
(True) ∧
((((addT (ix a0 x1).AtN (ix a0 x1).AtD (ix a0 x1).DurN (ix a0 x1).DurD).2.2) ≠ 0 →
((((addT (ix a0 x1).AtN (ix a0 x1).AtD (ix a0 x1).DurN (ix a0 x1).DurD).2.2) : Int) = ((checkE a0).1)) ∧
((x1 : Int) = ((checkE a0).2)) ∧
         True)) ∧
(((addT (ix a0 x1).AtN (ix a0 x1).AtD (ix a0 x1).DurN (ix a0 x1).DurD).2.2) = 0 →
(I64 (x1 + 1)) ∧
((0 : Int) = 0) ∧
((1 : Int) = 1) ∧
(inv_CheckE_0 a0 (x1 + 1) ((addT (ix a0 x1).AtN (ix a0 x1).AtD (ix a0 x1).DurN (ix a0 x1).DurD).1) ((addT (ix a0 x1).AtN (ix a0 x1).AtD (ix a0 x1).DurN (ix a0 x1).DurD).2.1)) ∧
 minv_CheckE_0 a0 (x1 + 1) ((addT (ix a0 x1).AtN (ix a0 x1).AtD (ix a0 x1).DurN (ix a0 x1).DurD).1) ((addT (ix a0 x1).AtN (ix a0 x1).AtD (ix a0 x1).DurN (ix a0 x1).DurD).2.1) < minv_CheckE_0 a0 x1 x2 x3))))) ∧
((ln a0) ≤ x1 →
((0 : Int) = ((checkE a0).1)) ∧
((0 : Int) = ((checkE a0).2)) ∧
      True))))))
theorem CheckE_vc (a0 : List Event) : wpTop (stdA XK (tblOf CheckE_tbl) (fun j ns => match j, ns with | 0, [.i y0, .i y1, .i y2] => inv_CheckE_0 a0 y0 y1 y2 | _, _ => False) (fun j ns => match j, ns with | 0, [.i y0, .i y1, .i y2] => minv_CheckE_0 a0 y0 y1 y2 | _, _ => 0)) { cfg sp with ann := annOf [(7, 122, .inv 0 [.one 16 (.int .i64), .via 4 [.int .i64, .int .i64]] [])] } 3 7 [.list 11 (a0) none] (CheckE_res a0) = CheckE_VC a0 := by kernel_rfl
def CheckER_tbl : List (Nat × Ct KT) := [(28, ct28), (29, ct29)]
abbrev CheckER_res (a0 : List Event) : PV KT := .tuple [.int .i64 none (((checkE a0).1)), .int .i64 none (((checkE a0).2))]
abbrev CheckER_VC (a0 : List Event) : Prop :=
((2000 < (ln a0) →
((11 : Int) = ((checkE a0).1)) ∧
((0 : Int) = ((checkE a0).2)) ∧
 True)) ∧
((ln a0) ≤ 2000 →
(inv_CheckER_0 a0 0 0 1) ∧
(∀ x1 : Int,
(∀ x2 : Int,
(∀ x3 : Int,
(inv_CheckER_0 a0 x1 x2 x3 →
((x1 < (ln a0) →
(Wn x1 (ln a0)) ∧
(True) ∧
(((oneR (Event.mk (ix a0 x1).AtN (ix a0 x1).AtD (ix a0 x1).DurN (ix a0 x1).DurD (ix a0 x1).PitchStep (ix a0 x1).PitchOctave (ix a0 x1).PitchAlter (ix a0 x1).Rest (ix a0 x1).Sign (ix a0 x1).Pass) x2 x3) ≠ 0 →
(((oneR (Event.mk (ix a0 x1).AtN (ix a0 x1).AtD (ix a0 x1).DurN (ix a0 x1).DurD (ix a0 x1).PitchStep (ix a0 x1).PitchOctave (ix a0 x1).PitchAlter (ix a0 x1).Rest (ix a0 x1).Sign (ix a0 x1).Pass) x2 x3) : Int) = ((checkE a0).1)) ∧
((x1 : Int) = ((checkE a0).2)) ∧
       True)) ∧
((oneR (Event.mk (ix a0 x1).AtN (ix a0 x1).AtD (ix a0 x1).DurN (ix a0 x1).DurD (ix a0 x1).PitchStep (ix a0 x1).PitchOctave (ix a0 x1).PitchAlter (ix a0 x1).Rest (ix a0 x1).Sign (ix a0 x1).Pass) x2 x3) = 0 →
(Wn x1 (ln a0)) ∧
(Wn x1 (ln a0)) ∧
(True) ∧
(I64 (x1 + 1)) ∧
(inv_CheckER_0 a0 (x1 + 1) ((addT (ix a0 x1).AtN (ix a0 x1).AtD (ix a0 x1).DurN (ix a0 x1).DurD).1) ((addT (ix a0 x1).AtN (ix a0 x1).AtD (ix a0 x1).DurN (ix a0 x1).DurD).2.1)) ∧
 minv_CheckER_0 a0 (x1 + 1) ((addT (ix a0 x1).AtN (ix a0 x1).AtD (ix a0 x1).DurN (ix a0 x1).DurD).1) ((addT (ix a0 x1).AtN (ix a0 x1).AtD (ix a0 x1).DurN (ix a0 x1).DurD).2.1) < minv_CheckER_0 a0 x1 x2 x3))) ∧
((ln a0) ≤ x1 →
((0 : Int) = ((checkE a0).1)) ∧
((0 : Int) = ((checkE a0).2)) ∧
      True))))))
theorem CheckER_vc (a0 : List Event) : wpTop (stdA XK (tblOf CheckER_tbl) (fun j ns => match j, ns with | 0, [.i y0, .i y1, .i y2] => inv_CheckER_0 a0 y0 y1 y2 | _, _ => False) (fun j ns => match j, ns with | 0, [.i y0, .i y1, .i y2] => minv_CheckER_0 a0 y0 y1 y2 | _, _ => 0)) { cfg sp with ann := annOf [(8, 122, .inv 0 [.one 5 (.int .i64), .via 4 [.int .i64, .int .i64]] [])] } 3 8 [.list 11 (a0) none] (CheckER_res a0) = CheckER_VC a0 := by kernel_rfl
def EndE_tbl : List (Nat × Ct KT) := [(7, ct7), (27, ct27)]
abbrev EndE_res (a0 : List Event) : PV KT := .tuple [.agg [.int .i64 none (((endE a0).1)), .int .i64 none (((endE a0).2.1))], .int .i64 none (((endE a0).2.2))]
abbrev EndE_VC (a0 : List Event) : Prop :=
((ln a0 ≤ 1000000000)) ∧
((((checkE a0).1) ≠ 0 →
((0 : Int) = ((endE a0).1)) ∧
((0 : Int) = ((endE a0).2.1)) ∧
((((checkE a0).1) : Int) = ((endE a0).2.2)) ∧
 True)) ∧
(((checkE a0).1) = 0 →
(((ln a0) = 0 →
((0 : Int) = ((endE a0).1)) ∧
((1 : Int) = ((endE a0).2.1)) ∧
((0 : Int) = ((endE a0).2.2)) ∧
  True)) ∧
((ln a0) ≠ 0 →
(I64 ((ln a0) - 1)) ∧
(Wn ((ln a0) - 1) (ln a0)) ∧
(True) ∧
((((addT (ix a0 ((ln a0) - 1)).AtN (ix a0 ((ln a0) - 1)).AtD (ix a0 ((ln a0) - 1)).DurN (ix a0 ((ln a0) - 1)).DurD).1) : Int) = ((endE a0).1)) ∧
((((addT (ix a0 ((ln a0) - 1)).AtN (ix a0 ((ln a0) - 1)).AtD (ix a0 ((ln a0) - 1)).DurN (ix a0 ((ln a0) - 1)).DurD).2.1) : Int) = ((endE a0).2.1)) ∧
((((addT (ix a0 ((ln a0) - 1)).AtN (ix a0 ((ln a0) - 1)).AtD (ix a0 ((ln a0) - 1)).DurN (ix a0 ((ln a0) - 1)).DurD).2.2) : Int) = ((endE a0).2.2)) ∧
  True))
theorem EndE_vc (a0 : List Event) : wpTop (stdA XK (tblOf EndE_tbl) (fun _ _ => False) (fun _ _ => 0)) { cfg sp with ann := annOf [] } 3 9 [.list 11 (a0) none] (EndE_res a0) = EndE_VC a0 := by kernel_rfl
def EndER_tbl : List (Nat × Ct KT) := [(8, ct8), (29, ct29)]
abbrev EndER_res (a0 : List Event) : PV KT := .tuple [.agg [.int .i64 none (((endE a0).1)), .int .i64 none (((endE a0).2.1))], .int .i64 none (((endE a0).2.2))]
abbrev EndER_VC (a0 : List Event) : Prop :=
((ln a0 ≤ 1000000000)) ∧
((((checkE a0).1) ≠ 0 →
((0 : Int) = ((endE a0).1)) ∧
((0 : Int) = ((endE a0).2.1)) ∧
((((checkE a0).1) : Int) = ((endE a0).2.2)) ∧
 True)) ∧
(((checkE a0).1) = 0 →
(((ln a0) = 0 →
((0 : Int) = ((endE a0).1)) ∧
((1 : Int) = ((endE a0).2.1)) ∧
((0 : Int) = ((endE a0).2.2)) ∧
  True)) ∧
((ln a0) ≠ 0 →
(I64 ((ln a0) - 1)) ∧
(Wn ((ln a0) - 1) (ln a0)) ∧
(True) ∧
((((addT (ix a0 ((ln a0) - 1)).AtN (ix a0 ((ln a0) - 1)).AtD (ix a0 ((ln a0) - 1)).DurN (ix a0 ((ln a0) - 1)).DurD).1) : Int) = ((endE a0).1)) ∧
((((addT (ix a0 ((ln a0) - 1)).AtN (ix a0 ((ln a0) - 1)).AtD (ix a0 ((ln a0) - 1)).DurN (ix a0 ((ln a0) - 1)).DurD).2.1) : Int) = ((endE a0).2.1)) ∧
((((addT (ix a0 ((ln a0) - 1)).AtN (ix a0 ((ln a0) - 1)).AtD (ix a0 ((ln a0) - 1)).DurN (ix a0 ((ln a0) - 1)).DurD).2.2) : Int) = ((endE a0).2.2)) ∧
  True))
theorem EndER_vc (a0 : List Event) : wpTop (stdA XK (tblOf EndER_tbl) (fun _ _ => False) (fun _ _ => 0)) { cfg sp with ann := annOf [] } 3 10 [.list 11 (a0) none] (EndER_res a0) = EndER_VC a0 := by kernel_rfl
def AtE_tbl : List (Nat × Ct KT) := [(9, ct9), (30, ct30), (32, ct32)]
abbrev AtE_res (a0 : List Event) (a1 : Int) (a2 : Int) : PV KT := .tuple [.int .i64 none (((atE a0 a1 a2).1)), .int .i64 none (((atE a0 a1 a2).2))]
abbrev AtE_VC (a0 : List Event) (a1 : Int) (a2 : Int) : Prop :=
((ln a0 ≤ 1000000000)) ∧
((((endE a0).2.2) ≠ 0 →
((0 : Int) = ((atE a0 a1 a2).1)) ∧
((((endE a0).2.2) : Int) = ((atE a0 a1 a2).2)) ∧
 True)) ∧
(((endE a0).2.2) = 0 →
(True) ∧
((((cmpT a1 a2 ((endE a0).1) ((endE a0).2.1)).2) ≠ 0 →
((0 : Int) = ((atE a0 a1 a2).1)) ∧
((((cmpT a1 a2 ((endE a0).1) ((endE a0).2.1)).2) : Int) = ((atE a0 a1 a2).2)) ∧
  True)) ∧
(((cmpT a1 a2 ((endE a0).1) ((endE a0).2.1)).2) = 0 →
((0 ≤ ((cmpT a1 a2 ((endE a0).1) ((endE a0).2.1)).1) →
((0 : Int) = ((atE a0 a1 a2).1)) ∧
((2 : Int) = ((atE a0 a1 a2).2)) ∧
   True)) ∧
(((cmpT a1 a2 ((endE a0).1) ((endE a0).2.1)).1) < 0 →
(inv_AtE_0 a0 a1 a2 0 (ln a0)) ∧
(∀ x3 : Int,
(∀ x4 : Int,
(inv_AtE_0 a0 a1 a2 x3 x4 →
((x3 < x4 →
(I64 (x3 + x4)) ∧
(InK .u64 (x3 + x4)) ∧
(0 ≤ (x3 + x4)) ∧
((2 : Int) ≠ 0 ∧ InK .u64 (Int.tdiv (x3 + x4) 2)) ∧
(I64 (Int.tdiv (x3 + x4) 2)) ∧
(Wn (Int.tdiv (x3 + x4) 2) (ln a0)) ∧
(True) ∧
((((cmpT (ix a0 (Int.tdiv (x3 + x4) 2)).AtN (ix a0 (Int.tdiv (x3 + x4) 2)).AtD a1 a2).1) < 0 →
(I64 ((Int.tdiv (x3 + x4) 2) + 1)) ∧
((a1 : Int) = a1) ∧
((a2 : Int) = a2) ∧
((((endE a0).1) : Int) = ((endE a0).1)) ∧
((((endE a0).2.1) : Int) = ((endE a0).2.1)) ∧
((a1 : Int) = a1) ∧
((a2 : Int) = a2) ∧
(inv_AtE_0 a0 a1 a2 ((Int.tdiv (x3 + x4) 2) + 1) x4) ∧
 minv_AtE_0 a0 a1 a2 ((Int.tdiv (x3 + x4) 2) + 1) x4 < minv_AtE_0 a0 a1 a2 x3 x4)) ∧
(0 ≤ ((cmpT (ix a0 (Int.tdiv (x3 + x4) 2)).AtN (ix a0 (Int.tdiv (x3 + x4) 2)).AtD a1 a2).1) →
((a1 : Int) = a1) ∧
((a2 : Int) = a2) ∧
((((endE a0).1) : Int) = ((endE a0).1)) ∧
((((endE a0).2.1) : Int) = ((endE a0).2.1)) ∧
((a1 : Int) = a1) ∧
((a2 : Int) = a2) ∧
(inv_AtE_0 a0 a1 a2 x3 (Int.tdiv (x3 + x4) 2)) ∧
 minv_AtE_0 a0 a1 a2 x3 (Int.tdiv (x3 + x4) 2) < minv_AtE_0 a0 a1 a2 x3 x4))) ∧
(x4 ≤ x3 →
((x3 < (ln a0) →
(Wn x3 (ln a0)) ∧
(True) ∧
((((cmpT (ix a0 x3).AtN (ix a0 x3).AtD a1 a2).1) ≠ 0 →
(I64 (x3 - 1)) ∧
(((x3 - 1) : Int) = ((atE a0 a1 a2).1)) ∧
((0 : Int) = ((atE a0 a1 a2).2)) ∧
         True)) ∧
(((cmpT (ix a0 x3).AtN (ix a0 x3).AtD a1 a2).1) = 0 →
((x3 : Int) = ((atE a0 a1 a2).1)) ∧
((0 : Int) = ((atE a0 a1 a2).2)) ∧
         True))) ∧
((ln a0) ≤ x3 →
(I64 (x3 - 1)) ∧
(((x3 - 1) : Int) = ((atE a0 a1 a2).1)) ∧
((0 : Int) = ((atE a0 a1 a2).2)) ∧
        True))))))))
theorem AtE_vc (a0 : List Event) (a1 : Int) (a2 : Int) : wpTop (stdA XK (tblOf AtE_tbl) (fun j ns => match j, ns with | 0, [.i y0, .i y1] => inv_AtE_0 a0 a1 a2 y0 y1 | _, _ => False) (fun j ns => match j, ns with | 0, [.i y0, .i y1] => minv_AtE_0 a0 a1 a2 y0 y1 | _, _ => 0)) { cfg sp with ann := annOf [(31, 60, .inv 0 [.one 9 (.int .i64), .one 10 (.int .i64)] [])] } 3 11 [.list 11 (a0) none, .agg [.int .i64 none (a1), .int .i64 none (a2)]] (AtE_res a0 a1 a2) = AtE_VC a0 a1 a2 := by kernel_rfl
def AtER_tbl : List (Nat × Ct KT) := [(10, ct10), (33, ct33)]
abbrev AtER_res (a0 : List Event) (a1 : Int) (a2 : Int) : PV KT := .tuple [.int .i64 none (((atE a0 a1 a2).1)), .int .i64 none (((atE a0 a1 a2).2))]
abbrev AtER_VC (a0 : List Event) (a1 : Int) (a2 : Int) : Prop :=
((ln a0 ≤ 1000000000)) ∧
((((endE a0).2.2) ≠ 0 →
((0 : Int) = ((atE a0 a1 a2).1)) ∧
((((endE a0).2.2) : Int) = ((atE a0 a1 a2).2)) ∧
 True)) ∧
(((endE a0).2.2) = 0 →
(True) ∧
((((cmpT a1 a2 ((endE a0).1) ((endE a0).2.1)).2) ≠ 0 →
((0 : Int) = ((atE a0 a1 a2).1)) ∧
((((cmpT a1 a2 ((endE a0).1) ((endE a0).2.1)).2) : Int) = ((atE a0 a1 a2).2)) ∧
  True)) ∧
(((cmpT a1 a2 ((endE a0).1) ((endE a0).2.1)).2) = 0 →
((0 ≤ ((cmpT a1 a2 ((endE a0).1) ((endE a0).2.1)).1) →
((0 : Int) = ((atE a0 a1 a2).1)) ∧
((2 : Int) = ((atE a0 a1 a2).2)) ∧
   True)) ∧
(((cmpT a1 a2 ((endE a0).1) ((endE a0).2.1)).1) < 0 →
(inv_AtER_0 a0 a1 a2 0 0) ∧
(∀ x3 : Int,
(∀ x4 : Int,
(inv_AtER_0 a0 a1 a2 x3 x4 →
((x4 < (ln a0) →
(Wn x4 (ln a0)) ∧
(True) ∧
((((cmpT (ix a0 x4).AtN (ix a0 x4).AtD a1 a2).1) ≤ 0 →
(I64 (x4 + 1)) ∧
((((endE a0).1) : Int) = ((endE a0).1)) ∧
((((endE a0).2.1) : Int) = ((endE a0).2.1)) ∧
((a1 : Int) = a1) ∧
((a2 : Int) = a2) ∧
(inv_AtER_0 a0 a1 a2 x4 (x4 + 1)) ∧
 minv_AtER_0 a0 a1 a2 x4 (x4 + 1) < minv_AtER_0 a0 a1 a2 x3 x4)) ∧
(0 < ((cmpT (ix a0 x4).AtN (ix a0 x4).AtD a1 a2).1) →
(I64 (x4 + 1)) ∧
((((endE a0).1) : Int) = ((endE a0).1)) ∧
((((endE a0).2.1) : Int) = ((endE a0).2.1)) ∧
((a1 : Int) = a1) ∧
((a2 : Int) = a2) ∧
(inv_AtER_0 a0 a1 a2 x3 (x4 + 1)) ∧
 minv_AtER_0 a0 a1 a2 x3 (x4 + 1) < minv_AtER_0 a0 a1 a2 x3 x4))) ∧
((ln a0) ≤ x4 →
((x3 : Int) = ((atE a0 a1 a2).1)) ∧
((0 : Int) = ((atE a0 a1 a2).2)) ∧
       True)))))))
theorem AtER_vc (a0 : List Event) (a1 : Int) (a2 : Int) : wpTop (stdA XK (tblOf AtER_tbl) (fun j ns => match j, ns with | 0, [.i y0, .i y1] => inv_AtER_0 a0 a1 a2 y0 y1 | _, _ => False) (fun j ns => match j, ns with | 0, [.i y0, .i y1] => minv_AtER_0 a0 a1 a2 y0 y1 | _, _ => 0)) { cfg sp with ann := annOf [(12, 2042, .inv 0 [.one 9 (.int .i64), .one 10 (.int .i64)] [])] } 3 12 [.list 11 (a0) none, .agg [.int .i64 none (a1), .int .i64 none (a2)]] (AtER_res a0 a1 a2) = AtER_VC a0 a1 a2 := by kernel_rfl
def SameEvents_tbl : List (Nat × Ct KT) := []
abbrev SameEvents_res (a0 : List Event) (a1 : List Event) : PV KT := .sb 0 false ((sameEv a0 a1)) ((sameEv a0 a1) = true) ((sameEv a0 a1) = false)
abbrev SameEvents_VC (a0 : List Event) (a1 : List Event) : Prop :=
(((ln a0) ≠ (ln a1) →
(false = (sameEv a0 a1)) ∧
 True)) ∧
((ln a0) = (ln a1) →
(inv_SameEvents_0 a0 a1 0) ∧
(∀ x1 : Int,
(inv_SameEvents_0 a0 a1 x1 →
((x1 < (ln a0) →
(Wn x1 (ln a0)) ∧
(Wn x1 (ln a1)) ∧
((((ix a0 x1).AtN ≠ (ix a1 x1).AtN ∨ ((ix a0 x1).AtD ≠ (ix a1 x1).AtD ∨ ((ix a0 x1).DurN ≠ (ix a1 x1).DurN ∨ ((ix a0 x1).DurD ≠ (ix a1 x1).DurD ∨ ((ix a0 x1).PitchStep ≠ (ix a1 x1).PitchStep ∨ ((ix a0 x1).PitchOctave ≠ (ix a1 x1).PitchOctave ∨ ((ix a0 x1).PitchAlter ≠ (ix a1 x1).PitchAlter ∨ ((ix a0 x1).Rest ≠ (ix a1 x1).Rest ∨ ((ix a0 x1).Sign ≠ (ix a1 x1).Sign ∨ (ix a0 x1).Pass ≠ (ix a1 x1).Pass))))))))) →
(false = (sameEv a0 a1)) ∧
     True)) ∧
(((ix a0 x1).AtN = (ix a1 x1).AtN ∧ ((ix a0 x1).AtD = (ix a1 x1).AtD ∧ ((ix a0 x1).DurN = (ix a1 x1).DurN ∧ ((ix a0 x1).DurD = (ix a1 x1).DurD ∧ ((ix a0 x1).PitchStep = (ix a1 x1).PitchStep ∧ ((ix a0 x1).PitchOctave = (ix a1 x1).PitchOctave ∧ ((ix a0 x1).PitchAlter = (ix a1 x1).PitchAlter ∧ ((ix a0 x1).Rest = (ix a1 x1).Rest ∧ ((ix a0 x1).Sign = (ix a1 x1).Sign ∧ (ix a0 x1).Pass = (ix a1 x1).Pass))))))))) →
(I64 (x1 + 1)) ∧
(inv_SameEvents_0 a0 a1 (x1 + 1)) ∧
 minv_SameEvents_0 a0 a1 (x1 + 1) < minv_SameEvents_0 a0 a1 x1))) ∧
((ln a0) ≤ x1 →
(true = (sameEv a0 a1)) ∧
    True))))
theorem SameEvents_vc (a0 : List Event) (a1 : List Event) : wpTop (stdA XK (tblOf SameEvents_tbl) (fun j ns => match j, ns with | 0, [.i y0] => inv_SameEvents_0 a0 a1 y0 | _, _ => False) (fun j ns => match j, ns with | 0, [.i y0] => minv_SameEvents_0 a0 a1 y0 | _, _ => 0)) { cfg sp with ann := annOf [(13, 58, .inv 0 [.one 5 (.int .i64)] [])] } 3 13 [.list 11 (a0) none, .list 11 (a1) none] (SameEvents_res a0 a1) = SameEvents_VC a0 a1 := by kernel_rfl
def OwnEvents_tbl : List (Nat × Ct KT) := []
abbrev OwnEvents_res (a0 : List Event) : PV KT := .list 11 ((a0)) none
abbrev OwnEvents_VC (a0 : List Event) : Prop :=
(Short (List.length ([] : List Event) + List.length a0)) ∧
((([] : List Event) ++ a0) = (a0)) ∧
 True
theorem OwnEvents_vc (a0 : List Event) : wpTop (stdA XK (tblOf OwnEvents_tbl) (fun _ _ => False) (fun _ _ => 0)) { cfg sp with ann := annOf [] } 3 6 [.list 11 (a0) none] (OwnEvents_res a0) = OwnEvents_VC a0 := by kernel_rfl
def lawChecks_tbl : List (Nat × Ct KT) := [(5, ct5), (6, ct6), (7, ct7), (8, ct8), (9, ct9), (10, ct10), (11, ct11), (12, ct12), (13, ct13)]
abbrev lawChecks_res (a0 : List Event) (a1 : Int) (a2 : Int) : PV KT := .sb 0 false ((true)) ((true) = true) ((true) = false)
abbrev lawChecks_VC (a0 : List Event) (a1 : Int) (a2 : Int) : Prop :=
((60 < (ln a0) →
(((ln a0) ≤ 2000 →
(True) ∧
((true) = (true)) ∧
  True)) ∧
(2000 < (ln a0) →
((2100 < (ln a0) →
(True) ∧
((true) = (true)) ∧
   True)) ∧
((ln a0) ≤ 2100 →
((ln a0 ≤ 100000000)) ∧
((ln (a0) ≤ 1000000000)) ∧
((ln a0 ≤ 1000000000)) ∧
((ln (a0) ≤ 1000000000)) ∧
((ln a0 ≤ 1000000000)) ∧
((((checkE (a0)).1) ≠ ((checkE a0).1) →
(false = (true)) ∧
    True)) ∧
(((checkE (a0)).1) = ((checkE a0).1) →
((((checkE (a0)).2) ≠ ((checkE a0).2) →
(false = (true)) ∧
     True)) ∧
(((checkE (a0)).2) = ((checkE a0).2) →
(((((endE (a0)).1) ≠ ((endE a0).1) ∨ ((endE (a0)).2.1) ≠ ((endE a0).2.1)) →
(false = (true)) ∧
      True)) ∧
((((endE (a0)).1) = ((endE a0).1) ∧ ((endE (a0)).2.1) = ((endE a0).2.1)) →
((((endE (a0)).2.2) ≠ ((endE a0).2.2) →
(false = (true)) ∧
       True)) ∧
(((endE (a0)).2.2) = ((endE a0).2.2) →
((ln (a0) ≤ 1000000000)) ∧
((ln a0 ≤ 1000000000)) ∧
((((atE (a0) a1 a2).1) = ((atE a0 a1 a2).1) →
((((atE (a0) a1 a2).2) = ((atE a0 a1 a2).2) →
((ln (a0) ≤ 1000000000)) ∧
(((sameEv (a0) a0) = true →
(True) ∧
((true) = (true)) ∧
          True)) ∧
((sameEv (a0) a0) = false →
(false = (true)) ∧
          True))) ∧
(((atE (a0) a1 a2).2) ≠ ((atE a0 a1 a2).2) →
(false = (true)) ∧
         True))) ∧
(((atE (a0) a1 a2).1) ≠ ((atE a0 a1 a2).1) →
(false = (true)) ∧
        True))))))))) ∧
((ln a0) ≤ 60 →
((2100 < (ln a0) →
(True) ∧
((true) = (true)) ∧
  True)) ∧
((ln a0) ≤ 2100 →
((ln a0 ≤ 100000000)) ∧
((ln (a0) ≤ 1000000000)) ∧
((ln a0 ≤ 1000000000)) ∧
((ln (a0) ≤ 1000000000)) ∧
((ln a0 ≤ 1000000000)) ∧
((((checkE (a0)).1) ≠ ((checkE a0).1) →
(false = (true)) ∧
   True)) ∧
(((checkE (a0)).1) = ((checkE a0).1) →
((((checkE (a0)).2) ≠ ((checkE a0).2) →
(false = (true)) ∧
    True)) ∧
(((checkE (a0)).2) = ((checkE a0).2) →
(((((endE (a0)).1) ≠ ((endE a0).1) ∨ ((endE (a0)).2.1) ≠ ((endE a0).2.1)) →
(false = (true)) ∧
     True)) ∧
((((endE (a0)).1) = ((endE a0).1) ∧ ((endE (a0)).2.1) = ((endE a0).2.1)) →
((((endE (a0)).2.2) ≠ ((endE a0).2.2) →
(false = (true)) ∧
      True)) ∧
(((endE (a0)).2.2) = ((endE a0).2.2) →
((ln (a0) ≤ 1000000000)) ∧
((ln a0 ≤ 1000000000)) ∧
((((atE (a0) a1 a2).1) = ((atE a0 a1 a2).1) →
((((atE (a0) a1 a2).2) = ((atE a0 a1 a2).2) →
((ln (a0) ≤ 1000000000)) ∧
(((sameEv (a0) a0) = true →
(True) ∧
((true) = (true)) ∧
         True)) ∧
((sameEv (a0) a0) = false →
(false = (true)) ∧
         True))) ∧
(((atE (a0) a1 a2).2) ≠ ((atE a0 a1 a2).2) →
(false = (true)) ∧
        True))) ∧
(((atE (a0) a1 a2).1) ≠ ((atE a0 a1 a2).1) →
(false = (true)) ∧
       True)))))))
theorem lawChecks_vc (a0 : List Event) (a1 : Int) (a2 : Int) : wpTop (stdA XK (tblOf lawChecks_tbl) (fun _ _ => False) (fun _ _ => 0)) { cfg sp with ann := annOf [] } 3 3 [.list 11 (a0) none, .agg [.int .i64 none (a1), .int .i64 none (a2)]] (lawChecks_res a0 a1 a2) = lawChecks_VC a0 a1 a2 := by kernel_rfl
end Go.Proofs.YtjbefleabibmmaaGreatDoor
