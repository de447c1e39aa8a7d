/- THE CONDITIONS of the functions of the generator, as E3 computes them. Made by program (vc.py). -/
import Derived.Test.YtlkfjinaiepocaaDoorCts
namespace Go.Proofs.YtlkfjinaiepocaaDoor
open Go Go.E2 Go.E3
set_option maxRecDepth 100000
variable {sp : Nat → Option (List V → Heap → Option (CR × Heap))}

def q8t : List (Nat × Ct KT) := []
abbrev q05 (a0 : Int) (a1 : Int) : PV KT := .int .i64 none ((qa a0 a1))
abbrev q5c (a0 : Int) (a1 : Int) : Prop :=
((a1 < 1 →
((0 : Int) = (qa a0 a1)) ∧
 True)) ∧
(1 ≤ a1 →
((a1 : Int) ≠ 0) ∧
(((Int.tmod a0 a1) < 0 →
(I64 ((Int.tmod a0 a1) + a1)) ∧
((((Int.tmod a0 a1) + a1) : Int) = (qa a0 a1)) ∧
 True)) ∧
(0 ≤ (Int.tmod a0 a1) →
(((Int.tmod a0 a1) : Int) = (qa a0 a1)) ∧
 True))
theorem zb0 (a0 : Int) (a1 : Int) : qb3 (qu XK (qax q8t) (fun _ _ => False) (fun _ _ => 0)) { cfg sp with ann := qbu [] } 3 30 [.int .i64 none (a0), .int .i64 none (a1)] (q05 a0 a1) = q5c a0 a1 := by kernel_rfl
def q8n : List (Nat × Ct KT) := []
abbrev q03 (a0 : List Int) (a1 : Int) : PV KT := .int .i64 none ((atI a0 a1))
abbrev qzg (a0 : List Int) (a1 : Int) : Prop :=
((a1 < 0 →
((0 : Int) = (atI a0 a1)) ∧
 True)) ∧
(0 ≤ a1 →
(((ln a0) ≤ a1 →
((0 : Int) = (atI a0 a1)) ∧
 True)) ∧
(a1 < (ln a0) →
(Wn a1 (ln a0)) ∧
(((ix a0 a1) : Int) = (atI a0 a1)) ∧
 True))
theorem zbu (a0 : List Int) (a1 : Int) : qb3 (qu XK (qax q8n) (fun _ _ => False) (fun _ _ => 0)) { cfg sp with ann := qbu [] } 3 73 [.list 1 (a0) none, .int .i64 none (a1)] (q03 a0 a1) = qzg a0 a1 := by kernel_rfl
def q2q : List (Nat × Ct KT) := []
abbrev qtt (a0 : Int) (a1 : Int) (a2 : Int) (a3 : Int) (a4 : Int) : PV KT := .sb 0 false ((qco a0 a1 a2 a3 a4)) ((qco a0 a1 a2 a3 a4) = true) ((qco a0 a1 a2 a3 a4) = false)
abbrev qjr (v0 : Int) (v1 : Int) (v2 : Int) (v3 : Int) (p : Prop) : Prop :=
((v0 : Int) = v0) ∧
((v1 : Int) = v1) ∧
((v2 : Int) = v2) ∧
((v3 : Int) = v3) ∧
 p
abbrev qqo (a0 : Int) (a1 : Int) (a2 : Int) (a3 : Int) (a4 : Int) : Prop :=
(I64 (a4 - 1)) ∧
(qby a0 a1 a2 a3 a4 (a4 - 1)) ∧
(∀ x0 : Int,
(qby a0 a1 a2 a3 a4 x0 →
((1 ≤ x0 →
((x0 = 1 →
((a0 = 3 →
(true = (qco a0 a1 a2 a3 a4)) ∧
 True)) ∧
(a0 ≠ 3 →
(I64 (x0 - 1)) ∧
(qjr a0 a1 a2 a3 (
(qby a0 a1 a2 a3 a4 (x0 - 1)) ∧
 kg a0 a1 a2 a3 a4 (x0 - 1) < kg a0 a1 a2 a3 a4 x0))))) ∧
(x0 ≠ 1 →
((x0 = 2 →
((a1 = 3 →
(true = (qco a0 a1 a2 a3 a4)) ∧
 True)) ∧
(a1 ≠ 3 →
(I64 (x0 - 1)) ∧
(qjr a0 a1 a2 a3 (
(qby a0 a1 a2 a3 a4 (x0 - 1)) ∧
 kg a0 a1 a2 a3 a4 (x0 - 1) < kg a0 a1 a2 a3 a4 x0))))) ∧
(x0 ≠ 2 →
((x0 = 3 →
((a2 = 3 →
(true = (qco a0 a1 a2 a3 a4)) ∧
 True)) ∧
(a2 ≠ 3 →
(I64 (x0 - 1)) ∧
(qjr a0 a1 a2 a3 (
(qby a0 a1 a2 a3 a4 (x0 - 1)) ∧
 kg a0 a1 a2 a3 a4 (x0 - 1) < kg a0 a1 a2 a3 a4 x0))))) ∧
(x0 ≠ 3 →
((x0 = 4 →
((a3 = 3 →
(true = (qco a0 a1 a2 a3 a4)) ∧
 True)) ∧
(a3 ≠ 3 →
(I64 (x0 - 1)) ∧
(qjr a0 a1 a2 a3 (
(qby a0 a1 a2 a3 a4 (x0 - 1)) ∧
 kg a0 a1 a2 a3 a4 (x0 - 1) < kg a0 a1 a2 a3 a4 x0))))) ∧
(x0 ≠ 4 →
(I64 (x0 - 1)) ∧
(qjr a0 a1 a2 a3 (
(qby a0 a1 a2 a3 a4 (x0 - 1)) ∧
 kg a0 a1 a2 a3 a4 (x0 - 1) < kg a0 a1 a2 a3 a4 x0)))))))) ∧
(x0 < 1 →
(false = (qco a0 a1 a2 a3 a4)) ∧
 True)))
theorem q4x (a0 : Int) (a1 : Int) (a2 : Int) (a3 : Int) (a4 : Int) : qb3 (qu XK (qax q2q) (fun j ns => match j, ns with | 0, [.i y0] => qby a0 a1 a2 a3 a4 y0 | _, _ => False) (fun j ns => match j, ns with | 0, [.i y0] => kg a0 a1 a2 a3 a4 y0 | _, _ => 0)) { cfg sp with ann := qbu [(77, 26, .inv 0 [.one 5 (.int .i64)] [])] } 3 77 [.agg [.int .i64 none (a0), .int .i64 none (a1), .int .i64 none (a2), .int .i64 none (a3)], .int .i64 none (a4)] (qtt a0 a1 a2 a3 a4) = qqo a0 a1 a2 a3 a4 := by kernel_rfl
def q45 : List (Nat × Ct KT) := [(73, zce), (30, q87), (77, zcf)]
abbrev qwx (a0 : List Int) : PV KT := .agg [.str (((qw a0).1)), .list 4 (((qw a0).2)) none]
abbrev zv (v0 : List Int) (p : Prop) : Prop :=
((5 : Int) = 5) ∧
((0 : Int) = 0) ∧
((0 : Int) = 0) ∧
((0 : Int) = 0) ∧
((0 : Int) = 0) ∧
(((2 + (Int.tdiv (qa (qa (atI v0 0) 1048576) 16) 8)) : Int) = (2 + (Int.tdiv (qa (qa (atI v0 0) 1048576) 16) 8))) ∧
(((2 + (Int.tmod (Int.tdiv (qa (qa (atI v0 0) 1048576) 16) 4) 2)) : Int) = (2 + (Int.tmod (Int.tdiv (qa (qa (atI v0 0) 1048576) 16) 4) 2))) ∧
(((2 + (Int.tmod (Int.tdiv (qa (qa (atI v0 0) 1048576) 16) 2) 2)) : Int) = (2 + (Int.tmod (Int.tdiv (qa (qa (atI v0 0) 1048576) 16) 2) 2))) ∧
(((2 + (Int.tmod (qa (qa (atI v0 0) 1048576) 16) 2)) : Int) = (2 + (Int.tmod (qa (qa (atI v0 0) 1048576) 16) 2))) ∧
((decide ((Int.tmod (Int.tdiv (qa (atI v0 0) 1048576) 960) 3) = 0)) = (decide ((Int.tmod (Int.tdiv (qa (atI v0 0) 1048576) 960) 3) = 0))) ∧
((0 : Int) = 0) ∧
((0 : Int) = 0) ∧
((0 : Int) = 0) ∧
((0 : Int) = 0) ∧
((7 : Int) = 7) ∧
((0 : Int) = 0) ∧
((0 : Int) = 0) ∧
((0 : Int) = 0) ∧
((0 : Int) = 0) ∧
((0 : Int) = 0) ∧
((0 : Int) = 0) ∧
((0 : Int) = 0) ∧
((0 : Int) = 0) ∧
((0 : Int) = 0) ∧
((0 : Int) = 0) ∧
(((ix ([0, 4, 3] : List Int) (Int.tmod (Int.tdiv (qa (atI v0 0) 1048576) 320) 3)) : Int) = (ix ([0, 4, 3] : List Int) (Int.tmod (Int.tdiv (qa (atI v0 0) 1048576) 320) 3))) ∧
((3 : Int) = 3) ∧
(((2 + (Int.tdiv (qa (qa (atI v0 0) 1048576) 16) 8)) : Int) = (2 + (Int.tdiv (qa (qa (atI v0 0) 1048576) 16) 8))) ∧
(((2 + (Int.tmod (Int.tdiv (qa (qa (atI v0 0) 1048576) 16) 4) 2)) : Int) = (2 + (Int.tmod (Int.tdiv (qa (qa (atI v0 0) 1048576) 16) 4) 2))) ∧
(((2 + (Int.tmod (Int.tdiv (qa (qa (atI v0 0) 1048576) 16) 2) 2)) : Int) = (2 + (Int.tmod (Int.tdiv (qa (qa (atI v0 0) 1048576) 16) 2) 2))) ∧
(((2 + (Int.tmod (qa (qa (atI v0 0) 1048576) 16) 2)) : Int) = (2 + (Int.tmod (qa (qa (atI v0 0) 1048576) 16) 2))) ∧
(([] : List UInt8) = ([] : List UInt8)) ∧
 p
abbrev qvf (a0 : List Int) : Prop :=
((ln a0 ≤ 1000000000)) ∧
((I64 (atI a0 0) ∧ (1 : Int) ≤ 1048576 ∧ (1048576 : Int) ≤ 1048576)) ∧
((I64 (qa (atI a0 0) 1048576) ∧ (1 : Int) ≤ 16 ∧ (16 : Int) ≤ 1048576)) ∧
((8 : Int) ≠ 0 ∧ I64 (Int.tdiv (qa (qa (atI a0 0) 1048576) 16) 8)) ∧
(I64 (2 + (Int.tdiv (qa (qa (atI a0 0) 1048576) 16) 8))) ∧
((4 : Int) ≠ 0 ∧ I64 (Int.tdiv (qa (qa (atI a0 0) 1048576) 16) 4)) ∧
((2 : Int) ≠ 0) ∧
(I64 (2 + (Int.tmod (Int.tdiv (qa (qa (atI a0 0) 1048576) 16) 4) 2))) ∧
((2 : Int) ≠ 0 ∧ I64 (Int.tdiv (qa (qa (atI a0 0) 1048576) 16) 2)) ∧
((2 : Int) ≠ 0) ∧
(I64 (2 + (Int.tmod (Int.tdiv (qa (qa (atI a0 0) 1048576) 16) 2) 2))) ∧
((2 : Int) ≠ 0) ∧
(I64 (2 + (Int.tmod (qa (qa (atI a0 0) 1048576) 16) 2))) ∧
((16 : Int) ≠ 0 ∧ I64 (Int.tdiv (qa (atI a0 0) 1048576) 16)) ∧
((20 : Int) ≠ 0) ∧
(I64 (97 + (Int.tmod (Int.tdiv (qa (atI a0 0) 1048576) 16) 20))) ∧
(U8 (97 + (Int.tmod (Int.tdiv (qa (atI a0 0) 1048576) 16) 20))) ∧
(U8 ((97 + (Int.tmod (Int.tdiv (qa (atI a0 0) 1048576) 16) 20)))) ∧
(True) ∧
(True) ∧
(True) ∧
((320 : Int) ≠ 0 ∧ I64 (Int.tdiv (qa (atI a0 0) 1048576) 320)) ∧
((3 : Int) ≠ 0) ∧
(Wn (Int.tmod (Int.tdiv (qa (atI a0 0) 1048576) 320) 3) (ln ([0, 4, 3] : List Int))) ∧
(True) ∧
(ka (List.length ([] : List Sign) + List.length [(Sign.mk 7 0 0 0 false 0 false false 0 0 0 0 false 0 0 (ix ([0, 4, 3] : List Int) (Int.tmod (Int.tdiv (qa (atI a0 0) 1048576) 320) 3)) 3)])) ∧
((960 : Int) ≠ 0 ∧ I64 (Int.tdiv (qa (atI a0 0) 1048576) 960)) ∧
((3 : Int) ≠ 0) ∧
(True) ∧
(ka (List.length (([] : List Sign) ++ [(Sign.mk 7 0 0 0 false 0 false false 0 0 0 0 false 0 0 (ix ([0, 4, 3] : List Int) (Int.tmod (Int.tdiv (qa (atI a0 0) 1048576) 320) 3)) 3)]) + List.length [(Sign.mk 5 0 0 0 false 0 false false (2 + (Int.tdiv (qa (qa (atI a0 0) 1048576) 16) 8)) (2 + (Int.tmod (Int.tdiv (qa (qa (atI a0 0) 1048576) 16) 4) 2)) (2 + (Int.tmod (Int.tdiv (qa (qa (atI a0 0) 1048576) 16) 2) 2)) (2 + (Int.tmod (qa (qa (atI a0 0) 1048576) 16) 2)) (decide ((Int.tmod (Int.tdiv (qa (atI a0 0) 1048576) 960) 3) = 0)) 0 0 0 0)])) ∧
(qam a0 1 [(UInt8.ofNat (Int.toNat ((97 + (Int.tmod (Int.tdiv (qa (atI a0 0) 1048576) 16) 20)))))] ((([] : List Sign) ++ [(Sign.mk 7 0 0 0 false 0 false false 0 0 0 0 false 0 0 (ix ([0, 4, 3] : List Int) (Int.tmod (Int.tdiv (qa (atI a0 0) 1048576) 320) 3)) 3)]) ++ [(Sign.mk 5 0 0 0 false 0 false false (2 + (Int.tdiv (qa (qa (atI a0 0) 1048576) 16) 8)) (2 + (Int.tmod (Int.tdiv (qa (qa (atI a0 0) 1048576) 16) 4) 2)) (2 + (Int.tmod (Int.tdiv (qa (qa (atI a0 0) 1048576) 16) 2) 2)) (2 + (Int.tmod (qa (qa (atI a0 0) 1048576) 16) 2)) (decide ((Int.tmod (Int.tdiv (qa (atI a0 0) 1048576) 960) 3) = 0)) 0 0 0 0)]) (2 + (Int.tdiv (qa (qa (atI a0 0) 1048576) 16) 8)) (2 + (Int.tmod (Int.tdiv (qa (qa (atI a0 0) 1048576) 16) 4) 2)) (2 + (Int.tmod (Int.tdiv (qa (qa (atI a0 0) 1048576) 16) 2) 2)) (2 + (Int.tmod (qa (qa (atI a0 0) 1048576) 16) 2)) 4 false false) ∧
(∀ x0 : Int,
(∀ x1 : List UInt8,
(∀ x2 : List Sign,
(∀ x3 : Int,
(∀ x4 : Int,
(∀ x5 : Int,
(∀ x6 : Int,
(∀ x7 : Int,
(∀ x8 : Bool,
(∀ x9 : Bool,
(qam a0 x0 x1 x2 x3 x4 x5 x6 x7 x8 x9 →
((x0 < (ln a0) →
(((ln x2) < 55 →
((Wn x0 (ln a0)) ∧
((I64 (ix a0 x0) ∧ (1 : Int) ≤ 1048576 ∧ (1048576 : Int) ≤ 1048576)) ∧
((16 : Int) ≠ 0 ∧ I64 (Int.tdiv (qa (ix a0 x0) 1048576) 16)) ∧
((6 : Int) ≠ 0) ∧
(I64 (2 + (Int.tmod (Int.tdiv (qa (ix a0 x0) 1048576) 16) 6))) ∧
((16 : Int) ≠ 0) ∧
(((Int.tmod (qa (ix a0 x0) 1048576) 16) = 0 →
((16 : Int) ≠ 0 ∧ I64 (Int.tdiv (qa (ix a0 x0) 1048576) 16)) ∧
((6 : Int) ≠ 0) ∧
(((Int.tmod (Int.tdiv (qa (ix a0 x0) 1048576) 16) 6) = 0 →
((x8 = false →
((6 : Int) ≠ 0 ∧ I64 (Int.tdiv (Int.tdiv (qa (ix a0 x0) 1048576) 16) 6)) ∧
((I64 (Int.tdiv (Int.tdiv (qa (ix a0 x0) 1048576) 16) 6) ∧ (1 : Int) ≤ 16 ∧ (16 : Int) ≤ 1048576)) ∧
((8 : Int) ≠ 0 ∧ I64 (Int.tdiv (qa (Int.tdiv (Int.tdiv (qa (ix a0 x0) 1048576) 16) 6) 16) 8)) ∧
(I64 (2 + (Int.tdiv (qa (Int.tdiv (Int.tdiv (qa (ix a0 x0) 1048576) 16) 6) 16) 8))) ∧
((4 : Int) ≠ 0 ∧ I64 (Int.tdiv (qa (Int.tdiv (Int.tdiv (qa (ix a0 x0) 1048576) 16) 6) 16) 4)) ∧
((2 : Int) ≠ 0) ∧
(I64 (2 + (Int.tmod (Int.tdiv (qa (Int.tdiv (Int.tdiv (qa (ix a0 x0) 1048576) 16) 6) 16) 4) 2))) ∧
((2 : Int) ≠ 0 ∧ I64 (Int.tdiv (qa (Int.tdiv (Int.tdiv (qa (ix a0 x0) 1048576) 16) 6) 16) 2)) ∧
((2 : Int) ≠ 0) ∧
(I64 (2 + (Int.tmod (Int.tdiv (qa (Int.tdiv (Int.tdiv (qa (ix a0 x0) 1048576) 16) 6) 16) 2) 2))) ∧
((2 : Int) ≠ 0) ∧
(I64 (2 + (Int.tmod (qa (Int.tdiv (Int.tdiv (qa (ix a0 x0) 1048576) 16) 6) 16) 2))) ∧
((96 : Int) ≠ 0 ∧ I64 (Int.tdiv (Int.tdiv (qa (ix a0 x0) 1048576) 16) 96)) ∧
((2 : Int) ≠ 0) ∧
(True) ∧
(ka (List.length x2 + List.length [(Sign.mk 5 0 0 0 false 0 false false (2 + (Int.tdiv (qa (Int.tdiv (Int.tdiv (qa (ix a0 x0) 1048576) 16) 6) 16) 8)) (2 + (Int.tmod (Int.tdiv (qa (Int.tdiv (Int.tdiv (qa (ix a0 x0) 1048576) 16) 6) 16) 4) 2)) (2 + (Int.tmod (Int.tdiv (qa (Int.tdiv (Int.tdiv (qa (ix a0 x0) 1048576) 16) 6) 16) 2) 2)) (2 + (Int.tmod (qa (Int.tdiv (Int.tdiv (qa (ix a0 x0) 1048576) 16) 6) 16) 2)) (decide ((Int.tmod (Int.tdiv (Int.tdiv (qa (ix a0 x0) 1048576) 16) 96) 2) = 0)) 0 0 0 0)])) ∧
(zv a0 (
(qk a0 x1 (x2 ++ [(Sign.mk 5 0 0 0 false 0 false false (2 + (Int.tdiv (qa (Int.tdiv (Int.tdiv (qa (ix a0 x0) 1048576) 16) 6) 16) 8)) (2 + (Int.tmod (Int.tdiv (qa (Int.tdiv (Int.tdiv (qa (ix a0 x0) 1048576) 16) 6) 16) 4) 2)) (2 + (Int.tmod (Int.tdiv (qa (Int.tdiv (Int.tdiv (qa (ix a0 x0) 1048576) 16) 6) 16) 2) 2)) (2 + (Int.tmod (qa (Int.tdiv (Int.tdiv (qa (ix a0 x0) 1048576) 16) 6) 16) 2)) (decide ((Int.tmod (Int.tdiv (Int.tdiv (qa (ix a0 x0) 1048576) 16) 96) 2) = 0)) 0 0 0 0)]) (2 + (Int.tdiv (qa (Int.tdiv (Int.tdiv (qa (ix a0 x0) 1048576) 16) 6) 16) 8)) (2 + (Int.tmod (Int.tdiv (qa (Int.tdiv (Int.tdiv (qa (ix a0 x0) 1048576) 16) 6) 16) 4) 2)) (2 + (Int.tmod (Int.tdiv (qa (Int.tdiv (Int.tdiv (qa (ix a0 x0) 1048576) 16) 6) 16) 2) 2)) (2 + (Int.tmod (qa (Int.tdiv (Int.tdiv (qa (ix a0 x0) 1048576) 16) 6) 16) 2)) x7 x8 false x1 x2 x3 x4 x5 x6 x7 x8 x9 x0) ∧
 True)))) ∧
(x8 = true →
(zv a0 (
(qk a0 x1 x2 x3 x4 x5 x6 x7 x8 x9 x1 x2 x3 x4 x5 x6 x7 x8 x9 x0) ∧
 True))))) ∧
((Int.tmod (Int.tdiv (qa (ix a0 x0) 1048576) 16) 6) ≠ 0 →
(((Int.tmod (Int.tdiv (qa (ix a0 x0) 1048576) 16) 6) = 1 →
((x8 = false →
((6 : Int) ≠ 0 ∧ I64 (Int.tdiv (Int.tdiv (qa (ix a0 x0) 1048576) 16) 6)) ∧
((4 : Int) ≠ 0) ∧
(I64 (1 + (Int.tmod (Int.tdiv (Int.tdiv (qa (ix a0 x0) 1048576) 16) 6) 4))) ∧
((24 : Int) ≠ 0 ∧ I64 (Int.tdiv (Int.tdiv (qa (ix a0 x0) 1048576) 16) 24)) ∧
((4 : Int) ≠ 0) ∧
(I64 (1 + (Int.tmod (Int.tdiv (Int.tdiv (qa (ix a0 x0) 1048576) 16) 24) 4))) ∧
(True) ∧
(ka (List.length x2 + List.length [(Sign.mk 6 0 0 0 false 0 false false 0 0 0 0 false (1 + (Int.tmod (Int.tdiv (Int.tdiv (qa (ix a0 x0) 1048576) 16) 6) 4)) (1 + (Int.tmod (Int.tdiv (Int.tdiv (qa (ix a0 x0) 1048576) 16) 24) 4)) 0 0)])) ∧
(zv a0 (
(qk a0 x1 (x2 ++ [(Sign.mk 6 0 0 0 false 0 false false 0 0 0 0 false (1 + (Int.tmod (Int.tdiv (Int.tdiv (qa (ix a0 x0) 1048576) 16) 6) 4)) (1 + (Int.tmod (Int.tdiv (Int.tdiv (qa (ix a0 x0) 1048576) 16) 24) 4)) 0 0)]) x3 x4 x5 x6 x7 x8 false x1 x2 x3 x4 x5 x6 x7 x8 x9 x0) ∧
 True)))) ∧
(x8 = true →
(zv a0 (
(qk a0 x1 x2 x3 x4 x5 x6 x7 x8 x9 x1 x2 x3 x4 x5 x6 x7 x8 x9 x0) ∧
 True))))) ∧
((Int.tmod (Int.tdiv (qa (ix a0 x0) 1048576) 16) 6) ≠ 1 →
(((Int.tmod (Int.tdiv (qa (ix a0 x0) 1048576) 16) 6) = 2 →
(True) ∧
(True) ∧
(True) ∧
((6 : Int) ≠ 0 ∧ I64 (Int.tdiv (Int.tdiv (qa (ix a0 x0) 1048576) 16) 6)) ∧
((3 : Int) ≠ 0) ∧
(Wn (Int.tmod (Int.tdiv (Int.tdiv (qa (ix a0 x0) 1048576) 16) 6) 3) (ln ([0, 3, 4] : List Int))) ∧
((18 : Int) ≠ 0 ∧ I64 (Int.tdiv (Int.tdiv (qa (ix a0 x0) 1048576) 16) 18)) ∧
((5 : Int) ≠ 0) ∧
(I64 (1 + (Int.tmod (Int.tdiv (Int.tdiv (qa (ix a0 x0) 1048576) 16) 18) 5))) ∧
(True) ∧
(ka (List.length x2 + List.length [(Sign.mk 7 0 0 0 false 0 false false 0 0 0 0 false 0 0 (ix ([0, 3, 4] : List Int) (Int.tmod (Int.tdiv (Int.tdiv (qa (ix a0 x0) 1048576) 16) 6) 3)) (1 + (Int.tmod (Int.tdiv (Int.tdiv (qa (ix a0 x0) 1048576) 16) 18) 5)))])) ∧
(zv a0 (
(qk a0 x1 (x2 ++ [(Sign.mk 7 0 0 0 false 0 false false 0 0 0 0 false 0 0 (ix ([0, 3, 4] : List Int) (Int.tmod (Int.tdiv (Int.tdiv (qa (ix a0 x0) 1048576) 16) 6) 3)) (1 + (Int.tmod (Int.tdiv (Int.tdiv (qa (ix a0 x0) 1048576) 16) 18) 5)))]) x3 x4 x5 x6 x7 x8 x9 x1 x2 x3 x4 x5 x6 x7 x8 x9 x0) ∧
 True)))) ∧
((Int.tmod (Int.tdiv (qa (ix a0 x0) 1048576) 16) 6) ≠ 2 →
(((Int.tmod (Int.tdiv (qa (ix a0 x0) 1048576) 16) 6) = 3 →
((6 : Int) ≠ 0 ∧ I64 (Int.tdiv (Int.tdiv (qa (ix a0 x0) 1048576) 16) 6)) ∧
((3 : Int) ≠ 0) ∧
(True) ∧
(ka (List.length x2 + List.length [(Sign.mk 8 0 0 0 false 0 false false 0 0 0 0 false (Int.tmod (Int.tdiv (Int.tdiv (qa (ix a0 x0) 1048576) 16) 6) 3) 0 0 0)])) ∧
(zv a0 (
(qk a0 x1 (x2 ++ [(Sign.mk 8 0 0 0 false 0 false false 0 0 0 0 false (Int.tmod (Int.tdiv (Int.tdiv (qa (ix a0 x0) 1048576) 16) 6) 3) 0 0 0)]) x3 x4 x5 x6 x7 x8 x9 x1 x2 x3 x4 x5 x6 x7 x8 x9 x0) ∧
 True)))) ∧
((Int.tmod (Int.tdiv (qa (ix a0 x0) 1048576) 16) 6) ≠ 3 →
(((Int.tmod (Int.tdiv (qa (ix a0 x0) 1048576) 16) 6) = 4 →
(True) ∧
(True) ∧
((6 : Int) ≠ 0 ∧ I64 (Int.tdiv (Int.tdiv (qa (ix a0 x0) 1048576) 16) 6)) ∧
((2 : Int) ≠ 0) ∧
(Wn (Int.tmod (Int.tdiv (Int.tdiv (qa (ix a0 x0) 1048576) 16) 6) 2) (ln ([11, 12] : List Int))) ∧
(True) ∧
(ka (List.length x2 + List.length [(Sign.mk (ix ([11, 12] : List Int) (Int.tmod (Int.tdiv (Int.tdiv (qa (ix a0 x0) 1048576) 16) 6) 2)) 0 0 0 false 0 false false 0 0 0 0 false 0 0 0 0)])) ∧
(zv a0 (
(qk a0 x1 (x2 ++ [(Sign.mk (ix ([11, 12] : List Int) (Int.tmod (Int.tdiv (Int.tdiv (qa (ix a0 x0) 1048576) 16) 6) 2)) 0 0 0 false 0 false false 0 0 0 0 false 0 0 0 0)]) x3 x4 x5 x6 x7 x8 x9 x1 x2 x3 x4 x5 x6 x7 x8 x9 x0) ∧
 True)))) ∧
((Int.tmod (Int.tdiv (qa (ix a0 x0) 1048576) 16) 6) ≠ 4 →
((x8 = true →
((6 : Int) ≠ 0 ∧ I64 (Int.tdiv (Int.tdiv (qa (ix a0 x0) 1048576) 16) 6)) ∧
((3 : Int) ≠ 0) ∧
(I64 (2 + (Int.tmod (Int.tdiv (Int.tdiv (qa (ix a0 x0) 1048576) 16) 6) 3))) ∧
(True) ∧
(ka (List.length x2 + List.length [(Sign.mk 10 0 0 0 false 0 false false 0 0 0 0 false (2 + (Int.tmod (Int.tdiv (Int.tdiv (qa (ix a0 x0) 1048576) 16) 6) 3)) 0 0 0)])) ∧
(zv a0 (
(qk a0 x1 (x2 ++ [(Sign.mk 10 0 0 0 false 0 false false 0 0 0 0 false (2 + (Int.tmod (Int.tdiv (Int.tdiv (qa (ix a0 x0) 1048576) 16) 6) 3)) 0 0 0)]) x3 x4 x5 x6 x7 (!x8) false x1 x2 x3 x4 x5 x6 x7 x8 x9 x0) ∧
 True)))) ∧
(x8 = false →
(True) ∧
(ka (List.length x2 + List.length [(Sign.mk 9 0 0 0 false 0 false false 0 0 0 0 false 0 0 0 0)])) ∧
(zv a0 (
(qk a0 x1 (x2 ++ [(Sign.mk 9 0 0 0 false 0 false false 0 0 0 0 false 0 0 0 0)]) x3 x4 x5 x6 x7 (!x8) false x1 x2 x3 x4 x5 x6 x7 x8 x9 x0) ∧
 True)))))))))) ∧
((Int.tmod (qa (ix a0 x0) 1048576) 16) ≠ 0 →
(((Int.tmod (qa (ix a0 x0) 1048576) 16) = 1 →
((16 : Int) ≠ 0 ∧ I64 (Int.tdiv (qa (ix a0 x0) 1048576) 16)) ∧
((6 : Int) ≠ 0) ∧
(((Int.tmod (Int.tdiv (qa (ix a0 x0) 1048576) 16) 6) = 0 →
((x8 = false →
((6 : Int) ≠ 0 ∧ I64 (Int.tdiv (Int.tdiv (qa (ix a0 x0) 1048576) 16) 6)) ∧
((I64 (Int.tdiv (Int.tdiv (qa (ix a0 x0) 1048576) 16) 6) ∧ (1 : Int) ≤ 16 ∧ (16 : Int) ≤ 1048576)) ∧
((8 : Int) ≠ 0 ∧ I64 (Int.tdiv (qa (Int.tdiv (Int.tdiv (qa (ix a0 x0) 1048576) 16) 6) 16) 8)) ∧
(I64 (2 + (Int.tdiv (qa (Int.tdiv (Int.tdiv (qa (ix a0 x0) 1048576) 16) 6) 16) 8))) ∧
((4 : Int) ≠ 0 ∧ I64 (Int.tdiv (qa (Int.tdiv (Int.tdiv (qa (ix a0 x0) 1048576) 16) 6) 16) 4)) ∧
((2 : Int) ≠ 0) ∧
(I64 (2 + (Int.tmod (Int.tdiv (qa (Int.tdiv (Int.tdiv (qa (ix a0 x0) 1048576) 16) 6) 16) 4) 2))) ∧
((2 : Int) ≠ 0 ∧ I64 (Int.tdiv (qa (Int.tdiv (Int.tdiv (qa (ix a0 x0) 1048576) 16) 6) 16) 2)) ∧
((2 : Int) ≠ 0) ∧
(I64 (2 + (Int.tmod (Int.tdiv (qa (Int.tdiv (Int.tdiv (qa (ix a0 x0) 1048576) 16) 6) 16) 2) 2))) ∧
((2 : Int) ≠ 0) ∧
(I64 (2 + (Int.tmod (qa (Int.tdiv (Int.tdiv (qa (ix a0 x0) 1048576) 16) 6) 16) 2))) ∧
((96 : Int) ≠ 0 ∧ I64 (Int.tdiv (Int.tdiv (qa (ix a0 x0) 1048576) 16) 96)) ∧
((2 : Int) ≠ 0) ∧
(True) ∧
(ka (List.length x2 + List.length [(Sign.mk 5 0 0 0 false 0 false false (2 + (Int.tdiv (qa (Int.tdiv (Int.tdiv (qa (ix a0 x0) 1048576) 16) 6) 16) 8)) (2 + (Int.tmod (Int.tdiv (qa (Int.tdiv (Int.tdiv (qa (ix a0 x0) 1048576) 16) 6) 16) 4) 2)) (2 + (Int.tmod (Int.tdiv (qa (Int.tdiv (Int.tdiv (qa (ix a0 x0) 1048576) 16) 6) 16) 2) 2)) (2 + (Int.tmod (qa (Int.tdiv (Int.tdiv (qa (ix a0 x0) 1048576) 16) 6) 16) 2)) (decide ((Int.tmod (Int.tdiv (Int.tdiv (qa (ix a0 x0) 1048576) 16) 96) 2) = 0)) 0 0 0 0)])) ∧
(zv a0 (
(qk a0 x1 (x2 ++ [(Sign.mk 5 0 0 0 false 0 false false (2 + (Int.tdiv (qa (Int.tdiv (Int.tdiv (qa (ix a0 x0) 1048576) 16) 6) 16) 8)) (2 + (Int.tmod (Int.tdiv (qa (Int.tdiv (Int.tdiv (qa (ix a0 x0) 1048576) 16) 6) 16) 4) 2)) (2 + (Int.tmod (Int.tdiv (qa (Int.tdiv (Int.tdiv (qa (ix a0 x0) 1048576) 16) 6) 16) 2) 2)) (2 + (Int.tmod (qa (Int.tdiv (Int.tdiv (qa (ix a0 x0) 1048576) 16) 6) 16) 2)) (decide ((Int.tmod (Int.tdiv (Int.tdiv (qa (ix a0 x0) 1048576) 16) 96) 2) = 0)) 0 0 0 0)]) (2 + (Int.tdiv (qa (Int.tdiv (Int.tdiv (qa (ix a0 x0) 1048576) 16) 6) 16) 8)) (2 + (Int.tmod (Int.tdiv (qa (Int.tdiv (Int.tdiv (qa (ix a0 x0) 1048576) 16) 6) 16) 4) 2)) (2 + (Int.tmod (Int.tdiv (qa (Int.tdiv (Int.tdiv (qa (ix a0 x0) 1048576) 16) 6) 16) 2) 2)) (2 + (Int.tmod (qa (Int.tdiv (Int.tdiv (qa (ix a0 x0) 1048576) 16) 6) 16) 2)) x7 x8 false x1 x2 x3 x4 x5 x6 x7 x8 x9 x0) ∧
 True)))) ∧
(x8 = true →
(zv a0 (
(qk a0 x1 x2 x3 x4 x5 x6 x7 x8 x9 x1 x2 x3 x4 x5 x6 x7 x8 x9 x0) ∧
 True))))) ∧
((Int.tmod (Int.tdiv (qa (ix a0 x0) 1048576) 16) 6) ≠ 0 →
(((Int.tmod (Int.tdiv (qa (ix a0 x0) 1048576) 16) 6) = 1 →
((x8 = false →
((6 : Int) ≠ 0 ∧ I64 (Int.tdiv (Int.tdiv (qa (ix a0 x0) 1048576) 16) 6)) ∧
((4 : Int) ≠ 0) ∧
(I64 (1 + (Int.tmod (Int.tdiv (Int.tdiv (qa (ix a0 x0) 1048576) 16) 6) 4))) ∧
((24 : Int) ≠ 0 ∧ I64 (Int.tdiv (Int.tdiv (qa (ix a0 x0) 1048576) 16) 24)) ∧
((4 : Int) ≠ 0) ∧
(I64 (1 + (Int.tmod (Int.tdiv (Int.tdiv (qa (ix a0 x0) 1048576) 16) 24) 4))) ∧
(True) ∧
(ka (List.length x2 + List.length [(Sign.mk 6 0 0 0 false 0 false false 0 0 0 0 false (1 + (Int.tmod (Int.tdiv (Int.tdiv (qa (ix a0 x0) 1048576) 16) 6) 4)) (1 + (Int.tmod (Int.tdiv (Int.tdiv (qa (ix a0 x0) 1048576) 16) 24) 4)) 0 0)])) ∧
(zv a0 (
(qk a0 x1 (x2 ++ [(Sign.mk 6 0 0 0 false 0 false false 0 0 0 0 false (1 + (Int.tmod (Int.tdiv (Int.tdiv (qa (ix a0 x0) 1048576) 16) 6) 4)) (1 + (Int.tmod (Int.tdiv (Int.tdiv (qa (ix a0 x0) 1048576) 16) 24) 4)) 0 0)]) x3 x4 x5 x6 x7 x8 false x1 x2 x3 x4 x5 x6 x7 x8 x9 x0) ∧
 True)))) ∧
(x8 = true →
(zv a0 (
(qk a0 x1 x2 x3 x4 x5 x6 x7 x8 x9 x1 x2 x3 x4 x5 x6 x7 x8 x9 x0) ∧
 True))))) ∧
((Int.tmod (Int.tdiv (qa (ix a0 x0) 1048576) 16) 6) ≠ 1 →
(((Int.tmod (Int.tdiv (qa (ix a0 x0) 1048576) 16) 6) = 2 →
(True) ∧
(True) ∧
(True) ∧
((6 : Int) ≠ 0 ∧ I64 (Int.tdiv (Int.tdiv (qa (ix a0 x0) 1048576) 16) 6)) ∧
((3 : Int) ≠ 0) ∧
(Wn (Int.tmod (Int.tdiv (Int.tdiv (qa (ix a0 x0) 1048576) 16) 6) 3) (ln ([0, 3, 4] : List Int))) ∧
((18 : Int) ≠ 0 ∧ I64 (Int.tdiv (Int.tdiv (qa (ix a0 x0) 1048576) 16) 18)) ∧
((5 : Int) ≠ 0) ∧
(I64 (1 + (Int.tmod (Int.tdiv (Int.tdiv (qa (ix a0 x0) 1048576) 16) 18) 5))) ∧
(True) ∧
(ka (List.length x2 + List.length [(Sign.mk 7 0 0 0 false 0 false false 0 0 0 0 false 0 0 (ix ([0, 3, 4] : List Int) (Int.tmod (Int.tdiv (Int.tdiv (qa (ix a0 x0) 1048576) 16) 6) 3)) (1 + (Int.tmod (Int.tdiv (Int.tdiv (qa (ix a0 x0) 1048576) 16) 18) 5)))])) ∧
(zv a0 (
(qk a0 x1 (x2 ++ [(Sign.mk 7 0 0 0 false 0 false false 0 0 0 0 false 0 0 (ix ([0, 3, 4] : List Int) (Int.tmod (Int.tdiv (Int.tdiv (qa (ix a0 x0) 1048576) 16) 6) 3)) (1 + (Int.tmod (Int.tdiv (Int.tdiv (qa (ix a0 x0) 1048576) 16) 18) 5)))]) x3 x4 x5 x6 x7 x8 x9 x1 x2 x3 x4 x5 x6 x7 x8 x9 x0) ∧
 True)))) ∧
((Int.tmod (Int.tdiv (qa (ix a0 x0) 1048576) 16) 6) ≠ 2 →
(((Int.tmod (Int.tdiv (qa (ix a0 x0) 1048576) 16) 6) = 3 →
((6 : Int) ≠ 0 ∧ I64 (Int.tdiv (Int.tdiv (qa (ix a0 x0) 1048576) 16) 6)) ∧
((3 : Int) ≠ 0) ∧
(True) ∧
(ka (List.length x2 + List.length [(Sign.mk 8 0 0 0 false 0 false false 0 0 0 0 false (Int.tmod (Int.tdiv (Int.tdiv (qa (ix a0 x0) 1048576) 16) 6) 3) 0 0 0)])) ∧
(zv a0 (
(qk a0 x1 (x2 ++ [(Sign.mk 8 0 0 0 false 0 false false 0 0 0 0 false (Int.tmod (Int.tdiv (Int.tdiv (qa (ix a0 x0) 1048576) 16) 6) 3) 0 0 0)]) x3 x4 x5 x6 x7 x8 x9 x1 x2 x3 x4 x5 x6 x7 x8 x9 x0) ∧
 True)))) ∧
((Int.tmod (Int.tdiv (qa (ix a0 x0) 1048576) 16) 6) ≠ 3 →
(((Int.tmod (Int.tdiv (qa (ix a0 x0) 1048576) 16) 6) = 4 →
(True) ∧
(True) ∧
((6 : Int) ≠ 0 ∧ I64 (Int.tdiv (Int.tdiv (qa (ix a0 x0) 1048576) 16) 6)) ∧
((2 : Int) ≠ 0) ∧
(Wn (Int.tmod (Int.tdiv (Int.tdiv (qa (ix a0 x0) 1048576) 16) 6) 2) (ln ([11, 12] : List Int))) ∧
(True) ∧
(ka (List.length x2 + List.length [(Sign.mk (ix ([11, 12] : List Int) (Int.tmod (Int.tdiv (Int.tdiv (qa (ix a0 x0) 1048576) 16) 6) 2)) 0 0 0 false 0 false false 0 0 0 0 false 0 0 0 0)])) ∧
(zv a0 (
(qk a0 x1 (x2 ++ [(Sign.mk (ix ([11, 12] : List Int) (Int.tmod (Int.tdiv (Int.tdiv (qa (ix a0 x0) 1048576) 16) 6) 2)) 0 0 0 false 0 false false 0 0 0 0 false 0 0 0 0)]) x3 x4 x5 x6 x7 x8 x9 x1 x2 x3 x4 x5 x6 x7 x8 x9 x0) ∧
 True)))) ∧
((Int.tmod (Int.tdiv (qa (ix a0 x0) 1048576) 16) 6) ≠ 4 →
((x8 = true →
((6 : Int) ≠ 0 ∧ I64 (Int.tdiv (Int.tdiv (qa (ix a0 x0) 1048576) 16) 6)) ∧
((3 : Int) ≠ 0) ∧
(I64 (2 + (Int.tmod (Int.tdiv (Int.tdiv (qa (ix a0 x0) 1048576) 16) 6) 3))) ∧
(True) ∧
(ka (List.length x2 + List.length [(Sign.mk 10 0 0 0 false 0 false false 0 0 0 0 false (2 + (Int.tmod (Int.tdiv (Int.tdiv (qa (ix a0 x0) 1048576) 16) 6) 3)) 0 0 0)])) ∧
(zv a0 (
(qk a0 x1 (x2 ++ [(Sign.mk 10 0 0 0 false 0 false false 0 0 0 0 false (2 + (Int.tmod (Int.tdiv (Int.tdiv (qa (ix a0 x0) 1048576) 16) 6) 3)) 0 0 0)]) x3 x4 x5 x6 x7 (!x8) false x1 x2 x3 x4 x5 x6 x7 x8 x9 x0) ∧
 True)))) ∧
(x8 = false →
(True) ∧
(ka (List.length x2 + List.length [(Sign.mk 9 0 0 0 false 0 false false 0 0 0 0 false 0 0 0 0)])) ∧
(zv a0 (
(qk a0 x1 (x2 ++ [(Sign.mk 9 0 0 0 false 0 false false 0 0 0 0 false 0 0 0 0)]) x3 x4 x5 x6 x7 (!x8) false x1 x2 x3 x4 x5 x6 x7 x8 x9 x0) ∧
 True)))))))))) ∧
((Int.tmod (qa (ix a0 x0) 1048576) 16) ≠ 1 →
(((Int.tmod (qa (ix a0 x0) 1048576) 16) = 2 →
((16 : Int) ≠ 0 ∧ I64 (Int.tdiv (qa (ix a0 x0) 1048576) 16)) ∧
((2 : Int) ≠ 0) ∧
(I64 (2 + (Int.tmod (Int.tdiv (qa (ix a0 x0) 1048576) 16) 2))) ∧
((2 : Int) ≠ 0 ∧ I64 (Int.tdiv (Int.tdiv (qa (ix a0 x0) 1048576) 16) 2)) ∧
((5 : Int) ≠ 0) ∧
(I64 (2 + (Int.tmod (Int.tdiv (Int.tdiv (qa (ix a0 x0) 1048576) 16) 2) 5))) ∧
(qan a0 0 x1 x2 x3 x4 x5 x6 (2 + (Int.tmod (Int.tdiv (Int.tdiv (qa (ix a0 x0) 1048576) 16) 2) 5)) x8 x9 x1 x2 x3 x4 x5 x6 (2 + (Int.tmod (Int.tdiv (Int.tdiv (qa (ix a0 x0) 1048576) 16) 2) 5)) x8 x9 (Int.tdiv (qa (ix a0 x0) 1048576) 16) (2 + (Int.tmod (Int.tdiv (qa (ix a0 x0) 1048576) 16) 2))) ∧
(∀ x16 : Int,
(∀ x17 : List UInt8,
(∀ x18 : List Sign,
(∀ x19 : Int,
(∀ x20 : Int,
(∀ x21 : Int,
(∀ x22 : Int,
(∀ x23 : Int,
(∀ x24 : Bool,
(∀ x25 : Bool,
(qan a0 x16 x17 x18 x19 x20 x21 x22 x23 x24 x25 x1 x2 x3 x4 x5 x6 (2 + (Int.tmod (Int.tdiv (Int.tdiv (qa (ix a0 x0) 1048576) 16) 2) 5)) x8 x9 (Int.tdiv (qa (ix a0 x0) 1048576) 16) (2 + (Int.tmod (Int.tdiv (qa (ix a0 x0) 1048576) 16) 2)) →
((x16 < (2 + (Int.tmod (Int.tdiv (qa (ix a0 x0) 1048576) 16) 2)) →
((16 : Int) ≠ 0 ∧ I64 (Int.tdiv (Int.tdiv (qa (ix a0 x0) 1048576) 16) 16)) ∧
((5 : Int) ≠ 0) ∧
(I64 (x16 + 1)) ∧
(I64 (x16 + 1)) ∧
(True) ∧
(ka (List.length x18 + List.length [(Sign.mk 4 0 x23 0 (decide ((Int.tmod (Int.tdiv (Int.tdiv (qa (ix a0 x0) 1048576) 16) 16) 5) = 0)) 0 false (decide ((x16 + 1) = (2 + (Int.tmod (Int.tdiv (qa (ix a0 x0) 1048576) 16) 2)))) 0 0 0 0 false 0 0 0 0)])) ∧
(I64 (x23 + 1)) ∧
((32 : Int) ≠ 0 ∧ I64 (Int.tdiv (Int.tdiv (qa (ix a0 x0) 1048576) 16) 32)) ∧
((3 : Int) ≠ 0) ∧
(I64 ((x23 + 1) + (Int.tmod (Int.tdiv (Int.tdiv (qa (ix a0 x0) 1048576) 16) 32) 3))) ∧
((128 : Int) ≠ 0 ∧ I64 (Int.tdiv (Int.tdiv (qa (ix a0 x0) 1048576) 16) 128)) ∧
((2 : Int) ≠ 0) ∧
(I64 (4 * (Int.tmod (Int.tdiv (Int.tdiv (qa (ix a0 x0) 1048576) 16) 128) 2))) ∧
(I64 (((x23 + 1) + (Int.tmod (Int.tdiv (Int.tdiv (qa (ix a0 x0) 1048576) 16) 32) 3)) - (4 * (Int.tmod (Int.tdiv (Int.tdiv (qa (ix a0 x0) 1048576) 16) 128) 2)))) ∧
(((((x23 + 1) + (Int.tmod (Int.tdiv (Int.tdiv (qa (ix a0 x0) 1048576) 16) 32) 3)) - (4 * (Int.tmod (Int.tdiv (Int.tdiv (qa (ix a0 x0) 1048576) 16) 128) 2))) < (-4) →
(I64 (x16 + 1)) ∧
(zv a0 (
(qan a0 (x16 + 1) x17 (x18 ++ [(Sign.mk 4 0 x23 0 (decide ((Int.tmod (Int.tdiv (Int.tdiv (qa (ix a0 x0) 1048576) 16) 16) 5) = 0)) 0 false (decide ((x16 + 1) = (2 + (Int.tmod (Int.tdiv (qa (ix a0 x0) 1048576) 16) 2)))) 0 0 0 0 false 0 0 0 0)]) x19 x20 x21 x22 7 x24 (decide ((x16 + 1) = (2 + (Int.tmod (Int.tdiv (qa (ix a0 x0) 1048576) 16) 2)))) x1 x2 x3 x4 x5 x6 (2 + (Int.tmod (Int.tdiv (Int.tdiv (qa (ix a0 x0) 1048576) 16) 2) 5)) x8 x9 (Int.tdiv (qa (ix a0 x0) 1048576) 16) (2 + (Int.tmod (Int.tdiv (qa (ix a0 x0) 1048576) 16) 2))) ∧
 qau a0 (x16 + 1) x17 (x18 ++ [(Sign.mk 4 0 x23 0 (decide ((Int.tmod (Int.tdiv (Int.tdiv (qa (ix a0 x0) 1048576) 16) 16) 5) = 0)) 0 false (decide ((x16 + 1) = (2 + (Int.tmod (Int.tdiv (qa (ix a0 x0) 1048576) 16) 2)))) 0 0 0 0 false 0 0 0 0)]) x19 x20 x21 x22 7 x24 (decide ((x16 + 1) = (2 + (Int.tmod (Int.tdiv (qa (ix a0 x0) 1048576) 16) 2)))) x1 x2 x3 x4 x5 x6 (2 + (Int.tmod (Int.tdiv (Int.tdiv (qa (ix a0 x0) 1048576) 16) 2) 5)) x8 x9 (Int.tdiv (qa (ix a0 x0) 1048576) 16) (2 + (Int.tmod (Int.tdiv (qa (ix a0 x0) 1048576) 16) 2)) < qau a0 x16 x17 x18 x19 x20 x21 x22 x23 x24 x25 x1 x2 x3 x4 x5 x6 (2 + (Int.tmod (Int.tdiv (Int.tdiv (qa (ix a0 x0) 1048576) 16) 2) 5)) x8 x9 (Int.tdiv (qa (ix a0 x0) 1048576) 16) (2 + (Int.tmod (Int.tdiv (qa (ix a0 x0) 1048576) 16) 2)))))) ∧
((-4) ≤ (((x23 + 1) + (Int.tmod (Int.tdiv (Int.tdiv (qa (ix a0 x0) 1048576) 16) 32) 3)) - (4 * (Int.tmod (Int.tdiv (Int.tdiv (qa (ix a0 x0) 1048576) 16) 128) 2))) →
((12 < (((x23 + 1) + (Int.tmod (Int.tdiv (Int.tdiv (qa (ix a0 x0) 1048576) 16) 32) 3)) - (4 * (Int.tmod (Int.tdiv (Int.tdiv (qa (ix a0 x0) 1048576) 16) 128) 2))) →
(I64 (x16 + 1)) ∧
(zv a0 (
(qan a0 (x16 + 1) x17 (x18 ++ [(Sign.mk 4 0 x23 0 (decide ((Int.tmod (Int.tdiv (Int.tdiv (qa (ix a0 x0) 1048576) 16) 16) 5) = 0)) 0 false (decide ((x16 + 1) = (2 + (Int.tmod (Int.tdiv (qa (ix a0 x0) 1048576) 16) 2)))) 0 0 0 0 false 0 0 0 0)]) x19 x20 x21 x22 7 x24 (decide ((x16 + 1) = (2 + (Int.tmod (Int.tdiv (qa (ix a0 x0) 1048576) 16) 2)))) x1 x2 x3 x4 x5 x6 (2 + (Int.tmod (Int.tdiv (Int.tdiv (qa (ix a0 x0) 1048576) 16) 2) 5)) x8 x9 (Int.tdiv (qa (ix a0 x0) 1048576) 16) (2 + (Int.tmod (Int.tdiv (qa (ix a0 x0) 1048576) 16) 2))) ∧
 qau a0 (x16 + 1) x17 (x18 ++ [(Sign.mk 4 0 x23 0 (decide ((Int.tmod (Int.tdiv (Int.tdiv (qa (ix a0 x0) 1048576) 16) 16) 5) = 0)) 0 false (decide ((x16 + 1) = (2 + (Int.tmod (Int.tdiv (qa (ix a0 x0) 1048576) 16) 2)))) 0 0 0 0 false 0 0 0 0)]) x19 x20 x21 x22 7 x24 (decide ((x16 + 1) = (2 + (Int.tmod (Int.tdiv (qa (ix a0 x0) 1048576) 16) 2)))) x1 x2 x3 x4 x5 x6 (2 + (Int.tmod (Int.tdiv (Int.tdiv (qa (ix a0 x0) 1048576) 16) 2) 5)) x8 x9 (Int.tdiv (qa (ix a0 x0) 1048576) 16) (2 + (Int.tmod (Int.tdiv (qa (ix a0 x0) 1048576) 16) 2)) < qau a0 x16 x17 x18 x19 x20 x21 x22 x23 x24 x25 x1 x2 x3 x4 x5 x6 (2 + (Int.tmod (Int.tdiv (Int.tdiv (qa (ix a0 x0) 1048576) 16) 2) 5)) x8 x9 (Int.tdiv (qa (ix a0 x0) 1048576) 16) (2 + (Int.tmod (Int.tdiv (qa (ix a0 x0) 1048576) 16) 2)))))) ∧
((((x23 + 1) + (Int.tmod (Int.tdiv (Int.tdiv (qa (ix a0 x0) 1048576) 16) 32) 3)) - (4 * (Int.tmod (Int.tdiv (Int.tdiv (qa (ix a0 x0) 1048576) 16) 128) 2))) ≤ 12 →
(I64 (x16 + 1)) ∧
(zv a0 (
(qan a0 (x16 + 1) x17 (x18 ++ [(Sign.mk 4 0 x23 0 (decide ((Int.tmod (Int.tdiv (Int.tdiv (qa (ix a0 x0) 1048576) 16) 16) 5) = 0)) 0 false (decide ((x16 + 1) = (2 + (Int.tmod (Int.tdiv (qa (ix a0 x0) 1048576) 16) 2)))) 0 0 0 0 false 0 0 0 0)]) x19 x20 x21 x22 (((x23 + 1) + (Int.tmod (Int.tdiv (Int.tdiv (qa (ix a0 x0) 1048576) 16) 32) 3)) - (4 * (Int.tmod (Int.tdiv (Int.tdiv (qa (ix a0 x0) 1048576) 16) 128) 2))) x24 (decide ((x16 + 1) = (2 + (Int.tmod (Int.tdiv (qa (ix a0 x0) 1048576) 16) 2)))) x1 x2 x3 x4 x5 x6 (2 + (Int.tmod (Int.tdiv (Int.tdiv (qa (ix a0 x0) 1048576) 16) 2) 5)) x8 x9 (Int.tdiv (qa (ix a0 x0) 1048576) 16) (2 + (Int.tmod (Int.tdiv (qa (ix a0 x0) 1048576) 16) 2))) ∧
 qau a0 (x16 + 1) x17 (x18 ++ [(Sign.mk 4 0 x23 0 (decide ((Int.tmod (Int.tdiv (Int.tdiv (qa (ix a0 x0) 1048576) 16) 16) 5) = 0)) 0 false (decide ((x16 + 1) = (2 + (Int.tmod (Int.tdiv (qa (ix a0 x0) 1048576) 16) 2)))) 0 0 0 0 false 0 0 0 0)]) x19 x20 x21 x22 (((x23 + 1) + (Int.tmod (Int.tdiv (Int.tdiv (qa (ix a0 x0) 1048576) 16) 32) 3)) - (4 * (Int.tmod (Int.tdiv (Int.tdiv (qa (ix a0 x0) 1048576) 16) 128) 2))) x24 (decide ((x16 + 1) = (2 + (Int.tmod (Int.tdiv (qa (ix a0 x0) 1048576) 16) 2)))) x1 x2 x3 x4 x5 x6 (2 + (Int.tmod (Int.tdiv (Int.tdiv (qa (ix a0 x0) 1048576) 16) 2) 5)) x8 x9 (Int.tdiv (qa (ix a0 x0) 1048576) 16) (2 + (Int.tmod (Int.tdiv (qa (ix a0 x0) 1048576) 16) 2)) < qau a0 x16 x17 x18 x19 x20 x21 x22 x23 x24 x25 x1 x2 x3 x4 x5 x6 (2 + (Int.tmod (Int.tdiv (Int.tdiv (qa (ix a0 x0) 1048576) 16) 2) 5)) x8 x9 (Int.tdiv (qa (ix a0 x0) 1048576) 16) (2 + (Int.tmod (Int.tdiv (qa (ix a0 x0) 1048576) 16) 2)))))))) ∧
((2 + (Int.tmod (Int.tdiv (qa (ix a0 x0) 1048576) 16) 2)) ≤ x16 →
(zv a0 (
(qk a0 x17 x18 x19 x20 x21 x22 x23 x24 x25 x1 x2 x3 x4 x5 x6 x7 x8 x9 x0) ∧
 True)))))))))))))))) ∧
((Int.tmod (qa (ix a0 x0) 1048576) 16) ≠ 2 →
(((Int.tmod (qa (ix a0 x0) 1048576) 16) = 3 →
(((0 : Int) ≤ (2 + (Int.tmod (Int.tdiv (qa (ix a0 x0) 1048576) 16) 6)) ∧ ((2 + (Int.tmod (Int.tdiv (qa (ix a0 x0) 1048576) 16) 6)) : Int) ≤ 100)) ∧
(True) ∧
(ka (List.length x2 + List.length [(Sign.mk 2 (2 + (Int.tmod (Int.tdiv (qa (ix a0 x0) 1048576) 16) 6)) 0 0 false 0 false false 0 0 0 0 false 0 0 0 0)])) ∧
(zv a0 (
(qk a0 x1 (x2 ++ [(Sign.mk 2 (2 + (Int.tmod (Int.tdiv (qa (ix a0 x0) 1048576) 16) 6)) 0 0 false 0 false false 0 0 0 0 false 0 0 0 0)]) x3 x4 x5 x6 x7 x8 (qco x3 x4 x5 x6 (2 + (Int.tmod (Int.tdiv (qa (ix a0 x0) 1048576) 16) 6))) x1 x2 x3 x4 x5 x6 x7 x8 x9 x0) ∧
 True)))) ∧
((Int.tmod (qa (ix a0 x0) 1048576) 16) ≠ 3 →
(((Int.tmod (qa (ix a0 x0) 1048576) 16) = 4 →
(((0 : Int) ≤ (2 + (Int.tmod (Int.tdiv (qa (ix a0 x0) 1048576) 16) 6)) ∧ ((2 + (Int.tmod (Int.tdiv (qa (ix a0 x0) 1048576) 16) 6)) : Int) ≤ 100)) ∧
(True) ∧
(ka (List.length x2 + List.length [(Sign.mk 2 (2 + (Int.tmod (Int.tdiv (qa (ix a0 x0) 1048576) 16) 6)) 0 0 false 0 false false 0 0 0 0 false 0 0 0 0)])) ∧
(zv a0 (
(qk a0 x1 (x2 ++ [(Sign.mk 2 (2 + (Int.tmod (Int.tdiv (qa (ix a0 x0) 1048576) 16) 6)) 0 0 false 0 false false 0 0 0 0 false 0 0 0 0)]) x3 x4 x5 x6 x7 x8 (qco x3 x4 x5 x6 (2 + (Int.tmod (Int.tdiv (qa (ix a0 x0) 1048576) 16) 6))) x1 x2 x3 x4 x5 x6 x7 x8 x9 x0) ∧
 True)))) ∧
((Int.tmod (qa (ix a0 x0) 1048576) 16) ≠ 4 →
(((Int.tmod (qa (ix a0 x0) 1048576) 16) = 5 →
((x9 = true →
(True) ∧
(ka (List.length x2 + List.length [(Sign.mk 3 0 0 0 false 0 false false 0 0 0 0 false 0 0 0 0)])) ∧
(zv a0 (
(qk a0 x1 (x2 ++ [(Sign.mk 3 0 0 0 false 0 false false 0 0 0 0 false 0 0 0 0)]) x3 x4 x5 x6 x7 x8 false x1 x2 x3 x4 x5 x6 x7 x8 x9 x0) ∧
 True)))) ∧
(x9 = false →
(zv a0 (
(qk a0 x1 x2 x3 x4 x5 x6 x7 x8 x9 x1 x2 x3 x4 x5 x6 x7 x8 x9 x0) ∧
 True))))) ∧
((Int.tmod (qa (ix a0 x0) 1048576) 16) ≠ 5 →
(((Int.tmod (qa (ix a0 x0) 1048576) 16) = 6 →
((x9 = true →
(True) ∧
(ka (List.length x2 + List.length [(Sign.mk 3 0 0 0 false 0 false false 0 0 0 0 false 0 0 0 0)])) ∧
(zv a0 (
(qk a0 x1 (x2 ++ [(Sign.mk 3 0 0 0 false 0 false false 0 0 0 0 false 0 0 0 0)]) x3 x4 x5 x6 x7 x8 false x1 x2 x3 x4 x5 x6 x7 x8 x9 x0) ∧
 True)))) ∧
(x9 = false →
(zv a0 (
(qk a0 x1 x2 x3 x4 x5 x6 x7 x8 x9 x1 x2 x3 x4 x5 x6 x7 x8 x9 x0) ∧
 True))))) ∧
((Int.tmod (qa (ix a0 x0) 1048576) 16) ≠ 6 →
(((Int.tmod (qa (ix a0 x0) 1048576) 16) = 7 →
((x9 = true →
(True) ∧
(ka (List.length x2 + List.length [(Sign.mk 3 0 0 0 false 0 false false 0 0 0 0 false 0 0 0 0)])) ∧
(zv a0 (
(qk a0 x1 (x2 ++ [(Sign.mk 3 0 0 0 false 0 false false 0 0 0 0 false 0 0 0 0)]) x3 x4 x5 x6 x7 x8 false x1 x2 x3 x4 x5 x6 x7 x8 x9 x0) ∧
 True)))) ∧
(x9 = false →
(zv a0 (
(qk a0 x1 x2 x3 x4 x5 x6 x7 x8 x9 x1 x2 x3 x4 x5 x6 x7 x8 x9 x0) ∧
 True))))) ∧
((Int.tmod (qa (ix a0 x0) 1048576) 16) ≠ 7 →
((96 : Int) ≠ 0 ∧ I64 (Int.tdiv (qa (ix a0 x0) 1048576) 96)) ∧
((I64 (Int.tdiv (qa (ix a0 x0) 1048576) 96) ∧ (1 : Int) ≤ 5 ∧ (5 : Int) ≤ 1048576)) ∧
(I64 (x7 + (qa (Int.tdiv (qa (ix a0 x0) 1048576) 96) 5))) ∧
(I64 ((x7 + (qa (Int.tdiv (qa (ix a0 x0) 1048576) 96) 5)) - 2)) ∧
((((x7 + (qa (Int.tdiv (qa (ix a0 x0) 1048576) 96) 5)) - 2) < (-4) →
(True) ∧
(True) ∧
(True) ∧
(True) ∧
(True) ∧
(True) ∧
(True) ∧
((5 : Int) ≠ 0 ∧ I64 (Int.tdiv (Int.tdiv (qa (ix a0 x0) 1048576) 96) 5)) ∧
((7 : Int) ≠ 0) ∧
(Wn (Int.tmod (Int.tdiv (Int.tdiv (qa (ix a0 x0) 1048576) 96) 5) 7) (ln ([0, 0, 0, 0, (-1), 1, 2] : List Int))) ∧
((35 : Int) ≠ 0 ∧ I64 (Int.tdiv (Int.tdiv (qa (ix a0 x0) 1048576) 96) 35)) ∧
((6 : Int) ≠ 0) ∧
(True) ∧
(ka (List.length x2 + List.length [(Sign.mk 1 (2 + (Int.tmod (Int.tdiv (qa (ix a0 x0) 1048576) 16) 6)) 4 (ix ([0, 0, 0, 0, (-1), 1, 2] : List Int) (Int.tmod (Int.tdiv (Int.tdiv (qa (ix a0 x0) 1048576) 96) 5) 7)) (decide ((Int.tmod (Int.tdiv (Int.tdiv (qa (ix a0 x0) 1048576) 96) 35) 6) = 0)) 0 false false 0 0 0 0 false 0 0 0 0)])) ∧
(zv a0 (
(qk a0 x1 (x2 ++ [(Sign.mk 1 (2 + (Int.tmod (Int.tdiv (qa (ix a0 x0) 1048576) 16) 6)) 4 (ix ([0, 0, 0, 0, (-1), 1, 2] : List Int) (Int.tmod (Int.tdiv (Int.tdiv (qa (ix a0 x0) 1048576) 96) 5) 7)) (decide ((Int.tmod (Int.tdiv (Int.tdiv (qa (ix a0 x0) 1048576) 96) 35) 6) = 0)) 0 false false 0 0 0 0 false 0 0 0 0)]) x3 x4 x5 x6 4 x8 true x1 x2 x3 x4 x5 x6 x7 x8 x9 x0) ∧
 True)))) ∧
((-4) ≤ ((x7 + (qa (Int.tdiv (qa (ix a0 x0) 1048576) 96) 5)) - 2) →
((12 < ((x7 + (qa (Int.tdiv (qa (ix a0 x0) 1048576) 96) 5)) - 2) →
(True) ∧
(True) ∧
(True) ∧
(True) ∧
(True) ∧
(True) ∧
(True) ∧
((5 : Int) ≠ 0 ∧ I64 (Int.tdiv (Int.tdiv (qa (ix a0 x0) 1048576) 96) 5)) ∧
((7 : Int) ≠ 0) ∧
(Wn (Int.tmod (Int.tdiv (Int.tdiv (qa (ix a0 x0) 1048576) 96) 5) 7) (ln ([0, 0, 0, 0, (-1), 1, 2] : List Int))) ∧
((35 : Int) ≠ 0 ∧ I64 (Int.tdiv (Int.tdiv (qa (ix a0 x0) 1048576) 96) 35)) ∧
((6 : Int) ≠ 0) ∧
(True) ∧
(ka (List.length x2 + List.length [(Sign.mk 1 (2 + (Int.tmod (Int.tdiv (qa (ix a0 x0) 1048576) 16) 6)) 4 (ix ([0, 0, 0, 0, (-1), 1, 2] : List Int) (Int.tmod (Int.tdiv (Int.tdiv (qa (ix a0 x0) 1048576) 96) 5) 7)) (decide ((Int.tmod (Int.tdiv (Int.tdiv (qa (ix a0 x0) 1048576) 96) 35) 6) = 0)) 0 false false 0 0 0 0 false 0 0 0 0)])) ∧
(zv a0 (
(qk a0 x1 (x2 ++ [(Sign.mk 1 (2 + (Int.tmod (Int.tdiv (qa (ix a0 x0) 1048576) 16) 6)) 4 (ix ([0, 0, 0, 0, (-1), 1, 2] : List Int) (Int.tmod (Int.tdiv (Int.tdiv (qa (ix a0 x0) 1048576) 96) 5) 7)) (decide ((Int.tmod (Int.tdiv (Int.tdiv (qa (ix a0 x0) 1048576) 96) 35) 6) = 0)) 0 false false 0 0 0 0 false 0 0 0 0)]) x3 x4 x5 x6 4 x8 true x1 x2 x3 x4 x5 x6 x7 x8 x9 x0) ∧
 True)))) ∧
(((x7 + (qa (Int.tdiv (qa (ix a0 x0) 1048576) 96) 5)) - 2) ≤ 12 →
(True) ∧
(True) ∧
(True) ∧
(True) ∧
(True) ∧
(True) ∧
(True) ∧
((5 : Int) ≠ 0 ∧ I64 (Int.tdiv (Int.tdiv (qa (ix a0 x0) 1048576) 96) 5)) ∧
((7 : Int) ≠ 0) ∧
(Wn (Int.tmod (Int.tdiv (Int.tdiv (qa (ix a0 x0) 1048576) 96) 5) 7) (ln ([0, 0, 0, 0, (-1), 1, 2] : List Int))) ∧
((35 : Int) ≠ 0 ∧ I64 (Int.tdiv (Int.tdiv (qa (ix a0 x0) 1048576) 96) 35)) ∧
((6 : Int) ≠ 0) ∧
(True) ∧
(ka (List.length x2 + List.length [(Sign.mk 1 (2 + (Int.tmod (Int.tdiv (qa (ix a0 x0) 1048576) 16) 6)) ((x7 + (qa (Int.tdiv (qa (ix a0 x0) 1048576) 96) 5)) - 2) (ix ([0, 0, 0, 0, (-1), 1, 2] : List Int) (Int.tmod (Int.tdiv (Int.tdiv (qa (ix a0 x0) 1048576) 96) 5) 7)) (decide ((Int.tmod (Int.tdiv (Int.tdiv (qa (ix a0 x0) 1048576) 96) 35) 6) = 0)) 0 false false 0 0 0 0 false 0 0 0 0)])) ∧
(zv a0 (
(qk a0 x1 (x2 ++ [(Sign.mk 1 (2 + (Int.tmod (Int.tdiv (qa (ix a0 x0) 1048576) 16) 6)) ((x7 + (qa (Int.tdiv (qa (ix a0 x0) 1048576) 96) 5)) - 2) (ix ([0, 0, 0, 0, (-1), 1, 2] : List Int) (Int.tmod (Int.tdiv (Int.tdiv (qa (ix a0 x0) 1048576) 96) 5) 7)) (decide ((Int.tmod (Int.tdiv (Int.tdiv (qa (ix a0 x0) 1048576) 96) 35) 6) = 0)) 0 false false 0 0 0 0 false 0 0 0 0)]) x3 x4 x5 x6 ((x7 + (qa (Int.tdiv (qa (ix a0 x0) 1048576) 96) 5)) - 2) x8 true x1 x2 x3 x4 x5 x6 x7 x8 x9 x0) ∧
 True))))))))))))) ∧
(∀ x13 : List UInt8,
(∀ x14 : List Sign,
(∀ x15 : Int,
(∀ x16 : Int,
(∀ x17 : Int,
(∀ x18 : Int,
(∀ x19 : Int,
(∀ x20 : Bool,
(∀ x21 : Bool,
(qk a0 x13 x14 x15 x16 x17 x18 x19 x20 x21 x1 x2 x3 x4 x5 x6 x7 x8 x9 x0 →
(I64 (x0 + 1)) ∧
(zv a0 (
(qam a0 (x0 + 1) x13 x14 x15 x16 x17 x18 x19 x20 x21) ∧
 qd5 a0 (x0 + 1) x13 x14 x15 x16 x17 x18 x19 x20 x21 < qd5 a0 x0 x1 x2 x3 x4 x5 x6 x7 x8 x9)))))))))))))) ∧
(55 ≤ (ln x2) →
((x8 = true →
(True) ∧
(ka (List.length x2 + List.length [(Sign.mk 10 0 0 0 false 0 false false 0 0 0 0 false 2 0 0 0)])) ∧
(x1 = ((qw a0).1)) ∧
((x2 ++ [(Sign.mk 10 0 0 0 false 0 false false 0 0 0 0 false 2 0 0 0)]) = ((qw a0).2)) ∧
 True)) ∧
(x8 = false →
(x1 = ((qw a0).1)) ∧
(x2 = ((qw a0).2)) ∧
 True)))) ∧
((ln a0) ≤ x0 →
((x8 = true →
(True) ∧
(ka (List.length x2 + List.length [(Sign.mk 10 0 0 0 false 0 false false 0 0 0 0 false 2 0 0 0)])) ∧
(x1 = ((qw a0).1)) ∧
((x2 ++ [(Sign.mk 10 0 0 0 false 0 false false 0 0 0 0 false 2 0 0 0)]) = ((qw a0).2)) ∧
 True)) ∧
(x8 = false →
(x1 = ((qw a0).1)) ∧
(x2 = ((qw a0).2)) ∧
 True)))))))))))))
theorem q8s (a0 : List Int) : qb3 (qu XK (qax q45) (fun j ns => match j, ns with | 0, [.i y0, .s y1, .l 4 y2, .i y3, .i y4, .i y5, .i y6, .i y7, .b y8, .b y9] => qam a0 y0 y1 y2 y3 y4 y5 y6 y7 y8 y9 | 1, [.s y0, .l 4 y1, .i y2, .i y3, .i y4, .i y5, .i y6, .b y7, .b y8, .s y9, .l 4 y10, .i y11, .i y12, .i y13, .i y14, .i y15, .b y16, .b y17, .i y18] => qk a0 y0 y1 y2 y3 y4 y5 y6 y7 y8 y9 y10 y11 y12 y13 y14 y15 y16 y17 y18 | 2, [.i y0, .s y1, .l 4 y2, .i y3, .i y4, .i y5, .i y6, .i y7, .b y8, .b y9, .s y10, .l 4 y11, .i y12, .i y13, .i y14, .i y15, .i y16, .b y17, .b y18, .i y19, .i y20] => qan a0 y0 y1 y2 y3 y4 y5 y6 y7 y8 y9 y10 y11 y12 y13 y14 y15 y16 y17 y18 y19 y20 | _, _ => False) (fun j ns => match j, ns with | 0, [.i y0, .s y1, .l 4 y2, .i y3, .i y4, .i y5, .i y6, .i y7, .b y8, .b y9] => qd5 a0 y0 y1 y2 y3 y4 y5 y6 y7 y8 y9 | 2, [.i y0, .s y1, .l 4 y2, .i y3, .i y4, .i y5, .i y6, .i y7, .b y8, .b y9, .s y10, .l 4 y11, .i y12, .i y13, .i y14, .i y15, .i y16, .b y17, .b y18, .i y19, .i y20] => qau a0 y0 y1 y2 y3 y4 y5 y6 y7 y8 y9 y10 y11 y12 y13 y14 y15 y16 y17 y18 y19 y20 | _, _ => 0)) { cfg sp with ann := qbu [(57, 58, .inv 0 [.one 4 (.int .i64), .via 3 [.str, .list 4 true false, .int .i64, .int .i64, .int .i64, .int .i64, .int .i64, .bool, .bool]] []), (57, 233, .cut 1 [.via 3 [.str, .list 4 true false, .int .i64, .int .i64, .int .i64, .int .i64, .int .i64, .bool, .bool]] [.via 3 [.str, .list 4 false false, .int .i64, .int .i64, .int .i64, .int .i64, .int .i64, .bool, .bool], .one 4 (.int .i64)]), (75, 30, .inv 2 [.one 5 (.int .i64), .via 0 [.str, .list 4 true false, .int .i64, .int .i64, .int .i64, .int .i64, .int .i64, .bool, .bool]] [.via 0 [.str, .list 4 false false, .int .i64, .int .i64, .int .i64, .int .i64, .int .i64, .bool, .bool], .one 1 (.int .i64), .one 4 (.int .i64)])] } 6 57 [.list 1 (a0) none] (qwx a0) = qvf a0 := by kernel_rfl
def q2y : List (Nat × Ct KT) := [(57, zcb)]
abbrev qtv (a0 : List Int) : PV KT := .agg [.str (((qb a0).1)), .list 4 (((qb a0).2)) none]
abbrev qqr (a0 : List Int) : Prop :=
((ln a0 ≤ 80 ∧ ∀ n ∈ a0, I64 n)) ∧
(qfn a0 ([] : List Sign) 0) ∧
(∀ x0 : List Sign,
(∀ x1 : Int,
(qfn a0 x0 x1 →
((x1 < (ln ((qw a0).2)) →
(Wn x1 (ln ((qw a0).2))) ∧
(((ix ((qw a0).2) x1).Kind ≠ 11 →
(Wn x1 (ln ((qw a0).2))) ∧
(True) ∧
(ka (List.length x0 + List.length [(Sign.mk (ix ((qw a0).2) x1).Kind (ix ((qw a0).2) x1).Value (ix ((qw a0).2) x1).Place (ix ((qw a0).2) x1).Acc (ix ((qw a0).2) x1).Color (ix ((qw a0).2) x1).Stem (ix ((qw a0).2) x1).Oblique (ix ((qw a0).2) x1).Last (ix ((qw a0).2) x1).MensMax (ix ((qw a0).2) x1).MensMod (ix ((qw a0).2) x1).MensTem (ix ((qw a0).2) x1).MensPro (ix ((qw a0).2) x1).Stroke (ix ((qw a0).2) x1).N (ix ((qw a0).2) x1).D (ix ((qw a0).2) x1).ClefStep (ix ((qw a0).2) x1).ClefLine)])) ∧
(I64 (x1 + 1)) ∧
(((qw a0).1) = ((qw a0).1)) ∧
(((qw a0).2) = ((qw a0).2)) ∧
(([] : List UInt8) = ([] : List UInt8)) ∧
(qfn a0 (x0 ++ [(Sign.mk (ix ((qw a0).2) x1).Kind (ix ((qw a0).2) x1).Value (ix ((qw a0).2) x1).Place (ix ((qw a0).2) x1).Acc (ix ((qw a0).2) x1).Color (ix ((qw a0).2) x1).Stem (ix ((qw a0).2) x1).Oblique (ix ((qw a0).2) x1).Last (ix ((qw a0).2) x1).MensMax (ix ((qw a0).2) x1).MensMod (ix ((qw a0).2) x1).MensTem (ix ((qw a0).2) x1).MensPro (ix ((qw a0).2) x1).Stroke (ix ((qw a0).2) x1).N (ix ((qw a0).2) x1).D (ix ((qw a0).2) x1).ClefStep (ix ((qw a0).2) x1).ClefLine)]) (x1 + 1)) ∧
 qem a0 (x0 ++ [(Sign.mk (ix ((qw a0).2) x1).Kind (ix ((qw a0).2) x1).Value (ix ((qw a0).2) x1).Place (ix ((qw a0).2) x1).Acc (ix ((qw a0).2) x1).Color (ix ((qw a0).2) x1).Stem (ix ((qw a0).2) x1).Oblique (ix ((qw a0).2) x1).Last (ix ((qw a0).2) x1).MensMax (ix ((qw a0).2) x1).MensMod (ix ((qw a0).2) x1).MensTem (ix ((qw a0).2) x1).MensPro (ix ((qw a0).2) x1).Stroke (ix ((qw a0).2) x1).N (ix ((qw a0).2) x1).D (ix ((qw a0).2) x1).ClefStep (ix ((qw a0).2) x1).ClefLine)]) (x1 + 1) < qem a0 x0 x1)) ∧
((ix ((qw a0).2) x1).Kind = 11 →
(I64 (x1 + 1)) ∧
(((qw a0).1) = ((qw a0).1)) ∧
(((qw a0).2) = ((qw a0).2)) ∧
(([] : List UInt8) = ([] : List UInt8)) ∧
(qfn a0 x0 (x1 + 1)) ∧
 qem a0 x0 (x1 + 1) < qem a0 x0 x1))) ∧
((ln ((qw a0).2)) ≤ x1 →
(((qw a0).1) = ((qb a0).1)) ∧
(x0 = ((qb a0).2)) ∧
 True))))
theorem q48 (a0 : List Int) : qb3 (qu XK (qax q2y) (fun j ns => match j, ns with | 0, [.l 4 y0, .i y1] => qfn a0 y0 y1 | _, _ => False) (fun j ns => match j, ns with | 0, [.l 4 y0, .i y1] => qem a0 y0 y1 | _, _ => 0)) { cfg sp with ann := qbu [(29, 122, .inv 0 [.one 4 (.list 4 true false), .one 5 (.int .i64)] [])] } 3 29 [.list 1 (a0) none] (qtv a0) = qqr a0 := by kernel_rfl
end Go.Proofs.YtlkfjinaiepocaaDoor
