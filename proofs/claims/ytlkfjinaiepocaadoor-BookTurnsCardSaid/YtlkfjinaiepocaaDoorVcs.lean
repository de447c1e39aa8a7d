/- THE CONDITIONS of the functions on signs, parts, books, as E3 computes them. Made by program (vc.py). -/
import Derived.Test.YtlkfjinaiepocaaDoorCts
namespace Go.Proofs.YtlkfjinaiepocaaDoor
open Go Go.E2 Go.E3
set_option maxRecDepth 100000
variable {sp : Nat → Option (List V → Heap → Option (CR × Heap))}

def q20 : List (Nat × Ct KT) := []
abbrev qtx (a0 : List UInt8) : PV KT := .sb 0 false ((ju a0)) ((ju a0) = true) ((ju a0) = false)
abbrev qqt (a0 : List UInt8) : Prop :=
(((ln a0) = 0 →
(false = (ju a0)) ∧
 True)) ∧
((ln a0) ≠ 0 →
((20 < (ln a0) →
(false = (ju a0)) ∧
 True)) ∧
((ln a0) ≤ 20 →
(Wn 0 (ln a0)) ∧
(((bx a0 0) < 97 →
(false = (ju a0)) ∧
 True)) ∧
(97 ≤ (bx a0 0) →
(Wn 0 (ln a0)) ∧
((122 < (bx a0 0) →
(false = (ju a0)) ∧
 True)) ∧
((bx a0 0) ≤ 122 →
(qab a0 0) ∧
(∀ x4 : Int,
(qab a0 x4 →
((x4 < (ln a0) →
(Wn x4 (ln a0)) ∧
(((bx a0 x4) < 97 →
(((bx a0 x4) < 48 →
(((bx a0 x4) ≠ 45 →
(false = (ju a0)) ∧
 True)) ∧
((bx a0 x4) = 45 →
(I64 (x4 + 1)) ∧
(qab a0 (x4 + 1)) ∧
 zx a0 (x4 + 1) < zx a0 x4))) ∧
(48 ≤ (bx a0 x4) →
((57 < (bx a0 x4) →
(((bx a0 x4) ≠ 45 →
(false = (ju a0)) ∧
 True)) ∧
((bx a0 x4) = 45 →
(I64 (x4 + 1)) ∧
(qab a0 (x4 + 1)) ∧
 zx a0 (x4 + 1) < zx a0 x4))) ∧
((bx a0 x4) ≤ 57 →
(I64 (x4 + 1)) ∧
(qab a0 (x4 + 1)) ∧
 zx a0 (x4 + 1) < zx a0 x4)))) ∧
(97 ≤ (bx a0 x4) →
((122 < (bx a0 x4) →
(((bx a0 x4) < 48 →
(((bx a0 x4) ≠ 45 →
(false = (ju a0)) ∧
 True)) ∧
((bx a0 x4) = 45 →
(I64 (x4 + 1)) ∧
(qab a0 (x4 + 1)) ∧
 zx a0 (x4 + 1) < zx a0 x4))) ∧
(48 ≤ (bx a0 x4) →
((57 < (bx a0 x4) →
(((bx a0 x4) ≠ 45 →
(false = (ju a0)) ∧
 True)) ∧
((bx a0 x4) = 45 →
(I64 (x4 + 1)) ∧
(qab a0 (x4 + 1)) ∧
 zx a0 (x4 + 1) < zx a0 x4))) ∧
((bx a0 x4) ≤ 57 →
(I64 (x4 + 1)) ∧
(qab a0 (x4 + 1)) ∧
 zx a0 (x4 + 1) < zx a0 x4)))) ∧
((bx a0 x4) ≤ 122 →
(I64 (x4 + 1)) ∧
(qab a0 (x4 + 1)) ∧
 zx a0 (x4 + 1) < zx a0 x4)))) ∧
((ln a0) ≤ x4 →
(true = (ju a0)) ∧
 True)))))))
theorem q5f (a0 : List UInt8) : qb3 (qu XK (qax q20) (fun j ns => match j, ns with | 0, [.i y0] => qab a0 y0 | _, _ => False) (fun j ns => match j, ns with | 0, [.i y0] => zx a0 y0 | _, _ => 0)) { cfg sp with ann := qbu [(49, 58, .inv 0 [.one 25 (.int .i64)] [])] } 3 49 [.str (a0)] (qtx a0) = qqt a0 := by kernel_rfl
def qzi : List (Nat × Ct KT) := []
abbrev qqq (a0 : Int) (a1 : Int) (a2 : Int) (a3 : Int) : PV KT := .int .i64 none ((qil a0 a1 a2 a3))
abbrev qdz (v0 : Int) (v1 : Int) (v2 : Int) (v3 : Int) (p : Prop) : Prop :=
((v0 : Int) = v0) ∧
((v1 : Int) = v1) ∧
((v2 : Int) = v2) ∧
((v3 : Int) = v3) ∧
((v0 : Int) = v0) ∧
((v1 : Int) = v1) ∧
((v2 : Int) = v2) ∧
((v3 : Int) = v3) ∧
((v0 : Int) = v0) ∧
((v1 : Int) = v1) ∧
((v2 : Int) = v2) ∧
((v3 : Int) = v3) ∧
 p
abbrev qn0 (a0 : Int) (a1 : Int) (a2 : Int) (a3 : Int) : Prop :=
(k8 a0 a1 a2 a3 0) ∧
(∀ x0 : Int,
(k8 a0 a1 a2 a3 x0 →
((x0 < 4 →
(Wn x0 4) ∧
(((x0 : Int) = 0 →
((a0 ≠ 2 →
((a0 ≠ 3 →
((12 : Int) = (qil a0 a1 a2 a3)) ∧
 True)) ∧
(a0 = 3 →
(I64 (x0 + 1)) ∧
(qdz a0 a1 a2 a3 (
(k8 a0 a1 a2 a3 (x0 + 1)) ∧
 zm a0 a1 a2 a3 (x0 + 1) < zm a0 a1 a2 a3 x0))))) ∧
(a0 = 2 →
(I64 (x0 + 1)) ∧
(qdz a0 a1 a2 a3 (
(k8 a0 a1 a2 a3 (x0 + 1)) ∧
 zm a0 a1 a2 a3 (x0 + 1) < zm a0 a1 a2 a3 x0))))) ∧
(((x0 : Int) = 1 →
((a1 ≠ 2 →
((a1 ≠ 3 →
((12 : Int) = (qil a0 a1 a2 a3)) ∧
 True)) ∧
(a1 = 3 →
(I64 (x0 + 1)) ∧
(qdz a0 a1 a2 a3 (
(k8 a0 a1 a2 a3 (x0 + 1)) ∧
 zm a0 a1 a2 a3 (x0 + 1) < zm a0 a1 a2 a3 x0))))) ∧
(a1 = 2 →
(I64 (x0 + 1)) ∧
(qdz a0 a1 a2 a3 (
(k8 a0 a1 a2 a3 (x0 + 1)) ∧
 zm a0 a1 a2 a3 (x0 + 1) < zm a0 a1 a2 a3 x0))))) ∧
(((x0 : Int) = 2 →
((a2 ≠ 2 →
((a2 ≠ 3 →
((12 : Int) = (qil a0 a1 a2 a3)) ∧
 True)) ∧
(a2 = 3 →
(I64 (x0 + 1)) ∧
(qdz a0 a1 a2 a3 (
(k8 a0 a1 a2 a3 (x0 + 1)) ∧
 zm a0 a1 a2 a3 (x0 + 1) < zm a0 a1 a2 a3 x0))))) ∧
(a2 = 2 →
(I64 (x0 + 1)) ∧
(qdz a0 a1 a2 a3 (
(k8 a0 a1 a2 a3 (x0 + 1)) ∧
 zm a0 a1 a2 a3 (x0 + 1) < zm a0 a1 a2 a3 x0))))) ∧
(((x0 : Int) = 3 →
((a3 ≠ 2 →
((a3 ≠ 3 →
((12 : Int) = (qil a0 a1 a2 a3)) ∧
 True)) ∧
(a3 = 3 →
(I64 (x0 + 1)) ∧
(qdz a0 a1 a2 a3 (
(k8 a0 a1 a2 a3 (x0 + 1)) ∧
 zm a0 a1 a2 a3 (x0 + 1) < zm a0 a1 a2 a3 x0))))) ∧
(a3 = 2 →
(I64 (x0 + 1)) ∧
(qdz a0 a1 a2 a3 (
(k8 a0 a1 a2 a3 (x0 + 1)) ∧
 zm a0 a1 a2 a3 (x0 + 1) < zm a0 a1 a2 a3 x0))))) ∧
 True)) ∧
(4 ≤ x0 →
((0 : Int) = (qil a0 a1 a2 a3)) ∧
 True)))
theorem q2w (a0 : Int) (a1 : Int) (a2 : Int) (a3 : Int) : qb3 (qu XK (qax qzi) (fun j ns => match j, ns with | 0, [.i y0] => k8 a0 a1 a2 a3 y0 | _, _ => False) (fun j ns => match j, ns with | 0, [.i y0] => zm a0 a1 a2 a3 y0 | _, _ => 0)) { cfg sp with ann := qbu [(80, 26, .inv 0 [.one 7 (.int .i64)] [])] } 3 80 [.agg [.int .i64 none (a0), .int .i64 none (a1), .int .i64 none (a2), .int .i64 none (a3)]] (qqq a0 a1 a2 a3) = qn0 a0 a1 a2 a3 := by kernel_rfl
def q5g : List (Nat × Ct KT) := [(80, zcg)]
abbrev qw1 (a0 : Int) (a1 : Int) (a2 : Int) (a3 : Int) (a4 : Bool) (a5 : Int) (a6 : Bool) (a7 : Bool) (a8 : Int) (a9 : Int) (a10 : Int) (a11 : Int) (a12 : Bool) (a13 : Int) (a14 : Int) (a15 : Int) (a16 : Int) : PV KT := .int .i64 none ((qqe (Sign.mk a0 a1 a2 a3 a4 a5 a6 a7 a8 a9 a10 a11 a12 a13 a14 a15 a16)))
abbrev qvh (a0 : Int) (a1 : Int) (a2 : Int) (a3 : Int) (a4 : Bool) (a5 : Int) (a6 : Bool) (a7 : Bool) (a8 : Int) (a9 : Int) (a10 : Int) (a11 : Int) (a12 : Bool) (a13 : Int) (a14 : Int) (a15 : Int) (a16 : Int) : Prop :=
(fun r0_ : Int =>
((a0 < 1 →
((8 : Int) = r0_) ∧
 True)) ∧
(1 ≤ a0 →
((12 < a0 →
((8 : Int) = r0_) ∧
 True)) ∧
(a0 ≤ 12 →
(Wn a0 13) ∧
(((a0 : Int) = 0 →
(((a0 ≠ a0 ∨ (a1 ≠ 0 ∨ (a2 ≠ 0 ∨ (a3 ≠ 0 ∨ (a4 ≠ false ∨ (a5 ≠ 0 ∨ (a6 ≠ false ∨ (a7 ≠ false ∨ (a8 ≠ 0 ∨ (a9 ≠ 0 ∨ (a10 ≠ 0 ∨ (a11 ≠ 0 ∨ (a12 ≠ false ∨ (a13 ≠ 0 ∨ (a14 ≠ 0 ∨ (a15 ≠ 0 ∨ a16 ≠ 0)))))))))))))))) →
((3 : Int) = r0_) ∧
 True)) ∧
((a0 = a0 ∧ (a1 = 0 ∧ (a2 = 0 ∧ (a3 = 0 ∧ (a4 = false ∧ (a5 = 0 ∧ (a6 = false ∧ (a7 = false ∧ (a8 = 0 ∧ (a9 = 0 ∧ (a10 = 0 ∧ (a11 = 0 ∧ (a12 = false ∧ (a13 = 0 ∧ (a14 = 0 ∧ (a15 = 0 ∧ a16 = 0)))))))))))))))) →
((a0 = 8 →
((0 ≤ a13 →
((2 < a13 →
((2 : Int) = r0_) ∧
 True)) ∧
(a13 ≤ 2 →
((a0 = 10 →
((2 ≤ a13 →
((4 < a13 →
((2 : Int) = r0_) ∧
 True)) ∧
(a13 ≤ 4 →
((a6 = true →
((a7 = true →
((3 : Int) = r0_) ∧
 True)) ∧
(a7 = false →
((0 : Int) = r0_) ∧
 True))) ∧
(a6 = false →
((0 : Int) = r0_) ∧
 True)))) ∧
(a13 < 2 →
((2 : Int) = r0_) ∧
 True))) ∧
(a0 ≠ 10 →
((a6 = true →
((a7 = true →
((3 : Int) = r0_) ∧
 True)) ∧
(a7 = false →
((0 : Int) = r0_) ∧
 True))) ∧
(a6 = false →
((0 : Int) = r0_) ∧
 True))))) ∧
(a13 < 0 →
((2 : Int) = r0_) ∧
 True))) ∧
(a0 ≠ 8 →
((a0 = 10 →
((2 ≤ a13 →
((4 < a13 →
((2 : Int) = r0_) ∧
 True)) ∧
(a13 ≤ 4 →
((a6 = true →
((a7 = true →
((3 : Int) = r0_) ∧
 True)) ∧
(a7 = false →
((0 : Int) = r0_) ∧
 True))) ∧
(a6 = false →
((0 : Int) = r0_) ∧
 True)))) ∧
(a13 < 2 →
((2 : Int) = r0_) ∧
 True))) ∧
(a0 ≠ 10 →
((a6 = true →
((a7 = true →
((3 : Int) = r0_) ∧
 True)) ∧
(a7 = false →
((0 : Int) = r0_) ∧
 True))) ∧
(a6 = false →
((0 : Int) = r0_) ∧
 True)))))) ∧
(((a0 : Int) = 1 →
(((a0 ≠ a0 ∨ (a1 ≠ a1 ∨ (a2 ≠ a2 ∨ (a3 ≠ a3 ∨ (a4 ≠ a4 ∨ (a5 ≠ 0 ∨ (a6 ≠ false ∨ (a7 ≠ false ∨ (a8 ≠ 0 ∨ (a9 ≠ 0 ∨ (a10 ≠ 0 ∨ (a11 ≠ 0 ∨ (a12 ≠ false ∨ (a13 ≠ 0 ∨ (a14 ≠ 0 ∨ (a15 ≠ 0 ∨ a16 ≠ 0)))))))))))))))) →
((3 : Int) = r0_) ∧
 True)) ∧
((a0 = a0 ∧ (a1 = a1 ∧ (a2 = a2 ∧ (a3 = a3 ∧ (a4 = a4 ∧ (a5 = 0 ∧ (a6 = false ∧ (a7 = false ∧ (a8 = 0 ∧ (a9 = 0 ∧ (a10 = 0 ∧ (a11 = 0 ∧ (a12 = false ∧ (a13 = 0 ∧ (a14 = 0 ∧ (a15 = 0 ∧ a16 = 0)))))))))))))))) →
((1 ≤ a1 →
((8 < a1 →
((2 : Int) = r0_) ∧
 True)) ∧
(a1 ≤ 8 →
(((-4) ≤ a2 →
((12 < a2 →
((2 : Int) = r0_) ∧
 True)) ∧
(a2 ≤ 12 →
(((-1) ≤ a3 →
((2 < a3 →
((2 : Int) = r0_) ∧
 True)) ∧
(a3 ≤ 2 →
((a0 = 8 →
((0 ≤ a13 →
((2 < a13 →
((2 : Int) = r0_) ∧
 True)) ∧
(a13 ≤ 2 →
((a0 = 10 →
((2 ≤ a13 →
((4 < a13 →
((2 : Int) = r0_) ∧
 True)) ∧
(a13 ≤ 4 →
((a6 = true →
((a7 = true →
((3 : Int) = r0_) ∧
 True)) ∧
(a7 = false →
((0 : Int) = r0_) ∧
 True))) ∧
(a6 = false →
((0 : Int) = r0_) ∧
 True)))) ∧
(a13 < 2 →
((2 : Int) = r0_) ∧
 True))) ∧
(a0 ≠ 10 →
((a6 = true →
((a7 = true →
((3 : Int) = r0_) ∧
 True)) ∧
(a7 = false →
((0 : Int) = r0_) ∧
 True))) ∧
(a6 = false →
((0 : Int) = r0_) ∧
 True))))) ∧
(a13 < 0 →
((2 : Int) = r0_) ∧
 True))) ∧
(a0 ≠ 8 →
((a0 = 10 →
((2 ≤ a13 →
((4 < a13 →
((2 : Int) = r0_) ∧
 True)) ∧
(a13 ≤ 4 →
((a6 = true →
((a7 = true →
((3 : Int) = r0_) ∧
 True)) ∧
(a7 = false →
((0 : Int) = r0_) ∧
 True))) ∧
(a6 = false →
((0 : Int) = r0_) ∧
 True)))) ∧
(a13 < 2 →
((2 : Int) = r0_) ∧
 True))) ∧
(a0 ≠ 10 →
((a6 = true →
((a7 = true →
((3 : Int) = r0_) ∧
 True)) ∧
(a7 = false →
((0 : Int) = r0_) ∧
 True))) ∧
(a6 = false →
((0 : Int) = r0_) ∧
 True)))))) ∧
(a3 < (-1) →
((2 : Int) = r0_) ∧
 True)))) ∧
(a2 < (-4) →
((2 : Int) = r0_) ∧
 True)))) ∧
(a1 < 1 →
((2 : Int) = r0_) ∧
 True)))) ∧
(((a0 : Int) = 2 →
(((a0 ≠ a0 ∨ (a1 ≠ a1 ∨ (a2 ≠ 0 ∨ (a3 ≠ 0 ∨ (a4 ≠ false ∨ (a5 ≠ 0 ∨ (a6 ≠ false ∨ (a7 ≠ false ∨ (a8 ≠ 0 ∨ (a9 ≠ 0 ∨ (a10 ≠ 0 ∨ (a11 ≠ 0 ∨ (a12 ≠ false ∨ (a13 ≠ 0 ∨ (a14 ≠ 0 ∨ (a15 ≠ 0 ∨ a16 ≠ 0)))))))))))))))) →
((3 : Int) = r0_) ∧
 True)) ∧
((a0 = a0 ∧ (a1 = a1 ∧ (a2 = 0 ∧ (a3 = 0 ∧ (a4 = false ∧ (a5 = 0 ∧ (a6 = false ∧ (a7 = false ∧ (a8 = 0 ∧ (a9 = 0 ∧ (a10 = 0 ∧ (a11 = 0 ∧ (a12 = false ∧ (a13 = 0 ∧ (a14 = 0 ∧ (a15 = 0 ∧ a16 = 0)))))))))))))))) →
((1 ≤ a1 →
((8 < a1 →
((2 : Int) = r0_) ∧
 True)) ∧
(a1 ≤ 8 →
((a0 = 8 →
((0 ≤ a13 →
((2 < a13 →
((2 : Int) = r0_) ∧
 True)) ∧
(a13 ≤ 2 →
((a0 = 10 →
((2 ≤ a13 →
((4 < a13 →
((2 : Int) = r0_) ∧
 True)) ∧
(a13 ≤ 4 →
((a6 = true →
((a7 = true →
((3 : Int) = r0_) ∧
 True)) ∧
(a7 = false →
((0 : Int) = r0_) ∧
 True))) ∧
(a6 = false →
((0 : Int) = r0_) ∧
 True)))) ∧
(a13 < 2 →
((2 : Int) = r0_) ∧
 True))) ∧
(a0 ≠ 10 →
((a6 = true →
((a7 = true →
((3 : Int) = r0_) ∧
 True)) ∧
(a7 = false →
((0 : Int) = r0_) ∧
 True))) ∧
(a6 = false →
((0 : Int) = r0_) ∧
 True))))) ∧
(a13 < 0 →
((2 : Int) = r0_) ∧
 True))) ∧
(a0 ≠ 8 →
((a0 = 10 →
((2 ≤ a13 →
((4 < a13 →
((2 : Int) = r0_) ∧
 True)) ∧
(a13 ≤ 4 →
((a6 = true →
((a7 = true →
((3 : Int) = r0_) ∧
 True)) ∧
(a7 = false →
((0 : Int) = r0_) ∧
 True))) ∧
(a6 = false →
((0 : Int) = r0_) ∧
 True)))) ∧
(a13 < 2 →
((2 : Int) = r0_) ∧
 True))) ∧
(a0 ≠ 10 →
((a6 = true →
((a7 = true →
((3 : Int) = r0_) ∧
 True)) ∧
(a7 = false →
((0 : Int) = r0_) ∧
 True))) ∧
(a6 = false →
((0 : Int) = r0_) ∧
 True)))))) ∧
(a1 < 1 →
((2 : Int) = r0_) ∧
 True)))) ∧
(((a0 : Int) = 3 →
(((a0 ≠ a0 ∨ (a1 ≠ 0 ∨ (a2 ≠ 0 ∨ (a3 ≠ 0 ∨ (a4 ≠ false ∨ (a5 ≠ 0 ∨ (a6 ≠ false ∨ (a7 ≠ false ∨ (a8 ≠ 0 ∨ (a9 ≠ 0 ∨ (a10 ≠ 0 ∨ (a11 ≠ 0 ∨ (a12 ≠ false ∨ (a13 ≠ 0 ∨ (a14 ≠ 0 ∨ (a15 ≠ 0 ∨ a16 ≠ 0)))))))))))))))) →
((3 : Int) = r0_) ∧
 True)) ∧
((a0 = a0 ∧ (a1 = 0 ∧ (a2 = 0 ∧ (a3 = 0 ∧ (a4 = false ∧ (a5 = 0 ∧ (a6 = false ∧ (a7 = false ∧ (a8 = 0 ∧ (a9 = 0 ∧ (a10 = 0 ∧ (a11 = 0 ∧ (a12 = false ∧ (a13 = 0 ∧ (a14 = 0 ∧ (a15 = 0 ∧ a16 = 0)))))))))))))))) →
((a0 = 8 →
((0 ≤ a13 →
((2 < a13 →
((2 : Int) = r0_) ∧
 True)) ∧
(a13 ≤ 2 →
((a0 = 10 →
((2 ≤ a13 →
((4 < a13 →
((2 : Int) = r0_) ∧
 True)) ∧
(a13 ≤ 4 →
((a6 = true →
((a7 = true →
((3 : Int) = r0_) ∧
 True)) ∧
(a7 = false →
((0 : Int) = r0_) ∧
 True))) ∧
(a6 = false →
((0 : Int) = r0_) ∧
 True)))) ∧
(a13 < 2 →
((2 : Int) = r0_) ∧
 True))) ∧
(a0 ≠ 10 →
((a6 = true →
((a7 = true →
((3 : Int) = r0_) ∧
 True)) ∧
(a7 = false →
((0 : Int) = r0_) ∧
 True))) ∧
(a6 = false →
((0 : Int) = r0_) ∧
 True))))) ∧
(a13 < 0 →
((2 : Int) = r0_) ∧
 True))) ∧
(a0 ≠ 8 →
((a0 = 10 →
((2 ≤ a13 →
((4 < a13 →
((2 : Int) = r0_) ∧
 True)) ∧
(a13 ≤ 4 →
((a6 = true →
((a7 = true →
((3 : Int) = r0_) ∧
 True)) ∧
(a7 = false →
((0 : Int) = r0_) ∧
 True))) ∧
(a6 = false →
((0 : Int) = r0_) ∧
 True)))) ∧
(a13 < 2 →
((2 : Int) = r0_) ∧
 True))) ∧
(a0 ≠ 10 →
((a6 = true →
((a7 = true →
((3 : Int) = r0_) ∧
 True)) ∧
(a7 = false →
((0 : Int) = r0_) ∧
 True))) ∧
(a6 = false →
((0 : Int) = r0_) ∧
 True)))))) ∧
(((a0 : Int) = 4 →
(((a0 ≠ a0 ∨ (a1 ≠ 0 ∨ (a2 ≠ a2 ∨ (a3 ≠ a3 ∨ (a4 ≠ a4 ∨ (a5 ≠ a5 ∨ (a6 ≠ a6 ∨ (a7 ≠ a7 ∨ (a8 ≠ 0 ∨ (a9 ≠ 0 ∨ (a10 ≠ 0 ∨ (a11 ≠ 0 ∨ (a12 ≠ false ∨ (a13 ≠ 0 ∨ (a14 ≠ 0 ∨ (a15 ≠ 0 ∨ a16 ≠ 0)))))))))))))))) →
((3 : Int) = r0_) ∧
 True)) ∧
((a0 = a0 ∧ (a1 = 0 ∧ (a2 = a2 ∧ (a3 = a3 ∧ (a4 = a4 ∧ (a5 = a5 ∧ (a6 = a6 ∧ (a7 = a7 ∧ (a8 = 0 ∧ (a9 = 0 ∧ (a10 = 0 ∧ (a11 = 0 ∧ (a12 = false ∧ (a13 = 0 ∧ (a14 = 0 ∧ (a15 = 0 ∧ a16 = 0)))))))))))))))) →
(((-4) ≤ a2 →
((12 < a2 →
((2 : Int) = r0_) ∧
 True)) ∧
(a2 ≤ 12 →
(((-1) ≤ a3 →
((2 < a3 →
((2 : Int) = r0_) ∧
 True)) ∧
(a3 ≤ 2 →
((0 ≤ a5 →
((3 < a5 →
((2 : Int) = r0_) ∧
 True)) ∧
(a5 ≤ 3 →
((a0 = 8 →
((0 ≤ a13 →
((2 < a13 →
((2 : Int) = r0_) ∧
 True)) ∧
(a13 ≤ 2 →
((a0 = 10 →
((2 ≤ a13 →
((4 < a13 →
((2 : Int) = r0_) ∧
 True)) ∧
(a13 ≤ 4 →
((a6 = true →
((a7 = true →
((3 : Int) = r0_) ∧
 True)) ∧
(a7 = false →
((0 : Int) = r0_) ∧
 True))) ∧
(a6 = false →
((0 : Int) = r0_) ∧
 True)))) ∧
(a13 < 2 →
((2 : Int) = r0_) ∧
 True))) ∧
(a0 ≠ 10 →
((a6 = true →
((a7 = true →
((3 : Int) = r0_) ∧
 True)) ∧
(a7 = false →
((0 : Int) = r0_) ∧
 True))) ∧
(a6 = false →
((0 : Int) = r0_) ∧
 True))))) ∧
(a13 < 0 →
((2 : Int) = r0_) ∧
 True))) ∧
(a0 ≠ 8 →
((a0 = 10 →
((2 ≤ a13 →
((4 < a13 →
((2 : Int) = r0_) ∧
 True)) ∧
(a13 ≤ 4 →
((a6 = true →
((a7 = true →
((3 : Int) = r0_) ∧
 True)) ∧
(a7 = false →
((0 : Int) = r0_) ∧
 True))) ∧
(a6 = false →
((0 : Int) = r0_) ∧
 True)))) ∧
(a13 < 2 →
((2 : Int) = r0_) ∧
 True))) ∧
(a0 ≠ 10 →
((a6 = true →
((a7 = true →
((3 : Int) = r0_) ∧
 True)) ∧
(a7 = false →
((0 : Int) = r0_) ∧
 True))) ∧
(a6 = false →
((0 : Int) = r0_) ∧
 True)))))) ∧
(a5 < 0 →
((2 : Int) = r0_) ∧
 True)))) ∧
(a3 < (-1) →
((2 : Int) = r0_) ∧
 True)))) ∧
(a2 < (-4) →
((2 : Int) = r0_) ∧
 True)))) ∧
(((a0 : Int) = 5 →
(((a0 ≠ a0 ∨ (a1 ≠ 0 ∨ (a2 ≠ 0 ∨ (a3 ≠ 0 ∨ (a4 ≠ false ∨ (a5 ≠ 0 ∨ (a6 ≠ false ∨ (a7 ≠ false ∨ (a8 ≠ a8 ∨ (a9 ≠ a9 ∨ (a10 ≠ a10 ∨ (a11 ≠ a11 ∨ (a12 ≠ a12 ∨ (a13 ≠ 0 ∨ (a14 ≠ 0 ∨ (a15 ≠ 0 ∨ a16 ≠ 0)))))))))))))))) →
((3 : Int) = r0_) ∧
 True)) ∧
((a0 = a0 ∧ (a1 = 0 ∧ (a2 = 0 ∧ (a3 = 0 ∧ (a4 = false ∧ (a5 = 0 ∧ (a6 = false ∧ (a7 = false ∧ (a8 = a8 ∧ (a9 = a9 ∧ (a10 = a10 ∧ (a11 = a11 ∧ (a12 = a12 ∧ (a13 = 0 ∧ (a14 = 0 ∧ (a15 = 0 ∧ a16 = 0)))))))))))))))) →
(True) ∧
(((qil a8 a9 a10 a11) ≠ 0 →
((12 : Int) = r0_) ∧
 True)) ∧
((qil a8 a9 a10 a11) = 0 →
((a0 = 8 →
((0 ≤ a13 →
((2 < a13 →
((2 : Int) = r0_) ∧
 True)) ∧
(a13 ≤ 2 →
((a0 = 10 →
((2 ≤ a13 →
((4 < a13 →
((2 : Int) = r0_) ∧
 True)) ∧
(a13 ≤ 4 →
((a6 = true →
((a7 = true →
((3 : Int) = r0_) ∧
 True)) ∧
(a7 = false →
((0 : Int) = r0_) ∧
 True))) ∧
(a6 = false →
((0 : Int) = r0_) ∧
 True)))) ∧
(a13 < 2 →
((2 : Int) = r0_) ∧
 True))) ∧
(a0 ≠ 10 →
((a6 = true →
((a7 = true →
((3 : Int) = r0_) ∧
 True)) ∧
(a7 = false →
((0 : Int) = r0_) ∧
 True))) ∧
(a6 = false →
((0 : Int) = r0_) ∧
 True))))) ∧
(a13 < 0 →
((2 : Int) = r0_) ∧
 True))) ∧
(a0 ≠ 8 →
((a0 = 10 →
((2 ≤ a13 →
((4 < a13 →
((2 : Int) = r0_) ∧
 True)) ∧
(a13 ≤ 4 →
((a6 = true →
((a7 = true →
((3 : Int) = r0_) ∧
 True)) ∧
(a7 = false →
((0 : Int) = r0_) ∧
 True))) ∧
(a6 = false →
((0 : Int) = r0_) ∧
 True)))) ∧
(a13 < 2 →
((2 : Int) = r0_) ∧
 True))) ∧
(a0 ≠ 10 →
((a6 = true →
((a7 = true →
((3 : Int) = r0_) ∧
 True)) ∧
(a7 = false →
((0 : Int) = r0_) ∧
 True))) ∧
(a6 = false →
((0 : Int) = r0_) ∧
 True))))))) ∧
(((a0 : Int) = 6 →
(((a0 ≠ a0 ∨ (a1 ≠ 0 ∨ (a2 ≠ 0 ∨ (a3 ≠ 0 ∨ (a4 ≠ false ∨ (a5 ≠ 0 ∨ (a6 ≠ false ∨ (a7 ≠ false ∨ (a8 ≠ 0 ∨ (a9 ≠ 0 ∨ (a10 ≠ 0 ∨ (a11 ≠ 0 ∨ (a12 ≠ false ∨ (a13 ≠ a13 ∨ (a14 ≠ a14 ∨ (a15 ≠ 0 ∨ a16 ≠ 0)))))))))))))))) →
((3 : Int) = r0_) ∧
 True)) ∧
((a0 = a0 ∧ (a1 = 0 ∧ (a2 = 0 ∧ (a3 = 0 ∧ (a4 = false ∧ (a5 = 0 ∧ (a6 = false ∧ (a7 = false ∧ (a8 = 0 ∧ (a9 = 0 ∧ (a10 = 0 ∧ (a11 = 0 ∧ (a12 = false ∧ (a13 = a13 ∧ (a14 = a14 ∧ (a15 = 0 ∧ a16 = 0)))))))))))))))) →
((1 ≤ a13 →
((100 < a13 →
((2 : Int) = r0_) ∧
 True)) ∧
(a13 ≤ 100 →
((1 ≤ a14 →
((100 < a14 →
((2 : Int) = r0_) ∧
 True)) ∧
(a14 ≤ 100 →
((a0 = 8 →
((0 ≤ a13 →
((2 < a13 →
((2 : Int) = r0_) ∧
 True)) ∧
(a13 ≤ 2 →
((a0 = 10 →
((2 ≤ a13 →
((4 < a13 →
((2 : Int) = r0_) ∧
 True)) ∧
(a13 ≤ 4 →
((a6 = true →
((a7 = true →
((3 : Int) = r0_) ∧
 True)) ∧
(a7 = false →
((0 : Int) = r0_) ∧
 True))) ∧
(a6 = false →
((0 : Int) = r0_) ∧
 True)))) ∧
(a13 < 2 →
((2 : Int) = r0_) ∧
 True))) ∧
(a0 ≠ 10 →
((a6 = true →
((a7 = true →
((3 : Int) = r0_) ∧
 True)) ∧
(a7 = false →
((0 : Int) = r0_) ∧
 True))) ∧
(a6 = false →
((0 : Int) = r0_) ∧
 True))))) ∧
(a13 < 0 →
((2 : Int) = r0_) ∧
 True))) ∧
(a0 ≠ 8 →
((a0 = 10 →
((2 ≤ a13 →
((4 < a13 →
((2 : Int) = r0_) ∧
 True)) ∧
(a13 ≤ 4 →
((a6 = true →
((a7 = true →
((3 : Int) = r0_) ∧
 True)) ∧
(a7 = false →
((0 : Int) = r0_) ∧
 True))) ∧
(a6 = false →
((0 : Int) = r0_) ∧
 True)))) ∧
(a13 < 2 →
((2 : Int) = r0_) ∧
 True))) ∧
(a0 ≠ 10 →
((a6 = true →
((a7 = true →
((3 : Int) = r0_) ∧
 True)) ∧
(a7 = false →
((0 : Int) = r0_) ∧
 True))) ∧
(a6 = false →
((0 : Int) = r0_) ∧
 True)))))) ∧
(a14 < 1 →
((2 : Int) = r0_) ∧
 True)))) ∧
(a13 < 1 →
((2 : Int) = r0_) ∧
 True)))) ∧
(((a0 : Int) = 7 →
(((a0 ≠ a0 ∨ (a1 ≠ 0 ∨ (a2 ≠ 0 ∨ (a3 ≠ 0 ∨ (a4 ≠ false ∨ (a5 ≠ 0 ∨ (a6 ≠ false ∨ (a7 ≠ false ∨ (a8 ≠ 0 ∨ (a9 ≠ 0 ∨ (a10 ≠ 0 ∨ (a11 ≠ 0 ∨ (a12 ≠ false ∨ (a13 ≠ 0 ∨ (a14 ≠ 0 ∨ (a15 ≠ a15 ∨ a16 ≠ a16)))))))))))))))) →
((3 : Int) = r0_) ∧
 True)) ∧
((a0 = a0 ∧ (a1 = 0 ∧ (a2 = 0 ∧ (a3 = 0 ∧ (a4 = false ∧ (a5 = 0 ∧ (a6 = false ∧ (a7 = false ∧ (a8 = 0 ∧ (a9 = 0 ∧ (a10 = 0 ∧ (a11 = 0 ∧ (a12 = false ∧ (a13 = 0 ∧ (a14 = 0 ∧ (a15 = a15 ∧ a16 = a16)))))))))))))))) →
((a15 ≠ 0 →
((a15 ≠ 3 →
((a15 ≠ 4 →
((2 : Int) = r0_) ∧
 True)) ∧
(a15 = 4 →
((1 ≤ a16 →
((5 < a16 →
((2 : Int) = r0_) ∧
 True)) ∧
(a16 ≤ 5 →
((a0 = 8 →
((0 ≤ a13 →
((2 < a13 →
((2 : Int) = r0_) ∧
 True)) ∧
(a13 ≤ 2 →
((a0 = 10 →
((2 ≤ a13 →
((4 < a13 →
((2 : Int) = r0_) ∧
 True)) ∧
(a13 ≤ 4 →
((a6 = true →
((a7 = true →
((3 : Int) = r0_) ∧
 True)) ∧
(a7 = false →
((0 : Int) = r0_) ∧
 True))) ∧
(a6 = false →
((0 : Int) = r0_) ∧
 True)))) ∧
(a13 < 2 →
((2 : Int) = r0_) ∧
 True))) ∧
(a0 ≠ 10 →
((a6 = true →
((a7 = true →
((3 : Int) = r0_) ∧
 True)) ∧
(a7 = false →
((0 : Int) = r0_) ∧
 True))) ∧
(a6 = false →
((0 : Int) = r0_) ∧
 True))))) ∧
(a13 < 0 →
((2 : Int) = r0_) ∧
 True))) ∧
(a0 ≠ 8 →
((a0 = 10 →
((2 ≤ a13 →
((4 < a13 →
((2 : Int) = r0_) ∧
 True)) ∧
(a13 ≤ 4 →
((a6 = true →
((a7 = true →
((3 : Int) = r0_) ∧
 True)) ∧
(a7 = false →
((0 : Int) = r0_) ∧
 True))) ∧
(a6 = false →
((0 : Int) = r0_) ∧
 True)))) ∧
(a13 < 2 →
((2 : Int) = r0_) ∧
 True))) ∧
(a0 ≠ 10 →
((a6 = true →
((a7 = true →
((3 : Int) = r0_) ∧
 True)) ∧
(a7 = false →
((0 : Int) = r0_) ∧
 True))) ∧
(a6 = false →
((0 : Int) = r0_) ∧
 True)))))) ∧
(a16 < 1 →
((2 : Int) = r0_) ∧
 True)))) ∧
(a15 = 3 →
((1 ≤ a16 →
((5 < a16 →
((2 : Int) = r0_) ∧
 True)) ∧
(a16 ≤ 5 →
((a0 = 8 →
((0 ≤ a13 →
((2 < a13 →
((2 : Int) = r0_) ∧
 True)) ∧
(a13 ≤ 2 →
((a0 = 10 →
((2 ≤ a13 →
((4 < a13 →
((2 : Int) = r0_) ∧
 True)) ∧
(a13 ≤ 4 →
((a6 = true →
((a7 = true →
((3 : Int) = r0_) ∧
 True)) ∧
(a7 = false →
((0 : Int) = r0_) ∧
 True))) ∧
(a6 = false →
((0 : Int) = r0_) ∧
 True)))) ∧
(a13 < 2 →
((2 : Int) = r0_) ∧
 True))) ∧
(a0 ≠ 10 →
((a6 = true →
((a7 = true →
((3 : Int) = r0_) ∧
 True)) ∧
(a7 = false →
((0 : Int) = r0_) ∧
 True))) ∧
(a6 = false →
((0 : Int) = r0_) ∧
 True))))) ∧
(a13 < 0 →
((2 : Int) = r0_) ∧
 True))) ∧
(a0 ≠ 8 →
((a0 = 10 →
((2 ≤ a13 →
((4 < a13 →
((2 : Int) = r0_) ∧
 True)) ∧
(a13 ≤ 4 →
((a6 = true →
((a7 = true →
((3 : Int) = r0_) ∧
 True)) ∧
(a7 = false →
((0 : Int) = r0_) ∧
 True))) ∧
(a6 = false →
((0 : Int) = r0_) ∧
 True)))) ∧
(a13 < 2 →
((2 : Int) = r0_) ∧
 True))) ∧
(a0 ≠ 10 →
((a6 = true →
((a7 = true →
((3 : Int) = r0_) ∧
 True)) ∧
(a7 = false →
((0 : Int) = r0_) ∧
 True))) ∧
(a6 = false →
((0 : Int) = r0_) ∧
 True)))))) ∧
(a16 < 1 →
((2 : Int) = r0_) ∧
 True)))) ∧
(a15 = 0 →
((1 ≤ a16 →
((5 < a16 →
((2 : Int) = r0_) ∧
 True)) ∧
(a16 ≤ 5 →
((a0 = 8 →
((0 ≤ a13 →
((2 < a13 →
((2 : Int) = r0_) ∧
 True)) ∧
(a13 ≤ 2 →
((a0 = 10 →
((2 ≤ a13 →
((4 < a13 →
((2 : Int) = r0_) ∧
 True)) ∧
(a13 ≤ 4 →
((a6 = true →
((a7 = true →
((3 : Int) = r0_) ∧
 True)) ∧
(a7 = false →
((0 : Int) = r0_) ∧
 True))) ∧
(a6 = false →
((0 : Int) = r0_) ∧
 True)))) ∧
(a13 < 2 →
((2 : Int) = r0_) ∧
 True))) ∧
(a0 ≠ 10 →
((a6 = true →
((a7 = true →
((3 : Int) = r0_) ∧
 True)) ∧
(a7 = false →
((0 : Int) = r0_) ∧
 True))) ∧
(a6 = false →
((0 : Int) = r0_) ∧
 True))))) ∧
(a13 < 0 →
((2 : Int) = r0_) ∧
 True))) ∧
(a0 ≠ 8 →
((a0 = 10 →
((2 ≤ a13 →
((4 < a13 →
((2 : Int) = r0_) ∧
 True)) ∧
(a13 ≤ 4 →
((a6 = true →
((a7 = true →
((3 : Int) = r0_) ∧
 True)) ∧
(a7 = false →
((0 : Int) = r0_) ∧
 True))) ∧
(a6 = false →
((0 : Int) = r0_) ∧
 True)))) ∧
(a13 < 2 →
((2 : Int) = r0_) ∧
 True))) ∧
(a0 ≠ 10 →
((a6 = true →
((a7 = true →
((3 : Int) = r0_) ∧
 True)) ∧
(a7 = false →
((0 : Int) = r0_) ∧
 True))) ∧
(a6 = false →
((0 : Int) = r0_) ∧
 True)))))) ∧
(a16 < 1 →
((2 : Int) = r0_) ∧
 True))))) ∧
(((a0 : Int) = 8 →
(((a0 ≠ a0 ∨ (a1 ≠ 0 ∨ (a2 ≠ 0 ∨ (a3 ≠ 0 ∨ (a4 ≠ false ∨ (a5 ≠ 0 ∨ (a6 ≠ false ∨ (a7 ≠ false ∨ (a8 ≠ 0 ∨ (a9 ≠ 0 ∨ (a10 ≠ 0 ∨ (a11 ≠ 0 ∨ (a12 ≠ false ∨ (a13 ≠ a13 ∨ (a14 ≠ 0 ∨ (a15 ≠ 0 ∨ a16 ≠ 0)))))))))))))))) →
((3 : Int) = r0_) ∧
 True)) ∧
((a0 = a0 ∧ (a1 = 0 ∧ (a2 = 0 ∧ (a3 = 0 ∧ (a4 = false ∧ (a5 = 0 ∧ (a6 = false ∧ (a7 = false ∧ (a8 = 0 ∧ (a9 = 0 ∧ (a10 = 0 ∧ (a11 = 0 ∧ (a12 = false ∧ (a13 = a13 ∧ (a14 = 0 ∧ (a15 = 0 ∧ a16 = 0)))))))))))))))) →
((a0 = 8 →
((0 ≤ a13 →
((2 < a13 →
((2 : Int) = r0_) ∧
 True)) ∧
(a13 ≤ 2 →
((a0 = 10 →
((2 ≤ a13 →
((4 < a13 →
((2 : Int) = r0_) ∧
 True)) ∧
(a13 ≤ 4 →
((a6 = true →
((a7 = true →
((3 : Int) = r0_) ∧
 True)) ∧
(a7 = false →
((0 : Int) = r0_) ∧
 True))) ∧
(a6 = false →
((0 : Int) = r0_) ∧
 True)))) ∧
(a13 < 2 →
((2 : Int) = r0_) ∧
 True))) ∧
(a0 ≠ 10 →
((a6 = true →
((a7 = true →
((3 : Int) = r0_) ∧
 True)) ∧
(a7 = false →
((0 : Int) = r0_) ∧
 True))) ∧
(a6 = false →
((0 : Int) = r0_) ∧
 True))))) ∧
(a13 < 0 →
((2 : Int) = r0_) ∧
 True))) ∧
(a0 ≠ 8 →
((a0 = 10 →
((2 ≤ a13 →
((4 < a13 →
((2 : Int) = r0_) ∧
 True)) ∧
(a13 ≤ 4 →
((a6 = true →
((a7 = true →
((3 : Int) = r0_) ∧
 True)) ∧
(a7 = false →
((0 : Int) = r0_) ∧
 True))) ∧
(a6 = false →
((0 : Int) = r0_) ∧
 True)))) ∧
(a13 < 2 →
((2 : Int) = r0_) ∧
 True))) ∧
(a0 ≠ 10 →
((a6 = true →
((a7 = true →
((3 : Int) = r0_) ∧
 True)) ∧
(a7 = false →
((0 : Int) = r0_) ∧
 True))) ∧
(a6 = false →
((0 : Int) = r0_) ∧
 True)))))) ∧
(((a0 : Int) = 9 →
(((a0 ≠ a0 ∨ (a1 ≠ 0 ∨ (a2 ≠ 0 ∨ (a3 ≠ 0 ∨ (a4 ≠ false ∨ (a5 ≠ 0 ∨ (a6 ≠ false ∨ (a7 ≠ false ∨ (a8 ≠ 0 ∨ (a9 ≠ 0 ∨ (a10 ≠ 0 ∨ (a11 ≠ 0 ∨ (a12 ≠ false ∨ (a13 ≠ 0 ∨ (a14 ≠ 0 ∨ (a15 ≠ 0 ∨ a16 ≠ 0)))))))))))))))) →
((3 : Int) = r0_) ∧
 True)) ∧
((a0 = a0 ∧ (a1 = 0 ∧ (a2 = 0 ∧ (a3 = 0 ∧ (a4 = false ∧ (a5 = 0 ∧ (a6 = false ∧ (a7 = false ∧ (a8 = 0 ∧ (a9 = 0 ∧ (a10 = 0 ∧ (a11 = 0 ∧ (a12 = false ∧ (a13 = 0 ∧ (a14 = 0 ∧ (a15 = 0 ∧ a16 = 0)))))))))))))))) →
((a0 = 8 →
((0 ≤ a13 →
((2 < a13 →
((2 : Int) = r0_) ∧
 True)) ∧
(a13 ≤ 2 →
((a0 = 10 →
((2 ≤ a13 →
((4 < a13 →
((2 : Int) = r0_) ∧
 True)) ∧
(a13 ≤ 4 →
((a6 = true →
((a7 = true →
((3 : Int) = r0_) ∧
 True)) ∧
(a7 = false →
((0 : Int) = r0_) ∧
 True))) ∧
(a6 = false →
((0 : Int) = r0_) ∧
 True)))) ∧
(a13 < 2 →
((2 : Int) = r0_) ∧
 True))) ∧
(a0 ≠ 10 →
((a6 = true →
((a7 = true →
((3 : Int) = r0_) ∧
 True)) ∧
(a7 = false →
((0 : Int) = r0_) ∧
 True))) ∧
(a6 = false →
((0 : Int) = r0_) ∧
 True))))) ∧
(a13 < 0 →
((2 : Int) = r0_) ∧
 True))) ∧
(a0 ≠ 8 →
((a0 = 10 →
((2 ≤ a13 →
((4 < a13 →
((2 : Int) = r0_) ∧
 True)) ∧
(a13 ≤ 4 →
((a6 = true →
((a7 = true →
((3 : Int) = r0_) ∧
 True)) ∧
(a7 = false →
((0 : Int) = r0_) ∧
 True))) ∧
(a6 = false →
((0 : Int) = r0_) ∧
 True)))) ∧
(a13 < 2 →
((2 : Int) = r0_) ∧
 True))) ∧
(a0 ≠ 10 →
((a6 = true →
((a7 = true →
((3 : Int) = r0_) ∧
 True)) ∧
(a7 = false →
((0 : Int) = r0_) ∧
 True))) ∧
(a6 = false →
((0 : Int) = r0_) ∧
 True)))))) ∧
(((a0 : Int) = 10 →
(((a0 ≠ a0 ∨ (a1 ≠ 0 ∨ (a2 ≠ 0 ∨ (a3 ≠ 0 ∨ (a4 ≠ false ∨ (a5 ≠ 0 ∨ (a6 ≠ false ∨ (a7 ≠ false ∨ (a8 ≠ 0 ∨ (a9 ≠ 0 ∨ (a10 ≠ 0 ∨ (a11 ≠ 0 ∨ (a12 ≠ false ∨ (a13 ≠ a13 ∨ (a14 ≠ 0 ∨ (a15 ≠ 0 ∨ a16 ≠ 0)))))))))))))))) →
((3 : Int) = r0_) ∧
 True)) ∧
((a0 = a0 ∧ (a1 = 0 ∧ (a2 = 0 ∧ (a3 = 0 ∧ (a4 = false ∧ (a5 = 0 ∧ (a6 = false ∧ (a7 = false ∧ (a8 = 0 ∧ (a9 = 0 ∧ (a10 = 0 ∧ (a11 = 0 ∧ (a12 = false ∧ (a13 = a13 ∧ (a14 = 0 ∧ (a15 = 0 ∧ a16 = 0)))))))))))))))) →
((a0 = 8 →
((0 ≤ a13 →
((2 < a13 →
((2 : Int) = r0_) ∧
 True)) ∧
(a13 ≤ 2 →
((a0 = 10 →
((2 ≤ a13 →
((4 < a13 →
((2 : Int) = r0_) ∧
 True)) ∧
(a13 ≤ 4 →
((a6 = true →
((a7 = true →
((3 : Int) = r0_) ∧
 True)) ∧
(a7 = false →
((0 : Int) = r0_) ∧
 True))) ∧
(a6 = false →
((0 : Int) = r0_) ∧
 True)))) ∧
(a13 < 2 →
((2 : Int) = r0_) ∧
 True))) ∧
(a0 ≠ 10 →
((a6 = true →
((a7 = true →
((3 : Int) = r0_) ∧
 True)) ∧
(a7 = false →
((0 : Int) = r0_) ∧
 True))) ∧
(a6 = false →
((0 : Int) = r0_) ∧
 True))))) ∧
(a13 < 0 →
((2 : Int) = r0_) ∧
 True))) ∧
(a0 ≠ 8 →
((a0 = 10 →
((2 ≤ a13 →
((4 < a13 →
((2 : Int) = r0_) ∧
 True)) ∧
(a13 ≤ 4 →
((a6 = true →
((a7 = true →
((3 : Int) = r0_) ∧
 True)) ∧
(a7 = false →
((0 : Int) = r0_) ∧
 True))) ∧
(a6 = false →
((0 : Int) = r0_) ∧
 True)))) ∧
(a13 < 2 →
((2 : Int) = r0_) ∧
 True))) ∧
(a0 ≠ 10 →
((a6 = true →
((a7 = true →
((3 : Int) = r0_) ∧
 True)) ∧
(a7 = false →
((0 : Int) = r0_) ∧
 True))) ∧
(a6 = false →
((0 : Int) = r0_) ∧
 True)))))) ∧
(((a0 : Int) = 11 →
(((a0 ≠ a0 ∨ (a1 ≠ 0 ∨ (a2 ≠ 0 ∨ (a3 ≠ 0 ∨ (a4 ≠ false ∨ (a5 ≠ 0 ∨ (a6 ≠ false ∨ (a7 ≠ false ∨ (a8 ≠ 0 ∨ (a9 ≠ 0 ∨ (a10 ≠ 0 ∨ (a11 ≠ 0 ∨ (a12 ≠ false ∨ (a13 ≠ 0 ∨ (a14 ≠ 0 ∨ (a15 ≠ 0 ∨ a16 ≠ 0)))))))))))))))) →
((3 : Int) = r0_) ∧
 True)) ∧
((a0 = a0 ∧ (a1 = 0 ∧ (a2 = 0 ∧ (a3 = 0 ∧ (a4 = false ∧ (a5 = 0 ∧ (a6 = false ∧ (a7 = false ∧ (a8 = 0 ∧ (a9 = 0 ∧ (a10 = 0 ∧ (a11 = 0 ∧ (a12 = false ∧ (a13 = 0 ∧ (a14 = 0 ∧ (a15 = 0 ∧ a16 = 0)))))))))))))))) →
((a0 = 8 →
((0 ≤ a13 →
((2 < a13 →
((2 : Int) = r0_) ∧
 True)) ∧
(a13 ≤ 2 →
((a0 = 10 →
((2 ≤ a13 →
((4 < a13 →
((2 : Int) = r0_) ∧
 True)) ∧
(a13 ≤ 4 →
((a6 = true →
((a7 = true →
((3 : Int) = r0_) ∧
 True)) ∧
(a7 = false →
((0 : Int) = r0_) ∧
 True))) ∧
(a6 = false →
((0 : Int) = r0_) ∧
 True)))) ∧
(a13 < 2 →
((2 : Int) = r0_) ∧
 True))) ∧
(a0 ≠ 10 →
((a6 = true →
((a7 = true →
((3 : Int) = r0_) ∧
 True)) ∧
(a7 = false →
((0 : Int) = r0_) ∧
 True))) ∧
(a6 = false →
((0 : Int) = r0_) ∧
 True))))) ∧
(a13 < 0 →
((2 : Int) = r0_) ∧
 True))) ∧
(a0 ≠ 8 →
((a0 = 10 →
((2 ≤ a13 →
((4 < a13 →
((2 : Int) = r0_) ∧
 True)) ∧
(a13 ≤ 4 →
((a6 = true →
((a7 = true →
((3 : Int) = r0_) ∧
 True)) ∧
(a7 = false →
((0 : Int) = r0_) ∧
 True))) ∧
(a6 = false →
((0 : Int) = r0_) ∧
 True)))) ∧
(a13 < 2 →
((2 : Int) = r0_) ∧
 True))) ∧
(a0 ≠ 10 →
((a6 = true →
((a7 = true →
((3 : Int) = r0_) ∧
 True)) ∧
(a7 = false →
((0 : Int) = r0_) ∧
 True))) ∧
(a6 = false →
((0 : Int) = r0_) ∧
 True)))))) ∧
(((a0 : Int) = 12 →
(((a0 ≠ a0 ∨ (a1 ≠ 0 ∨ (a2 ≠ 0 ∨ (a3 ≠ 0 ∨ (a4 ≠ false ∨ (a5 ≠ 0 ∨ (a6 ≠ false ∨ (a7 ≠ false ∨ (a8 ≠ 0 ∨ (a9 ≠ 0 ∨ (a10 ≠ 0 ∨ (a11 ≠ 0 ∨ (a12 ≠ false ∨ (a13 ≠ 0 ∨ (a14 ≠ 0 ∨ (a15 ≠ 0 ∨ a16 ≠ 0)))))))))))))))) →
((3 : Int) = r0_) ∧
 True)) ∧
((a0 = a0 ∧ (a1 = 0 ∧ (a2 = 0 ∧ (a3 = 0 ∧ (a4 = false ∧ (a5 = 0 ∧ (a6 = false ∧ (a7 = false ∧ (a8 = 0 ∧ (a9 = 0 ∧ (a10 = 0 ∧ (a11 = 0 ∧ (a12 = false ∧ (a13 = 0 ∧ (a14 = 0 ∧ (a15 = 0 ∧ a16 = 0)))))))))))))))) →
((a0 = 8 →
((0 ≤ a13 →
((2 < a13 →
((2 : Int) = r0_) ∧
 True)) ∧
(a13 ≤ 2 →
((a0 = 10 →
((2 ≤ a13 →
((4 < a13 →
((2 : Int) = r0_) ∧
 True)) ∧
(a13 ≤ 4 →
((a6 = true →
((a7 = true →
((3 : Int) = r0_) ∧
 True)) ∧
(a7 = false →
((0 : Int) = r0_) ∧
 True))) ∧
(a6 = false →
((0 : Int) = r0_) ∧
 True)))) ∧
(a13 < 2 →
((2 : Int) = r0_) ∧
 True))) ∧
(a0 ≠ 10 →
((a6 = true →
((a7 = true →
((3 : Int) = r0_) ∧
 True)) ∧
(a7 = false →
((0 : Int) = r0_) ∧
 True))) ∧
(a6 = false →
((0 : Int) = r0_) ∧
 True))))) ∧
(a13 < 0 →
((2 : Int) = r0_) ∧
 True))) ∧
(a0 ≠ 8 →
((a0 = 10 →
((2 ≤ a13 →
((4 < a13 →
((2 : Int) = r0_) ∧
 True)) ∧
(a13 ≤ 4 →
((a6 = true →
((a7 = true →
((3 : Int) = r0_) ∧
 True)) ∧
(a7 = false →
((0 : Int) = r0_) ∧
 True))) ∧
(a6 = false →
((0 : Int) = r0_) ∧
 True)))) ∧
(a13 < 2 →
((2 : Int) = r0_) ∧
 True))) ∧
(a0 ≠ 10 →
((a6 = true →
((a7 = true →
((3 : Int) = r0_) ∧
 True)) ∧
(a7 = false →
((0 : Int) = r0_) ∧
 True))) ∧
(a6 = false →
((0 : Int) = r0_) ∧
 True)))))) ∧
 True))) (qqe (Sign.mk a0 a1 a2 a3 a4 a5 a6 a7 a8 a9 a10 a11 a12 a13 a14 a15 a16))
theorem q8w (a0 : Int) (a1 : Int) (a2 : Int) (a3 : Int) (a4 : Bool) (a5 : Int) (a6 : Bool) (a7 : Bool) (a8 : Int) (a9 : Int) (a10 : Int) (a11 : Int) (a12 : Bool) (a13 : Int) (a14 : Int) (a15 : Int) (a16 : Int) : qb3 (qu XK (qax q5g) (fun _ _ => False) (fun _ _ => 0)) { cfg sp with ann := qbu [] } 6 60 [.agg [.int .i64 none (a0), .int .i64 none (a1), .int .i64 none (a2), .int .i64 none (a3), .sb 0 false (a4) (a4 = true) (a4 = false), .int .i64 none (a5), .sb 0 false (a6) (a6 = true) (a6 = false), .sb 0 false (a7) (a7 = true) (a7 = false), .int .i64 none (a8), .int .i64 none (a9), .int .i64 none (a10), .int .i64 none (a11), .sb 0 false (a12) (a12 = true) (a12 = false), .int .i64 none (a13), .int .i64 none (a14), .int .i64 none (a15), .int .i64 none (a16)]] (qw1 a0 a1 a2 a3 a4 a5 a6 a7 a8 a9 a10 a11 a12 a13 a14 a15 a16) = qvh a0 a1 a2 a3 a4 a5 a6 a7 a8 a9 a10 a11 a12 a13 a14 a15 a16 := by kernel_rfl
def qwu : List (Nat × Ct KT) := [(49, q9e), (60, zcc)]
abbrev qo5 (a0 : List UInt8) (a1 : List Sign) : PV KT := .tuple [.int .i64 none (((zl a0 a1).1)), .int .i64 none (((zl a0 a1).2))]
abbrev qlo (a0 : List UInt8) (a1 : List Sign) : Prop :=
((ln a0 ≤ 9223372036854775806)) ∧
(((ju a0) = false →
((7 : Int) = ((zl a0 a1).1)) ∧
((0 : Int) = ((zl a0 a1).2)) ∧
 True)) ∧
((ju a0) = true →
((400 < (ln a1) →
((11 : Int) = ((zl a0 a1).1)) ∧
((0 : Int) = ((zl a0 a1).2)) ∧
 True)) ∧
((ln a1) ≤ 400 →
(qbc a0 a1 false 0) ∧
(∀ x2 : Bool,
(∀ x3 : Int,
(qbc a0 a1 x2 x3 →
((x3 < (ln a1) →
(Wn x3 (ln a1)) ∧
(True) ∧
(((qqe (ix a1 x3)) ≠ 0 →
(((qqe (ix a1 x3)) : Int) = ((zl a0 a1).1)) ∧
((x3 : Int) = ((zl a0 a1).2)) ∧
 True)) ∧
((qqe (ix a1 x3)) = 0 →
(((ix a1 x3).Kind ≠ 4 →
(I64 (x3 + 1)) ∧
(a0 = a0) ∧
(a1 = a1) ∧
(qbc a0 a1 x2 (x3 + 1)) ∧
 qac a0 a1 x2 (x3 + 1) < qac a0 a1 x2 x3)) ∧
((ix a1 x3).Kind = 4 →
(((ix a1 x3).Last = true →
((x2 = false →
((3 : Int) = ((zl a0 a1).1)) ∧
((x3 : Int) = ((zl a0 a1).2)) ∧
 True)) ∧
(x2 = true →
(I64 (x3 + 1)) ∧
(a0 = a0) ∧
(a1 = a1) ∧
(qbc a0 a1 false (x3 + 1)) ∧
 qac a0 a1 false (x3 + 1) < qac a0 a1 x2 x3))) ∧
((ix a1 x3).Last = false →
(I64 (x3 + 1)) ∧
(((x3 + 1) = (ln a1) →
((3 : Int) = ((zl a0 a1).1)) ∧
((x3 : Int) = ((zl a0 a1).2)) ∧
 True)) ∧
((x3 + 1) ≠ (ln a1) →
(I64 (x3 + 1)) ∧
(Wn (x3 + 1) (ln a1)) ∧
(((ix a1 (x3 + 1)).Kind ≠ 4 →
((3 : Int) = ((zl a0 a1).1)) ∧
((x3 : Int) = ((zl a0 a1).2)) ∧
 True)) ∧
((ix a1 (x3 + 1)).Kind = 4 →
(I64 (x3 + 1)) ∧
(a0 = a0) ∧
(a1 = a1) ∧
(qbc a0 a1 true (x3 + 1)) ∧
 qac a0 a1 true (x3 + 1) < qac a0 a1 x2 x3))))))) ∧
((ln a1) ≤ x3 →
((0 : Int) = ((zl a0 a1).1)) ∧
((0 : Int) = ((zl a0 a1).2)) ∧
 True))))))
theorem qzl (a0 : List UInt8) (a1 : List Sign) : qb3 (qu XK (qax qwu) (fun j ns => match j, ns with | 0, [.b y0, .i y1] => qbc a0 a1 y0 y1 | _, _ => False) (fun j ns => match j, ns with | 0, [.b y0, .i y1] => qac a0 a1 y0 y1 | _, _ => 0)) { cfg sp with ann := qbu [(34, 890, .inv 0 [.one 4 (.bool), .one 19 (.int .i64)] [])] } 3 34 [.agg [.str (a0), .list 4 (a1) none]] (qo5 a0 a1) = qlo a0 a1 := by kernel_rfl
def q2x : List (Nat × Ct KT) := []
abbrev qtu (a0 : List Sign) : PV KT := .list 4 ((a0)) (some (0, 0))
abbrev qwv (a0 : List Sign) : Prop :=
(∀ x0 : Bool,
((x0 = true →
 a0 = ([] : List Sign)) →
((x0 = true →
(([] : List Sign) = (a0)) ∧
 True)) ∧
(x0 = false →
(ka (List.length ([] : List Sign) + List.length a0)) ∧
((([] : List Sign) ++ a0) = (a0)) ∧
 True)))
theorem q44 (a0 : List Sign) : qb3 (qu XK (qax q2x) (fun _ _ => False) (fun _ _ => 0)) { cfg sp with ann := qbu [] } 3 42 [.list 4 (a0) none] (qtu a0) = qwv a0 := by kernel_rfl
def q6r : List (Nat × Ct KT) := [(42, q9d)]
abbrev qyf (a0 : List Sign) (a1 : List Sign) : PV KT := .list 4 (((a0 ++ a1))) (some (0, 0))
abbrev q14 (a0 : List Sign) (a1 : List Sign) : Prop :=
((ln a0 ≤ 10000000)) ∧
(ka (List.length (a0) + List.length a1)) ∧
(((a0) ++ a1) = ((a0 ++ a1))) ∧
 True
theorem q94 (a0 : List Sign) (a1 : List Sign) : qb3 (qu XK (qax q6r) (fun _ _ => False) (fun _ _ => 0)) { cfg sp with ann := qbu [] } 3 38 [.agg [.list 4 (a0) none, .list 4 (a1) none]] (qyf a0 a1) = q14 a0 a1 := by kernel_rfl
def q24 : List (Nat × Ct KT) := []
abbrev qt1 (a0 : List Sign) (a1 : List Sign) (a2 : Int) (a3 : Int) (a4 : Int) (a5 : Int) (a6 : Bool) (a7 : Int) (a8 : Bool) (a9 : Bool) (a10 : Int) (a11 : Int) (a12 : Int) (a13 : Int) (a14 : Bool) (a15 : Int) (a16 : Int) (a17 : Int) (a18 : Int) : PV KT := .agg [.list 4 (((kh a0 a1 (Sign.mk a2 a3 a4 a5 a6 a7 a8 a9 a10 a11 a12 a13 a14 a15 a16 a17 a18)).1)) none, .list 4 (((kh a0 a1 (Sign.mk a2 a3 a4 a5 a6 a7 a8 a9 a10 a11 a12 a13 a14 a15 a16 a17 a18)).2)) none]
abbrev qqx (a0 : List Sign) (a1 : List Sign) (a2 : Int) (a3 : Int) (a4 : Int) (a5 : Int) (a6 : Bool) (a7 : Int) (a8 : Bool) (a9 : Bool) (a10 : Int) (a11 : Int) (a12 : Int) (a13 : Int) (a14 : Bool) (a15 : Int) (a16 : Int) (a17 : Int) (a18 : Int) : Prop :=
((a2 = 7 →
(True) ∧
([(Sign.mk a2 a3 a4 a5 a6 a7 a8 a9 a10 a11 a12 a13 a14 a15 a16 a17 a18)] = ((kh a0 a1 (Sign.mk a2 a3 a4 a5 a6 a7 a8 a9 a10 a11 a12 a13 a14 a15 a16 a17 a18)).1)) ∧
(a1 = ((kh a0 a1 (Sign.mk a2 a3 a4 a5 a6 a7 a8 a9 a10 a11 a12 a13 a14 a15 a16 a17 a18)).2)) ∧
 True)) ∧
(a2 ≠ 7 →
((a2 = 8 →
(True) ∧
(a0 = ((kh a0 a1 (Sign.mk a2 a3 a4 a5 a6 a7 a8 a9 a10 a11 a12 a13 a14 a15 a16 a17 a18)).1)) ∧
([(Sign.mk a2 a3 a4 a5 a6 a7 a8 a9 a10 a11 a12 a13 a14 a15 a16 a17 a18)] = ((kh a0 a1 (Sign.mk a2 a3 a4 a5 a6 a7 a8 a9 a10 a11 a12 a13 a14 a15 a16 a17 a18)).2)) ∧
 True)) ∧
(a2 ≠ 8 →
(a0 = ((kh a0 a1 (Sign.mk a2 a3 a4 a5 a6 a7 a8 a9 a10 a11 a12 a13 a14 a15 a16 a17 a18)).1)) ∧
(a1 = ((kh a0 a1 (Sign.mk a2 a3 a4 a5 a6 a7 a8 a9 a10 a11 a12 a13 a14 a15 a16 a17 a18)).2)) ∧
 True))
theorem q5p (a0 : List Sign) (a1 : List Sign) (a2 : Int) (a3 : Int) (a4 : Int) (a5 : Int) (a6 : Bool) (a7 : Int) (a8 : Bool) (a9 : Bool) (a10 : Int) (a11 : Int) (a12 : Int) (a13 : Int) (a14 : Bool) (a15 : Int) (a16 : Int) (a17 : Int) (a18 : Int) : qb3 (qu XK (qax q24) (fun _ _ => False) (fun _ _ => 0)) { cfg sp with ann := qbu [] } 3 40 [.agg [.list 4 (a0) none, .list 4 (a1) none], .agg [.int .i64 none (a2), .int .i64 none (a3), .int .i64 none (a4), .int .i64 none (a5), .sb 0 false (a6) (a6 = true) (a6 = false), .int .i64 none (a7), .sb 0 false (a8) (a8 = true) (a8 = false), .sb 0 false (a9) (a9 = true) (a9 = false), .int .i64 none (a10), .int .i64 none (a11), .int .i64 none (a12), .int .i64 none (a13), .sb 0 false (a14) (a14 = true) (a14 = false), .int .i64 none (a15), .int .i64 none (a16), .int .i64 none (a17), .int .i64 none (a18)]] (qt1 a0 a1 a2 a3 a4 a5 a6 a7 a8 a9 a10 a11 a12 a13 a14 a15 a16 a17 a18) = qqx a0 a1 a2 a3 a4 a5 a6 a7 a8 a9 a10 a11 a12 a13 a14 a15 a16 a17 a18 := by kernel_rfl
def qzw : List (Nat × Ct KT) := []
abbrev qq8 (a0 : List Sign) : PV KT := .tuple [.sb 0 false (((zo a0).1)) (((zo a0).1) = true) (((zo a0).1) = false), .int .i64 none (((zo a0).2))]
abbrev qt3 (a0 : List Sign) : Prop :=
(qga a0 0) ∧
(∀ x0 : Int,
(qga a0 x0 →
((x0 < (ln a0) →
(Wn x0 (ln a0)) ∧
(((ix a0 x0).Kind = 1 →
(true = ((zo a0).1)) ∧
(((ix a0 x0).Place : Int) = ((zo a0).2)) ∧
 True)) ∧
((ix a0 x0).Kind ≠ 1 →
(((ix a0 x0).Kind = 4 →
(true = ((zo a0).1)) ∧
(((ix a0 x0).Place : Int) = ((zo a0).2)) ∧
 True)) ∧
((ix a0 x0).Kind ≠ 4 →
(I64 (x0 + 1)) ∧
(qga a0 (x0 + 1)) ∧
 qff a0 (x0 + 1) < qff a0 x0)))) ∧
((ln a0) ≤ x0 →
(false = ((zo a0).1)) ∧
((0 : Int) = ((zo a0).2)) ∧
 True)))
theorem q3c (a0 : List Sign) : qb3 (qu XK (qax qzw) (fun j ns => match j, ns with | 0, [.i y0] => qga a0 y0 | _, _ => False) (fun j ns => match j, ns with | 0, [.i y0] => qff a0 y0 | _, _ => 0)) { cfg sp with ann := qbu [(41, 26, .inv 0 [.one 8 (.int .i64)] [])] } 3 41 [.list 4 (a0) none] (qq8 a0) = qt3 a0 := by kernel_rfl
def q56 : List (Nat × Ct KT) := []
abbrev qx0 (a0 : List Sign) (a1 : Int) (a2 : Bool) : PV KT := .int .i64 none ((qj a0 a1 a2))
abbrev qaz (v0 : List Sign) (v1 : Int) (p : Prop) : Prop :=
(v0 = v0) ∧
((v1 : Int) = v1) ∧
(v0 = v0) ∧
 p
abbrev qvu (a0 : List Sign) (a1 : Int) (a2 : Bool) : Prop :=
(zr a0 a1 a2 0 0 0) ∧
(∀ x0 : Int,
(∀ x1 : Int,
(∀ x2 : Int,
(zr a0 a1 a2 x0 x1 x2 →
((x0 < (ln a0) →
(I64 (x0 + 1)) ∧
(qg7 a0 a1 a2 (x0 + 1) x0) ∧
(∀ x5 : Int,
(qg7 a0 a1 a2 x5 x0 →
(I64 (x5 - 1)) ∧
(Wn (x5 - 1) (ln a0)) ∧
(((ix a0 (x5 - 1)).Kind = 4 →
(I64 (x5 - 1)) ∧
(Wn (x5 - 1) (ln a0)) ∧
(((ix a0 (x5 - 1)).Last = false →
((x5 < (ln a0) →
(I64 (x5 + 1)) ∧
(a0 = a0) ∧
((x2 : Int) = x2) ∧
((x1 : Int) = x1) ∧
((a1 : Int) = a1) ∧
(a0 = a0) ∧
(qg7 a0 a1 a2 (x5 + 1) x0) ∧
 qhw a0 a1 a2 (x5 + 1) x0 < qhw a0 a1 a2 x5 x0)) ∧
((ln a0) ≤ x5 →
((x5 < (ln a0) →
(Wn x5 (ln a0)) ∧
(((ix a0 x5).Kind = 3 →
(I64 (x5 + 1)) ∧
((a1 < (x5 + 1) →
((a2 = true →
((x1 < (ln a0) →
((0 < x2 →
((x2 : Int) = (qj a0 a1 a2)) ∧
 True)) ∧
(x2 ≤ 0 →
((x1 : Int) = (qj a0 a1 a2)) ∧
 True))) ∧
((ln a0) ≤ x1 →
((x1 : Int) = (qj a0 a1 a2)) ∧
 True))) ∧
(a2 = false →
((x1 : Int) = (qj a0 a1 a2)) ∧
 True))) ∧
((x5 + 1) ≤ a1 →
(Wn x0 (ln a0)) ∧
(((ix a0 x0).Kind = 2 →
(qaz a0 a1 (
(zr a0 a1 a2 (x5 + 1) (x5 + 1) (x5 + 1)) ∧
 qq a0 a1 a2 (x5 + 1) (x5 + 1) (x5 + 1) < qq a0 a1 a2 x0 x1 x2)))) ∧
((ix a0 x0).Kind ≠ 2 →
(qaz a0 a1 (
(zr a0 a1 a2 (x5 + 1) (x5 + 1) x2) ∧
 qq a0 a1 a2 (x5 + 1) (x5 + 1) x2 < qq a0 a1 a2 x0 x1 x2)))))) ∧
((ix a0 x5).Kind ≠ 3 →
((a1 < x5 →
((a2 = true →
((x1 < (ln a0) →
((0 < x2 →
((x2 : Int) = (qj a0 a1 a2)) ∧
 True)) ∧
(x2 ≤ 0 →
((x1 : Int) = (qj a0 a1 a2)) ∧
 True))) ∧
((ln a0) ≤ x1 →
((x1 : Int) = (qj a0 a1 a2)) ∧
 True))) ∧
(a2 = false →
((x1 : Int) = (qj a0 a1 a2)) ∧
 True))) ∧
(x5 ≤ a1 →
(Wn x0 (ln a0)) ∧
(((ix a0 x0).Kind = 2 →
(qaz a0 a1 (
(zr a0 a1 a2 x5 x5 x5) ∧
 qq a0 a1 a2 x5 x5 x5 < qq a0 a1 a2 x0 x1 x2)))) ∧
((ix a0 x0).Kind ≠ 2 →
(qaz a0 a1 (
(zr a0 a1 a2 x5 x5 x2) ∧
 qq a0 a1 a2 x5 x5 x2 < qq a0 a1 a2 x0 x1 x2))))))) ∧
((ln a0) ≤ x5 →
((a1 < x5 →
((a2 = true →
((x1 < (ln a0) →
((0 < x2 →
((x2 : Int) = (qj a0 a1 a2)) ∧
 True)) ∧
(x2 ≤ 0 →
((x1 : Int) = (qj a0 a1 a2)) ∧
 True))) ∧
((ln a0) ≤ x1 →
((x1 : Int) = (qj a0 a1 a2)) ∧
 True))) ∧
(a2 = false →
((x1 : Int) = (qj a0 a1 a2)) ∧
 True))) ∧
(x5 ≤ a1 →
(Wn x0 (ln a0)) ∧
(((ix a0 x0).Kind = 2 →
(qaz a0 a1 (
(zr a0 a1 a2 x5 x5 x5) ∧
 qq a0 a1 a2 x5 x5 x5 < qq a0 a1 a2 x0 x1 x2)))) ∧
((ix a0 x0).Kind ≠ 2 →
(qaz a0 a1 (
(zr a0 a1 a2 x5 x5 x2) ∧
 qq a0 a1 a2 x5 x5 x2 < qq a0 a1 a2 x0 x1 x2)))))))) ∧
((ix a0 (x5 - 1)).Last = true →
((x5 < (ln a0) →
(Wn x5 (ln a0)) ∧
(((ix a0 x5).Kind = 3 →
(I64 (x5 + 1)) ∧
((a1 < (x5 + 1) →
((a2 = true →
((x1 < (ln a0) →
((0 < x2 →
((x2 : Int) = (qj a0 a1 a2)) ∧
 True)) ∧
(x2 ≤ 0 →
((x1 : Int) = (qj a0 a1 a2)) ∧
 True))) ∧
((ln a0) ≤ x1 →
((x1 : Int) = (qj a0 a1 a2)) ∧
 True))) ∧
(a2 = false →
((x1 : Int) = (qj a0 a1 a2)) ∧
 True))) ∧
((x5 + 1) ≤ a1 →
(Wn x0 (ln a0)) ∧
(((ix a0 x0).Kind = 2 →
(qaz a0 a1 (
(zr a0 a1 a2 (x5 + 1) (x5 + 1) (x5 + 1)) ∧
 qq a0 a1 a2 (x5 + 1) (x5 + 1) (x5 + 1) < qq a0 a1 a2 x0 x1 x2)))) ∧
((ix a0 x0).Kind ≠ 2 →
(qaz a0 a1 (
(zr a0 a1 a2 (x5 + 1) (x5 + 1) x2) ∧
 qq a0 a1 a2 (x5 + 1) (x5 + 1) x2 < qq a0 a1 a2 x0 x1 x2)))))) ∧
((ix a0 x5).Kind ≠ 3 →
((a1 < x5 →
((a2 = true →
((x1 < (ln a0) →
((0 < x2 →
((x2 : Int) = (qj a0 a1 a2)) ∧
 True)) ∧
(x2 ≤ 0 →
((x1 : Int) = (qj a0 a1 a2)) ∧
 True))) ∧
((ln a0) ≤ x1 →
((x1 : Int) = (qj a0 a1 a2)) ∧
 True))) ∧
(a2 = false →
((x1 : Int) = (qj a0 a1 a2)) ∧
 True))) ∧
(x5 ≤ a1 →
(Wn x0 (ln a0)) ∧
(((ix a0 x0).Kind = 2 →
(qaz a0 a1 (
(zr a0 a1 a2 x5 x5 x5) ∧
 qq a0 a1 a2 x5 x5 x5 < qq a0 a1 a2 x0 x1 x2)))) ∧
((ix a0 x0).Kind ≠ 2 →
(qaz a0 a1 (
(zr a0 a1 a2 x5 x5 x2) ∧
 qq a0 a1 a2 x5 x5 x2 < qq a0 a1 a2 x0 x1 x2))))))) ∧
((ln a0) ≤ x5 →
((a1 < x5 →
((a2 = true →
((x1 < (ln a0) →
((0 < x2 →
((x2 : Int) = (qj a0 a1 a2)) ∧
 True)) ∧
(x2 ≤ 0 →
((x1 : Int) = (qj a0 a1 a2)) ∧
 True))) ∧
((ln a0) ≤ x1 →
((x1 : Int) = (qj a0 a1 a2)) ∧
 True))) ∧
(a2 = false →
((x1 : Int) = (qj a0 a1 a2)) ∧
 True))) ∧
(x5 ≤ a1 →
(Wn x0 (ln a0)) ∧
(((ix a0 x0).Kind = 2 →
(qaz a0 a1 (
(zr a0 a1 a2 x5 x5 x5) ∧
 qq a0 a1 a2 x5 x5 x5 < qq a0 a1 a2 x0 x1 x2)))) ∧
((ix a0 x0).Kind ≠ 2 →
(qaz a0 a1 (
(zr a0 a1 a2 x5 x5 x2) ∧
 qq a0 a1 a2 x5 x5 x2 < qq a0 a1 a2 x0 x1 x2)))))))) ∧
((ix a0 (x5 - 1)).Kind ≠ 4 →
((x5 < (ln a0) →
(Wn x5 (ln a0)) ∧
(((ix a0 x5).Kind = 3 →
(I64 (x5 + 1)) ∧
((a1 < (x5 + 1) →
((a2 = true →
((x1 < (ln a0) →
((0 < x2 →
((x2 : Int) = (qj a0 a1 a2)) ∧
 True)) ∧
(x2 ≤ 0 →
((x1 : Int) = (qj a0 a1 a2)) ∧
 True))) ∧
((ln a0) ≤ x1 →
((x1 : Int) = (qj a0 a1 a2)) ∧
 True))) ∧
(a2 = false →
((x1 : Int) = (qj a0 a1 a2)) ∧
 True))) ∧
((x5 + 1) ≤ a1 →
(Wn x0 (ln a0)) ∧
(((ix a0 x0).Kind = 2 →
(qaz a0 a1 (
(zr a0 a1 a2 (x5 + 1) (x5 + 1) (x5 + 1)) ∧
 qq a0 a1 a2 (x5 + 1) (x5 + 1) (x5 + 1) < qq a0 a1 a2 x0 x1 x2)))) ∧
((ix a0 x0).Kind ≠ 2 →
(qaz a0 a1 (
(zr a0 a1 a2 (x5 + 1) (x5 + 1) x2) ∧
 qq a0 a1 a2 (x5 + 1) (x5 + 1) x2 < qq a0 a1 a2 x0 x1 x2)))))) ∧
((ix a0 x5).Kind ≠ 3 →
((a1 < x5 →
((a2 = true →
((x1 < (ln a0) →
((0 < x2 →
((x2 : Int) = (qj a0 a1 a2)) ∧
 True)) ∧
(x2 ≤ 0 →
((x1 : Int) = (qj a0 a1 a2)) ∧
 True))) ∧
((ln a0) ≤ x1 →
((x1 : Int) = (qj a0 a1 a2)) ∧
 True))) ∧
(a2 = false →
((x1 : Int) = (qj a0 a1 a2)) ∧
 True))) ∧
(x5 ≤ a1 →
(Wn x0 (ln a0)) ∧
(((ix a0 x0).Kind = 2 →
(qaz a0 a1 (
(zr a0 a1 a2 x5 x5 x5) ∧
 qq a0 a1 a2 x5 x5 x5 < qq a0 a1 a2 x0 x1 x2)))) ∧
((ix a0 x0).Kind ≠ 2 →
(qaz a0 a1 (
(zr a0 a1 a2 x5 x5 x2) ∧
 qq a0 a1 a2 x5 x5 x2 < qq a0 a1 a2 x0 x1 x2))))))) ∧
((ln a0) ≤ x5 →
((a1 < x5 →
((a2 = true →
((x1 < (ln a0) →
((0 < x2 →
((x2 : Int) = (qj a0 a1 a2)) ∧
 True)) ∧
(x2 ≤ 0 →
((x1 : Int) = (qj a0 a1 a2)) ∧
 True))) ∧
((ln a0) ≤ x1 →
((x1 : Int) = (qj a0 a1 a2)) ∧
 True))) ∧
(a2 = false →
((x1 : Int) = (qj a0 a1 a2)) ∧
 True))) ∧
(x5 ≤ a1 →
(Wn x0 (ln a0)) ∧
(((ix a0 x0).Kind = 2 →
(qaz a0 a1 (
(zr a0 a1 a2 x5 x5 x5) ∧
 qq a0 a1 a2 x5 x5 x5 < qq a0 a1 a2 x0 x1 x2)))) ∧
((ix a0 x0).Kind ≠ 2 →
(qaz a0 a1 (
(zr a0 a1 a2 x5 x5 x2) ∧
 qq a0 a1 a2 x5 x5 x2 < qq a0 a1 a2 x0 x1 x2)))))))))) ∧
((ln a0) ≤ x0 →
((a2 = true →
((x1 < (ln a0) →
((0 < x2 →
((x2 : Int) = (qj a0 a1 a2)) ∧
 True)) ∧
(x2 ≤ 0 →
((x1 : Int) = (qj a0 a1 a2)) ∧
 True))) ∧
((ln a0) ≤ x1 →
((x1 : Int) = (qj a0 a1 a2)) ∧
 True))) ∧
(a2 = false →
((x1 : Int) = (qj a0 a1 a2)) ∧
 True))))))
theorem q9u (a0 : List Sign) (a1 : Int) (a2 : Bool) : qb3 (qu XK (qax q56) (fun j ns => match j, ns with | 0, [.i y0, .i y1, .i y2] => zr a0 a1 a2 y0 y1 y2 | 1, [.i y0, .i y1] => qg7 a0 a1 a2 y0 y1 | _, _ => False) (fun j ns => match j, ns with | 0, [.i y0, .i y1, .i y2] => qq a0 a1 a2 y0 y1 y2 | 1, [.i y0, .i y1] => qhw a0 a1 a2 y0 y1 | _, _ => 0)) { cfg sp with ann := qbu [(82, 6, .inv 0 [.one 3 (.int .i64), .out 0 7 [.int .i64], .out 0 8 [.int .i64]] []), (82, 404, .inv 1 [.one 4 (.int .i64)] [.one 3 (.int .i64)])] } 3 39 [.list 4 (a0) none, .int .i64 none (a1), .sb 0 false (a2) (a2 = true) (a2 = false)] (qx0 a0 a1 a2) = qvu a0 a1 a2 := by kernel_rfl
def q2z : List (Nat × Ct KT) := [(34, q88), (38, q89), (39, zb7), (40, q9b), (41, q9c), (42, q9d)]
abbrev qtw (a0 : List UInt8) (a1 : List Sign) (a2 : Int) (a3 : Int) : PV KT := .tuple [.agg [.str (((mkB a0 a1 a2 a3).1)), .list 8 (((mkB a0 a1 a2 a3).2.1)) none], .int .i64 none (((mkB a0 a1 a2 a3).2.2))]
abbrev qwz (v0 : List UInt8) (v1 : List Page) (v2 : List Sign) (v3 : Int) (v4 : Int) (v5 : List UInt8) (p : Prop) : Prop :=
(v0 = v0) ∧
(v1 = v1) ∧
(((ix v2 v3).Kind : Int) = (ix v2 v3).Kind) ∧
(((ix v2 v3).Value : Int) = (ix v2 v3).Value) ∧
(((ix v2 v3).Place : Int) = (ix v2 v3).Place) ∧
(((ix v2 v3).Acc : Int) = (ix v2 v3).Acc) ∧
((ix v2 v3).Color = (ix v2 v3).Color) ∧
(((ix v2 v3).Stem : Int) = (ix v2 v3).Stem) ∧
((ix v2 v3).Oblique = (ix v2 v3).Oblique) ∧
((ix v2 v3).Last = (ix v2 v3).Last) ∧
(((ix v2 v3).MensMax : Int) = (ix v2 v3).MensMax) ∧
(((ix v2 v3).MensMod : Int) = (ix v2 v3).MensMod) ∧
(((ix v2 v3).MensTem : Int) = (ix v2 v3).MensTem) ∧
(((ix v2 v3).MensPro : Int) = (ix v2 v3).MensPro) ∧
((ix v2 v3).Stroke = (ix v2 v3).Stroke) ∧
(((ix v2 v3).N : Int) = (ix v2 v3).N) ∧
(((ix v2 v3).D : Int) = (ix v2 v3).D) ∧
(((ix v2 v3).ClefStep : Int) = (ix v2 v3).ClefStep) ∧
(((ix v2 v3).ClefLine : Int) = (ix v2 v3).ClefLine) ∧
(([] : List UInt8) = ([] : List UInt8)) ∧
((v4 : Int) = v4) ∧
(v5 = v5) ∧
(v2 = v2) ∧
 p
abbrev qw0 (v0 : List Sign) (v1 : Int) (v2 : Int) (v3 : List UInt8) (p : Prop) : Prop :=
(((ix v0 v1).Kind : Int) = (ix v0 v1).Kind) ∧
(((ix v0 v1).Value : Int) = (ix v0 v1).Value) ∧
(((ix v0 v1).Place : Int) = (ix v0 v1).Place) ∧
(((ix v0 v1).Acc : Int) = (ix v0 v1).Acc) ∧
((ix v0 v1).Color = (ix v0 v1).Color) ∧
(((ix v0 v1).Stem : Int) = (ix v0 v1).Stem) ∧
((ix v0 v1).Oblique = (ix v0 v1).Oblique) ∧
((ix v0 v1).Last = (ix v0 v1).Last) ∧
(((ix v0 v1).MensMax : Int) = (ix v0 v1).MensMax) ∧
(((ix v0 v1).MensMod : Int) = (ix v0 v1).MensMod) ∧
(((ix v0 v1).MensTem : Int) = (ix v0 v1).MensTem) ∧
(((ix v0 v1).MensPro : Int) = (ix v0 v1).MensPro) ∧
((ix v0 v1).Stroke = (ix v0 v1).Stroke) ∧
(((ix v0 v1).N : Int) = (ix v0 v1).N) ∧
(((ix v0 v1).D : Int) = (ix v0 v1).D) ∧
(((ix v0 v1).ClefStep : Int) = (ix v0 v1).ClefStep) ∧
(((ix v0 v1).ClefLine : Int) = (ix v0 v1).ClefLine) ∧
(([] : List UInt8) = ([] : List UInt8)) ∧
((v2 : Int) = v2) ∧
(v3 = v3) ∧
(v0 = v0) ∧
 p
abbrev qqs (a0 : List UInt8) (a1 : List Sign) (a2 : Int) (a3 : Int) : Prop :=
((ln a0 ≤ 1000000000 ∧ ln a1 ≤ 1000000000)) ∧
((((zl a0 a1).1) ≠ 0 →
(([] : List UInt8) = ((mkB a0 a1 a2 a3).1)) ∧
(([] : List Page) = ((mkB a0 a1 a2 a3).2.1)) ∧
((((zl a0 a1).1) : Int) = ((mkB a0 a1 a2 a3).2.2)) ∧
 True)) ∧
(((zl a0 a1).1) = 0 →
(qhq a0 a1 a2 a3 0) ∧
(∀ x1 : Int,
(qhq a0 a1 a2 a3 x1 →
((x1 < (ln a1) →
(Wn x1 (ln a1)) ∧
(((ix a1 x1).Kind = 11 →
((0 ≤ x1 →
(([] : List UInt8) = ((mkB a0 a1 a2 a3).1)) ∧
(([] : List Page) = ((mkB a0 a1 a2 a3).2.1)) ∧
((8 : Int) = ((mkB a0 a1 a2 a3).2.2)) ∧
 True)) ∧
(x1 < 0 →
((a2 < 16 →
(([] : List UInt8) = ((mkB a0 a1 a2 a3).1)) ∧
(([] : List Page) = ((mkB a0 a1 a2 a3).2.1)) ∧
((2 : Int) = ((mkB a0 a1 a2 a3).2.2)) ∧
 True)) ∧
(16 ≤ a2 →
((60 < a2 →
(([] : List UInt8) = ((mkB a0 a1 a2 a3).1)) ∧
(([] : List Page) = ((mkB a0 a1 a2 a3).2.1)) ∧
((2 : Int) = ((mkB a0 a1 a2 a3).2.2)) ∧
 True)) ∧
(a2 ≤ 60 →
((a3 < 1 →
(([] : List UInt8) = ((mkB a0 a1 a2 a3).1)) ∧
(([] : List Page) = ((mkB a0 a1 a2 a3).2.1)) ∧
((2 : Int) = ((mkB a0 a1 a2 a3).2.2)) ∧
 True)) ∧
(1 ≤ a3 →
((12 < a3 →
(([] : List UInt8) = ((mkB a0 a1 a2 a3).1)) ∧
(([] : List Page) = ((mkB a0 a1 a2 a3).2.1)) ∧
((2 : Int) = ((mkB a0 a1 a2 a3).2.2)) ∧
 True)) ∧
(a3 ≤ 12 →
((ln a1 ≤ 10000000)) ∧
(jf a0 a1 a2 a3 (a1) a0 ([] : List Page) ([] : List Sign) ([] : List Sign)) ∧
(∀ x10 : List Sign,
(∀ x11 : List UInt8,
(∀ x12 : List Page,
(∀ x13 : List Sign,
(∀ x14 : List Sign,
(jf a0 a1 a2 a3 x10 x11 x12 x13 x14 →
((0 < (ln x10) →
(zw a0 a1 a2 a3 x10 1 ([] : List Staff) x13 x14 x11 x12) ∧
(∀ x17 : List Sign,
(∀ x18 : Int,
(∀ x19 : List Staff,
(∀ x20 : List Sign,
(∀ x21 : List Sign,
(zw a0 a1 a2 a3 x17 x18 x19 x20 x21 x11 x12 →
((x18 ≤ a3 →
((0 < (ln x17) →
((ln x20 ≤ 1 ∧ ln x21 ≤ 1)) ∧
(I64 (a2 - (ln ((x20 ++ x21))))) ∧
((ln x17 ≤ 500)) ∧
((0 : Int) ≤ (qj x17 (a2 - (ln ((x20 ++ x21)))) (decide (x18 = a3))) ∧ (qj x17 (a2 - (ln ((x20 ++ x21)))) (decide (x18 = a3))) ≤ ln x17) ∧
(js a0 a1 a2 a3 0 x20 x21 x17 (upto x17 (qj x17 (a2 - (ln ((x20 ++ x21)))) (decide (x18 = a3))))) ∧
(∀ x25 : Int,
(∀ x26 : List Sign,
(∀ x27 : List Sign,
(js a0 a1 a2 a3 x25 x26 x27 x17 (upto x17 (qj x17 (a2 - (ln ((x20 ++ x21)))) (decide (x18 = a3)))) →
((x25 < (ln (upto x17 (qj x17 (a2 - (ln ((x20 ++ x21)))) (decide (x18 = a3))))) →
(Wn x25 (ln (upto x17 (qj x17 (a2 - (ln ((x20 ++ x21)))) (decide (x18 = a3)))))) ∧
(True) ∧
(I64 (x25 + 1)) ∧
((0 : Int) = 0) ∧
((0 : Int) = 0) ∧
((0 : Int) = 0) ∧
((0 : Int) = 0) ∧
(x19 = x19) ∧
(x11 = x11) ∧
(x12 = x12) ∧
(((ix a1 x1).Kind : Int) = (ix a1 x1).Kind) ∧
(((ix a1 x1).Value : Int) = (ix a1 x1).Value) ∧
(((ix a1 x1).Place : Int) = (ix a1 x1).Place) ∧
(((ix a1 x1).Acc : Int) = (ix a1 x1).Acc) ∧
((ix a1 x1).Color = (ix a1 x1).Color) ∧
(((ix a1 x1).Stem : Int) = (ix a1 x1).Stem) ∧
((ix a1 x1).Oblique = (ix a1 x1).Oblique) ∧
((ix a1 x1).Last = (ix a1 x1).Last) ∧
(((ix a1 x1).MensMax : Int) = (ix a1 x1).MensMax) ∧
(((ix a1 x1).MensMod : Int) = (ix a1 x1).MensMod) ∧
(((ix a1 x1).MensTem : Int) = (ix a1 x1).MensTem) ∧
(((ix a1 x1).MensPro : Int) = (ix a1 x1).MensPro) ∧
((ix a1 x1).Stroke = (ix a1 x1).Stroke) ∧
(((ix a1 x1).N : Int) = (ix a1 x1).N) ∧
(((ix a1 x1).D : Int) = (ix a1 x1).D) ∧
(((ix a1 x1).ClefStep : Int) = (ix a1 x1).ClefStep) ∧
(((ix a1 x1).ClefLine : Int) = (ix a1 x1).ClefLine) ∧
(([] : List UInt8) = ([] : List UInt8)) ∧
((a2 : Int) = a2) ∧
(a0 = a0) ∧
(a1 = a1) ∧
(js a0 a1 a2 a3 (x25 + 1) ((kh x26 x27 (ix (upto x17 (qj x17 (a2 - (ln ((x20 ++ x21)))) (decide (x18 = a3)))) x25)).1) ((kh x26 x27 (ix (upto x17 (qj x17 (a2 - (ln ((x20 ++ x21)))) (decide (x18 = a3)))) x25)).2) x17 (upto x17 (qj x17 (a2 - (ln ((x20 ++ x21)))) (decide (x18 = a3))))) ∧
 qc6 a0 a1 a2 a3 (x25 + 1) ((kh x26 x27 (ix (upto x17 (qj x17 (a2 - (ln ((x20 ++ x21)))) (decide (x18 = a3)))) x25)).1) ((kh x26 x27 (ix (upto x17 (qj x17 (a2 - (ln ((x20 ++ x21)))) (decide (x18 = a3)))) x25)).2) x17 (upto x17 (qj x17 (a2 - (ln ((x20 ++ x21)))) (decide (x18 = a3)))) < qc6 a0 a1 a2 a3 x25 x26 x27 x17 (upto x17 (qj x17 (a2 - (ln ((x20 ++ x21)))) (decide (x18 = a3)))))) ∧
((ln (upto x17 (qj x17 (a2 - (ln ((x20 ++ x21)))) (decide (x18 = a3))))) ≤ x25 →
((0 : Int) ≤ (qj x17 (a2 - (ln ((x20 ++ x21)))) (decide (x18 = a3))) ∧ (qj x17 (a2 - (ln ((x20 ++ x21)))) (decide (x18 = a3))) ≤ ln x17) ∧
(ka (List.length ((x20 ++ x21)) + List.length (upto x17 (qj x17 (a2 - (ln ((x20 ++ x21)))) (decide (x18 = a3)))))) ∧
((0 < (qj x17 (a2 - (ln ((x20 ++ x21)))) (decide (x18 = a3))) →
((0 : Int) ≤ (qj x17 (a2 - (ln ((x20 ++ x21)))) (decide (x18 = a3))) ∧ (qj x17 (a2 - (ln ((x20 ++ x21)))) (decide (x18 = a3))) ≤ ln x17) ∧
((ln (fr x17 (qj x17 (a2 - (ln ((x20 ++ x21)))) (decide (x18 = a3)))) ≤ 1000000000)) ∧
((0 : Int) ≤ (qj x17 (a2 - (ln ((x20 ++ x21)))) (decide (x18 = a3))) ∧ (qj x17 (a2 - (ln ((x20 ++ x21)))) (decide (x18 = a3))) ≤ ln x17) ∧
(((ln (((x20 ++ x21)) ++ (upto x17 (qj x17 (a2 - (ln ((x20 ++ x21)))) (decide (x18 = a3)))))) = (ln ((x20 ++ x21))) →
(([] : List UInt8) = ((mkB a0 a1 a2 a3).1)) ∧
(([] : List Page) = ((mkB a0 a1 a2 a3).2.1)) ∧
((11 : Int) = ((mkB a0 a1 a2 a3).2.2)) ∧
 True)) ∧
((ln (((x20 ++ x21)) ++ (upto x17 (qj x17 (a2 - (ln ((x20 ++ x21)))) (decide (x18 = a3)))))) ≠ (ln ((x20 ++ x21))) →
(True) ∧
(ka (List.length x19 + List.length [(Staff.mk (((x20 ++ x21)) ++ (upto x17 (qj x17 (a2 - (ln ((x20 ++ x21)))) (decide (x18 = a3))))) (ln ((x20 ++ x21))) ((zo (fr x17 (qj x17 (a2 - (ln ((x20 ++ x21)))) (decide (x18 = a3))))).1) ((zo (fr x17 (qj x17 (a2 - (ln ((x20 ++ x21)))) (decide (x18 = a3))))).2))])) ∧
(I64 (x18 + 1)) ∧
(qwz x11 x12 a1 x1 a2 a0 (
(zw a0 a1 a2 a3 (fr x17 (qj x17 (a2 - (ln ((x20 ++ x21)))) (decide (x18 = a3)))) (x18 + 1) (x19 ++ [(Staff.mk (((x20 ++ x21)) ++ (upto x17 (qj x17 (a2 - (ln ((x20 ++ x21)))) (decide (x18 = a3))))) (ln ((x20 ++ x21))) ((zo (fr x17 (qj x17 (a2 - (ln ((x20 ++ x21)))) (decide (x18 = a3))))).1) ((zo (fr x17 (qj x17 (a2 - (ln ((x20 ++ x21)))) (decide (x18 = a3))))).2))]) x26 x27 x11 x12) ∧
 j7 a0 a1 a2 a3 (fr x17 (qj x17 (a2 - (ln ((x20 ++ x21)))) (decide (x18 = a3)))) (x18 + 1) (x19 ++ [(Staff.mk (((x20 ++ x21)) ++ (upto x17 (qj x17 (a2 - (ln ((x20 ++ x21)))) (decide (x18 = a3))))) (ln ((x20 ++ x21))) ((zo (fr x17 (qj x17 (a2 - (ln ((x20 ++ x21)))) (decide (x18 = a3))))).1) ((zo (fr x17 (qj x17 (a2 - (ln ((x20 ++ x21)))) (decide (x18 = a3))))).2))]) x26 x27 x11 x12 < j7 a0 a1 a2 a3 x17 x18 x19 x20 x21 x11 x12))))) ∧
((qj x17 (a2 - (ln ((x20 ++ x21)))) (decide (x18 = a3))) ≤ 0 →
((0 : Int) ≤ (qj x17 (a2 - (ln ((x20 ++ x21)))) (decide (x18 = a3))) ∧ (qj x17 (a2 - (ln ((x20 ++ x21)))) (decide (x18 = a3))) ≤ ln x17) ∧
(((ln (((x20 ++ x21)) ++ (upto x17 (qj x17 (a2 - (ln ((x20 ++ x21)))) (decide (x18 = a3)))))) = (ln ((x20 ++ x21))) →
(([] : List UInt8) = ((mkB a0 a1 a2 a3).1)) ∧
(([] : List Page) = ((mkB a0 a1 a2 a3).2.1)) ∧
((11 : Int) = ((mkB a0 a1 a2 a3).2.2)) ∧
 True)) ∧
((ln (((x20 ++ x21)) ++ (upto x17 (qj x17 (a2 - (ln ((x20 ++ x21)))) (decide (x18 = a3)))))) ≠ (ln ((x20 ++ x21))) →
(True) ∧
(ka (List.length x19 + List.length [(Staff.mk (((x20 ++ x21)) ++ (upto x17 (qj x17 (a2 - (ln ((x20 ++ x21)))) (decide (x18 = a3))))) (ln ((x20 ++ x21))) false 0)])) ∧
(I64 (x18 + 1)) ∧
(qwz x11 x12 a1 x1 a2 a0 (
(zw a0 a1 a2 a3 (fr x17 (qj x17 (a2 - (ln ((x20 ++ x21)))) (decide (x18 = a3)))) (x18 + 1) (x19 ++ [(Staff.mk (((x20 ++ x21)) ++ (upto x17 (qj x17 (a2 - (ln ((x20 ++ x21)))) (decide (x18 = a3))))) (ln ((x20 ++ x21))) false 0)]) x26 x27 x11 x12) ∧
 j7 a0 a1 a2 a3 (fr x17 (qj x17 (a2 - (ln ((x20 ++ x21)))) (decide (x18 = a3)))) (x18 + 1) (x19 ++ [(Staff.mk (((x20 ++ x21)) ++ (upto x17 (qj x17 (a2 - (ln ((x20 ++ x21)))) (decide (x18 = a3))))) (ln ((x20 ++ x21))) false 0)]) x26 x27 x11 x12 < j7 a0 a1 a2 a3 x17 x18 x19 x20 x21 x11 x12))))))))))) ∧
((ln x17) ≤ 0 →
(True) ∧
(ka (List.length x12 + List.length [(Page.mk x19)])) ∧
(qw0 a1 x1 a2 a0 (
(jf a0 a1 a2 a3 x17 x11 (x12 ++ [(Page.mk x19)]) x20 x21) ∧
 j6 a0 a1 a2 a3 x17 x11 (x12 ++ [(Page.mk x19)]) x20 x21 < j6 a0 a1 a2 a3 x10 x11 x12 x13 x14))))) ∧
(a3 < x18 →
(True) ∧
(ka (List.length x12 + List.length [(Page.mk x19)])) ∧
(qw0 a1 x1 a2 a0 (
(jf a0 a1 a2 a3 x17 x11 (x12 ++ [(Page.mk x19)]) x20 x21) ∧
 j6 a0 a1 a2 a3 x17 x11 (x12 ++ [(Page.mk x19)]) x20 x21 < j6 a0 a1 a2 a3 x10 x11 x12 x13 x14))))))))))) ∧
((ln x10) ≤ 0 →
(x11 = ((mkB a0 a1 a2 a3).1)) ∧
(x12 = ((mkB a0 a1 a2 a3).2.1)) ∧
((0 : Int) = ((mkB a0 a1 a2 a3).2.2)) ∧
 True)))))))))))))) ∧
((ix a1 x1).Kind ≠ 11 →
(I64 (x1 + 1)) ∧
(([] : List UInt8) = ([] : List UInt8)) ∧
((a2 : Int) = a2) ∧
(a0 = a0) ∧
(a1 = a1) ∧
(qhq a0 a1 a2 a3 (x1 + 1)) ∧
 qgf a0 a1 a2 a3 (x1 + 1) < qgf a0 a1 a2 a3 x1))) ∧
((ln a1) ≤ x1 →
((a2 < 16 →
(([] : List UInt8) = ((mkB a0 a1 a2 a3).1)) ∧
(([] : List Page) = ((mkB a0 a1 a2 a3).2.1)) ∧
((2 : Int) = ((mkB a0 a1 a2 a3).2.2)) ∧
 True)) ∧
(16 ≤ a2 →
((60 < a2 →
(([] : List UInt8) = ((mkB a0 a1 a2 a3).1)) ∧
(([] : List Page) = ((mkB a0 a1 a2 a3).2.1)) ∧
((2 : Int) = ((mkB a0 a1 a2 a3).2.2)) ∧
 True)) ∧
(a2 ≤ 60 →
((a3 < 1 →
(([] : List UInt8) = ((mkB a0 a1 a2 a3).1)) ∧
(([] : List Page) = ((mkB a0 a1 a2 a3).2.1)) ∧
((2 : Int) = ((mkB a0 a1 a2 a3).2.2)) ∧
 True)) ∧
(1 ≤ a3 →
((12 < a3 →
(([] : List UInt8) = ((mkB a0 a1 a2 a3).1)) ∧
(([] : List Page) = ((mkB a0 a1 a2 a3).2.1)) ∧
((2 : Int) = ((mkB a0 a1 a2 a3).2.2)) ∧
 True)) ∧
(a3 ≤ 12 →
((ln a1 ≤ 10000000)) ∧
(jf a0 a1 a2 a3 (a1) a0 ([] : List Page) ([] : List Sign) ([] : List Sign)) ∧
(∀ x8 : List Sign,
(∀ x9 : List UInt8,
(∀ x10 : List Page,
(∀ x11 : List Sign,
(∀ x12 : List Sign,
(jf a0 a1 a2 a3 x8 x9 x10 x11 x12 →
((0 < (ln x8) →
(zw a0 a1 a2 a3 x8 1 ([] : List Staff) x11 x12 x9 x10) ∧
(∀ x15 : List Sign,
(∀ x16 : Int,
(∀ x17 : List Staff,
(∀ x18 : List Sign,
(∀ x19 : List Sign,
(zw a0 a1 a2 a3 x15 x16 x17 x18 x19 x9 x10 →
((x16 ≤ a3 →
((0 < (ln x15) →
((ln x18 ≤ 1 ∧ ln x19 ≤ 1)) ∧
(I64 (a2 - (ln ((x18 ++ x19))))) ∧
((ln x15 ≤ 500)) ∧
((0 : Int) ≤ (qj x15 (a2 - (ln ((x18 ++ x19)))) (decide (x16 = a3))) ∧ (qj x15 (a2 - (ln ((x18 ++ x19)))) (decide (x16 = a3))) ≤ ln x15) ∧
(js a0 a1 a2 a3 0 x18 x19 x15 (upto x15 (qj x15 (a2 - (ln ((x18 ++ x19)))) (decide (x16 = a3))))) ∧
(∀ x23 : Int,
(∀ x24 : List Sign,
(∀ x25 : List Sign,
(js a0 a1 a2 a3 x23 x24 x25 x15 (upto x15 (qj x15 (a2 - (ln ((x18 ++ x19)))) (decide (x16 = a3)))) →
((x23 < (ln (upto x15 (qj x15 (a2 - (ln ((x18 ++ x19)))) (decide (x16 = a3))))) →
(Wn x23 (ln (upto x15 (qj x15 (a2 - (ln ((x18 ++ x19)))) (decide (x16 = a3)))))) ∧
(True) ∧
(I64 (x23 + 1)) ∧
((0 : Int) = 0) ∧
((0 : Int) = 0) ∧
((0 : Int) = 0) ∧
((0 : Int) = 0) ∧
(x17 = x17) ∧
(x9 = x9) ∧
(x10 = x10) ∧
(([] : List UInt8) = ([] : List UInt8)) ∧
((a2 : Int) = a2) ∧
(a0 = a0) ∧
(a1 = a1) ∧
(js a0 a1 a2 a3 (x23 + 1) ((kh x24 x25 (ix (upto x15 (qj x15 (a2 - (ln ((x18 ++ x19)))) (decide (x16 = a3)))) x23)).1) ((kh x24 x25 (ix (upto x15 (qj x15 (a2 - (ln ((x18 ++ x19)))) (decide (x16 = a3)))) x23)).2) x15 (upto x15 (qj x15 (a2 - (ln ((x18 ++ x19)))) (decide (x16 = a3))))) ∧
 qc6 a0 a1 a2 a3 (x23 + 1) ((kh x24 x25 (ix (upto x15 (qj x15 (a2 - (ln ((x18 ++ x19)))) (decide (x16 = a3)))) x23)).1) ((kh x24 x25 (ix (upto x15 (qj x15 (a2 - (ln ((x18 ++ x19)))) (decide (x16 = a3)))) x23)).2) x15 (upto x15 (qj x15 (a2 - (ln ((x18 ++ x19)))) (decide (x16 = a3)))) < qc6 a0 a1 a2 a3 x23 x24 x25 x15 (upto x15 (qj x15 (a2 - (ln ((x18 ++ x19)))) (decide (x16 = a3)))))) ∧
((ln (upto x15 (qj x15 (a2 - (ln ((x18 ++ x19)))) (decide (x16 = a3))))) ≤ x23 →
((0 : Int) ≤ (qj x15 (a2 - (ln ((x18 ++ x19)))) (decide (x16 = a3))) ∧ (qj x15 (a2 - (ln ((x18 ++ x19)))) (decide (x16 = a3))) ≤ ln x15) ∧
(ka (List.length ((x18 ++ x19)) + List.length (upto x15 (qj x15 (a2 - (ln ((x18 ++ x19)))) (decide (x16 = a3)))))) ∧
((0 < (qj x15 (a2 - (ln ((x18 ++ x19)))) (decide (x16 = a3))) →
((0 : Int) ≤ (qj x15 (a2 - (ln ((x18 ++ x19)))) (decide (x16 = a3))) ∧ (qj x15 (a2 - (ln ((x18 ++ x19)))) (decide (x16 = a3))) ≤ ln x15) ∧
((ln (fr x15 (qj x15 (a2 - (ln ((x18 ++ x19)))) (decide (x16 = a3)))) ≤ 1000000000)) ∧
((0 : Int) ≤ (qj x15 (a2 - (ln ((x18 ++ x19)))) (decide (x16 = a3))) ∧ (qj x15 (a2 - (ln ((x18 ++ x19)))) (decide (x16 = a3))) ≤ ln x15) ∧
(((ln (((x18 ++ x19)) ++ (upto x15 (qj x15 (a2 - (ln ((x18 ++ x19)))) (decide (x16 = a3)))))) = (ln ((x18 ++ x19))) →
(([] : List UInt8) = ((mkB a0 a1 a2 a3).1)) ∧
(([] : List Page) = ((mkB a0 a1 a2 a3).2.1)) ∧
((11 : Int) = ((mkB a0 a1 a2 a3).2.2)) ∧
 True)) ∧
((ln (((x18 ++ x19)) ++ (upto x15 (qj x15 (a2 - (ln ((x18 ++ x19)))) (decide (x16 = a3)))))) ≠ (ln ((x18 ++ x19))) →
(True) ∧
(ka (List.length x17 + List.length [(Staff.mk (((x18 ++ x19)) ++ (upto x15 (qj x15 (a2 - (ln ((x18 ++ x19)))) (decide (x16 = a3))))) (ln ((x18 ++ x19))) ((zo (fr x15 (qj x15 (a2 - (ln ((x18 ++ x19)))) (decide (x16 = a3))))).1) ((zo (fr x15 (qj x15 (a2 - (ln ((x18 ++ x19)))) (decide (x16 = a3))))).2))])) ∧
(I64 (x16 + 1)) ∧
(x9 = x9) ∧
(x10 = x10) ∧
(([] : List UInt8) = ([] : List UInt8)) ∧
((a2 : Int) = a2) ∧
(a0 = a0) ∧
(a1 = a1) ∧
(zw a0 a1 a2 a3 (fr x15 (qj x15 (a2 - (ln ((x18 ++ x19)))) (decide (x16 = a3)))) (x16 + 1) (x17 ++ [(Staff.mk (((x18 ++ x19)) ++ (upto x15 (qj x15 (a2 - (ln ((x18 ++ x19)))) (decide (x16 = a3))))) (ln ((x18 ++ x19))) ((zo (fr x15 (qj x15 (a2 - (ln ((x18 ++ x19)))) (decide (x16 = a3))))).1) ((zo (fr x15 (qj x15 (a2 - (ln ((x18 ++ x19)))) (decide (x16 = a3))))).2))]) x24 x25 x9 x10) ∧
 j7 a0 a1 a2 a3 (fr x15 (qj x15 (a2 - (ln ((x18 ++ x19)))) (decide (x16 = a3)))) (x16 + 1) (x17 ++ [(Staff.mk (((x18 ++ x19)) ++ (upto x15 (qj x15 (a2 - (ln ((x18 ++ x19)))) (decide (x16 = a3))))) (ln ((x18 ++ x19))) ((zo (fr x15 (qj x15 (a2 - (ln ((x18 ++ x19)))) (decide (x16 = a3))))).1) ((zo (fr x15 (qj x15 (a2 - (ln ((x18 ++ x19)))) (decide (x16 = a3))))).2))]) x24 x25 x9 x10 < j7 a0 a1 a2 a3 x15 x16 x17 x18 x19 x9 x10))) ∧
((qj x15 (a2 - (ln ((x18 ++ x19)))) (decide (x16 = a3))) ≤ 0 →
((0 : Int) ≤ (qj x15 (a2 - (ln ((x18 ++ x19)))) (decide (x16 = a3))) ∧ (qj x15 (a2 - (ln ((x18 ++ x19)))) (decide (x16 = a3))) ≤ ln x15) ∧
(((ln (((x18 ++ x19)) ++ (upto x15 (qj x15 (a2 - (ln ((x18 ++ x19)))) (decide (x16 = a3)))))) = (ln ((x18 ++ x19))) →
(([] : List UInt8) = ((mkB a0 a1 a2 a3).1)) ∧
(([] : List Page) = ((mkB a0 a1 a2 a3).2.1)) ∧
((11 : Int) = ((mkB a0 a1 a2 a3).2.2)) ∧
 True)) ∧
((ln (((x18 ++ x19)) ++ (upto x15 (qj x15 (a2 - (ln ((x18 ++ x19)))) (decide (x16 = a3)))))) ≠ (ln ((x18 ++ x19))) →
(True) ∧
(ka (List.length x17 + List.length [(Staff.mk (((x18 ++ x19)) ++ (upto x15 (qj x15 (a2 - (ln ((x18 ++ x19)))) (decide (x16 = a3))))) (ln ((x18 ++ x19))) false 0)])) ∧
(I64 (x16 + 1)) ∧
(x9 = x9) ∧
(x10 = x10) ∧
(([] : List UInt8) = ([] : List UInt8)) ∧
((a2 : Int) = a2) ∧
(a0 = a0) ∧
(a1 = a1) ∧
(zw a0 a1 a2 a3 (fr x15 (qj x15 (a2 - (ln ((x18 ++ x19)))) (decide (x16 = a3)))) (x16 + 1) (x17 ++ [(Staff.mk (((x18 ++ x19)) ++ (upto x15 (qj x15 (a2 - (ln ((x18 ++ x19)))) (decide (x16 = a3))))) (ln ((x18 ++ x19))) false 0)]) x24 x25 x9 x10) ∧
 j7 a0 a1 a2 a3 (fr x15 (qj x15 (a2 - (ln ((x18 ++ x19)))) (decide (x16 = a3)))) (x16 + 1) (x17 ++ [(Staff.mk (((x18 ++ x19)) ++ (upto x15 (qj x15 (a2 - (ln ((x18 ++ x19)))) (decide (x16 = a3))))) (ln ((x18 ++ x19))) false 0)]) x24 x25 x9 x10 < j7 a0 a1 a2 a3 x15 x16 x17 x18 x19 x9 x10))))))))) ∧
((ln x15) ≤ 0 →
(True) ∧
(ka (List.length x10 + List.length [(Page.mk x17)])) ∧
(([] : List UInt8) = ([] : List UInt8)) ∧
((a2 : Int) = a2) ∧
(a0 = a0) ∧
(a1 = a1) ∧
(jf a0 a1 a2 a3 x15 x9 (x10 ++ [(Page.mk x17)]) x18 x19) ∧
 j6 a0 a1 a2 a3 x15 x9 (x10 ++ [(Page.mk x17)]) x18 x19 < j6 a0 a1 a2 a3 x8 x9 x10 x11 x12))) ∧
(a3 < x16 →
(True) ∧
(ka (List.length x10 + List.length [(Page.mk x17)])) ∧
(([] : List UInt8) = ([] : List UInt8)) ∧
((a2 : Int) = a2) ∧
(a0 = a0) ∧
(a1 = a1) ∧
(jf a0 a1 a2 a3 x15 x9 (x10 ++ [(Page.mk x17)]) x18 x19) ∧
 j6 a0 a1 a2 a3 x15 x9 (x10 ++ [(Page.mk x17)]) x18 x19 < j6 a0 a1 a2 a3 x8 x9 x10 x11 x12))))))))) ∧
((ln x8) ≤ 0 →
(x9 = ((mkB a0 a1 a2 a3).1)) ∧
(x10 = ((mkB a0 a1 a2 a3).2.1)) ∧
((0 : Int) = ((mkB a0 a1 a2 a3).2.2)) ∧
 True)))))))))))))))
theorem q5b (a0 : List UInt8) (a1 : List Sign) (a2 : Int) (a3 : Int) : qb3 (qu XK (qax q2z) (fun j ns => match j, ns with | 0, [.i y0] => qhq a0 a1 a2 a3 y0 | 1, [.l 4 y0, .s y1, .l 8 y2, .l 4 y3, .l 4 y4] => jf a0 a1 a2 a3 y0 y1 y2 y3 y4 | 2, [.l 4 y0, .i y1, .l 7 y2, .l 4 y3, .l 4 y4, .s y5, .l 8 y6] => zw a0 a1 a2 a3 y0 y1 y2 y3 y4 y5 y6 | 3, [.i y0, .l 4 y1, .l 4 y2, .l 4 y3, .l 4 y4] => js a0 a1 a2 a3 y0 y1 y2 y3 y4 | _, _ => False) (fun j ns => match j, ns with | 0, [.i y0] => qgf a0 a1 a2 a3 y0 | 1, [.l 4 y0, .s y1, .l 8 y2, .l 4 y3, .l 4 y4] => j6 a0 a1 a2 a3 y0 y1 y2 y3 y4 | 2, [.l 4 y0, .i y1, .l 7 y2, .l 4 y3, .l 4 y4, .s y5, .l 8 y6] => j7 a0 a1 a2 a3 y0 y1 y2 y3 y4 y5 y6 | 3, [.i y0, .l 4 y1, .l 4 y2, .l 4 y3, .l 4 y4] => qc6 a0 a1 a2 a3 y0 y1 y2 y3 y4 | _, _ => 0)) { cfg sp with ann := qbu [(61, 26, .inv 0 [.one 8 (.int .i64)] []), (10, 2044, .inv 1 [.one 13 (.list 4 false false), .via 10 [.str, .list 8 true false], .via 11 [.list 4 false false, .list 4 false false]] []), (10, 261674, .inv 2 [.one 13 (.list 4 false false), .one 15 (.int .i64), .via 14 [.list 7 true false], .via 11 [.list 4 false false, .list 4 false false]] [.via 10 [.str, .list 8 false false]]), (37, 122, .inv 3 [.one 26 (.int .i64), .via 2 [.list 4 false false, .list 4 false false]] [.one 0 (.list 4 false false), .one 24 (.list 4 false false)])] } 6 10 [.agg [.str (a0), .list 4 (a1) none], .int .i64 none (a2), .int .i64 none (a3)] (qtw a0 a1 a2 a3) = qqs a0 a1 a2 a3 := by kernel_rfl
def q0v : List (Nat × Ct KT) := []
abbrev qs1 (a0 : List UInt8) (a1 : List Page) : PV KT := .list 7 ((qc a1)) none
abbrev qoy (a0 : List UInt8) (a1 : List Page) : Prop :=
(qgc a0 a1 ([] : List Staff) 0) ∧
(∀ x0 : List Staff,
(∀ x1 : Int,
(qgc a0 a1 x0 x1 →
((x1 < (ln a1) →
(Wn x1 (ln a1)) ∧
(ka (List.length x0 + List.length (ix a1 x1).Staves)) ∧
(I64 (x1 + 1)) ∧
(a0 = a0) ∧
(a1 = a1) ∧
(qgc a0 a1 (x0 ++ (ix a1 x1).Staves) (x1 + 1)) ∧
 qh5 a0 a1 (x0 ++ (ix a1 x1).Staves) (x1 + 1) < qh5 a0 a1 x0 x1)) ∧
((ln a1) ≤ x1 →
(x0 = (qc a1)) ∧
 True))))
theorem q4o (a0 : List UInt8) (a1 : List Page) : qb3 (qu XK (qax q0v) (fun j ns => match j, ns with | 0, [.l 7 y0, .i y1] => qgc a0 a1 y0 y1 | _, _ => False) (fun j ns => match j, ns with | 0, [.l 7 y0, .i y1] => qh5 a0 a1 y0 y1 | _, _ => 0)) { cfg sp with ann := qbu [(68, 58, .inv 0 [.one 3 (.list 7 true false), .one 9 (.int .i64)] [])] } 3 68 [.agg [.str (a0), .list 8 (a1) none]] (qs1 a0 a1) = qoy a0 a1 := by kernel_rfl
def q7v : List (Nat × Ct KT) := [(68, q51)]
abbrev qyu (a0 : List UInt8) (a1 : List Page) : PV KT := .agg [.str ((a0)), .list 4 ((qd a1)) none]
abbrev qwf (a0 : List UInt8) (a1 : List Page) : Prop :=
((smB a1)) ∧
(qi5 a0 a1 0 a0 ([] : List Sign)) ∧
(∀ x0 : Int,
(∀ x1 : List UInt8,
(∀ x2 : List Sign,
(qi5 a0 a1 x0 x1 x2 →
((x0 < (ln (qc a1)) →
(Wn x0 (ln (qc a1))) ∧
((0 : Int) ≤ (ix (qc a1) x0).Lead ∧ (ix (qc a1) x0).Lead ≤ ln (ix (qc a1) x0).Signs) ∧
(ka (List.length x2 + List.length (fr (ix (qc a1) x0).Signs (ix (qc a1) x0).Lead))) ∧
(I64 (x0 + 1)) ∧
(([] : List UInt8) = ([] : List UInt8)) ∧
(a0 = a0) ∧
(a1 = a1) ∧
(qi5 a0 a1 (x0 + 1) x1 (x2 ++ (fr (ix (qc a1) x0).Signs (ix (qc a1) x0).Lead))) ∧
 qkg a0 a1 (x0 + 1) x1 (x2 ++ (fr (ix (qc a1) x0).Signs (ix (qc a1) x0).Lead)) < qkg a0 a1 x0 x1 x2)) ∧
((ln (qc a1)) ≤ x0 →
(x1 = (a0)) ∧
(x2 = (qd a1)) ∧
 True)))))
theorem zaq (a0 : List UInt8) (a1 : List Page) : qb3 (qu XK (qax q7v) (fun j ns => match j, ns with | 0, [.i y0, .s y1, .l 4 y2] => qi5 a0 a1 y0 y1 y2 | _, _ => False) (fun j ns => match j, ns with | 0, [.i y0, .s y1, .l 4 y2] => qkg a0 a1 y0 y1 y2 | _, _ => 0)) { cfg sp with ann := qbu [(56, 58, .inv 0 [.one 12 (.int .i64), .via 3 [.str, .list 4 true false]] [])] } 3 56 [.agg [.str (a0), .list 8 (a1) none]] (qyu a0 a1) = qwf a0 a1 := by kernel_rfl
def q36 : List (Nat × Ct KT) := [(68, q51)]
abbrev qux (a0 : List UInt8) (a1 : List Page) (a2 : Int) : PV KT := .int .i64 none ((zj a1 a2))
abbrev qsg (a0 : List UInt8) (a1 : List Page) (a2 : Int) : Prop :=
((smB a1)) ∧
(qhs a0 a1 a2 a2 0) ∧
(∀ x0 : Int,
(∀ x1 : Int,
(qhs a0 a1 a2 x0 x1 →
((x1 < (ln (qc a1)) →
(Wn x1 (ln (qc a1))) ∧
(I64 ((ln (ix (qc a1) x1).Signs) - (ix (qc a1) x1).Lead)) ∧
(I64 (x0 - ((ln (ix (qc a1) x1).Signs) - (ix (qc a1) x1).Lead))) ∧
(((x0 - ((ln (ix (qc a1) x1).Signs) - (ix (qc a1) x1).Lead)) < 0 →
((x1 : Int) = (zj a1 a2)) ∧
 True)) ∧
(0 ≤ (x0 - ((ln (ix (qc a1) x1).Signs) - (ix (qc a1) x1).Lead)) →
(I64 (x1 + 1)) ∧
(a0 = a0) ∧
(a1 = a1) ∧
(qhs a0 a1 a2 (x0 - ((ln (ix (qc a1) x1).Signs) - (ix (qc a1) x1).Lead)) (x1 + 1)) ∧
 qja a0 a1 a2 (x0 - ((ln (ix (qc a1) x1).Signs) - (ix (qc a1) x1).Lead)) (x1 + 1) < qja a0 a1 a2 x0 x1))) ∧
((ln (qc a1)) ≤ x1 →
((0 : Int) = (zj a1 a2)) ∧
 True))))
theorem q7h (a0 : List UInt8) (a1 : List Page) (a2 : Int) : qb3 (qu XK (qax q36) (fun j ns => match j, ns with | 0, [.i y0, .i y1] => qhs a0 a1 a2 y0 y1 | _, _ => False) (fun j ns => match j, ns with | 0, [.i y0, .i y1] => qja a0 a1 a2 y0 y1 | _, _ => 0)) { cfg sp with ann := qbu [(66, 26, .inv 0 [.one 1 (.int .i64), .one 10 (.int .i64)] [])] } 3 66 [.agg [.str (a0), .list 8 (a1) none], .int .i64 none (a2)] (qux a0 a1 a2) = qsg a0 a1 a2 := by kernel_rfl
def q0t : List (Nat × Ct KT) := [(38, q89)]
abbrev qsy (a0 : List Sign) (a1 : Int) (a2 : Bool) (a3 : Int) (a4 : List Sign) (a5 : List Sign) : PV KT := .int .i64 none ((kp (Staff.mk a0 a1 a2 a3) a4 a5))
abbrev qox (a0 : List Sign) (a1 : Int) (a2 : Bool) (a3 : Int) (a4 : List Sign) (a5 : List Sign) : Prop :=
((60 < (ln a0) →
((11 : Int) = (kp (Staff.mk a0 a1 a2 a3) a4 a5)) ∧
 True)) ∧
((ln a0) ≤ 60 →
((a1 < 0 →
((2 : Int) = (kp (Staff.mk a0 a1 a2 a3) a4 a5)) ∧
 True)) ∧
(0 ≤ a1 →
(((ln a0) ≤ a1 →
((2 : Int) = (kp (Staff.mk a0 a1 a2 a3) a4 a5)) ∧
 True)) ∧
(a1 < (ln a0) →
((0 : Int) ≤ a1 ∧ a1 ≤ ln a0) ∧
((ln a4 ≤ 1 ∧ ln a5 ≤ 1)) ∧
(((ln (upto a0 a1)) ≠ (ln ((a4 ++ a5))) →
((6 : Int) = (kp (Staff.mk a0 a1 a2 a3) a4 a5)) ∧
 True)) ∧
((ln (upto a0 a1)) = (ln ((a4 ++ a5))) →
(qgb a0 a1 a2 a3 a4 a5 0) ∧
(∀ x4 : Int,
(qgb a0 a1 a2 a3 a4 a5 x4 →
((x4 < (ln (upto a0 a1)) →
(Wn x4 (ln (upto a0 a1))) ∧
(Wn x4 (ln ((a4 ++ a5)))) ∧
((((ix (upto a0 a1) x4).Kind ≠ (ix ((a4 ++ a5)) x4).Kind ∨ ((ix (upto a0 a1) x4).Value ≠ (ix ((a4 ++ a5)) x4).Value ∨ ((ix (upto a0 a1) x4).Place ≠ (ix ((a4 ++ a5)) x4).Place ∨ ((ix (upto a0 a1) x4).Acc ≠ (ix ((a4 ++ a5)) x4).Acc ∨ ((ix (upto a0 a1) x4).Color ≠ (ix ((a4 ++ a5)) x4).Color ∨ ((ix (upto a0 a1) x4).Stem ≠ (ix ((a4 ++ a5)) x4).Stem ∨ ((ix (upto a0 a1) x4).Oblique ≠ (ix ((a4 ++ a5)) x4).Oblique ∨ ((ix (upto a0 a1) x4).Last ≠ (ix ((a4 ++ a5)) x4).Last ∨ ((ix (upto a0 a1) x4).MensMax ≠ (ix ((a4 ++ a5)) x4).MensMax ∨ ((ix (upto a0 a1) x4).MensMod ≠ (ix ((a4 ++ a5)) x4).MensMod ∨ ((ix (upto a0 a1) x4).MensTem ≠ (ix ((a4 ++ a5)) x4).MensTem ∨ ((ix (upto a0 a1) x4).MensPro ≠ (ix ((a4 ++ a5)) x4).MensPro ∨ ((ix (upto a0 a1) x4).Stroke ≠ (ix ((a4 ++ a5)) x4).Stroke ∨ ((ix (upto a0 a1) x4).N ≠ (ix ((a4 ++ a5)) x4).N ∨ ((ix (upto a0 a1) x4).D ≠ (ix ((a4 ++ a5)) x4).D ∨ ((ix (upto a0 a1) x4).ClefStep ≠ (ix ((a4 ++ a5)) x4).ClefStep ∨ (ix (upto a0 a1) x4).ClefLine ≠ (ix ((a4 ++ a5)) x4).ClefLine)))))))))))))))) →
((6 : Int) = (kp (Staff.mk a0 a1 a2 a3) a4 a5)) ∧
 True)) ∧
(((ix (upto a0 a1) x4).Kind = (ix ((a4 ++ a5)) x4).Kind ∧ ((ix (upto a0 a1) x4).Value = (ix ((a4 ++ a5)) x4).Value ∧ ((ix (upto a0 a1) x4).Place = (ix ((a4 ++ a5)) x4).Place ∧ ((ix (upto a0 a1) x4).Acc = (ix ((a4 ++ a5)) x4).Acc ∧ ((ix (upto a0 a1) x4).Color = (ix ((a4 ++ a5)) x4).Color ∧ ((ix (upto a0 a1) x4).Stem = (ix ((a4 ++ a5)) x4).Stem ∧ ((ix (upto a0 a1) x4).Oblique = (ix ((a4 ++ a5)) x4).Oblique ∧ ((ix (upto a0 a1) x4).Last = (ix ((a4 ++ a5)) x4).Last ∧ ((ix (upto a0 a1) x4).MensMax = (ix ((a4 ++ a5)) x4).MensMax ∧ ((ix (upto a0 a1) x4).MensMod = (ix ((a4 ++ a5)) x4).MensMod ∧ ((ix (upto a0 a1) x4).MensTem = (ix ((a4 ++ a5)) x4).MensTem ∧ ((ix (upto a0 a1) x4).MensPro = (ix ((a4 ++ a5)) x4).MensPro ∧ ((ix (upto a0 a1) x4).Stroke = (ix ((a4 ++ a5)) x4).Stroke ∧ ((ix (upto a0 a1) x4).N = (ix ((a4 ++ a5)) x4).N ∧ ((ix (upto a0 a1) x4).D = (ix ((a4 ++ a5)) x4).D ∧ ((ix (upto a0 a1) x4).ClefStep = (ix ((a4 ++ a5)) x4).ClefStep ∧ (ix (upto a0 a1) x4).ClefLine = (ix ((a4 ++ a5)) x4).ClefLine)))))))))))))))) →
(I64 (x4 + 1)) ∧
(a4 = a4) ∧
(a5 = a5) ∧
(a0 = a0) ∧
((a1 : Int) = a1) ∧
(a2 = a2) ∧
((a3 : Int) = a3) ∧
(qgb a0 a1 a2 a3 a4 a5 (x4 + 1)) ∧
 qh4 a0 a1 a2 a3 a4 a5 (x4 + 1) < qh4 a0 a1 a2 a3 a4 a5 x4))) ∧
((ln (upto a0 a1)) ≤ x4 →
((0 : Int) = (kp (Staff.mk a0 a1 a2 a3) a4 a5)) ∧
 True)))))))
theorem q4k (a0 : List Sign) (a1 : Int) (a2 : Bool) (a3 : Int) (a4 : List Sign) (a5 : List Sign) : qb3 (qu XK (qax q0t) (fun j ns => match j, ns with | 0, [.i y0] => qgb a0 a1 a2 a3 a4 a5 y0 | _, _ => False) (fun j ns => match j, ns with | 0, [.i y0] => qh4 a0 a1 a2 a3 a4 a5 y0 | _, _ => 0)) { cfg sp with ann := qbu [(65, 58, .inv 0 [.one 13 (.int .i64)] [])] } 3 50 [.agg [.list 4 (a0) none, .int .i64 none (a1), .sb 0 false (a2) (a2 = true) (a2 = false), .int .i64 none (a3)], .agg [.list 4 (a4) none, .list 4 (a5) none]] (qsy a0 a1 a2 a3 a4 a5) = qox a0 a1 a2 a3 a4 a5 := by kernel_rfl
def q4t : List (Nat × Ct KT) := [(56, zca), (34, q88), (66, zcd), (68, q51), (41, q9c)]
abbrev qve (a0 : List UInt8) (a1 : List Page) : PV KT := .tuple [.int .i64 none (((za a0 a1).1)), .int .i64 none (((za a0 a1).2))]
abbrev qc0 (v0 : List Page) (v1 : Int) (v2 : List UInt8) (p : Prop) : Prop :=
((qd v0) = (qd v0)) ∧
(((ix (qd v0) v1).Kind : Int) = (ix (qd v0) v1).Kind) ∧
(((ix (qd v0) v1).Value : Int) = (ix (qd v0) v1).Value) ∧
(((ix (qd v0) v1).Place : Int) = (ix (qd v0) v1).Place) ∧
(((ix (qd v0) v1).Acc : Int) = (ix (qd v0) v1).Acc) ∧
((ix (qd v0) v1).Color = (ix (qd v0) v1).Color) ∧
(((ix (qd v0) v1).Stem : Int) = (ix (qd v0) v1).Stem) ∧
((ix (qd v0) v1).Oblique = (ix (qd v0) v1).Oblique) ∧
((ix (qd v0) v1).Last = (ix (qd v0) v1).Last) ∧
(((ix (qd v0) v1).MensMax : Int) = (ix (qd v0) v1).MensMax) ∧
(((ix (qd v0) v1).MensMod : Int) = (ix (qd v0) v1).MensMod) ∧
(((ix (qd v0) v1).MensTem : Int) = (ix (qd v0) v1).MensTem) ∧
(((ix (qd v0) v1).MensPro : Int) = (ix (qd v0) v1).MensPro) ∧
((ix (qd v0) v1).Stroke = (ix (qd v0) v1).Stroke) ∧
(((ix (qd v0) v1).N : Int) = (ix (qd v0) v1).N) ∧
(((ix (qd v0) v1).D : Int) = (ix (qd v0) v1).D) ∧
(((ix (qd v0) v1).ClefStep : Int) = (ix (qd v0) v1).ClefStep) ∧
(((ix (qd v0) v1).ClefLine : Int) = (ix (qd v0) v1).ClefLine) ∧
((v2) = (v2)) ∧
((qd v0) = (qd v0)) ∧
((0 : Int) = 0) ∧
((0 : Int) = 0) ∧
(v2 = v2) ∧
(v0 = v0) ∧
 p
abbrev qc1 (v0 : List Page) (v1 : List UInt8) (p : Prop) : Prop :=
((qd v0) = (qd v0)) ∧
((v1) = (v1)) ∧
((qd v0) = (qd v0)) ∧
((0 : Int) = 0) ∧
((0 : Int) = 0) ∧
(v1 = v1) ∧
(v0 = v0) ∧
 p
abbrev qs6 (a0 : List UInt8) (a1 : List Page) : Prop :=
((smB a1 ∧ qn a1)) ∧
((ln (a0) ≤ 1000000000 ∧ ln (qd a1) ≤ 1000000000)) ∧
((((zl (a0) (qd a1)).1) ≠ 0 →
((smB a1 ∧ qn a1 ∧ (0 : Int) ≤ ((zl (a0) (qd a1)).2) ∧ (((zl (a0) (qd a1)).2) : Int) ≤ 1000000000000)) ∧
((((zl (a0) (qd a1)).1) : Int) = ((za a0 a1).1)) ∧
(((zj a1 ((zl (a0) (qd a1)).2)) : Int) = ((za a0 a1).2)) ∧
 True)) ∧
(((zl (a0) (qd a1)).1) = 0 →
(jt a0 a1 0) ∧
(∀ x1 : Int,
(jt a0 a1 x1 →
((x1 < (ln (qd a1)) →
(Wn x1 (ln (qd a1))) ∧
(((ix (qd a1) x1).Kind = 11 →
((0 ≤ x1 →
((smB a1 ∧ qn a1 ∧ (0 : Int) ≤ x1 ∧ (x1 : Int) ≤ 1000000000000)) ∧
((8 : Int) = ((za a0 a1).1)) ∧
(((zj a1 x1) : Int) = ((za a0 a1).2)) ∧
 True)) ∧
(x1 < 0 →
(zc a0 a1 0) ∧
(∀ x6 : Int,
(zc a0 a1 x6 →
((x6 < (ln (qd a1)) →
(I64 (x6 + 1)) ∧
(jg a0 a1 (x6 + 1) x6) ∧
(∀ x9 : Int,
(jg a0 a1 x9 x6 →
(I64 (x9 - 1)) ∧
(Wn (x9 - 1) (ln (qd a1))) ∧
(((ix (qd a1) (x9 - 1)).Kind = 4 →
(I64 (x9 - 1)) ∧
(Wn (x9 - 1) (ln (qd a1))) ∧
(((ix (qd a1) (x9 - 1)).Last = false →
((x9 < (ln (qd a1)) →
(I64 (x9 + 1)) ∧
(qc0 a1 x1 a0 (
(jg a0 a1 (x9 + 1) x6) ∧
 qc7 a0 a1 (x9 + 1) x6 < qc7 a0 a1 x9 x6)))) ∧
((ln (qd a1)) ≤ x9 →
((x9 < (ln (qd a1)) →
(Wn x9 (ln (qd a1))) ∧
(((ix (qd a1) x9).Kind = 3 →
(I64 (x9 + 1)) ∧
((smB a1 ∧ qn a1 ∧ (0 : Int) ≤ x6 ∧ (x6 : Int) ≤ 1000000000000)) ∧
(I64 ((x9 + 1) - 1)) ∧
((smB a1 ∧ qn a1 ∧ (0 : Int) ≤ ((x9 + 1) - 1) ∧ (((x9 + 1) - 1) : Int) ≤ 1000000000000)) ∧
(((zj a1 x6) ≠ (zj a1 ((x9 + 1) - 1)) →
((smB a1 ∧ qn a1 ∧ (0 : Int) ≤ x6 ∧ (x6 : Int) ≤ 1000000000000)) ∧
((6 : Int) = ((za a0 a1).1)) ∧
(((zj a1 x6) : Int) = ((za a0 a1).2)) ∧
 True)) ∧
((zj a1 x6) = (zj a1 ((x9 + 1) - 1)) →
(qc0 a1 x1 a0 (
(zc a0 a1 (x9 + 1)) ∧
 ql a0 a1 (x9 + 1) < ql a0 a1 x6))))) ∧
((ix (qd a1) x9).Kind ≠ 3 →
((smB a1 ∧ qn a1 ∧ (0 : Int) ≤ x6 ∧ (x6 : Int) ≤ 1000000000000)) ∧
(I64 (x9 - 1)) ∧
((smB a1 ∧ qn a1 ∧ (0 : Int) ≤ (x9 - 1) ∧ ((x9 - 1) : Int) ≤ 1000000000000)) ∧
(((zj a1 x6) ≠ (zj a1 (x9 - 1)) →
((smB a1 ∧ qn a1 ∧ (0 : Int) ≤ x6 ∧ (x6 : Int) ≤ 1000000000000)) ∧
((6 : Int) = ((za a0 a1).1)) ∧
(((zj a1 x6) : Int) = ((za a0 a1).2)) ∧
 True)) ∧
((zj a1 x6) = (zj a1 (x9 - 1)) →
(qc0 a1 x1 a0 (
(zc a0 a1 x9) ∧
 ql a0 a1 x9 < ql a0 a1 x6)))))) ∧
((ln (qd a1)) ≤ x9 →
((smB a1 ∧ qn a1 ∧ (0 : Int) ≤ x6 ∧ (x6 : Int) ≤ 1000000000000)) ∧
(I64 (x9 - 1)) ∧
((smB a1 ∧ qn a1 ∧ (0 : Int) ≤ (x9 - 1) ∧ ((x9 - 1) : Int) ≤ 1000000000000)) ∧
(((zj a1 x6) ≠ (zj a1 (x9 - 1)) →
((smB a1 ∧ qn a1 ∧ (0 : Int) ≤ x6 ∧ (x6 : Int) ≤ 1000000000000)) ∧
((6 : Int) = ((za a0 a1).1)) ∧
(((zj a1 x6) : Int) = ((za a0 a1).2)) ∧
 True)) ∧
((zj a1 x6) = (zj a1 (x9 - 1)) →
(qc0 a1 x1 a0 (
(zc a0 a1 x9) ∧
 ql a0 a1 x9 < ql a0 a1 x6))))))) ∧
((ix (qd a1) (x9 - 1)).Last = true →
((x9 < (ln (qd a1)) →
(Wn x9 (ln (qd a1))) ∧
(((ix (qd a1) x9).Kind = 3 →
(I64 (x9 + 1)) ∧
((smB a1 ∧ qn a1 ∧ (0 : Int) ≤ x6 ∧ (x6 : Int) ≤ 1000000000000)) ∧
(I64 ((x9 + 1) - 1)) ∧
((smB a1 ∧ qn a1 ∧ (0 : Int) ≤ ((x9 + 1) - 1) ∧ (((x9 + 1) - 1) : Int) ≤ 1000000000000)) ∧
(((zj a1 x6) ≠ (zj a1 ((x9 + 1) - 1)) →
((smB a1 ∧ qn a1 ∧ (0 : Int) ≤ x6 ∧ (x6 : Int) ≤ 1000000000000)) ∧
((6 : Int) = ((za a0 a1).1)) ∧
(((zj a1 x6) : Int) = ((za a0 a1).2)) ∧
 True)) ∧
((zj a1 x6) = (zj a1 ((x9 + 1) - 1)) →
(qc0 a1 x1 a0 (
(zc a0 a1 (x9 + 1)) ∧
 ql a0 a1 (x9 + 1) < ql a0 a1 x6))))) ∧
((ix (qd a1) x9).Kind ≠ 3 →
((smB a1 ∧ qn a1 ∧ (0 : Int) ≤ x6 ∧ (x6 : Int) ≤ 1000000000000)) ∧
(I64 (x9 - 1)) ∧
((smB a1 ∧ qn a1 ∧ (0 : Int) ≤ (x9 - 1) ∧ ((x9 - 1) : Int) ≤ 1000000000000)) ∧
(((zj a1 x6) ≠ (zj a1 (x9 - 1)) →
((smB a1 ∧ qn a1 ∧ (0 : Int) ≤ x6 ∧ (x6 : Int) ≤ 1000000000000)) ∧
((6 : Int) = ((za a0 a1).1)) ∧
(((zj a1 x6) : Int) = ((za a0 a1).2)) ∧
 True)) ∧
((zj a1 x6) = (zj a1 (x9 - 1)) →
(qc0 a1 x1 a0 (
(zc a0 a1 x9) ∧
 ql a0 a1 x9 < ql a0 a1 x6)))))) ∧
((ln (qd a1)) ≤ x9 →
((smB a1 ∧ qn a1 ∧ (0 : Int) ≤ x6 ∧ (x6 : Int) ≤ 1000000000000)) ∧
(I64 (x9 - 1)) ∧
((smB a1 ∧ qn a1 ∧ (0 : Int) ≤ (x9 - 1) ∧ ((x9 - 1) : Int) ≤ 1000000000000)) ∧
(((zj a1 x6) ≠ (zj a1 (x9 - 1)) →
((smB a1 ∧ qn a1 ∧ (0 : Int) ≤ x6 ∧ (x6 : Int) ≤ 1000000000000)) ∧
((6 : Int) = ((za a0 a1).1)) ∧
(((zj a1 x6) : Int) = ((za a0 a1).2)) ∧
 True)) ∧
((zj a1 x6) = (zj a1 (x9 - 1)) →
(qc0 a1 x1 a0 (
(zc a0 a1 x9) ∧
 ql a0 a1 x9 < ql a0 a1 x6))))))) ∧
((ix (qd a1) (x9 - 1)).Kind ≠ 4 →
((x9 < (ln (qd a1)) →
(Wn x9 (ln (qd a1))) ∧
(((ix (qd a1) x9).Kind = 3 →
(I64 (x9 + 1)) ∧
((smB a1 ∧ qn a1 ∧ (0 : Int) ≤ x6 ∧ (x6 : Int) ≤ 1000000000000)) ∧
(I64 ((x9 + 1) - 1)) ∧
((smB a1 ∧ qn a1 ∧ (0 : Int) ≤ ((x9 + 1) - 1) ∧ (((x9 + 1) - 1) : Int) ≤ 1000000000000)) ∧
(((zj a1 x6) ≠ (zj a1 ((x9 + 1) - 1)) →
((smB a1 ∧ qn a1 ∧ (0 : Int) ≤ x6 ∧ (x6 : Int) ≤ 1000000000000)) ∧
((6 : Int) = ((za a0 a1).1)) ∧
(((zj a1 x6) : Int) = ((za a0 a1).2)) ∧
 True)) ∧
((zj a1 x6) = (zj a1 ((x9 + 1) - 1)) →
(qc0 a1 x1 a0 (
(zc a0 a1 (x9 + 1)) ∧
 ql a0 a1 (x9 + 1) < ql a0 a1 x6))))) ∧
((ix (qd a1) x9).Kind ≠ 3 →
((smB a1 ∧ qn a1 ∧ (0 : Int) ≤ x6 ∧ (x6 : Int) ≤ 1000000000000)) ∧
(I64 (x9 - 1)) ∧
((smB a1 ∧ qn a1 ∧ (0 : Int) ≤ (x9 - 1) ∧ ((x9 - 1) : Int) ≤ 1000000000000)) ∧
(((zj a1 x6) ≠ (zj a1 (x9 - 1)) →
((smB a1 ∧ qn a1 ∧ (0 : Int) ≤ x6 ∧ (x6 : Int) ≤ 1000000000000)) ∧
((6 : Int) = ((za a0 a1).1)) ∧
(((zj a1 x6) : Int) = ((za a0 a1).2)) ∧
 True)) ∧
((zj a1 x6) = (zj a1 (x9 - 1)) →
(qc0 a1 x1 a0 (
(zc a0 a1 x9) ∧
 ql a0 a1 x9 < ql a0 a1 x6)))))) ∧
((ln (qd a1)) ≤ x9 →
((smB a1 ∧ qn a1 ∧ (0 : Int) ≤ x6 ∧ (x6 : Int) ≤ 1000000000000)) ∧
(I64 (x9 - 1)) ∧
((smB a1 ∧ qn a1 ∧ (0 : Int) ≤ (x9 - 1) ∧ ((x9 - 1) : Int) ≤ 1000000000000)) ∧
(((zj a1 x6) ≠ (zj a1 (x9 - 1)) →
((smB a1 ∧ qn a1 ∧ (0 : Int) ≤ x6 ∧ (x6 : Int) ≤ 1000000000000)) ∧
((6 : Int) = ((za a0 a1).1)) ∧
(((zj a1 x6) : Int) = ((za a0 a1).2)) ∧
 True)) ∧
((zj a1 x6) = (zj a1 (x9 - 1)) →
(qc0 a1 x1 a0 (
(zc a0 a1 x9) ∧
 ql a0 a1 x9 < ql a0 a1 x6))))))))) ∧
((ln (qd a1)) ≤ x6 →
((smB a1)) ∧
(kv a0 a1 0 0) ∧
(∀ x9 : Int,
(∀ x10 : Int,
(kv a0 a1 x9 x10 →
((x10 < (ln (qc a1)) →
(Wn x10 (ln (qc a1))) ∧
(I64 ((ln (ix (qc a1) x10).Signs) - (ix (qc a1) x10).Lead)) ∧
(I64 (x9 + ((ln (ix (qc a1) x10).Signs) - (ix (qc a1) x10).Lead))) ∧
((0 : Int) ≤ (x9 + ((ln (ix (qc a1) x10).Signs) - (ix (qc a1) x10).Lead)) ∧ (x9 + ((ln (ix (qc a1) x10).Signs) - (ix (qc a1) x10).Lead)) ≤ ln (qd a1)) ∧
((ln (fr (qd a1) (x9 + ((ln (ix (qc a1) x10).Signs) - (ix (qc a1) x10).Lead))) ≤ 1000000000)) ∧
(((ix (qc a1) x10).Catch ≠ ((zo (fr (qd a1) (x9 + ((ln (ix (qc a1) x10).Signs) - (ix (qc a1) x10).Lead)))).1) →
((3 : Int) = ((za a0 a1).1)) ∧
((x10 : Int) = ((za a0 a1).2)) ∧
 True)) ∧
((ix (qc a1) x10).Catch = ((zo (fr (qd a1) (x9 + ((ln (ix (qc a1) x10).Signs) - (ix (qc a1) x10).Lead)))).1) →
(((ix (qc a1) x10).Custos ≠ ((zo (fr (qd a1) (x9 + ((ln (ix (qc a1) x10).Signs) - (ix (qc a1) x10).Lead)))).2) →
((3 : Int) = ((za a0 a1).1)) ∧
((x10 : Int) = ((za a0 a1).2)) ∧
 True)) ∧
((ix (qc a1) x10).Custos = ((zo (fr (qd a1) (x9 + ((ln (ix (qc a1) x10).Signs) - (ix (qc a1) x10).Lead)))).2) →
(I64 (x10 + 1)) ∧
(qc0 a1 x1 a0 (
(kv a0 a1 (x9 + ((ln (ix (qc a1) x10).Signs) - (ix (qc a1) x10).Lead)) (x10 + 1)) ∧
 qc8 a0 a1 (x9 + ((ln (ix (qc a1) x10).Signs) - (ix (qc a1) x10).Lead)) (x10 + 1) < qc8 a0 a1 x9 x10)))))) ∧
((ln (qc a1)) ≤ x10 →
((0 : Int) = ((za a0 a1).1)) ∧
((0 : Int) = ((za a0 a1).2)) ∧
 True)))))))))) ∧
((ix (qd a1) x1).Kind ≠ 11 →
(I64 (x1 + 1)) ∧
((a0) = (a0)) ∧
((qd a1) = (qd a1)) ∧
((0 : Int) = 0) ∧
((0 : Int) = 0) ∧
(a0 = a0) ∧
(a1 = a1) ∧
(jt a0 a1 (x1 + 1)) ∧
 qgg a0 a1 (x1 + 1) < qgg a0 a1 x1))) ∧
((ln (qd a1)) ≤ x1 →
(zc a0 a1 0) ∧
(∀ x4 : Int,
(zc a0 a1 x4 →
((x4 < (ln (qd a1)) →
(I64 (x4 + 1)) ∧
(jg a0 a1 (x4 + 1) x4) ∧
(∀ x7 : Int,
(jg a0 a1 x7 x4 →
(I64 (x7 - 1)) ∧
(Wn (x7 - 1) (ln (qd a1))) ∧
(((ix (qd a1) (x7 - 1)).Kind = 4 →
(I64 (x7 - 1)) ∧
(Wn (x7 - 1) (ln (qd a1))) ∧
(((ix (qd a1) (x7 - 1)).Last = false →
((x7 < (ln (qd a1)) →
(I64 (x7 + 1)) ∧
(qc1 a1 a0 (
(jg a0 a1 (x7 + 1) x4) ∧
 qc7 a0 a1 (x7 + 1) x4 < qc7 a0 a1 x7 x4)))) ∧
((ln (qd a1)) ≤ x7 →
((x7 < (ln (qd a1)) →
(Wn x7 (ln (qd a1))) ∧
(((ix (qd a1) x7).Kind = 3 →
(I64 (x7 + 1)) ∧
((smB a1 ∧ qn a1 ∧ (0 : Int) ≤ x4 ∧ (x4 : Int) ≤ 1000000000000)) ∧
(I64 ((x7 + 1) - 1)) ∧
((smB a1 ∧ qn a1 ∧ (0 : Int) ≤ ((x7 + 1) - 1) ∧ (((x7 + 1) - 1) : Int) ≤ 1000000000000)) ∧
(((zj a1 x4) ≠ (zj a1 ((x7 + 1) - 1)) →
((smB a1 ∧ qn a1 ∧ (0 : Int) ≤ x4 ∧ (x4 : Int) ≤ 1000000000000)) ∧
((6 : Int) = ((za a0 a1).1)) ∧
(((zj a1 x4) : Int) = ((za a0 a1).2)) ∧
 True)) ∧
((zj a1 x4) = (zj a1 ((x7 + 1) - 1)) →
(qc1 a1 a0 (
(zc a0 a1 (x7 + 1)) ∧
 ql a0 a1 (x7 + 1) < ql a0 a1 x4))))) ∧
((ix (qd a1) x7).Kind ≠ 3 →
((smB a1 ∧ qn a1 ∧ (0 : Int) ≤ x4 ∧ (x4 : Int) ≤ 1000000000000)) ∧
(I64 (x7 - 1)) ∧
((smB a1 ∧ qn a1 ∧ (0 : Int) ≤ (x7 - 1) ∧ ((x7 - 1) : Int) ≤ 1000000000000)) ∧
(((zj a1 x4) ≠ (zj a1 (x7 - 1)) →
((smB a1 ∧ qn a1 ∧ (0 : Int) ≤ x4 ∧ (x4 : Int) ≤ 1000000000000)) ∧
((6 : Int) = ((za a0 a1).1)) ∧
(((zj a1 x4) : Int) = ((za a0 a1).2)) ∧
 True)) ∧
((zj a1 x4) = (zj a1 (x7 - 1)) →
(qc1 a1 a0 (
(zc a0 a1 x7) ∧
 ql a0 a1 x7 < ql a0 a1 x4)))))) ∧
((ln (qd a1)) ≤ x7 →
((smB a1 ∧ qn a1 ∧ (0 : Int) ≤ x4 ∧ (x4 : Int) ≤ 1000000000000)) ∧
(I64 (x7 - 1)) ∧
((smB a1 ∧ qn a1 ∧ (0 : Int) ≤ (x7 - 1) ∧ ((x7 - 1) : Int) ≤ 1000000000000)) ∧
(((zj a1 x4) ≠ (zj a1 (x7 - 1)) →
((smB a1 ∧ qn a1 ∧ (0 : Int) ≤ x4 ∧ (x4 : Int) ≤ 1000000000000)) ∧
((6 : Int) = ((za a0 a1).1)) ∧
(((zj a1 x4) : Int) = ((za a0 a1).2)) ∧
 True)) ∧
((zj a1 x4) = (zj a1 (x7 - 1)) →
(qc1 a1 a0 (
(zc a0 a1 x7) ∧
 ql a0 a1 x7 < ql a0 a1 x4))))))) ∧
((ix (qd a1) (x7 - 1)).Last = true →
((x7 < (ln (qd a1)) →
(Wn x7 (ln (qd a1))) ∧
(((ix (qd a1) x7).Kind = 3 →
(I64 (x7 + 1)) ∧
((smB a1 ∧ qn a1 ∧ (0 : Int) ≤ x4 ∧ (x4 : Int) ≤ 1000000000000)) ∧
(I64 ((x7 + 1) - 1)) ∧
((smB a1 ∧ qn a1 ∧ (0 : Int) ≤ ((x7 + 1) - 1) ∧ (((x7 + 1) - 1) : Int) ≤ 1000000000000)) ∧
(((zj a1 x4) ≠ (zj a1 ((x7 + 1) - 1)) →
((smB a1 ∧ qn a1 ∧ (0 : Int) ≤ x4 ∧ (x4 : Int) ≤ 1000000000000)) ∧
((6 : Int) = ((za a0 a1).1)) ∧
(((zj a1 x4) : Int) = ((za a0 a1).2)) ∧
 True)) ∧
((zj a1 x4) = (zj a1 ((x7 + 1) - 1)) →
(qc1 a1 a0 (
(zc a0 a1 (x7 + 1)) ∧
 ql a0 a1 (x7 + 1) < ql a0 a1 x4))))) ∧
((ix (qd a1) x7).Kind ≠ 3 →
((smB a1 ∧ qn a1 ∧ (0 : Int) ≤ x4 ∧ (x4 : Int) ≤ 1000000000000)) ∧
(I64 (x7 - 1)) ∧
((smB a1 ∧ qn a1 ∧ (0 : Int) ≤ (x7 - 1) ∧ ((x7 - 1) : Int) ≤ 1000000000000)) ∧
(((zj a1 x4) ≠ (zj a1 (x7 - 1)) →
((smB a1 ∧ qn a1 ∧ (0 : Int) ≤ x4 ∧ (x4 : Int) ≤ 1000000000000)) ∧
((6 : Int) = ((za a0 a1).1)) ∧
(((zj a1 x4) : Int) = ((za a0 a1).2)) ∧
 True)) ∧
((zj a1 x4) = (zj a1 (x7 - 1)) →
(qc1 a1 a0 (
(zc a0 a1 x7) ∧
 ql a0 a1 x7 < ql a0 a1 x4)))))) ∧
((ln (qd a1)) ≤ x7 →
((smB a1 ∧ qn a1 ∧ (0 : Int) ≤ x4 ∧ (x4 : Int) ≤ 1000000000000)) ∧
(I64 (x7 - 1)) ∧
((smB a1 ∧ qn a1 ∧ (0 : Int) ≤ (x7 - 1) ∧ ((x7 - 1) : Int) ≤ 1000000000000)) ∧
(((zj a1 x4) ≠ (zj a1 (x7 - 1)) →
((smB a1 ∧ qn a1 ∧ (0 : Int) ≤ x4 ∧ (x4 : Int) ≤ 1000000000000)) ∧
((6 : Int) = ((za a0 a1).1)) ∧
(((zj a1 x4) : Int) = ((za a0 a1).2)) ∧
 True)) ∧
((zj a1 x4) = (zj a1 (x7 - 1)) →
(qc1 a1 a0 (
(zc a0 a1 x7) ∧
 ql a0 a1 x7 < ql a0 a1 x4))))))) ∧
((ix (qd a1) (x7 - 1)).Kind ≠ 4 →
((x7 < (ln (qd a1)) →
(Wn x7 (ln (qd a1))) ∧
(((ix (qd a1) x7).Kind = 3 →
(I64 (x7 + 1)) ∧
((smB a1 ∧ qn a1 ∧ (0 : Int) ≤ x4 ∧ (x4 : Int) ≤ 1000000000000)) ∧
(I64 ((x7 + 1) - 1)) ∧
((smB a1 ∧ qn a1 ∧ (0 : Int) ≤ ((x7 + 1) - 1) ∧ (((x7 + 1) - 1) : Int) ≤ 1000000000000)) ∧
(((zj a1 x4) ≠ (zj a1 ((x7 + 1) - 1)) →
((smB a1 ∧ qn a1 ∧ (0 : Int) ≤ x4 ∧ (x4 : Int) ≤ 1000000000000)) ∧
((6 : Int) = ((za a0 a1).1)) ∧
(((zj a1 x4) : Int) = ((za a0 a1).2)) ∧
 True)) ∧
((zj a1 x4) = (zj a1 ((x7 + 1) - 1)) →
(qc1 a1 a0 (
(zc a0 a1 (x7 + 1)) ∧
 ql a0 a1 (x7 + 1) < ql a0 a1 x4))))) ∧
((ix (qd a1) x7).Kind ≠ 3 →
((smB a1 ∧ qn a1 ∧ (0 : Int) ≤ x4 ∧ (x4 : Int) ≤ 1000000000000)) ∧
(I64 (x7 - 1)) ∧
((smB a1 ∧ qn a1 ∧ (0 : Int) ≤ (x7 - 1) ∧ ((x7 - 1) : Int) ≤ 1000000000000)) ∧
(((zj a1 x4) ≠ (zj a1 (x7 - 1)) →
((smB a1 ∧ qn a1 ∧ (0 : Int) ≤ x4 ∧ (x4 : Int) ≤ 1000000000000)) ∧
((6 : Int) = ((za a0 a1).1)) ∧
(((zj a1 x4) : Int) = ((za a0 a1).2)) ∧
 True)) ∧
((zj a1 x4) = (zj a1 (x7 - 1)) →
(qc1 a1 a0 (
(zc a0 a1 x7) ∧
 ql a0 a1 x7 < ql a0 a1 x4)))))) ∧
((ln (qd a1)) ≤ x7 →
((smB a1 ∧ qn a1 ∧ (0 : Int) ≤ x4 ∧ (x4 : Int) ≤ 1000000000000)) ∧
(I64 (x7 - 1)) ∧
((smB a1 ∧ qn a1 ∧ (0 : Int) ≤ (x7 - 1) ∧ ((x7 - 1) : Int) ≤ 1000000000000)) ∧
(((zj a1 x4) ≠ (zj a1 (x7 - 1)) →
((smB a1 ∧ qn a1 ∧ (0 : Int) ≤ x4 ∧ (x4 : Int) ≤ 1000000000000)) ∧
((6 : Int) = ((za a0 a1).1)) ∧
(((zj a1 x4) : Int) = ((za a0 a1).2)) ∧
 True)) ∧
((zj a1 x4) = (zj a1 (x7 - 1)) →
(qc1 a1 a0 (
(zc a0 a1 x7) ∧
 ql a0 a1 x7 < ql a0 a1 x4))))))))) ∧
((ln (qd a1)) ≤ x4 →
((smB a1)) ∧
(kv a0 a1 0 0) ∧
(∀ x7 : Int,
(∀ x8 : Int,
(kv a0 a1 x7 x8 →
((x8 < (ln (qc a1)) →
(Wn x8 (ln (qc a1))) ∧
(I64 ((ln (ix (qc a1) x8).Signs) - (ix (qc a1) x8).Lead)) ∧
(I64 (x7 + ((ln (ix (qc a1) x8).Signs) - (ix (qc a1) x8).Lead))) ∧
((0 : Int) ≤ (x7 + ((ln (ix (qc a1) x8).Signs) - (ix (qc a1) x8).Lead)) ∧ (x7 + ((ln (ix (qc a1) x8).Signs) - (ix (qc a1) x8).Lead)) ≤ ln (qd a1)) ∧
((ln (fr (qd a1) (x7 + ((ln (ix (qc a1) x8).Signs) - (ix (qc a1) x8).Lead))) ≤ 1000000000)) ∧
(((ix (qc a1) x8).Catch ≠ ((zo (fr (qd a1) (x7 + ((ln (ix (qc a1) x8).Signs) - (ix (qc a1) x8).Lead)))).1) →
((3 : Int) = ((za a0 a1).1)) ∧
((x8 : Int) = ((za a0 a1).2)) ∧
 True)) ∧
((ix (qc a1) x8).Catch = ((zo (fr (qd a1) (x7 + ((ln (ix (qc a1) x8).Signs) - (ix (qc a1) x8).Lead)))).1) →
(((ix (qc a1) x8).Custos ≠ ((zo (fr (qd a1) (x7 + ((ln (ix (qc a1) x8).Signs) - (ix (qc a1) x8).Lead)))).2) →
((3 : Int) = ((za a0 a1).1)) ∧
((x8 : Int) = ((za a0 a1).2)) ∧
 True)) ∧
((ix (qc a1) x8).Custos = ((zo (fr (qd a1) (x7 + ((ln (ix (qc a1) x8).Signs) - (ix (qc a1) x8).Lead)))).2) →
(I64 (x8 + 1)) ∧
(qc1 a1 a0 (
(kv a0 a1 (x7 + ((ln (ix (qc a1) x8).Signs) - (ix (qc a1) x8).Lead)) (x8 + 1)) ∧
 qc8 a0 a1 (x7 + ((ln (ix (qc a1) x8).Signs) - (ix (qc a1) x8).Lead)) (x8 + 1) < qc8 a0 a1 x7 x8)))))) ∧
((ln (qc a1)) ≤ x8 →
((0 : Int) = ((za a0 a1).1)) ∧
((0 : Int) = ((za a0 a1).2)) ∧
 True)))))))))))
theorem q8j (a0 : List UInt8) (a1 : List Page) : qb3 (qu XK (qax q4t) (fun j ns => match j, ns with | 0, [.i y0] => jt a0 a1 y0 | 1, [.i y0] => zc a0 a1 y0 | 2, [.i y0, .i y1] => jg a0 a1 y0 y1 | 3, [.i y0, .i y1] => kv a0 a1 y0 y1 | _, _ => False) (fun j ns => match j, ns with | 0, [.i y0] => qgg a0 a1 y0 | 1, [.i y0] => ql a0 a1 y0 | 2, [.i y0, .i y1] => qc7 a0 a1 y0 y1 | 3, [.i y0, .i y1] => qc8 a0 a1 y0 y1 | _, _ => 0)) { cfg sp with ann := qbu [(61, 26, .inv 0 [.one 8 (.int .i64)] []), (82, 6, .inv 1 [.one 3 (.int .i64)] []), (82, 404, .inv 2 [.one 4 (.int .i64)] [.one 3 (.int .i64)]), (51, 1018, .inv 3 [.one 10 (.int .i64), .one 55 (.int .i64)] [])] } 6 51 [.agg [.str (a0), .list 8 (a1) none]] (qve a0 a1) = qs6 a0 a1 := by kernel_rfl
def qzh : List (Nat × Ct KT) := [(49, q9e), (50, zb8), (40, q9b), (51, zb9)]
abbrev qqp (a0 : List UInt8) (a1 : List Page) : PV KT := .tuple [.int .i64 none (((jb a0 a1).1)), .int .i64 none (((jb a0 a1).2))]
abbrev qnz (a0 : List UInt8) (a1 : List Page) : Prop :=
((ln a0 ≤ 9223372036854775806)) ∧
(((ju a0) = false →
((7 : Int) = ((jb a0 a1).1)) ∧
((0 : Int) = ((jb a0 a1).2)) ∧
 True)) ∧
((ju a0) = true →
(kc a0 a1 0 false 0 ([] : List Sign) ([] : List Sign)) ∧
(∀ x1 : Int,
(∀ x2 : Bool,
(∀ x3 : Int,
(∀ x4 : List Sign,
(∀ x5 : List Sign,
(kc a0 a1 x1 x2 x3 x4 x5 →
((x3 < (ln a1) →
(Wn x3 (ln a1)) ∧
(((ln (ix a1 x3).Staves) = 0 →
(I64 (x3 + 1)) ∧
(a0 = a0) ∧
(a1 = a1) ∧
(kc a0 a1 x1 true (x3 + 1) x4 x5) ∧
 qbe a0 a1 x1 true (x3 + 1) x4 x5 < qbe a0 a1 x1 x2 x3 x4 x5)) ∧
((ln (ix a1 x3).Staves) ≠ 0 →
(k7 a0 a1 x1 0 x4 x5 x2 x3) ∧
(∀ x9 : Int,
(∀ x10 : Int,
(∀ x11 : List Sign,
(∀ x12 : List Sign,
(k7 a0 a1 x9 x10 x11 x12 x2 x3 →
((x10 < (ln (ix a1 x3).Staves) →
(Wn x10 (ln (ix a1 x3).Staves)) ∧
((12 ≤ x10 →
((11 : Int) = ((jb a0 a1).1)) ∧
((x9 : Int) = ((jb a0 a1).2)) ∧
 True)) ∧
(x10 < 12 →
((ln (ix (ix a1 x3).Staves x10).Signs ≤ 500 ∧ ln x11 ≤ 1 ∧ ln x12 ≤ 1)) ∧
(((kp (ix (ix a1 x3).Staves x10) x11 x12) ≠ 0 →
(((kp (ix (ix a1 x3).Staves x10) x11 x12) : Int) = ((jb a0 a1).1)) ∧
((x9 : Int) = ((jb a0 a1).2)) ∧
 True)) ∧
((kp (ix (ix a1 x3).Staves x10) x11 x12) = 0 →
((0 : Int) ≤ (ix (ix a1 x3).Staves x10).Lead ∧ (ix (ix a1 x3).Staves x10).Lead ≤ ln (ix (ix a1 x3).Staves x10).Signs) ∧
(j4 a0 a1 0 x11 x12 x9 x2 x3 x10) ∧
(∀ x17 : Int,
(∀ x18 : List Sign,
(∀ x19 : List Sign,
(j4 a0 a1 x17 x18 x19 x9 x2 x3 x10 →
((x17 < (ln (fr (ix (ix a1 x3).Staves x10).Signs (ix (ix a1 x3).Staves x10).Lead)) →
(Wn x17 (ln (fr (ix (ix a1 x3).Staves x10).Signs (ix (ix a1 x3).Staves x10).Lead))) ∧
(True) ∧
(I64 (x17 + 1)) ∧
((ix (ix a1 x3).Staves x10).Signs = (ix (ix a1 x3).Staves x10).Signs) ∧
(((ix (ix a1 x3).Staves x10).Lead : Int) = (ix (ix a1 x3).Staves x10).Lead) ∧
((ix (ix a1 x3).Staves x10).Catch = (ix (ix a1 x3).Staves x10).Catch) ∧
(((ix (ix a1 x3).Staves x10).Custos : Int) = (ix (ix a1 x3).Staves x10).Custos) ∧
((ix a1 x3).Staves = (ix a1 x3).Staves) ∧
(a0 = a0) ∧
(a1 = a1) ∧
(j4 a0 a1 (x17 + 1) ((kh x18 x19 (ix (fr (ix (ix a1 x3).Staves x10).Signs (ix (ix a1 x3).Staves x10).Lead) x17)).1) ((kh x18 x19 (ix (fr (ix (ix a1 x3).Staves x10).Signs (ix (ix a1 x3).Staves x10).Lead) x17)).2) x9 x2 x3 x10) ∧
 qfd a0 a1 (x17 + 1) ((kh x18 x19 (ix (fr (ix (ix a1 x3).Staves x10).Signs (ix (ix a1 x3).Staves x10).Lead) x17)).1) ((kh x18 x19 (ix (fr (ix (ix a1 x3).Staves x10).Signs (ix (ix a1 x3).Staves x10).Lead) x17)).2) x9 x2 x3 x10 < qfd a0 a1 x17 x18 x19 x9 x2 x3 x10)) ∧
((ln (fr (ix (ix a1 x3).Staves x10).Signs (ix (ix a1 x3).Staves x10).Lead)) ≤ x17 →
(I64 (x9 + 1)) ∧
(I64 (x10 + 1)) ∧
((ix a1 x3).Staves = (ix a1 x3).Staves) ∧
(a0 = a0) ∧
(a1 = a1) ∧
(k7 a0 a1 (x9 + 1) (x10 + 1) x18 x19 x2 x3) ∧
 qfc a0 a1 (x9 + 1) (x10 + 1) x18 x19 x2 x3 < qfc a0 a1 x9 x10 x11 x12 x2 x3))))))))) ∧
((ln (ix a1 x3).Staves) ≤ x10 →
(I64 (x3 + 1)) ∧
(a0 = a0) ∧
(a1 = a1) ∧
(kc a0 a1 x9 x2 (x3 + 1) x11 x12) ∧
 qbe a0 a1 x9 x2 (x3 + 1) x11 x12 < qbe a0 a1 x1 x2 x3 x4 x5))))))))) ∧
((ln a1) ≤ x3 →
((x2 = true →
((2 : Int) = ((jb a0 a1).1)) ∧
((x1 : Int) = ((jb a0 a1).2)) ∧
 True)) ∧
(x2 = false →
((ln a0 ≤ 1000000000 ∧ smB a1 ∧ qn a1)) ∧
((((za a0 a1).1) : Int) = ((jb a0 a1).1)) ∧
((((za a0 a1).2) : Int) = ((jb a0 a1).2)) ∧
 True)))))))))
theorem q2t (a0 : List UInt8) (a1 : List Page) : qb3 (qu XK (qax qzh) (fun j ns => match j, ns with | 0, [.i y0, .b y1, .i y2, .l 4 y3, .l 4 y4] => kc a0 a1 y0 y1 y2 y3 y4 | 1, [.i y0, .i y1, .l 4 y2, .l 4 y3, .b y4, .i y5] => k7 a0 a1 y0 y1 y2 y3 y4 y5 | 2, [.i y0, .l 4 y1, .l 4 y2, .i y3, .b y4, .i y5, .i y6] => j4 a0 a1 y0 y1 y2 y3 y4 y5 y6 | _, _ => False) (fun j ns => match j, ns with | 0, [.i y0, .b y1, .i y2, .l 4 y3, .l 4 y4] => qbe a0 a1 y0 y1 y2 y3 y4 | 1, [.i y0, .i y1, .l 4 y2, .l 4 y3, .b y4, .i y5] => qfc a0 a1 y0 y1 y2 y3 y4 y5 | 2, [.i y0, .l 4 y1, .l 4 y2, .i y3, .b y4, .i y5, .i y6] => qfd a0 a1 y0 y1 y2 y3 y4 y5 y6 | _, _ => 0)) { cfg sp with ann := qbu [(16, 890, .inv 0 [.one 4 (.int .i64), .one 5 (.bool), .one 21 (.int .i64), .via 6 [.list 4 false false, .list 4 false false]] []), (16, 455886, .inv 1 [.one 4 (.int .i64), .one 32 (.int .i64), .via 6 [.list 4 false false, .list 4 false false]] [.one 5 (.bool), .one 21 (.int .i64)]), (16, 933655354, .inv 2 [.one 53 (.int .i64), .via 6 [.list 4 false false, .list 4 false false]] [.one 4 (.int .i64), .one 5 (.bool), .one 21 (.int .i64), .one 32 (.int .i64)])] } 3 16 [.agg [.str (a0), .list 8 (a1) none]] (qqp a0 a1) = qnz a0 a1 := by kernel_rfl
def qzo : List (Nat × Ct KT) := [(16, zb4)]
abbrev qqw (a0 : List UInt8) (a1 : List Page) : PV KT := .tuple [.list 1 (((zh a0 a1).1)) none, .list 3 (((zh a0 a1).2.1)) none, .int .i64 none (((zh a0 a1).2.2))]
abbrev qkr (v0 : List Page) (v1 : Int) (v2 : Int) (v3 : List UInt8) (p : Prop) : Prop :=
((ix (ix v0 v1).Staves v2).Signs = (ix (ix v0 v1).Staves v2).Signs) ∧
(((ix (ix v0 v1).Staves v2).Lead : Int) = (ix (ix v0 v1).Staves v2).Lead) ∧
((ix (ix v0 v1).Staves v2).Catch = (ix (ix v0 v1).Staves v2).Catch) ∧
(((ix (ix v0 v1).Staves v2).Custos : Int) = (ix (ix v0 v1).Staves v2).Custos) ∧
((ix v0 v1).Staves = (ix v0 v1).Staves) ∧
(v3 = v3) ∧
(v0 = v0) ∧
 p
abbrev qn3 (a0 : List UInt8) (a1 : List Page) : Prop :=
((ln a0 ≤ 1000000000 ∧ smB a1)) ∧
((((jb a0 a1).1) ≠ 0 →
(([] : List Int) = ((zh a0 a1).1)) ∧
(([] : List Bool) = ((zh a0 a1).2.1)) ∧
((((jb a0 a1).1) : Int) = ((zh a0 a1).2.2)) ∧
 True)) ∧
(((jb a0 a1).1) = 0 →
(ke a0 a1 ([] : List Int) ([] : List Bool) (-1) false 0) ∧
(∀ x1 : List Int,
(∀ x2 : List Bool,
(∀ x3 : Int,
(∀ x4 : Bool,
(∀ x5 : Int,
(ke a0 a1 x1 x2 x3 x4 x5 →
((x5 < (ln a1) →
(Wn x5 (ln a1)) ∧
(j5 a0 a1 x3 x4 0 x1 x2 x5) ∧
(∀ x8 : Int,
(∀ x9 : Bool,
(∀ x10 : Int,
(j5 a0 a1 x8 x9 x10 x1 x2 x5 →
((x10 < (ln (ix a1 x5).Staves) →
(Wn x10 (ln (ix a1 x5).Staves)) ∧
((0 : Int) ≤ (ix (ix a1 x5).Staves x10).Lead ∧ (ix (ix a1 x5).Staves x10).Lead ≤ ln (ix (ix a1 x5).Staves x10).Signs) ∧
(kf a0 a1 x8 x9 0 x1 x2 x5 x10) ∧
(∀ x13 : Int,
(∀ x14 : Bool,
(∀ x15 : Int,
(kf a0 a1 x13 x14 x15 x1 x2 x5 x10 →
((x15 < (ln (fr (ix (ix a1 x5).Staves x10).Signs (ix (ix a1 x5).Staves x10).Lead)) →
(Wn x15 (ln (fr (ix (ix a1 x5).Staves x10).Signs (ix (ix a1 x5).Staves x10).Lead))) ∧
(I64 (x13 + 1)) ∧
(((ix (fr (ix (ix a1 x5).Staves x10).Signs (ix (ix a1 x5).Staves x10).Lead) x15).Kind = 1 →
(I64 (x15 + 1)) ∧
(qkr a1 x5 x10 a0 (
(kf a0 a1 (x13 + 1) (decide ((ix (fr (ix (ix a1 x5).Staves x10).Signs (ix (ix a1 x5).Staves x10).Lead) x15).Kind = 2)) (x15 + 1) x1 x2 x5 x10) ∧
 kk a0 a1 (x13 + 1) (decide ((ix (fr (ix (ix a1 x5).Staves x10).Signs (ix (ix a1 x5).Staves x10).Lead) x15).Kind = 2)) (x15 + 1) x1 x2 x5 x10 < kk a0 a1 x13 x14 x15 x1 x2 x5 x10)))) ∧
((ix (fr (ix (ix a1 x5).Staves x10).Signs (ix (ix a1 x5).Staves x10).Lead) x15).Kind ≠ 1 →
(((ix (fr (ix (ix a1 x5).Staves x10).Signs (ix (ix a1 x5).Staves x10).Lead) x15).Kind = 4 →
(I64 (x15 + 1)) ∧
(qkr a1 x5 x10 a0 (
(kf a0 a1 (x13 + 1) (decide ((ix (fr (ix (ix a1 x5).Staves x10).Signs (ix (ix a1 x5).Staves x10).Lead) x15).Kind = 2)) (x15 + 1) x1 x2 x5 x10) ∧
 kk a0 a1 (x13 + 1) (decide ((ix (fr (ix (ix a1 x5).Staves x10).Signs (ix (ix a1 x5).Staves x10).Lead) x15).Kind = 2)) (x15 + 1) x1 x2 x5 x10 < kk a0 a1 x13 x14 x15 x1 x2 x5 x10)))) ∧
((ix (fr (ix (ix a1 x5).Staves x10).Signs (ix (ix a1 x5).Staves x10).Lead) x15).Kind ≠ 4 →
(((ix (fr (ix (ix a1 x5).Staves x10).Signs (ix (ix a1 x5).Staves x10).Lead) x15).Kind = 2 →
(I64 (x15 + 1)) ∧
(qkr a1 x5 x10 a0 (
(kf a0 a1 (x13 + 1) (decide ((ix (fr (ix (ix a1 x5).Staves x10).Signs (ix (ix a1 x5).Staves x10).Lead) x15).Kind = 2)) (x15 + 1) x1 x2 x5 x10) ∧
 kk a0 a1 (x13 + 1) (decide ((ix (fr (ix (ix a1 x5).Staves x10).Signs (ix (ix a1 x5).Staves x10).Lead) x15).Kind = 2)) (x15 + 1) x1 x2 x5 x10 < kk a0 a1 x13 x14 x15 x1 x2 x5 x10)))) ∧
((ix (fr (ix (ix a1 x5).Staves x10).Signs (ix (ix a1 x5).Staves x10).Lead) x15).Kind ≠ 2 →
(I64 (x15 + 1)) ∧
(qkr a1 x5 x10 a0 (
(kf a0 a1 (x13 + 1) x14 (x15 + 1) x1 x2 x5 x10) ∧
 kk a0 a1 (x13 + 1) x14 (x15 + 1) x1 x2 x5 x10 < kk a0 a1 x13 x14 x15 x1 x2 x5 x10))))))) ∧
((ln (fr (ix (ix a1 x5).Staves x10).Signs (ix (ix a1 x5).Staves x10).Lead)) ≤ x15 →
(I64 (x10 + 1)) ∧
((ix a1 x5).Staves = (ix a1 x5).Staves) ∧
(a0 = a0) ∧
(a1 = a1) ∧
(j5 a0 a1 x13 x14 (x10 + 1) x1 x2 x5) ∧
 qfe a0 a1 x13 x14 (x10 + 1) x1 x2 x5 < qfe a0 a1 x8 x9 x10 x1 x2 x5))))))) ∧
((ln (ix a1 x5).Staves) ≤ x10 →
(I64 (x5 + 1)) ∧
(((x5 + 1) < (ln a1) →
(True) ∧
(ka (List.length x1 + List.length ([x8] : List Int))) ∧
(True) ∧
(ka (List.length x2 + List.length [x9])) ∧
(I64 (x5 + 1)) ∧
(a0 = a0) ∧
(a1 = a1) ∧
(ke a0 a1 (x1 ++ ([x8] : List Int)) (x2 ++ [x9]) x8 x9 (x5 + 1)) ∧
 qbf a0 a1 (x1 ++ ([x8] : List Int)) (x2 ++ [x9]) x8 x9 (x5 + 1) < qbf a0 a1 x1 x2 x3 x4 x5)) ∧
((ln a1) ≤ (x5 + 1) →
(I64 (x5 + 1)) ∧
(a0 = a0) ∧
(a1 = a1) ∧
(ke a0 a1 x1 x2 x8 x9 (x5 + 1)) ∧
 qbf a0 a1 x1 x2 x8 x9 (x5 + 1) < qbf a0 a1 x1 x2 x3 x4 x5)))))))) ∧
((ln a1) ≤ x5 →
(x1 = ((zh a0 a1).1)) ∧
(x2 = ((zh a0 a1).2.1)) ∧
((0 : Int) = ((zh a0 a1).2.2)) ∧
 True))))))))
theorem q23 (a0 : List UInt8) (a1 : List Page) : qb3 (qu XK (qax qzo) (fun j ns => match j, ns with | 0, [.l 1 y0, .l 3 y1, .i y2, .b y3, .i y4] => ke a0 a1 y0 y1 y2 y3 y4 | 1, [.i y0, .b y1, .i y2, .l 1 y3, .l 3 y4, .i y5] => j5 a0 a1 y0 y1 y2 y3 y4 y5 | 2, [.i y0, .b y1, .i y2, .l 1 y3, .l 3 y4, .i y5, .i y6] => kf a0 a1 y0 y1 y2 y3 y4 y5 y6 | _, _ => False) (fun j ns => match j, ns with | 0, [.l 1 y0, .l 3 y1, .i y2, .b y3, .i y4] => qbf a0 a1 y0 y1 y2 y3 y4 | 1, [.i y0, .b y1, .i y2, .l 1 y3, .l 3 y4, .i y5] => qfe a0 a1 y0 y1 y2 y3 y4 y5 | 2, [.i y0, .b y1, .i y2, .l 1 y3, .l 3 y4, .i y5, .i y6] => kk a0 a1 y0 y1 y2 y3 y4 y5 y6 | _, _ => 0)) { cfg sp with ann := qbu [(22, 506, .inv 0 [.one 7 (.list 1 true false), .one 8 (.list 3 true false), .one 9 (.int .i64), .one 10 (.bool), .one 28 (.int .i64)] []), (22, 259274, .inv 1 [.one 9 (.int .i64), .one 10 (.bool), .one 36 (.int .i64)] [.one 7 (.list 1 false false), .one 8 (.list 3 false false), .one 28 (.int .i64)]), (22, 66374246, .inv 2 [.one 9 (.int .i64), .one 10 (.bool), .one 46 (.int .i64)] [.one 7 (.list 1 false false), .one 8 (.list 3 false false), .one 28 (.int .i64), .one 36 (.int .i64)])] } 3 22 [.agg [.str (a0), .list 8 (a1) none]] (qqw a0 a1) = qn3 a0 a1 := by kernel_rfl
end Go.Proofs.YtlkfjinaiepocaaDoor
