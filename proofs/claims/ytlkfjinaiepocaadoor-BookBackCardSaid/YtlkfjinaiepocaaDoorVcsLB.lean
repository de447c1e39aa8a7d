/- THE CONDITIONS of the functions of the law BookBack, as E3 computes them. Made by program (vc.py). -/
import Derived.Test.YtlkfjinaiepocaaDoorCts
namespace Go.Proofs.YtlkfjinaiepocaaDoor
open Go Go.E2 Go.E3
set_option maxRecDepth 100000
variable {sp : Nat → Option (List V → Heap → Option (CR × Heap))}

def qx8 : List (Nat × Ct KT) := [(28, q81), (29, zb2), (30, q83), (10, zbz), (16, q8z), (18, zb1), (13, zb0)]
abbrev qo9 (a0 : List Int) (a1 : Int) (a2 : Int) : PV KT := .sb 0 false ((true)) ((true) = true) ((true) = false)
abbrev qiu (v0 : List Int) (v1 : Int) (v2 : Int) (p : Prop) : Prop :=
(((qbt ((mkB ((qm v0).1) ((qm v0).2) (16 + (qa v1 45)) (1 + (qa v2 12))).1) ((mkB ((qm v0).1) ((qm v0).2) (16 + (qa v1 45)) (1 + (qa v2 12))).2.1)).1) = ((qbt ((mkB ((qm v0).1) ((qm v0).2) (16 + (qa v1 45)) (1 + (qa v2 12))).1) ((mkB ((qm v0).1) ((qm v0).2) (16 + (qa v1 45)) (1 + (qa v2 12))).2.1)).1)) ∧
(((qbt ((mkB ((qm v0).1) ((qm v0).2) (16 + (qa v1 45)) (1 + (qa v2 12))).1) ((mkB ((qm v0).1) ((qm v0).2) (16 + (qa v1 45)) (1 + (qa v2 12))).2.1)).2.1) = ((qbt ((mkB ((qm v0).1) ((qm v0).2) (16 + (qa v1 45)) (1 + (qa v2 12))).1) ((mkB ((qm v0).1) ((qm v0).2) (16 + (qa v1 45)) (1 + (qa v2 12))).2.1)).2.1)) ∧
(((mkB ((qm v0).1) ((qm v0).2) (16 + (qa v1 45)) (1 + (qa v2 12))).1) = ((mkB ((qm v0).1) ((qm v0).2) (16 + (qa v1 45)) (1 + (qa v2 12))).1)) ∧
(((mkB ((qm v0).1) ((qm v0).2) (16 + (qa v1 45)) (1 + (qa v2 12))).2.1) = ((mkB ((qm v0).1) ((qm v0).2) (16 + (qa v1 45)) (1 + (qa v2 12))).2.1)) ∧
(((qm v0).1) = ((qm v0).1)) ∧
(((qm v0).2) = ((qm v0).2)) ∧
 p
abbrev qls (a0 : List Int) (a1 : Int) (a2 : Int) : Prop :=
(True) ∧
((80 < (ln a0) →
((true) = (true)) ∧
 True)) ∧
((ln a0) ≤ 80 →
((ln a0 ≤ 80 ∧ ∀ n ∈ a0, I64 n)) ∧
((I64 a1 ∧ (1 : Int) ≤ 45 ∧ (45 : Int) ≤ 1048576)) ∧
(I64 (16 + (qa a1 45))) ∧
((I64 a2 ∧ (1 : Int) ≤ 12 ∧ (12 : Int) ≤ 1048576)) ∧
(I64 (1 + (qa a2 12))) ∧
((ln ((qm a0).1) ≤ 1000000000 ∧ ln ((qm a0).2) ≤ 500)) ∧
((ln ((mkB ((qm a0).1) ((qm a0).2) (16 + (qa a1 45)) (1 + (qa a2 12))).1) ≤ 1000000000 ∧ smB ((mkB ((qm a0).1) ((qm a0).2) (16 + (qa a1 45)) (1 + (qa a2 12))).2.1))) ∧
((ln ((mkB ((qm a0).1) ((qm a0).2) (16 + (qa a1 45)) (1 + (qa a2 12))).1) ≤ 1000000000 ∧ smB ((mkB ((qm a0).1) ((qm a0).2) (16 + (qa a1 45)) (1 + (qa a2 12))).2.1))) ∧
((((mkB ((qm a0).1) ((qm a0).2) (16 + (qa a1 45)) (1 + (qa a2 12))).2.2) ≠ 0 →
(false = (true)) ∧
 True)) ∧
(((mkB ((qm a0).1) ((qm a0).2) (16 + (qa a1 45)) (1 + (qa a2 12))).2.2) = 0 →
((((kk ((mkB ((qm a0).1) ((qm a0).2) (16 + (qa a1 45)) (1 + (qa a2 12))).1) ((mkB ((qm a0).1) ((qm a0).2) (16 + (qa a1 45)) (1 + (qa a2 12))).2.1)).1) ≠ 0 →
(false = (true)) ∧
 True)) ∧
(((kk ((mkB ((qm a0).1) ((qm a0).2) (16 + (qa a1 45)) (1 + (qa a2 12))).1) ((mkB ((qm a0).1) ((qm a0).2) (16 + (qa a1 45)) (1 + (qa a2 12))).2.1)).1) = 0 →
((((qbt ((mkB ((qm a0).1) ((qm a0).2) (16 + (qa a1 45)) (1 + (qa a2 12))).1) ((mkB ((qm a0).1) ((qm a0).2) (16 + (qa a1 45)) (1 + (qa a2 12))).2.1)).2.2) ≠ 0 →
(false = (true)) ∧
 True)) ∧
(((qbt ((mkB ((qm a0).1) ((qm a0).2) (16 + (qa a1 45)) (1 + (qa a2 12))).1) ((mkB ((qm a0).1) ((qm a0).2) (16 + (qa a1 45)) (1 + (qa a2 12))).2.1)).2.2) = 0 →
((ln ((qm a0).2) ≤ 10000000)) ∧
(((z6 ((qm a0).1) ((qm a0).2) ((qbt ((mkB ((qm a0).1) ((qm a0).2) (16 + (qa a1 45)) (1 + (qa a2 12))).1) ((mkB ((qm a0).1) ((qm a0).2) (16 + (qa a1 45)) (1 + (qa a2 12))).2.1)).1) ((qbt ((mkB ((qm a0).1) ((qm a0).2) (16 + (qa a1 45)) (1 + (qa a2 12))).1) ((mkB ((qm a0).1) ((qm a0).2) (16 + (qa a1 45)) (1 + (qa a2 12))).2.1)).2.1)) = false →
(false = (true)) ∧
 True)) ∧
((z6 ((qm a0).1) ((qm a0).2) ((qbt ((mkB ((qm a0).1) ((qm a0).2) (16 + (qa a1 45)) (1 + (qa a2 12))).1) ((mkB ((qm a0).1) ((qm a0).2) (16 + (qa a1 45)) (1 + (qa a2 12))).2.1)).1) ((qbt ((mkB ((qm a0).1) ((qm a0).2) (16 + (qa a1 45)) (1 + (qa a2 12))).1) ((mkB ((qm a0).1) ((qm a0).2) (16 + (qa a1 45)) (1 + (qa a2 12))).2.1)).2.1)) = true →
(ka a0 a1 a2 0) ∧
(∀ x5 : Int,
(ka a0 a1 a2 x5 →
((x5 < (ln ((mkB ((qm a0).1) ((qm a0).2) (16 + (qa a1 45)) (1 + (qa a2 12))).2.1)) →
(Wn x5 (ln ((mkB ((qm a0).1) ((qm a0).2) (16 + (qa a1 45)) (1 + (qa a2 12))).2.1))) ∧
(((1 + (qa a2 12)) < (ln (ix ((mkB ((qm a0).1) ((qm a0).2) (16 + (qa a1 45)) (1 + (qa a2 12))).2.1) x5).Staves) →
(false = (true)) ∧
 True)) ∧
((ln (ix ((mkB ((qm a0).1) ((qm a0).2) (16 + (qa a1 45)) (1 + (qa a2 12))).2.1) x5).Staves) ≤ (1 + (qa a2 12)) →
(I64 (x5 + 1)) ∧
(((x5 + 1) < (ln ((mkB ((qm a0).1) ((qm a0).2) (16 + (qa a1 45)) (1 + (qa a2 12))).2.1)) →
(((ln (ix ((mkB ((qm a0).1) ((qm a0).2) (16 + (qa a1 45)) (1 + (qa a2 12))).2.1) x5).Staves) ≠ (1 + (qa a2 12)) →
(false = (true)) ∧
 True)) ∧
((ln (ix ((mkB ((qm a0).1) ((qm a0).2) (16 + (qa a1 45)) (1 + (qa a2 12))).2.1) x5).Staves) = (1 + (qa a2 12)) →
(kb a0 a1 a2 0 x5) ∧
(∀ x11 : Int,
(kb a0 a1 a2 x11 x5 →
((x11 < (ln (ix ((mkB ((qm a0).1) ((qm a0).2) (16 + (qa a1 45)) (1 + (qa a2 12))).2.1) x5).Staves) →
(Wn x11 (ln (ix ((mkB ((qm a0).1) ((qm a0).2) (16 + (qa a1 45)) (1 + (qa a2 12))).2.1) x5).Staves)) ∧
(((16 + (qa a1 45)) < (ln (ix (ix ((mkB ((qm a0).1) ((qm a0).2) (16 + (qa a1 45)) (1 + (qa a2 12))).2.1) x5).Staves x11).Signs) →
(false = (true)) ∧
 True)) ∧
((ln (ix (ix ((mkB ((qm a0).1) ((qm a0).2) (16 + (qa a1 45)) (1 + (qa a2 12))).2.1) x5).Staves x11).Signs) ≤ (16 + (qa a1 45)) →
(I64 (x11 + 1)) ∧
(qiu a0 a1 a2 (
(kb a0 a1 a2 (x11 + 1) x5) ∧
 j6 a0 a1 a2 (x11 + 1) x5 < j6 a0 a1 a2 x11 x5))))) ∧
((ln (ix ((mkB ((qm a0).1) ((qm a0).2) (16 + (qa a1 45)) (1 + (qa a2 12))).2.1) x5).Staves) ≤ x11 →
(I64 (x5 + 1)) ∧
(qiu a0 a1 a2 (
(ka a0 a1 a2 (x5 + 1)) ∧
 j5 a0 a1 a2 (x5 + 1) < j5 a0 a1 a2 x5)))))))) ∧
((ln ((mkB ((qm a0).1) ((qm a0).2) (16 + (qa a1 45)) (1 + (qa a2 12))).2.1)) ≤ (x5 + 1) →
(kb a0 a1 a2 0 x5) ∧
(∀ x10 : Int,
(kb a0 a1 a2 x10 x5 →
((x10 < (ln (ix ((mkB ((qm a0).1) ((qm a0).2) (16 + (qa a1 45)) (1 + (qa a2 12))).2.1) x5).Staves) →
(Wn x10 (ln (ix ((mkB ((qm a0).1) ((qm a0).2) (16 + (qa a1 45)) (1 + (qa a2 12))).2.1) x5).Staves)) ∧
(((16 + (qa a1 45)) < (ln (ix (ix ((mkB ((qm a0).1) ((qm a0).2) (16 + (qa a1 45)) (1 + (qa a2 12))).2.1) x5).Staves x10).Signs) →
(false = (true)) ∧
 True)) ∧
((ln (ix (ix ((mkB ((qm a0).1) ((qm a0).2) (16 + (qa a1 45)) (1 + (qa a2 12))).2.1) x5).Staves x10).Signs) ≤ (16 + (qa a1 45)) →
(I64 (x10 + 1)) ∧
(qiu a0 a1 a2 (
(kb a0 a1 a2 (x10 + 1) x5) ∧
 j6 a0 a1 a2 (x10 + 1) x5 < j6 a0 a1 a2 x10 x5))))) ∧
((ln (ix ((mkB ((qm a0).1) ((qm a0).2) (16 + (qa a1 45)) (1 + (qa a2 12))).2.1) x5).Staves) ≤ x10 →
(I64 (x5 + 1)) ∧
(qiu a0 a1 a2 (
(ka a0 a1 a2 (x5 + 1)) ∧
 j5 a0 a1 a2 (x5 + 1) < j5 a0 a1 a2 x5))))))))) ∧
((ln ((mkB ((qm a0).1) ((qm a0).2) (16 + (qa a1 45)) (1 + (qa a2 12))).2.1)) ≤ x5 →
((true) = (true)) ∧
 True))))))))
theorem qz5 (a0 : List Int) (a1 : Int) (a2 : Int) : qba (qt XK (qaj qx8) (fun j ns => match j, ns with | 0, [.i y0] => ka a0 a1 a2 y0 | 1, [.i y0, .i y1] => kb a0 a1 a2 y0 y1 | _, _ => False) (fun j ns => match j, ns with | 0, [.i y0] => j5 a0 a1 a2 y0 | 1, [.i y0, .i y1] => j6 a0 a1 a2 y0 y1 | _, _ => 0)) { cfg sp with ann := qa8 [(5, 8186, .inv 0 [.one 17 (.int .i64)] []), (5, 2095694, .inv 1 [.one 19 (.int .i64)] [.one 17 (.int .i64)])] } 3 5 [.list 1 (a0) none, .int .i64 none (a1), .int .i64 none (a2)] (qo9 a0 a1 a2) = qls a0 a1 a2 := by kernel_rfl
end Go.Proofs.YtlkfjinaiepocaaDoor
