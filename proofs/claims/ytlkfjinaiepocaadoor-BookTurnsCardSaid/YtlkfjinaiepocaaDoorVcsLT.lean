/- THE CONDITIONS of the functions of the law BookTurns, as E3 computes them. Made by program (vc.py). -/
import Derived.Test.YtlkfjinaiepocaaDoorCts
namespace Go.Proofs.YtlkfjinaiepocaaDoor
open Go Go.E2 Go.E3
set_option maxRecDepth 100000
variable {sp : Nat → Option (List V → Heap → Option (CR × Heap))}

def qv2 : List (Nat × Ct KT) := [(28, q85), (29, zb6), (30, q87), (10, zb3), (22, zb5)]
abbrev qm8 (a0 : List Int) (a1 : Int) (a2 : Int) : PV KT := .sb 0 false ((true)) ((true) = true) ((true) = false)
abbrev qbz (v0 : List Int) (v1 : Int) (v2 : Int) (v3 : Int) (p : Prop) : Prop :=
((ix (ix ((mkB ((qb v0).1) ((qb v0).2) (16 + (qa v1 8)) (1 + (qa v2 3))).2.1) v3).Staves ((ln (ix ((mkB ((qb v0).1) ((qb v0).2) (16 + (qa v1 8)) (1 + (qa v2 3))).2.1) v3).Staves) - 1)).Signs = (ix (ix ((mkB ((qb v0).1) ((qb v0).2) (16 + (qa v1 8)) (1 + (qa v2 3))).2.1) v3).Staves ((ln (ix ((mkB ((qb v0).1) ((qb v0).2) (16 + (qa v1 8)) (1 + (qa v2 3))).2.1) v3).Staves) - 1)).Signs) ∧
(((ix (ix ((mkB ((qb v0).1) ((qb v0).2) (16 + (qa v1 8)) (1 + (qa v2 3))).2.1) v3).Staves ((ln (ix ((mkB ((qb v0).1) ((qb v0).2) (16 + (qa v1 8)) (1 + (qa v2 3))).2.1) v3).Staves) - 1)).Lead : Int) = (ix (ix ((mkB ((qb v0).1) ((qb v0).2) (16 + (qa v1 8)) (1 + (qa v2 3))).2.1) v3).Staves ((ln (ix ((mkB ((qb v0).1) ((qb v0).2) (16 + (qa v1 8)) (1 + (qa v2 3))).2.1) v3).Staves) - 1)).Lead) ∧
((ix (ix ((mkB ((qb v0).1) ((qb v0).2) (16 + (qa v1 8)) (1 + (qa v2 3))).2.1) v3).Staves ((ln (ix ((mkB ((qb v0).1) ((qb v0).2) (16 + (qa v1 8)) (1 + (qa v2 3))).2.1) v3).Staves) - 1)).Catch = (ix (ix ((mkB ((qb v0).1) ((qb v0).2) (16 + (qa v1 8)) (1 + (qa v2 3))).2.1) v3).Staves ((ln (ix ((mkB ((qb v0).1) ((qb v0).2) (16 + (qa v1 8)) (1 + (qa v2 3))).2.1) v3).Staves) - 1)).Catch) ∧
(((ix (ix ((mkB ((qb v0).1) ((qb v0).2) (16 + (qa v1 8)) (1 + (qa v2 3))).2.1) v3).Staves ((ln (ix ((mkB ((qb v0).1) ((qb v0).2) (16 + (qa v1 8)) (1 + (qa v2 3))).2.1) v3).Staves) - 1)).Custos : Int) = (ix (ix ((mkB ((qb v0).1) ((qb v0).2) (16 + (qa v1 8)) (1 + (qa v2 3))).2.1) v3).Staves ((ln (ix ((mkB ((qb v0).1) ((qb v0).2) (16 + (qa v1 8)) (1 + (qa v2 3))).2.1) v3).Staves) - 1)).Custos) ∧
(((mkB ((qb v0).1) ((qb v0).2) (16 + (qa v1 8)) (1 + (qa v2 3))).1) = ((mkB ((qb v0).1) ((qb v0).2) (16 + (qa v1 8)) (1 + (qa v2 3))).1)) ∧
(((mkB ((qb v0).1) ((qb v0).2) (16 + (qa v1 8)) (1 + (qa v2 3))).2.1) = ((mkB ((qb v0).1) ((qb v0).2) (16 + (qa v1 8)) (1 + (qa v2 3))).2.1)) ∧
(((qb v0).1) = ((qb v0).1)) ∧
(((qb v0).2) = ((qb v0).2)) ∧
 p
abbrev qb0 (v0 : List Int) (v1 : Int) (v2 : Int) (p : Prop) : Prop :=
(((mkB ((qb v0).1) ((qb v0).2) (16 + (qa v1 8)) (1 + (qa v2 3))).1) = ((mkB ((qb v0).1) ((qb v0).2) (16 + (qa v1 8)) (1 + (qa v2 3))).1)) ∧
(((mkB ((qb v0).1) ((qb v0).2) (16 + (qa v1 8)) (1 + (qa v2 3))).2.1) = ((mkB ((qb v0).1) ((qb v0).2) (16 + (qa v1 8)) (1 + (qa v2 3))).2.1)) ∧
(((qb v0).1) = ((qb v0).1)) ∧
(((qb v0).2) = ((qb v0).2)) ∧
 p
abbrev qkb (a0 : List Int) (a1 : Int) (a2 : Int) : Prop :=
(True) ∧
((80 < (ln a0) →
((true) = (true)) ∧
 True)) ∧
((ln a0) ≤ 80 →
((ln a0 ≤ 80 ∧ ∀ n ∈ a0, I64 n)) ∧
((I64 a1 ∧ (1 : Int) ≤ 8 ∧ (8 : Int) ≤ 1048576)) ∧
(I64 (16 + (qa a1 8))) ∧
((I64 a2 ∧ (1 : Int) ≤ 3 ∧ (3 : Int) ≤ 1048576)) ∧
(I64 (1 + (qa a2 3))) ∧
((ln ((qb a0).1) ≤ 1000000000 ∧ ln ((qb a0).2) ≤ 500)) ∧
((ln ((mkB ((qb a0).1) ((qb a0).2) (16 + (qa a1 8)) (1 + (qa a2 3))).1) ≤ 1000000000 ∧ smB ((mkB ((qb a0).1) ((qb a0).2) (16 + (qa a1 8)) (1 + (qa a2 3))).2.1))) ∧
((((mkB ((qb a0).1) ((qb a0).2) (16 + (qa a1 8)) (1 + (qa a2 3))).2.2) ≠ 0 →
(false = (true)) ∧
 True)) ∧
(((mkB ((qb a0).1) ((qb a0).2) (16 + (qa a1 8)) (1 + (qa a2 3))).2.2) = 0 →
((((zh ((mkB ((qb a0).1) ((qb a0).2) (16 + (qa a1 8)) (1 + (qa a2 3))).1) ((mkB ((qb a0).1) ((qb a0).2) (16 + (qa a1 8)) (1 + (qa a2 3))).2.1)).2.2) ≠ 0 →
(false = (true)) ∧
 True)) ∧
(((zh ((mkB ((qb a0).1) ((qb a0).2) (16 + (qa a1 8)) (1 + (qa a2 3))).1) ((mkB ((qb a0).1) ((qb a0).2) (16 + (qa a1 8)) (1 + (qa a2 3))).2.1)).2.2) = 0 →
(((ln ((zh ((mkB ((qb a0).1) ((qb a0).2) (16 + (qa a1 8)) (1 + (qa a2 3))).1) ((mkB ((qb a0).1) ((qb a0).2) (16 + (qa a1 8)) (1 + (qa a2 3))).2.1)).1)) ≠ (ln ((zh ((mkB ((qb a0).1) ((qb a0).2) (16 + (qa a1 8)) (1 + (qa a2 3))).1) ((mkB ((qb a0).1) ((qb a0).2) (16 + (qa a1 8)) (1 + (qa a2 3))).2.1)).2.1)) →
(false = (true)) ∧
 True)) ∧
((ln ((zh ((mkB ((qb a0).1) ((qb a0).2) (16 + (qa a1 8)) (1 + (qa a2 3))).1) ((mkB ((qb a0).1) ((qb a0).2) (16 + (qa a1 8)) (1 + (qa a2 3))).2.1)).1)) = (ln ((zh ((mkB ((qb a0).1) ((qb a0).2) (16 + (qa a1 8)) (1 + (qa a2 3))).1) ((mkB ((qb a0).1) ((qb a0).2) (16 + (qa a1 8)) (1 + (qa a2 3))).2.1)).2.1)) →
((0 < (ln ((mkB ((qb a0).1) ((qb a0).2) (16 + (qa a1 8)) (1 + (qa a2 3))).2.1)) →
(I64 ((ln ((mkB ((qb a0).1) ((qb a0).2) (16 + (qa a1 8)) (1 + (qa a2 3))).2.1)) - 1)) ∧
(((ln ((zh ((mkB ((qb a0).1) ((qb a0).2) (16 + (qa a1 8)) (1 + (qa a2 3))).1) ((mkB ((qb a0).1) ((qb a0).2) (16 + (qa a1 8)) (1 + (qa a2 3))).2.1)).1)) ≠ ((ln ((mkB ((qb a0).1) ((qb a0).2) (16 + (qa a1 8)) (1 + (qa a2 3))).2.1)) - 1) →
(false = (true)) ∧
 True)) ∧
((ln ((zh ((mkB ((qb a0).1) ((qb a0).2) (16 + (qa a1 8)) (1 + (qa a2 3))).1) ((mkB ((qb a0).1) ((qb a0).2) (16 + (qa a1 8)) (1 + (qa a2 3))).2.1)).1)) = ((ln ((mkB ((qb a0).1) ((qb a0).2) (16 + (qa a1 8)) (1 + (qa a2 3))).2.1)) - 1) →
((0 < (ln ((qb a0).2)) →
(((ln ((mkB ((qb a0).1) ((qb a0).2) (16 + (qa a1 8)) (1 + (qa a2 3))).2.1)) = 0 →
(false = (true)) ∧
 True)) ∧
((ln ((mkB ((qb a0).1) ((qb a0).2) (16 + (qa a1 8)) (1 + (qa a2 3))).2.1)) ≠ 0 →
(zb a0 a1 a2 0) ∧
(∀ x8 : Int,
(zb a0 a1 a2 x8 →
((x8 < (ln ((zh ((mkB ((qb a0).1) ((qb a0).2) (16 + (qa a1 8)) (1 + (qa a2 3))).1) ((mkB ((qb a0).1) ((qb a0).2) (16 + (qa a1 8)) (1 + (qa a2 3))).2.1)).1)) →
(Wn x8 (ln ((mkB ((qb a0).1) ((qb a0).2) (16 + (qa a1 8)) (1 + (qa a2 3))).2.1))) ∧
(((ln (ix ((mkB ((qb a0).1) ((qb a0).2) (16 + (qa a1 8)) (1 + (qa a2 3))).2.1) x8).Staves) = 0 →
(false = (true)) ∧
 True)) ∧
((ln (ix ((mkB ((qb a0).1) ((qb a0).2) (16 + (qa a1 8)) (1 + (qa a2 3))).2.1) x8).Staves) ≠ 0 →
(Wn x8 (ln ((zh ((mkB ((qb a0).1) ((qb a0).2) (16 + (qa a1 8)) (1 + (qa a2 3))).1) ((mkB ((qb a0).1) ((qb a0).2) (16 + (qa a1 8)) (1 + (qa a2 3))).2.1)).1))) ∧
(((ix ((zh ((mkB ((qb a0).1) ((qb a0).2) (16 + (qa a1 8)) (1 + (qa a2 3))).1) ((mkB ((qb a0).1) ((qb a0).2) (16 + (qa a1 8)) (1 + (qa a2 3))).2.1)).1) x8) < 0 →
(false = (true)) ∧
 True)) ∧
(0 ≤ (ix ((zh ((mkB ((qb a0).1) ((qb a0).2) (16 + (qa a1 8)) (1 + (qa a2 3))).1) ((mkB ((qb a0).1) ((qb a0).2) (16 + (qa a1 8)) (1 + (qa a2 3))).2.1)).1) x8) →
(Wn x8 (ln ((zh ((mkB ((qb a0).1) ((qb a0).2) (16 + (qa a1 8)) (1 + (qa a2 3))).1) ((mkB ((qb a0).1) ((qb a0).2) (16 + (qa a1 8)) (1 + (qa a2 3))).2.1)).1))) ∧
(((ln ((qb a0).2)) ≤ (ix ((zh ((mkB ((qb a0).1) ((qb a0).2) (16 + (qa a1 8)) (1 + (qa a2 3))).1) ((mkB ((qb a0).1) ((qb a0).2) (16 + (qa a1 8)) (1 + (qa a2 3))).2.1)).1) x8) →
(false = (true)) ∧
 True)) ∧
((ix ((zh ((mkB ((qb a0).1) ((qb a0).2) (16 + (qa a1 8)) (1 + (qa a2 3))).1) ((mkB ((qb a0).1) ((qb a0).2) (16 + (qa a1 8)) (1 + (qa a2 3))).2.1)).1) x8) < (ln ((qb a0).2)) →
(I64 ((ln (ix ((mkB ((qb a0).1) ((qb a0).2) (16 + (qa a1 8)) (1 + (qa a2 3))).2.1) x8).Staves) - 1)) ∧
(Wn ((ln (ix ((mkB ((qb a0).1) ((qb a0).2) (16 + (qa a1 8)) (1 + (qa a2 3))).2.1) x8).Staves) - 1) (ln (ix ((mkB ((qb a0).1) ((qb a0).2) (16 + (qa a1 8)) (1 + (qa a2 3))).2.1) x8).Staves)) ∧
(qy a0 a1 a2 false 0 x8) ∧
(∀ x14 : Bool,
(∀ x15 : Int,
(qy a0 a1 a2 x14 x15 x8 →
((x15 < (ln (ix (ix ((mkB ((qb a0).1) ((qb a0).2) (16 + (qa a1 8)) (1 + (qa a2 3))).2.1) x8).Staves ((ln (ix ((mkB ((qb a0).1) ((qb a0).2) (16 + (qa a1 8)) (1 + (qa a2 3))).2.1) x8).Staves) - 1)).Signs) →
((x14 = true →
(I64 (x15 + 1)) ∧
(qbz a0 a1 a2 x8 (
(qy a0 a1 a2 true (x15 + 1) x8) ∧
 zg a0 a1 a2 true (x15 + 1) x8 < zg a0 a1 a2 x14 x15 x8)))) ∧
(x14 = false →
(Wn x15 (ln (ix (ix ((mkB ((qb a0).1) ((qb a0).2) (16 + (qa a1 8)) (1 + (qa a2 3))).2.1) x8).Staves ((ln (ix ((mkB ((qb a0).1) ((qb a0).2) (16 + (qa a1 8)) (1 + (qa a2 3))).2.1) x8).Staves) - 1)).Signs)) ∧
(I64 (x15 + 1)) ∧
(qbz a0 a1 a2 x8 (
(qy a0 a1 a2 (decide ((ix (ix (ix ((mkB ((qb a0).1) ((qb a0).2) (16 + (qa a1 8)) (1 + (qa a2 3))).2.1) x8).Staves ((ln (ix ((mkB ((qb a0).1) ((qb a0).2) (16 + (qa a1 8)) (1 + (qa a2 3))).2.1) x8).Staves) - 1)).Signs x15).Kind = 2)) (x15 + 1) x8) ∧
 zg a0 a1 a2 (decide ((ix (ix (ix ((mkB ((qb a0).1) ((qb a0).2) (16 + (qa a1 8)) (1 + (qa a2 3))).2.1) x8).Staves ((ln (ix ((mkB ((qb a0).1) ((qb a0).2) (16 + (qa a1 8)) (1 + (qa a2 3))).2.1) x8).Staves) - 1)).Signs x15).Kind = 2)) (x15 + 1) x8 < zg a0 a1 a2 x14 x15 x8))))) ∧
((ln (ix (ix ((mkB ((qb a0).1) ((qb a0).2) (16 + (qa a1 8)) (1 + (qa a2 3))).2.1) x8).Staves ((ln (ix ((mkB ((qb a0).1) ((qb a0).2) (16 + (qa a1 8)) (1 + (qa a2 3))).2.1) x8).Staves) - 1)).Signs) ≤ x15 →
((x14 = true →
(Wn x8 (ln ((zh ((mkB ((qb a0).1) ((qb a0).2) (16 + (qa a1 8)) (1 + (qa a2 3))).1) ((mkB ((qb a0).1) ((qb a0).2) (16 + (qa a1 8)) (1 + (qa a2 3))).2.1)).2.1))) ∧
(((ix ((zh ((mkB ((qb a0).1) ((qb a0).2) (16 + (qa a1 8)) (1 + (qa a2 3))).1) ((mkB ((qb a0).1) ((qb a0).2) (16 + (qa a1 8)) (1 + (qa a2 3))).2.1)).2.1) x8) = false →
(false = (true)) ∧
 True)) ∧
((ix ((zh ((mkB ((qb a0).1) ((qb a0).2) (16 + (qa a1 8)) (1 + (qa a2 3))).1) ((mkB ((qb a0).1) ((qb a0).2) (16 + (qa a1 8)) (1 + (qa a2 3))).2.1)).2.1) x8) = true →
(I64 (x8 + 1)) ∧
(qb0 a0 a1 a2 (
(zb a0 a1 a2 (x8 + 1)) ∧
 zf a0 a1 a2 (x8 + 1) < zf a0 a1 a2 x8))))) ∧
(x14 = false →
(I64 (x8 + 1)) ∧
(qb0 a0 a1 a2 (
(zb a0 a1 a2 (x8 + 1)) ∧
 zf a0 a1 a2 (x8 + 1) < zf a0 a1 a2 x8)))))))))))) ∧
((ln ((zh ((mkB ((qb a0).1) ((qb a0).2) (16 + (qa a1 8)) (1 + (qa a2 3))).1) ((mkB ((qb a0).1) ((qb a0).2) (16 + (qa a1 8)) (1 + (qa a2 3))).2.1)).1)) ≤ x8 →
((true) = (true)) ∧
 True)))))) ∧
((ln ((qb a0).2)) ≤ 0 →
(zb a0 a1 a2 0) ∧
(∀ x7 : Int,
(zb a0 a1 a2 x7 →
((x7 < (ln ((zh ((mkB ((qb a0).1) ((qb a0).2) (16 + (qa a1 8)) (1 + (qa a2 3))).1) ((mkB ((qb a0).1) ((qb a0).2) (16 + (qa a1 8)) (1 + (qa a2 3))).2.1)).1)) →
(Wn x7 (ln ((mkB ((qb a0).1) ((qb a0).2) (16 + (qa a1 8)) (1 + (qa a2 3))).2.1))) ∧
(((ln (ix ((mkB ((qb a0).1) ((qb a0).2) (16 + (qa a1 8)) (1 + (qa a2 3))).2.1) x7).Staves) = 0 →
(false = (true)) ∧
 True)) ∧
((ln (ix ((mkB ((qb a0).1) ((qb a0).2) (16 + (qa a1 8)) (1 + (qa a2 3))).2.1) x7).Staves) ≠ 0 →
(Wn x7 (ln ((zh ((mkB ((qb a0).1) ((qb a0).2) (16 + (qa a1 8)) (1 + (qa a2 3))).1) ((mkB ((qb a0).1) ((qb a0).2) (16 + (qa a1 8)) (1 + (qa a2 3))).2.1)).1))) ∧
(((ix ((zh ((mkB ((qb a0).1) ((qb a0).2) (16 + (qa a1 8)) (1 + (qa a2 3))).1) ((mkB ((qb a0).1) ((qb a0).2) (16 + (qa a1 8)) (1 + (qa a2 3))).2.1)).1) x7) < 0 →
(false = (true)) ∧
 True)) ∧
(0 ≤ (ix ((zh ((mkB ((qb a0).1) ((qb a0).2) (16 + (qa a1 8)) (1 + (qa a2 3))).1) ((mkB ((qb a0).1) ((qb a0).2) (16 + (qa a1 8)) (1 + (qa a2 3))).2.1)).1) x7) →
(Wn x7 (ln ((zh ((mkB ((qb a0).1) ((qb a0).2) (16 + (qa a1 8)) (1 + (qa a2 3))).1) ((mkB ((qb a0).1) ((qb a0).2) (16 + (qa a1 8)) (1 + (qa a2 3))).2.1)).1))) ∧
(((ln ((qb a0).2)) ≤ (ix ((zh ((mkB ((qb a0).1) ((qb a0).2) (16 + (qa a1 8)) (1 + (qa a2 3))).1) ((mkB ((qb a0).1) ((qb a0).2) (16 + (qa a1 8)) (1 + (qa a2 3))).2.1)).1) x7) →
(false = (true)) ∧
 True)) ∧
((ix ((zh ((mkB ((qb a0).1) ((qb a0).2) (16 + (qa a1 8)) (1 + (qa a2 3))).1) ((mkB ((qb a0).1) ((qb a0).2) (16 + (qa a1 8)) (1 + (qa a2 3))).2.1)).1) x7) < (ln ((qb a0).2)) →
(I64 ((ln (ix ((mkB ((qb a0).1) ((qb a0).2) (16 + (qa a1 8)) (1 + (qa a2 3))).2.1) x7).Staves) - 1)) ∧
(Wn ((ln (ix ((mkB ((qb a0).1) ((qb a0).2) (16 + (qa a1 8)) (1 + (qa a2 3))).2.1) x7).Staves) - 1) (ln (ix ((mkB ((qb a0).1) ((qb a0).2) (16 + (qa a1 8)) (1 + (qa a2 3))).2.1) x7).Staves)) ∧
(qy a0 a1 a2 false 0 x7) ∧
(∀ x13 : Bool,
(∀ x14 : Int,
(qy a0 a1 a2 x13 x14 x7 →
((x14 < (ln (ix (ix ((mkB ((qb a0).1) ((qb a0).2) (16 + (qa a1 8)) (1 + (qa a2 3))).2.1) x7).Staves ((ln (ix ((mkB ((qb a0).1) ((qb a0).2) (16 + (qa a1 8)) (1 + (qa a2 3))).2.1) x7).Staves) - 1)).Signs) →
((x13 = true →
(I64 (x14 + 1)) ∧
(qbz a0 a1 a2 x7 (
(qy a0 a1 a2 true (x14 + 1) x7) ∧
 zg a0 a1 a2 true (x14 + 1) x7 < zg a0 a1 a2 x13 x14 x7)))) ∧
(x13 = false →
(Wn x14 (ln (ix (ix ((mkB ((qb a0).1) ((qb a0).2) (16 + (qa a1 8)) (1 + (qa a2 3))).2.1) x7).Staves ((ln (ix ((mkB ((qb a0).1) ((qb a0).2) (16 + (qa a1 8)) (1 + (qa a2 3))).2.1) x7).Staves) - 1)).Signs)) ∧
(I64 (x14 + 1)) ∧
(qbz a0 a1 a2 x7 (
(qy a0 a1 a2 (decide ((ix (ix (ix ((mkB ((qb a0).1) ((qb a0).2) (16 + (qa a1 8)) (1 + (qa a2 3))).2.1) x7).Staves ((ln (ix ((mkB ((qb a0).1) ((qb a0).2) (16 + (qa a1 8)) (1 + (qa a2 3))).2.1) x7).Staves) - 1)).Signs x14).Kind = 2)) (x14 + 1) x7) ∧
 zg a0 a1 a2 (decide ((ix (ix (ix ((mkB ((qb a0).1) ((qb a0).2) (16 + (qa a1 8)) (1 + (qa a2 3))).2.1) x7).Staves ((ln (ix ((mkB ((qb a0).1) ((qb a0).2) (16 + (qa a1 8)) (1 + (qa a2 3))).2.1) x7).Staves) - 1)).Signs x14).Kind = 2)) (x14 + 1) x7 < zg a0 a1 a2 x13 x14 x7))))) ∧
((ln (ix (ix ((mkB ((qb a0).1) ((qb a0).2) (16 + (qa a1 8)) (1 + (qa a2 3))).2.1) x7).Staves ((ln (ix ((mkB ((qb a0).1) ((qb a0).2) (16 + (qa a1 8)) (1 + (qa a2 3))).2.1) x7).Staves) - 1)).Signs) ≤ x14 →
((x13 = true →
(Wn x7 (ln ((zh ((mkB ((qb a0).1) ((qb a0).2) (16 + (qa a1 8)) (1 + (qa a2 3))).1) ((mkB ((qb a0).1) ((qb a0).2) (16 + (qa a1 8)) (1 + (qa a2 3))).2.1)).2.1))) ∧
(((ix ((zh ((mkB ((qb a0).1) ((qb a0).2) (16 + (qa a1 8)) (1 + (qa a2 3))).1) ((mkB ((qb a0).1) ((qb a0).2) (16 + (qa a1 8)) (1 + (qa a2 3))).2.1)).2.1) x7) = false →
(false = (true)) ∧
 True)) ∧
((ix ((zh ((mkB ((qb a0).1) ((qb a0).2) (16 + (qa a1 8)) (1 + (qa a2 3))).1) ((mkB ((qb a0).1) ((qb a0).2) (16 + (qa a1 8)) (1 + (qa a2 3))).2.1)).2.1) x7) = true →
(I64 (x7 + 1)) ∧
(qb0 a0 a1 a2 (
(zb a0 a1 a2 (x7 + 1)) ∧
 zf a0 a1 a2 (x7 + 1) < zf a0 a1 a2 x7))))) ∧
(x13 = false →
(I64 (x7 + 1)) ∧
(qb0 a0 a1 a2 (
(zb a0 a1 a2 (x7 + 1)) ∧
 zf a0 a1 a2 (x7 + 1) < zf a0 a1 a2 x7)))))))))))) ∧
((ln ((zh ((mkB ((qb a0).1) ((qb a0).2) (16 + (qa a1 8)) (1 + (qa a2 3))).1) ((mkB ((qb a0).1) ((qb a0).2) (16 + (qa a1 8)) (1 + (qa a2 3))).2.1)).1)) ≤ x7 →
((true) = (true)) ∧
 True))))))) ∧
((ln ((mkB ((qb a0).1) ((qb a0).2) (16 + (qa a1 8)) (1 + (qa a2 3))).2.1)) ≤ 0 →
((0 < (ln ((qb a0).2)) →
(((ln ((mkB ((qb a0).1) ((qb a0).2) (16 + (qa a1 8)) (1 + (qa a2 3))).2.1)) = 0 →
(false = (true)) ∧
 True)) ∧
((ln ((mkB ((qb a0).1) ((qb a0).2) (16 + (qa a1 8)) (1 + (qa a2 3))).2.1)) ≠ 0 →
(zb a0 a1 a2 0) ∧
(∀ x7 : Int,
(zb a0 a1 a2 x7 →
((x7 < (ln ((zh ((mkB ((qb a0).1) ((qb a0).2) (16 + (qa a1 8)) (1 + (qa a2 3))).1) ((mkB ((qb a0).1) ((qb a0).2) (16 + (qa a1 8)) (1 + (qa a2 3))).2.1)).1)) →
(Wn x7 (ln ((mkB ((qb a0).1) ((qb a0).2) (16 + (qa a1 8)) (1 + (qa a2 3))).2.1))) ∧
(((ln (ix ((mkB ((qb a0).1) ((qb a0).2) (16 + (qa a1 8)) (1 + (qa a2 3))).2.1) x7).Staves) = 0 →
(false = (true)) ∧
 True)) ∧
((ln (ix ((mkB ((qb a0).1) ((qb a0).2) (16 + (qa a1 8)) (1 + (qa a2 3))).2.1) x7).Staves) ≠ 0 →
(Wn x7 (ln ((zh ((mkB ((qb a0).1) ((qb a0).2) (16 + (qa a1 8)) (1 + (qa a2 3))).1) ((mkB ((qb a0).1) ((qb a0).2) (16 + (qa a1 8)) (1 + (qa a2 3))).2.1)).1))) ∧
(((ix ((zh ((mkB ((qb a0).1) ((qb a0).2) (16 + (qa a1 8)) (1 + (qa a2 3))).1) ((mkB ((qb a0).1) ((qb a0).2) (16 + (qa a1 8)) (1 + (qa a2 3))).2.1)).1) x7) < 0 →
(false = (true)) ∧
 True)) ∧
(0 ≤ (ix ((zh ((mkB ((qb a0).1) ((qb a0).2) (16 + (qa a1 8)) (1 + (qa a2 3))).1) ((mkB ((qb a0).1) ((qb a0).2) (16 + (qa a1 8)) (1 + (qa a2 3))).2.1)).1) x7) →
(Wn x7 (ln ((zh ((mkB ((qb a0).1) ((qb a0).2) (16 + (qa a1 8)) (1 + (qa a2 3))).1) ((mkB ((qb a0).1) ((qb a0).2) (16 + (qa a1 8)) (1 + (qa a2 3))).2.1)).1))) ∧
(((ln ((qb a0).2)) ≤ (ix ((zh ((mkB ((qb a0).1) ((qb a0).2) (16 + (qa a1 8)) (1 + (qa a2 3))).1) ((mkB ((qb a0).1) ((qb a0).2) (16 + (qa a1 8)) (1 + (qa a2 3))).2.1)).1) x7) →
(false = (true)) ∧
 True)) ∧
((ix ((zh ((mkB ((qb a0).1) ((qb a0).2) (16 + (qa a1 8)) (1 + (qa a2 3))).1) ((mkB ((qb a0).1) ((qb a0).2) (16 + (qa a1 8)) (1 + (qa a2 3))).2.1)).1) x7) < (ln ((qb a0).2)) →
(I64 ((ln (ix ((mkB ((qb a0).1) ((qb a0).2) (16 + (qa a1 8)) (1 + (qa a2 3))).2.1) x7).Staves) - 1)) ∧
(Wn ((ln (ix ((mkB ((qb a0).1) ((qb a0).2) (16 + (qa a1 8)) (1 + (qa a2 3))).2.1) x7).Staves) - 1) (ln (ix ((mkB ((qb a0).1) ((qb a0).2) (16 + (qa a1 8)) (1 + (qa a2 3))).2.1) x7).Staves)) ∧
(qy a0 a1 a2 false 0 x7) ∧
(∀ x13 : Bool,
(∀ x14 : Int,
(qy a0 a1 a2 x13 x14 x7 →
((x14 < (ln (ix (ix ((mkB ((qb a0).1) ((qb a0).2) (16 + (qa a1 8)) (1 + (qa a2 3))).2.1) x7).Staves ((ln (ix ((mkB ((qb a0).1) ((qb a0).2) (16 + (qa a1 8)) (1 + (qa a2 3))).2.1) x7).Staves) - 1)).Signs) →
((x13 = true →
(I64 (x14 + 1)) ∧
(qbz a0 a1 a2 x7 (
(qy a0 a1 a2 true (x14 + 1) x7) ∧
 zg a0 a1 a2 true (x14 + 1) x7 < zg a0 a1 a2 x13 x14 x7)))) ∧
(x13 = false →
(Wn x14 (ln (ix (ix ((mkB ((qb a0).1) ((qb a0).2) (16 + (qa a1 8)) (1 + (qa a2 3))).2.1) x7).Staves ((ln (ix ((mkB ((qb a0).1) ((qb a0).2) (16 + (qa a1 8)) (1 + (qa a2 3))).2.1) x7).Staves) - 1)).Signs)) ∧
(I64 (x14 + 1)) ∧
(qbz a0 a1 a2 x7 (
(qy a0 a1 a2 (decide ((ix (ix (ix ((mkB ((qb a0).1) ((qb a0).2) (16 + (qa a1 8)) (1 + (qa a2 3))).2.1) x7).Staves ((ln (ix ((mkB ((qb a0).1) ((qb a0).2) (16 + (qa a1 8)) (1 + (qa a2 3))).2.1) x7).Staves) - 1)).Signs x14).Kind = 2)) (x14 + 1) x7) ∧
 zg a0 a1 a2 (decide ((ix (ix (ix ((mkB ((qb a0).1) ((qb a0).2) (16 + (qa a1 8)) (1 + (qa a2 3))).2.1) x7).Staves ((ln (ix ((mkB ((qb a0).1) ((qb a0).2) (16 + (qa a1 8)) (1 + (qa a2 3))).2.1) x7).Staves) - 1)).Signs x14).Kind = 2)) (x14 + 1) x7 < zg a0 a1 a2 x13 x14 x7))))) ∧
((ln (ix (ix ((mkB ((qb a0).1) ((qb a0).2) (16 + (qa a1 8)) (1 + (qa a2 3))).2.1) x7).Staves ((ln (ix ((mkB ((qb a0).1) ((qb a0).2) (16 + (qa a1 8)) (1 + (qa a2 3))).2.1) x7).Staves) - 1)).Signs) ≤ x14 →
((x13 = true →
(Wn x7 (ln ((zh ((mkB ((qb a0).1) ((qb a0).2) (16 + (qa a1 8)) (1 + (qa a2 3))).1) ((mkB ((qb a0).1) ((qb a0).2) (16 + (qa a1 8)) (1 + (qa a2 3))).2.1)).2.1))) ∧
(((ix ((zh ((mkB ((qb a0).1) ((qb a0).2) (16 + (qa a1 8)) (1 + (qa a2 3))).1) ((mkB ((qb a0).1) ((qb a0).2) (16 + (qa a1 8)) (1 + (qa a2 3))).2.1)).2.1) x7) = false →
(false = (true)) ∧
 True)) ∧
((ix ((zh ((mkB ((qb a0).1) ((qb a0).2) (16 + (qa a1 8)) (1 + (qa a2 3))).1) ((mkB ((qb a0).1) ((qb a0).2) (16 + (qa a1 8)) (1 + (qa a2 3))).2.1)).2.1) x7) = true →
(I64 (x7 + 1)) ∧
(qb0 a0 a1 a2 (
(zb a0 a1 a2 (x7 + 1)) ∧
 zf a0 a1 a2 (x7 + 1) < zf a0 a1 a2 x7))))) ∧
(x13 = false →
(I64 (x7 + 1)) ∧
(qb0 a0 a1 a2 (
(zb a0 a1 a2 (x7 + 1)) ∧
 zf a0 a1 a2 (x7 + 1) < zf a0 a1 a2 x7)))))))))))) ∧
((ln ((zh ((mkB ((qb a0).1) ((qb a0).2) (16 + (qa a1 8)) (1 + (qa a2 3))).1) ((mkB ((qb a0).1) ((qb a0).2) (16 + (qa a1 8)) (1 + (qa a2 3))).2.1)).1)) ≤ x7 →
((true) = (true)) ∧
 True)))))) ∧
((ln ((qb a0).2)) ≤ 0 →
(zb a0 a1 a2 0) ∧
(∀ x6 : Int,
(zb a0 a1 a2 x6 →
((x6 < (ln ((zh ((mkB ((qb a0).1) ((qb a0).2) (16 + (qa a1 8)) (1 + (qa a2 3))).1) ((mkB ((qb a0).1) ((qb a0).2) (16 + (qa a1 8)) (1 + (qa a2 3))).2.1)).1)) →
(Wn x6 (ln ((mkB ((qb a0).1) ((qb a0).2) (16 + (qa a1 8)) (1 + (qa a2 3))).2.1))) ∧
(((ln (ix ((mkB ((qb a0).1) ((qb a0).2) (16 + (qa a1 8)) (1 + (qa a2 3))).2.1) x6).Staves) = 0 →
(false = (true)) ∧
 True)) ∧
((ln (ix ((mkB ((qb a0).1) ((qb a0).2) (16 + (qa a1 8)) (1 + (qa a2 3))).2.1) x6).Staves) ≠ 0 →
(Wn x6 (ln ((zh ((mkB ((qb a0).1) ((qb a0).2) (16 + (qa a1 8)) (1 + (qa a2 3))).1) ((mkB ((qb a0).1) ((qb a0).2) (16 + (qa a1 8)) (1 + (qa a2 3))).2.1)).1))) ∧
(((ix ((zh ((mkB ((qb a0).1) ((qb a0).2) (16 + (qa a1 8)) (1 + (qa a2 3))).1) ((mkB ((qb a0).1) ((qb a0).2) (16 + (qa a1 8)) (1 + (qa a2 3))).2.1)).1) x6) < 0 →
(false = (true)) ∧
 True)) ∧
(0 ≤ (ix ((zh ((mkB ((qb a0).1) ((qb a0).2) (16 + (qa a1 8)) (1 + (qa a2 3))).1) ((mkB ((qb a0).1) ((qb a0).2) (16 + (qa a1 8)) (1 + (qa a2 3))).2.1)).1) x6) →
(Wn x6 (ln ((zh ((mkB ((qb a0).1) ((qb a0).2) (16 + (qa a1 8)) (1 + (qa a2 3))).1) ((mkB ((qb a0).1) ((qb a0).2) (16 + (qa a1 8)) (1 + (qa a2 3))).2.1)).1))) ∧
(((ln ((qb a0).2)) ≤ (ix ((zh ((mkB ((qb a0).1) ((qb a0).2) (16 + (qa a1 8)) (1 + (qa a2 3))).1) ((mkB ((qb a0).1) ((qb a0).2) (16 + (qa a1 8)) (1 + (qa a2 3))).2.1)).1) x6) →
(false = (true)) ∧
 True)) ∧
((ix ((zh ((mkB ((qb a0).1) ((qb a0).2) (16 + (qa a1 8)) (1 + (qa a2 3))).1) ((mkB ((qb a0).1) ((qb a0).2) (16 + (qa a1 8)) (1 + (qa a2 3))).2.1)).1) x6) < (ln ((qb a0).2)) →
(I64 ((ln (ix ((mkB ((qb a0).1) ((qb a0).2) (16 + (qa a1 8)) (1 + (qa a2 3))).2.1) x6).Staves) - 1)) ∧
(Wn ((ln (ix ((mkB ((qb a0).1) ((qb a0).2) (16 + (qa a1 8)) (1 + (qa a2 3))).2.1) x6).Staves) - 1) (ln (ix ((mkB ((qb a0).1) ((qb a0).2) (16 + (qa a1 8)) (1 + (qa a2 3))).2.1) x6).Staves)) ∧
(qy a0 a1 a2 false 0 x6) ∧
(∀ x12 : Bool,
(∀ x13 : Int,
(qy a0 a1 a2 x12 x13 x6 →
((x13 < (ln (ix (ix ((mkB ((qb a0).1) ((qb a0).2) (16 + (qa a1 8)) (1 + (qa a2 3))).2.1) x6).Staves ((ln (ix ((mkB ((qb a0).1) ((qb a0).2) (16 + (qa a1 8)) (1 + (qa a2 3))).2.1) x6).Staves) - 1)).Signs) →
((x12 = true →
(I64 (x13 + 1)) ∧
(qbz a0 a1 a2 x6 (
(qy a0 a1 a2 true (x13 + 1) x6) ∧
 zg a0 a1 a2 true (x13 + 1) x6 < zg a0 a1 a2 x12 x13 x6)))) ∧
(x12 = false →
(Wn x13 (ln (ix (ix ((mkB ((qb a0).1) ((qb a0).2) (16 + (qa a1 8)) (1 + (qa a2 3))).2.1) x6).Staves ((ln (ix ((mkB ((qb a0).1) ((qb a0).2) (16 + (qa a1 8)) (1 + (qa a2 3))).2.1) x6).Staves) - 1)).Signs)) ∧
(I64 (x13 + 1)) ∧
(qbz a0 a1 a2 x6 (
(qy a0 a1 a2 (decide ((ix (ix (ix ((mkB ((qb a0).1) ((qb a0).2) (16 + (qa a1 8)) (1 + (qa a2 3))).2.1) x6).Staves ((ln (ix ((mkB ((qb a0).1) ((qb a0).2) (16 + (qa a1 8)) (1 + (qa a2 3))).2.1) x6).Staves) - 1)).Signs x13).Kind = 2)) (x13 + 1) x6) ∧
 zg a0 a1 a2 (decide ((ix (ix (ix ((mkB ((qb a0).1) ((qb a0).2) (16 + (qa a1 8)) (1 + (qa a2 3))).2.1) x6).Staves ((ln (ix ((mkB ((qb a0).1) ((qb a0).2) (16 + (qa a1 8)) (1 + (qa a2 3))).2.1) x6).Staves) - 1)).Signs x13).Kind = 2)) (x13 + 1) x6 < zg a0 a1 a2 x12 x13 x6))))) ∧
((ln (ix (ix ((mkB ((qb a0).1) ((qb a0).2) (16 + (qa a1 8)) (1 + (qa a2 3))).2.1) x6).Staves ((ln (ix ((mkB ((qb a0).1) ((qb a0).2) (16 + (qa a1 8)) (1 + (qa a2 3))).2.1) x6).Staves) - 1)).Signs) ≤ x13 →
((x12 = true →
(Wn x6 (ln ((zh ((mkB ((qb a0).1) ((qb a0).2) (16 + (qa a1 8)) (1 + (qa a2 3))).1) ((mkB ((qb a0).1) ((qb a0).2) (16 + (qa a1 8)) (1 + (qa a2 3))).2.1)).2.1))) ∧
(((ix ((zh ((mkB ((qb a0).1) ((qb a0).2) (16 + (qa a1 8)) (1 + (qa a2 3))).1) ((mkB ((qb a0).1) ((qb a0).2) (16 + (qa a1 8)) (1 + (qa a2 3))).2.1)).2.1) x6) = false →
(false = (true)) ∧
 True)) ∧
((ix ((zh ((mkB ((qb a0).1) ((qb a0).2) (16 + (qa a1 8)) (1 + (qa a2 3))).1) ((mkB ((qb a0).1) ((qb a0).2) (16 + (qa a1 8)) (1 + (qa a2 3))).2.1)).2.1) x6) = true →
(I64 (x6 + 1)) ∧
(qb0 a0 a1 a2 (
(zb a0 a1 a2 (x6 + 1)) ∧
 zf a0 a1 a2 (x6 + 1) < zf a0 a1 a2 x6))))) ∧
(x12 = false →
(I64 (x6 + 1)) ∧
(qb0 a0 a1 a2 (
(zb a0 a1 a2 (x6 + 1)) ∧
 zf a0 a1 a2 (x6 + 1) < zf a0 a1 a2 x6)))))))))))) ∧
((ln ((zh ((mkB ((qb a0).1) ((qb a0).2) (16 + (qa a1 8)) (1 + (qa a2 3))).1) ((mkB ((qb a0).1) ((qb a0).2) (16 + (qa a1 8)) (1 + (qa a2 3))).2.1)).1)) ≤ x6 →
((true) = (true)) ∧
 True)))))))))
theorem qye (a0 : List Int) (a1 : Int) (a2 : Int) : qb3 (qu XK (qax qv2) (fun j ns => match j, ns with | 0, [.i y0] => zb a0 a1 a2 y0 | 1, [.b y0, .i y1, .i y2] => qy a0 a1 a2 y0 y1 y2 | _, _ => False) (fun j ns => match j, ns with | 0, [.i y0] => zf a0 a1 a2 y0 | 1, [.b y0, .i y1, .i y2] => zg a0 a1 a2 y0 y1 y2 | _, _ => 0)) { cfg sp with ann := qbu [(6, 2042, .inv 0 [.one 14 (.int .i64)] []), (6, 4182650, .inv 1 [.one 17 (.bool), .one 18 (.int .i64)] [.one 14 (.int .i64)])] } 3 6 [.list 1 (a0) none, .int .i64 none (a1), .int .i64 none (a2)] (qm8 a0 a1 a2) = qkb a0 a1 a2 := by kernel_rfl
end Go.Proofs.YtlkfjinaiepocaaDoor
