/- THE FUNCTIONS on signs, parts, books meet their contracts. Made by program (vc.py). -/
import Derived.Test.YtlkfjinaiepocaaDoorOks
namespace Go.Proofs.YtlkfjinaiepocaaDoor
open Go Go.E2 Go.E3
set_option maxRecDepth 100000
variable {sp : Nat → Option (List V → Heap → Option (CR × Heap))}

theorem q48 (hq : zg (cfg sp)) (a0 : List UInt8) (hp : (ln a0 ≤ 9223372036854775806)) : qb6 XK szK (cfg sp) 49 [.str (a0)] (qtn a0) :=
  qbv qa9 jx (zn) hq (ze rfl) (by simp [P.flat, P.cellsOf, RT]) (q5a a0) (q49 a0 hp)
theorem q1h (hq : zg (cfg sp)) : qek XK szK (cfg sp) 49 q9b := by
  intro ns pre r h hp
  unfold q9b at h
  dsimp only at h
  split at h
  · cases h
    exact ⟨_, rfl, q48 hq _ hp, z4 rfl⟩
  · cases h
theorem q2q (hq : zg (cfg sp)) (a0 : Int) (a1 : Int) (a2 : Int) (a3 : Int) : qb6 XK szK (cfg sp) 80 [.agg [.int .i64 none (a0), .int .i64 none (a1), .int .i64 none (a2), .int .i64 none (a3)]] (qqe a0 a1 a2 a3) :=
  qbv qa9 jx (zn) hq (ze rfl) (by simp [P.flat, P.cellsOf, RT]) (q2s a0 a1 a2 a3) (q2r a0 a1 a2 a3 )
theorem q9k (hq : zg (cfg sp)) : qek XK szK (cfg sp) 80 zcc := by
  intro ns pre r h hp
  unfold zcc at h
  dsimp only at h
  split at h
  · cases h
    exact ⟨_, rfl, q2q hq _ _ _ _, z4 rfl⟩
  · cases h
theorem q8o (hq : zg (cfg sp)) (a0 : Int) (a1 : Int) (a2 : Int) (a3 : Int) (a4 : Bool) (a5 : Int) (a6 : Bool) (a7 : Bool) (a8 : Int) (a9 : Int) (a10 : Int) (a11 : Int) (a12 : Bool) (a13 : Int) (a14 : Int) (a15 : Int) (a16 : Int) : qb6 XK szK (cfg sp) 60 [.agg [.int .i64 none (a0), .int .i64 none (a1), .int .i64 none (a2), .int .i64 none (a3), .sb 0 false (a4) (a4 = true) (a4 = false), .int .i64 none (a5), .sb 0 false (a6) (a6 = true) (a6 = false), .sb 0 false (a7) (a7 = true) (a7 = false), .int .i64 none (a8), .int .i64 none (a9), .int .i64 none (a10), .int .i64 none (a11), .sb 0 false (a12) (a12 = true) (a12 = false), .int .i64 none (a13), .int .i64 none (a14), .int .i64 none (a15), .int .i64 none (a16)]] (qwu a0 a1 a2 a3 a4 a5 a6 a7 a8 a9 a10 a11 a12 a13 a14 a15 a16) :=
  qbv qa9 jx (qz (q9k hq) (zn)) hq (ze rfl) (by simp [P.flat, P.cellsOf, RT]) (q8q a0 a1 a2 a3 a4 a5 a6 a7 a8 a9 a10 a11 a12 a13 a14 a15 a16) (q8p a0 a1 a2 a3 a4 a5 a6 a7 a8 a9 a10 a11 a12 a13 a14 a15 a16 )
theorem q9g (hq : zg (cfg sp)) : qek XK szK (cfg sp) 60 zb8 := by
  intro ns pre r h hp
  unfold zb8 at h
  dsimp only at h
  split at h
  · cases h
    exact ⟨_, rfl, q8o hq _ _ _ _ _ _ _ _ _ _ _ _ _ _ _ _ _, z4 rfl⟩
  · cases h
theorem qze (hq : zg (cfg sp)) (a0 : List UInt8) (a1 : List Sign) (hp : (ln a0 ≤ 1000000000 ∧ ln a1 ≤ 1000000000)) : qb6 XK szK (cfg sp) 34 [.agg [.str (a0), .list 4 (a1) none]] (qor a0 a1) :=
  qbv qa9 jx (qz (q1h hq) (qz (q9g hq) (zn))) hq (ze rfl) (by simp [P.flat, P.cellsOf, RT]) (qzg a0 a1) (qzf a0 a1 hp)
theorem q1c (hq : zg (cfg sp)) : qek XK szK (cfg sp) 34 q85 := by
  intro ns pre r h hp
  unfold q85 at h
  dsimp only at h
  split at h
  · cases h
    exact ⟨_, rfl, qze hq _ _ hp, z4 rfl⟩
  · cases h
theorem qu8 (hq : zg (cfg sp)) (a0 : List Sign) (a1 : List Sign) (hp : (ln a0 ≤ 10000000)) : qb6 XK szK (cfg sp) 32 [.list 4 (a0) none, .list 4 (a1) none] (qky a0 a1) :=
  qbv qa9 jx (zn) hq (ze rfl) (by simp [P.flat, P.cellsOf, RT]) (qva a0 a1) (qu9 a0 a1 hp)
theorem q84 (hq : zg (cfg sp)) : qek XK szK (cfg sp) 32 zb3 := by
  intro ns pre r h hp
  unfold zb3 at h
  dsimp only at h
  split at h
  · cases h
    exact ⟨_, rfl, qu8 hq _ _ hp, z4 rfl⟩
  · cases h
theorem qwx (hq : zg (cfg sp)) (a0 : List UInt8) (a1 : List Sign) (a2 : List UInt8) (a3 : List Sign) (hp : (ln a1 ≤ 10000000)) : qb6 XK szK (cfg sp) 13 [.agg [.str (a0), .list 4 (a1) none], .agg [.str (a2), .list 4 (a3) none]] (ql6 a0 a1 a2 a3) :=
  qbv qa9 jx (qz (q84 hq) (zn)) hq (ze rfl) (by simp [P.flat, P.cellsOf, RT]) (qwz a0 a1 a2 a3) (qwy a0 a1 a2 a3 hp)
theorem q8y (hq : zg (cfg sp)) : qek XK szK (cfg sp) 13 zb0 := by
  intro ns pre r h hp
  unfold zb0 at h
  dsimp only at h
  split at h
  · cases h
    exact ⟨_, rfl, qwx hq _ _ _ _ hp, z4 rfl⟩
  · cases h
theorem q4x (hq : zg (cfg sp)) (a0 : List Sign) (hp : (ln a0 ≤ 10000000)) : qb6 XK szK (cfg sp) 42 [.list 4 (a0) none] (qtk a0) :=
  qbv qa9 jx (zn) hq (ze rfl) (by simp [P.flat, P.cellsOf, RT]) (q4z a0) (q4y a0 hp)
theorem q1g (hq : zg (cfg sp)) : qek XK szK (cfg sp) 42 q9a := by
  intro ns pre r h hp
  unfold q9a at h
  dsimp only at h
  split at h
  · cases h
    exact ⟨_, rfl, q4x hq _ hp, z4 rfl⟩
  · cases h
theorem q9y (hq : zg (cfg sp)) (a0 : List Sign) (a1 : List Sign) (hp : (ln a0 ≤ 1 ∧ ln a1 ≤ 1)) : qb6 XK szK (cfg sp) 38 [.agg [.list 4 (a0) none, .list 4 (a1) none]] (qx9 a0 a1) :=
  qbv qa9 jx (qz (q1g hq) (zn)) hq (ze rfl) (by simp [P.flat, P.cellsOf, RT]) (q90 a0 a1) (q9z a0 a1 hp)
theorem q1d (hq : zg (cfg sp)) : qek XK szK (cfg sp) 38 q86 := by
  intro ns pre r h hp
  unfold q86 at h
  dsimp only at h
  split at h
  · cases h
    exact ⟨_, rfl, q9y hq _ _ hp, z4 rfl⟩
  · cases h
theorem q5h (hq : zg (cfg sp)) (a0 : List Sign) (a1 : List Sign) (a2 : Int) (a3 : Int) (a4 : Int) (a5 : Int) (a6 : Bool) (a7 : Int) (a8 : Bool) (a9 : Bool) (a10 : Int) (a11 : Int) (a12 : Int) (a13 : Int) (a14 : Bool) (a15 : Int) (a16 : Int) (a17 : Int) (a18 : Int) : qb6 XK szK (cfg sp) 40 [.agg [.list 4 (a0) none, .list 4 (a1) none], .agg [.int .i64 none (a2), .int .i64 none (a3), .int .i64 none (a4), .int .i64 none (a5), .sb 0 false (a6) (a6 = true) (a6 = false), .int .i64 none (a7), .sb 0 false (a8) (a8 = true) (a8 = false), .sb 0 false (a9) (a9 = true) (a9 = false), .int .i64 none (a10), .int .i64 none (a11), .int .i64 none (a12), .int .i64 none (a13), .sb 0 false (a14) (a14 = true) (a14 = false), .int .i64 none (a15), .int .i64 none (a16), .int .i64 none (a17), .int .i64 none (a18)]] (qtr a0 a1 a2 a3 a4 a5 a6 a7 a8 a9 a10 a11 a12 a13 a14 a15 a16 a17 a18) :=
  qbv qa9 jx (zn) hq (ze rfl) (by simp [P.flat, P.cellsOf, RT]) (q5j a0 a1 a2 a3 a4 a5 a6 a7 a8 a9 a10 a11 a12 a13 a14 a15 a16 a17 a18) (q5i a0 a1 a2 a3 a4 a5 a6 a7 a8 a9 a10 a11 a12 a13 a14 a15 a16 a17 a18 )
theorem q1e (hq : zg (cfg sp)) : qek XK szK (cfg sp) 40 q88 := by
  intro ns pre r h hp
  unfold q88 at h
  dsimp only at h
  split at h
  · cases h
    exact ⟨_, rfl, q5h hq _ _ _ _ _ _ _ _ _ _ _ _ _ _ _ _ _ _ _, z4 rfl⟩
  · cases h
theorem q23 (hq : zg (cfg sp)) (a0 : List Sign) (hp : (ln a0 ≤ 1000000000)) : qb6 XK szK (cfg sp) 41 [.list 4 (a0) none] (qqv a0) :=
  qbv qa9 jx (zn) hq (ze rfl) (by simp [P.flat, P.cellsOf, RT]) (q25 a0) (q24 a0 hp)
theorem q1f (hq : zg (cfg sp)) : qek XK szK (cfg sp) 41 q89 := by
  intro ns pre r h hp
  unfold q89 at h
  dsimp only at h
  split at h
  · cases h
    exact ⟨_, rfl, q23 hq _ hp, z4 rfl⟩
  · cases h
theorem q9p (hq : zg (cfg sp)) (a0 : List Sign) (a1 : Int) (a2 : Bool) (hp : (ln a0 ≤ 500)) : qb6 XK szK (cfg sp) 39 [.list 4 (a0) none, .int .i64 none (a1), .sb 0 false (a2) (a2 = true) (a2 = false)] (qxw a0 a1 a2) :=
  qbv qa9 jx (zn) hq (ze rfl) (by simp [P.flat, P.cellsOf, RT]) (q9r a0 a1 a2) (q9q a0 a1 a2 hp)
theorem q87 (hq : zg (cfg sp)) : qek XK szK (cfg sp) 39 zb4 := by
  intro ns pre r h hp
  unfold zb4 at h
  dsimp only at h
  split at h
  · cases h
    exact ⟨_, rfl, q9p hq _ _ _ hp, z4 rfl⟩
  · cases h
theorem q44 (hq : zg (cfg sp)) (a0 : List UInt8) (a1 : List Sign) (a2 : Int) (a3 : Int) (hp : (ln a0 ≤ 1000000000 ∧ ln a1 ≤ 500)) : qb6 XK szK (cfg sp) 10 [.agg [.str (a0), .list 4 (a1) none], .int .i64 none (a2), .int .i64 none (a3)] (qtm a0 a1 a2 a3) :=
  qbv qa9 jx (qz (q1c hq) (qz (q1d hq) (qz (q87 hq) (qz (q1e hq) (qz (q1f hq) (qz (q1g hq) (zn))))))) hq (ze rfl) (by simp [P.flat, P.cellsOf, RT]) (q46 a0 a1 a2 a3) (q45 a0 a1 a2 a3 hp)
theorem q8x (hq : zg (cfg sp)) : qek XK szK (cfg sp) 10 zbz := by
  intro ns pre r h hp
  unfold zbz at h
  dsimp only at h
  split at h
  · cases h
    exact ⟨_, rfl, q44 hq _ _ _ _ hp, z4 rfl⟩
  · cases h
theorem q4e (hq : zg (cfg sp)) (a0 : List UInt8) (a1 : List Page) (hp : (smB a1)) : qb6 XK szK (cfg sp) 68 [.agg [.str (a0), .list 8 (a1) none]] (qsp a0 a1) :=
  qbv qa9 jx (zn) hq (ze rfl) (by simp [P.flat, P.cellsOf, RT]) (q4g a0 a1) (q4f a0 a1 hp)
theorem qvk (hq : zg (cfg sp)) : qek XK szK (cfg sp) 68 q5v := by
  intro ns pre r h hp
  unfold q5v at h
  dsimp only at h
  split at h
  · cases h
    exact ⟨_, rfl, q4e hq _ _ hp, z4 rfl⟩
  · cases h
theorem zak (hq : zg (cfg sp)) (a0 : List UInt8) (a1 : List Page) (hp : (smB a1 ∧ qn a1)) : qb6 XK szK (cfg sp) 56 [.agg [.str (a0), .list 8 (a1) none]] (qyp a0 a1) :=
  qbv qa9 jx (qz (qvk hq) (zn)) hq (ze rfl) (by simp [P.flat, P.cellsOf, RT]) (zam a0 a1) (zal a0 a1 hp)
theorem q1i (hq : zg (cfg sp)) : qek XK szK (cfg sp) 56 q9e := by
  intro ns pre r h hp
  unfold q9e at h
  dsimp only at h
  split at h
  · cases h
    exact ⟨_, rfl, zak hq _ _ hp, z4 rfl⟩
  · cases h
theorem q68 (hq : zg (cfg sp)) (a0 : List UInt8) (a1 : List Page) (a2 : Int) (hp : (smB a1 ∧ qn a1 ∧ (0 : Int) ≤ a2 ∧ (a2 : Int) ≤ 1000000000000)) : qb6 XK szK (cfg sp) 66 [.agg [.str (a0), .list 8 (a1) none], .int .i64 none (a2)] (qum a0 a1 a2) :=
  qbv qa9 jx (qz (qvk hq) (zn)) hq (ze rfl) (by simp [P.flat, P.cellsOf, RT]) (q7a a0 a1 a2) (q69 a0 a1 a2 hp)
theorem q9h (hq : zg (cfg sp)) : qek XK szK (cfg sp) 66 zb9 := by
  intro ns pre r h hp
  unfold zb9 at h
  dsimp only at h
  split at h
  · cases h
    exact ⟨_, rfl, q68 hq _ _ _ hp, z4 rfl⟩
  · cases h
theorem q4a (hq : zg (cfg sp)) (a0 : List Sign) (a1 : Int) (a2 : Bool) (a3 : Int) (a4 : List Sign) (a5 : List Sign) (hp : (ln a0 ≤ 500 ∧ ln a4 ≤ 1 ∧ ln a5 ≤ 1)) : qb6 XK szK (cfg sp) 50 [.agg [.list 4 (a0) none, .int .i64 none (a1), .sb 0 false (a2) (a2 = true) (a2 = false), .int .i64 none (a3)], .agg [.list 4 (a4) none, .list 4 (a5) none]] (qsm a0 a1 a2 a3 a4 a5) :=
  qbv qa9 jx (qz (q1d hq) (zn)) hq (ze rfl) (by simp [P.flat, P.cellsOf, RT]) (q4c a0 a1 a2 a3 a4 a5) (q4b a0 a1 a2 a3 a4 a5 hp)
theorem q9c (hq : zg (cfg sp)) : qek XK szK (cfg sp) 50 zb5 := by
  intro ns pre r h hp
  unfold zb5 at h
  dsimp only at h
  split at h
  · cases h
    exact ⟨_, rfl, q4a hq _ _ _ _ _ _ hp, z4 rfl⟩
  · cases h
theorem q8b (hq : zg (cfg sp)) (a0 : List UInt8) (a1 : List Page) (hp : (ln a0 ≤ 1000000000 ∧ smB a1 ∧ qn a1)) : qb6 XK szK (cfg sp) 51 [.agg [.str (a0), .list 8 (a1) none]] (qu3 a0 a1) :=
  qbv qa9 jx (qz (q1i hq) (qz (q1c hq) (qz (q9h hq) (qz (qvk hq) (qz (q1f hq) (zn)))))) hq (ze rfl) (by simp [P.flat, P.cellsOf, RT]) (q8d a0 a1) (q8c a0 a1 hp)
theorem q9d (hq : zg (cfg sp)) : qek XK szK (cfg sp) 51 zb6 := by
  intro ns pre r h hp
  unfold zb6 at h
  dsimp only at h
  split at h
  · cases h
    exact ⟨_, rfl, q8b hq _ _ hp, z4 rfl⟩
  · cases h
theorem q2n (hq : zg (cfg sp)) (a0 : List UInt8) (a1 : List Page) (hp : (ln a0 ≤ 1000000000 ∧ smB a1)) : qb6 XK szK (cfg sp) 16 [.agg [.str (a0), .list 8 (a1) none]] (qqd a0 a1) :=
  qbv qa9 jx (qz (q1h hq) (qz (q9c hq) (qz (q1e hq) (qz (q9d hq) (zn))))) hq (ze rfl) (by simp [P.flat, P.cellsOf, RT]) (q2p a0 a1) (q2o a0 a1 hp)
theorem q1a (hq : zg (cfg sp)) : qek XK szK (cfg sp) 16 q8z := by
  intro ns pre r h hp
  unfold q8z at h
  dsimp only at h
  split at h
  · cases h
    exact ⟨_, rfl, q2n hq _ _ hp, z4 rfl⟩
  · cases h
theorem q4u (hq : zg (cfg sp)) (a0 : List UInt8) (a1 : List Page) (hp : (ln a0 ≤ 1000000000 ∧ smB a1)) : qb6 XK szK (cfg sp) 18 [.agg [.str (a0), .list 8 (a1) none]] (qtj a0 a1) :=
  qbv qa9 jx (qz (q1a hq) (qz (q1i hq) (zn))) hq (ze rfl) (by simp [P.flat, P.cellsOf, RT]) (q4w a0 a1) (q4v a0 a1 hp)
theorem q80 (hq : zg (cfg sp)) : qek XK szK (cfg sp) 18 zb1 := by
  intro ns pre r h hp
  unfold zb1 at h
  dsimp only at h
  split at h
  · cases h
    exact ⟨_, rfl, q4u hq _ _ hp, z4 rfl⟩
  · cases h
theorem zbu (hq : zg (cfg sp)) (a0 : Int) (a1 : Int) (hp : (I64 a0 ∧ (1 : Int) ≤ a1 ∧ (a1 : Int) ≤ 1048576)) : qb6 XK szK (cfg sp) 30 [.int .i64 none (a0), .int .i64 none (a1)] (q00 a0 a1) :=
  qbv qa9 jx (zn) hq (ze rfl) (by simp [P.flat, P.cellsOf, RT]) (zbw a0 a1) (zbv a0 a1 hp)
theorem q1b (hq : zg (cfg sp)) : qek XK szK (cfg sp) 30 q83 := by
  intro ns pre r h hp
  unfold q83 at h
  dsimp only at h
  split at h
  · cases h
    exact ⟨_, rfl, zbu hq _ _ hp, z4 rfl⟩
  · cases h
theorem zbo (hq : zg (cfg sp)) (a0 : List Int) (a1 : Int) (hp : (ln a0 ≤ 1000000000)) : qb6 XK szK (cfg sp) 73 [.list 1 (a0) none, .int .i64 none (a1)] (q0y a0 a1) :=
  qbv qa9 jx (zn) hq (ze rfl) (by simp [P.flat, P.cellsOf, RT]) (zbq a0 a1) (zbp a0 a1 hp)
theorem q9i (hq : zg (cfg sp)) : qek XK szK (cfg sp) 73 zca := by
  intro ns pre r h hp
  unfold zca at h
  dsimp only at h
  split at h
  · cases h
    exact ⟨_, rfl, zbo hq _ _ hp, z4 rfl⟩
  · cases h
theorem q4n (hq : zg (cfg sp)) (a0 : Int) (a1 : Int) (a2 : Int) (a3 : Int) (a4 : Int) (hp : ((0 : Int) ≤ a4 ∧ (a4 : Int) ≤ 100)) : qb6 XK szK (cfg sp) 77 [.agg [.int .i64 none (a0), .int .i64 none (a1), .int .i64 none (a2), .int .i64 none (a3)], .int .i64 none (a4)] (qti a0 a1 a2 a3 a4) :=
  qbv qa9 jx (zn) hq (ze rfl) (by simp [P.flat, P.cellsOf, RT]) (q4p a0 a1 a2 a3 a4) (q4o a0 a1 a2 a3 a4 hp)
theorem q9j (hq : zg (cfg sp)) : qek XK szK (cfg sp) 77 zcb := by
  intro ns pre r h hp
  unfold zcb at h
  dsimp only at h
  split at h
  · cases h
    exact ⟨_, rfl, q4n hq _ _ _ _ _ hp, z4 rfl⟩
  · cases h
theorem q8k (hq : zg (cfg sp)) (a0 : List Int) (hp : (ln a0 ≤ 80 ∧ ∀ n ∈ a0, I64 n)) : qb6 XK szK (cfg sp) 57 [.list 1 (a0) none] (qwq a0) :=
  qbv qa9 jx (qz (q9i hq) (qz (q1b hq) (qz (q9j hq) (zn)))) hq (ze rfl) (by simp [P.flat, P.cellsOf, RT]) (q8m a0) (q8l a0 hp)
theorem q9f (hq : zg (cfg sp)) : qek XK szK (cfg sp) 57 zb7 := by
  intro ns pre r h hp
  unfold zb7 at h
  dsimp only at h
  split at h
  · cases h
    exact ⟨_, rfl, q8k hq _ hp, z4 rfl⟩
  · cases h
theorem q41 (hq : zg (cfg sp)) (a0 : List Int) (hp : (ln a0 ≤ 80 ∧ ∀ n ∈ a0, I64 n)) : qb6 XK szK (cfg sp) 29 [.list 1 (a0) none] (qtl a0) :=
  qbv qa9 jx (qz (q9f hq) (zn)) hq (ze rfl) (by simp [P.flat, P.cellsOf, RT]) (q43 a0) (q42 a0 hp)
theorem q82 (hq : zg (cfg sp)) : qek XK szK (cfg sp) 29 zb2 := by
  intro ns pre r h hp
  unfold zb2 at h
  dsimp only at h
  split at h
  · cases h
    exact ⟨_, rfl, q41 hq _ hp, z4 rfl⟩
  · cases h
theorem qz3 (hq : zg (cfg sp)) (hf28 : qek XK szK (cfg sp) 28 q81) (a0 : List Int) (a1 : Int) (a2 : Int) (hp : (zbg a0 ∧ I64 a1 ∧ I64 a2)) : qb6 XK szK (cfg sp) 5 [.list 1 (a0) none, .int .i64 none (a1), .int .i64 none (a2)] (qo9 a0 a1 a2) :=
  qbv qa9 jx (qz hf28 (qz (q82 hq) (qz (q1b hq) (qz (q8x hq) (qz (q1a hq) (qz (q80 hq) (qz (q8y hq) (zn)))))))) hq (ze rfl) (by simp [P.flat, P.cellsOf, RT]) (qz5 a0 a1 a2) (qz4 a0 a1 a2 hp)
end Go.Proofs.YtlkfjinaiepocaaDoor
