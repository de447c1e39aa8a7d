/- THE FUNCTIONS on signs, parts, books meet their contracts. Made by program (vc.py). -/
import Derived.Test.YtlkfjinaiepocaaDoorOks
namespace Go.Proofs.YtlkfjinaiepocaaDoor
open Go Go.E2 Go.E3
set_option maxRecDepth 100000
variable {sp : Nat → Option (List V → Heap → Option (CR × Heap))}

theorem q5d (hq : zn (cfg sp)) (a0 : List UInt8) (hp : (ln a0 ≤ 9223372036854775806)) : qcn XK szK (cfg sp) 49 [.str (a0)] (qtx a0) :=
  qcp qbv qar (z2) hq (zk rfl) (by simp [P.flat, P.cellsOf, RT]) (q5f a0) (q5e a0 hp)
theorem q1l (hq : zn (cfg sp)) : qfw XK szK (cfg sp) 49 q9e := by
  intro ns pre r h hp
  unfold q9e at h
  dsimp only at h
  split at h
  · cases h
    exact ⟨_, rfl, q5d hq _ hp, kj rfl⟩
  · cases h
theorem q2u (hq : zn (cfg sp)) (a0 : Int) (a1 : Int) (a2 : Int) (a3 : Int) : qcn XK szK (cfg sp) 80 [.agg [.int .i64 none (a0), .int .i64 none (a1), .int .i64 none (a2), .int .i64 none (a3)]] (qqq a0 a1 a2 a3) :=
  qcp qbv qar (z2) hq (zk rfl) (by simp [P.flat, P.cellsOf, RT]) (q2w a0 a1 a2 a3) (q2v a0 a1 a2 a3 )
theorem q9n (hq : zn (cfg sp)) : qfw XK szK (cfg sp) 80 zcg := by
  intro ns pre r h hp
  unfold zcg at h
  dsimp only at h
  split at h
  · cases h
    exact ⟨_, rfl, q2u hq _ _ _ _, kj rfl⟩
  · cases h
theorem q8u (hq : zn (cfg sp)) (a0 : Int) (a1 : Int) (a2 : Int) (a3 : Int) (a4 : Bool) (a5 : Int) (a6 : Bool) (a7 : Bool) (a8 : Int) (a9 : Int) (a10 : Int) (a11 : Int) (a12 : Bool) (a13 : Int) (a14 : Int) (a15 : Int) (a16 : Int) : qcn XK szK (cfg sp) 60 [.agg [.int .i64 none (a0), .int .i64 none (a1), .int .i64 none (a2), .int .i64 none (a3), .sb 0 false (a4) (a4 = true) (a4 = false), .int .i64 none (a5), .sb 0 false (a6) (a6 = true) (a6 = false), .sb 0 false (a7) (a7 = true) (a7 = false), .int .i64 none (a8), .int .i64 none (a9), .int .i64 none (a10), .int .i64 none (a11), .sb 0 false (a12) (a12 = true) (a12 = false), .int .i64 none (a13), .int .i64 none (a14), .int .i64 none (a15), .int .i64 none (a16)]] (qw1 a0 a1 a2 a3 a4 a5 a6 a7 a8 a9 a10 a11 a12 a13 a14 a15 a16) :=
  qcp qbv qar (zi (q9n hq) (z2)) hq (zk rfl) (by simp [P.flat, P.cellsOf, RT]) (q8w a0 a1 a2 a3 a4 a5 a6 a7 a8 a9 a10 a11 a12 a13 a14 a15 a16) (q8v a0 a1 a2 a3 a4 a5 a6 a7 a8 a9 a10 a11 a12 a13 a14 a15 a16 )
theorem q9j (hq : zn (cfg sp)) : qfw XK szK (cfg sp) 60 zcc := by
  intro ns pre r h hp
  unfold zcc at h
  dsimp only at h
  split at h
  · cases h
    exact ⟨_, rfl, q8u hq _ _ _ _ _ _ _ _ _ _ _ _ _ _ _ _ _, kj rfl⟩
  · cases h
theorem qzj (hq : zn (cfg sp)) (a0 : List UInt8) (a1 : List Sign) (hp : (ln a0 ≤ 1000000000 ∧ ln a1 ≤ 1000000000)) : qcn XK szK (cfg sp) 34 [.agg [.str (a0), .list 4 (a1) none]] (qo5 a0 a1) :=
  qcp qbv qar (zi (q1l hq) (zi (q9j hq) (z2))) hq (zk rfl) (by simp [P.flat, P.cellsOf, RT]) (qzl a0 a1) (qzk a0 a1 hp)
theorem q1g (hq : zn (cfg sp)) : qfw XK szK (cfg sp) 34 q88 := by
  intro ns pre r h hp
  unfold q88 at h
  dsimp only at h
  split at h
  · cases h
    exact ⟨_, rfl, qzj hq _ _ hp, kj rfl⟩
  · cases h
theorem q42 (hq : zn (cfg sp)) (a0 : List Sign) (hp : (ln a0 ≤ 10000000)) : qcn XK szK (cfg sp) 42 [.list 4 (a0) none] (qtu a0) :=
  qcp qbv qar (z2) hq (zk rfl) (by simp [P.flat, P.cellsOf, RT]) (q44 a0) (q43 a0 hp)
theorem q1k (hq : zn (cfg sp)) : qfw XK szK (cfg sp) 42 q9d := by
  intro ns pre r h hp
  unfold q9d at h
  dsimp only at h
  split at h
  · cases h
    exact ⟨_, rfl, q42 hq _ hp, kj rfl⟩
  · cases h
theorem q92 (hq : zn (cfg sp)) (a0 : List Sign) (a1 : List Sign) (hp : (ln a0 ≤ 1 ∧ ln a1 ≤ 1)) : qcn XK szK (cfg sp) 38 [.agg [.list 4 (a0) none, .list 4 (a1) none]] (qyf a0 a1) :=
  qcp qbv qar (zi (q1k hq) (z2)) hq (zk rfl) (by simp [P.flat, P.cellsOf, RT]) (q94 a0 a1) (q93 a0 a1 hp)
theorem q1h (hq : zn (cfg sp)) : qfw XK szK (cfg sp) 38 q89 := by
  intro ns pre r h hp
  unfold q89 at h
  dsimp only at h
  split at h
  · cases h
    exact ⟨_, rfl, q92 hq _ _ hp, kj rfl⟩
  · cases h
theorem q5n (hq : zn (cfg sp)) (a0 : List Sign) (a1 : List Sign) (a2 : Int) (a3 : Int) (a4 : Int) (a5 : Int) (a6 : Bool) (a7 : Int) (a8 : Bool) (a9 : Bool) (a10 : Int) (a11 : Int) (a12 : Int) (a13 : Int) (a14 : Bool) (a15 : Int) (a16 : Int) (a17 : Int) (a18 : Int) : qcn XK szK (cfg sp) 40 [.agg [.list 4 (a0) none, .list 4 (a1) none], .agg [.int .i64 none (a2), .int .i64 none (a3), .int .i64 none (a4), .int .i64 none (a5), .sb 0 false (a6) (a6 = true) (a6 = false), .int .i64 none (a7), .sb 0 false (a8) (a8 = true) (a8 = false), .sb 0 false (a9) (a9 = true) (a9 = false), .int .i64 none (a10), .int .i64 none (a11), .int .i64 none (a12), .int .i64 none (a13), .sb 0 false (a14) (a14 = true) (a14 = false), .int .i64 none (a15), .int .i64 none (a16), .int .i64 none (a17), .int .i64 none (a18)]] (qt1 a0 a1 a2 a3 a4 a5 a6 a7 a8 a9 a10 a11 a12 a13 a14 a15 a16 a17 a18) :=
  qcp qbv qar (z2) hq (zk rfl) (by simp [P.flat, P.cellsOf, RT]) (q5p a0 a1 a2 a3 a4 a5 a6 a7 a8 a9 a10 a11 a12 a13 a14 a15 a16 a17 a18) (q5o a0 a1 a2 a3 a4 a5 a6 a7 a8 a9 a10 a11 a12 a13 a14 a15 a16 a17 a18 )
theorem q1i (hq : zn (cfg sp)) : qfw XK szK (cfg sp) 40 q9b := by
  intro ns pre r h hp
  unfold q9b at h
  dsimp only at h
  split at h
  · cases h
    exact ⟨_, rfl, q5n hq _ _ _ _ _ _ _ _ _ _ _ _ _ _ _ _ _ _ _, kj rfl⟩
  · cases h
theorem q3a (hq : zn (cfg sp)) (a0 : List Sign) (hp : (ln a0 ≤ 1000000000)) : qcn XK szK (cfg sp) 41 [.list 4 (a0) none] (qq8 a0) :=
  qcp qbv qar (z2) hq (zk rfl) (by simp [P.flat, P.cellsOf, RT]) (q3c a0) (q3b a0 hp)
theorem q1j (hq : zn (cfg sp)) : qfw XK szK (cfg sp) 41 q9c := by
  intro ns pre r h hp
  unfold q9c at h
  dsimp only at h
  split at h
  · cases h
    exact ⟨_, rfl, q3a hq _ hp, kj rfl⟩
  · cases h
theorem q9s (hq : zn (cfg sp)) (a0 : List Sign) (a1 : Int) (a2 : Bool) (hp : (ln a0 ≤ 500)) : qcn XK szK (cfg sp) 39 [.list 4 (a0) none, .int .i64 none (a1), .sb 0 false (a2) (a2 = true) (a2 = false)] (qx0 a0 a1 a2) :=
  qcp qbv qar (z2) hq (zk rfl) (by simp [P.flat, P.cellsOf, RT]) (q9u a0 a1 a2) (q9t a0 a1 a2 hp)
theorem q9a (hq : zn (cfg sp)) : qfw XK szK (cfg sp) 39 zb7 := by
  intro ns pre r h hp
  unfold zb7 at h
  dsimp only at h
  split at h
  · cases h
    exact ⟨_, rfl, q9s hq _ _ _ hp, kj rfl⟩
  · cases h
theorem q49 (hq : zn (cfg sp)) (a0 : List UInt8) (a1 : List Sign) (a2 : Int) (a3 : Int) (hp : (ln a0 ≤ 1000000000 ∧ ln a1 ≤ 500)) : qcn XK szK (cfg sp) 10 [.agg [.str (a0), .list 4 (a1) none], .int .i64 none (a2), .int .i64 none (a3)] (qtw a0 a1 a2 a3) :=
  qcp qbv qar (zi (q1g hq) (zi (q1h hq) (zi (q9a hq) (zi (q1i hq) (zi (q1j hq) (zi (q1k hq) (z2))))))) hq (zk rfl) (by simp [P.flat, P.cellsOf, RT]) (q5b a0 a1 a2 a3) (q5a a0 a1 a2 a3 hp)
theorem q82 (hq : zn (cfg sp)) : qfw XK szK (cfg sp) 10 zb3 := by
  intro ns pre r h hp
  unfold zb3 at h
  dsimp only at h
  split at h
  · cases h
    exact ⟨_, rfl, q49 hq _ _ _ _ hp, kj rfl⟩
  · cases h
theorem q4m (hq : zn (cfg sp)) (a0 : List UInt8) (a1 : List Page) (hp : (smB a1)) : qcn XK szK (cfg sp) 68 [.agg [.str (a0), .list 8 (a1) none]] (qs1 a0 a1) :=
  qcp qbv qar (z2) hq (zk rfl) (by simp [P.flat, P.cellsOf, RT]) (q4o a0 a1) (q4n a0 a1 hp)
theorem qvr (hq : zn (cfg sp)) : qfw XK szK (cfg sp) 68 q51 := by
  intro ns pre r h hp
  unfold q51 at h
  dsimp only at h
  split at h
  · cases h
    exact ⟨_, rfl, q4m hq _ _ hp, kj rfl⟩
  · cases h
theorem zao (hq : zn (cfg sp)) (a0 : List UInt8) (a1 : List Page) (hp : (smB a1 ∧ qn a1)) : qcn XK szK (cfg sp) 56 [.agg [.str (a0), .list 8 (a1) none]] (qyu a0 a1) :=
  qcp qbv qar (zi (qvr hq) (z2)) hq (zk rfl) (by simp [P.flat, P.cellsOf, RT]) (zaq a0 a1) (zap a0 a1 hp)
theorem q9h (hq : zn (cfg sp)) : qfw XK szK (cfg sp) 56 zca := by
  intro ns pre r h hp
  unfold zca at h
  dsimp only at h
  split at h
  · cases h
    exact ⟨_, rfl, zao hq _ _ hp, kj rfl⟩
  · cases h
theorem q7f (hq : zn (cfg sp)) (a0 : List UInt8) (a1 : List Page) (a2 : Int) (hp : (smB a1 ∧ qn a1 ∧ (0 : Int) ≤ a2 ∧ (a2 : Int) ≤ 1000000000000)) : qcn XK szK (cfg sp) 66 [.agg [.str (a0), .list 8 (a1) none], .int .i64 none (a2)] (qux a0 a1 a2) :=
  qcp qbv qar (zi (qvr hq) (z2)) hq (zk rfl) (by simp [P.flat, P.cellsOf, RT]) (q7h a0 a1 a2) (q7g a0 a1 a2 hp)
theorem q9k (hq : zn (cfg sp)) : qfw XK szK (cfg sp) 66 zcd := by
  intro ns pre r h hp
  unfold zcd at h
  dsimp only at h
  split at h
  · cases h
    exact ⟨_, rfl, q7f hq _ _ _ hp, kj rfl⟩
  · cases h
theorem q4i (hq : zn (cfg sp)) (a0 : List Sign) (a1 : Int) (a2 : Bool) (a3 : Int) (a4 : List Sign) (a5 : List Sign) (hp : (ln a0 ≤ 500 ∧ ln a4 ≤ 1 ∧ ln a5 ≤ 1)) : qcn XK szK (cfg sp) 50 [.agg [.list 4 (a0) none, .int .i64 none (a1), .sb 0 false (a2) (a2 = true) (a2 = false), .int .i64 none (a3)], .agg [.list 4 (a4) none, .list 4 (a5) none]] (qsy a0 a1 a2 a3 a4 a5) :=
  qcp qbv qar (zi (q1h hq) (z2)) hq (zk rfl) (by simp [P.flat, P.cellsOf, RT]) (q4k a0 a1 a2 a3 a4 a5) (q4j a0 a1 a2 a3 a4 a5 hp)
theorem q9f (hq : zn (cfg sp)) : qfw XK szK (cfg sp) 50 zb8 := by
  intro ns pre r h hp
  unfold zb8 at h
  dsimp only at h
  split at h
  · cases h
    exact ⟨_, rfl, q4i hq _ _ _ _ _ _ hp, kj rfl⟩
  · cases h
theorem q8h (hq : zn (cfg sp)) (a0 : List UInt8) (a1 : List Page) (hp : (ln a0 ≤ 1000000000 ∧ smB a1 ∧ qn a1)) : qcn XK szK (cfg sp) 51 [.agg [.str (a0), .list 8 (a1) none]] (qve a0 a1) :=
  qcp qbv qar (zi (q9h hq) (zi (q1g hq) (zi (q9k hq) (zi (qvr hq) (zi (q1j hq) (z2)))))) hq (zk rfl) (by simp [P.flat, P.cellsOf, RT]) (q8j a0 a1) (q8i a0 a1 hp)
theorem q9g (hq : zn (cfg sp)) : qfw XK szK (cfg sp) 51 zb9 := by
  intro ns pre r h hp
  unfold zb9 at h
  dsimp only at h
  split at h
  · cases h
    exact ⟨_, rfl, q8h hq _ _ hp, kj rfl⟩
  · cases h
theorem q2r (hq : zn (cfg sp)) (a0 : List UInt8) (a1 : List Page) (hp : (ln a0 ≤ 1000000000 ∧ smB a1)) : qcn XK szK (cfg sp) 16 [.agg [.str (a0), .list 8 (a1) none]] (qqp a0 a1) :=
  qcp qbv qar (zi (q1l hq) (zi (q9f hq) (zi (q1i hq) (zi (q9g hq) (z2))))) hq (zk rfl) (by simp [P.flat, P.cellsOf, RT]) (q2t a0 a1) (q2s a0 a1 hp)
theorem q83 (hq : zn (cfg sp)) : qfw XK szK (cfg sp) 16 zb4 := by
  intro ns pre r h hp
  unfold zb4 at h
  dsimp only at h
  split at h
  · cases h
    exact ⟨_, rfl, q2r hq _ _ hp, kj rfl⟩
  · cases h
theorem q21 (hq : zn (cfg sp)) (a0 : List UInt8) (a1 : List Page) (hp : (ln a0 ≤ 1000000000 ∧ smB a1)) : qcn XK szK (cfg sp) 22 [.agg [.str (a0), .list 8 (a1) none]] (qqw a0 a1) :=
  qcp qbv qar (zi (q83 hq) (z2)) hq (zk rfl) (by simp [P.flat, P.cellsOf, RT]) (q23 a0 a1) (q22 a0 a1 hp)
theorem q84 (hq : zn (cfg sp)) : qfw XK szK (cfg sp) 22 zb5 := by
  intro ns pre r h hp
  unfold zb5 at h
  dsimp only at h
  split at h
  · cases h
    exact ⟨_, rfl, q21 hq _ _ hp, kj rfl⟩
  · cases h
theorem zby (hq : zn (cfg sp)) (a0 : Int) (a1 : Int) (hp : (I64 a0 ∧ (1 : Int) ≤ a1 ∧ (a1 : Int) ≤ 1048576)) : qcn XK szK (cfg sp) 30 [.int .i64 none (a0), .int .i64 none (a1)] (q05 a0 a1) :=
  qcp qbv qar (z2) hq (zk rfl) (by simp [P.flat, P.cellsOf, RT]) (zb0 a0 a1) (zbz a0 a1 hp)
theorem q1f (hq : zn (cfg sp)) : qfw XK szK (cfg sp) 30 q87 := by
  intro ns pre r h hp
  unfold q87 at h
  dsimp only at h
  split at h
  · cases h
    exact ⟨_, rfl, zby hq _ _ hp, kj rfl⟩
  · cases h
theorem zbs (hq : zn (cfg sp)) (a0 : List Int) (a1 : Int) (hp : (ln a0 ≤ 1000000000)) : qcn XK szK (cfg sp) 73 [.list 1 (a0) none, .int .i64 none (a1)] (q03 a0 a1) :=
  qcp qbv qar (z2) hq (zk rfl) (by simp [P.flat, P.cellsOf, RT]) (zbu a0 a1) (zbt a0 a1 hp)
theorem q9l (hq : zn (cfg sp)) : qfw XK szK (cfg sp) 73 zce := by
  intro ns pre r h hp
  unfold zce at h
  dsimp only at h
  split at h
  · cases h
    exact ⟨_, rfl, zbs hq _ _ hp, kj rfl⟩
  · cases h
theorem q4v (hq : zn (cfg sp)) (a0 : Int) (a1 : Int) (a2 : Int) (a3 : Int) (a4 : Int) (hp : ((0 : Int) ≤ a4 ∧ (a4 : Int) ≤ 100)) : qcn XK szK (cfg sp) 77 [.agg [.int .i64 none (a0), .int .i64 none (a1), .int .i64 none (a2), .int .i64 none (a3)], .int .i64 none (a4)] (qtt a0 a1 a2 a3 a4) :=
  qcp qbv qar (z2) hq (zk rfl) (by simp [P.flat, P.cellsOf, RT]) (q4x a0 a1 a2 a3 a4) (q4w a0 a1 a2 a3 a4 hp)
theorem q9m (hq : zn (cfg sp)) : qfw XK szK (cfg sp) 77 zcf := by
  intro ns pre r h hp
  unfold zcf at h
  dsimp only at h
  split at h
  · cases h
    exact ⟨_, rfl, q4v hq _ _ _ _ _ hp, kj rfl⟩
  · cases h
theorem q8q (hq : zn (cfg sp)) (a0 : List Int) (hp : (ln a0 ≤ 80 ∧ ∀ n ∈ a0, I64 n)) : qcn XK szK (cfg sp) 57 [.list 1 (a0) none] (qwx a0) :=
  qcp qbv qar (zi (q9l hq) (zi (q1f hq) (zi (q9m hq) (z2)))) hq (zk rfl) (by simp [P.flat, P.cellsOf, RT]) (q8s a0) (q8r a0 hp)
theorem q9i (hq : zn (cfg sp)) : qfw XK szK (cfg sp) 57 zcb := by
  intro ns pre r h hp
  unfold zcb at h
  dsimp only at h
  split at h
  · cases h
    exact ⟨_, rfl, q8q hq _ hp, kj rfl⟩
  · cases h
theorem q46 (hq : zn (cfg sp)) (a0 : List Int) (hp : (ln a0 ≤ 80 ∧ ∀ n ∈ a0, I64 n)) : qcn XK szK (cfg sp) 29 [.list 1 (a0) none] (qtv a0) :=
  qcp qbv qar (zi (q9i hq) (z2)) hq (zk rfl) (by simp [P.flat, P.cellsOf, RT]) (q48 a0) (q47 a0 hp)
theorem q86 (hq : zn (cfg sp)) : qfw XK szK (cfg sp) 29 zb6 := by
  intro ns pre r h hp
  unfold zb6 at h
  dsimp only at h
  split at h
  · cases h
    exact ⟨_, rfl, q46 hq _ hp, kj rfl⟩
  · cases h
theorem qyc (hq : zn (cfg sp)) (hf28 : qfw XK szK (cfg sp) 28 q85) (a0 : List Int) (a1 : Int) (a2 : Int) (hp : (zbk a0 ∧ I64 a1 ∧ I64 a2)) : qcn XK szK (cfg sp) 6 [.list 1 (a0) none, .int .i64 none (a1), .int .i64 none (a2)] (qm8 a0 a1 a2) :=
  qcp qbv qar (zi hf28 (zi (q86 hq) (zi (q1f hq) (zi (q82 hq) (zi (q84 hq) (z2)))))) hq (zk rfl) (by simp [P.flat, P.cellsOf, RT]) (qye a0 a1 a2) (qyd a0 a1 a2 hp)
end Go.Proofs.YtlkfjinaiepocaaDoor
