/- THE FUNCTIONS of the chapter 2 meet their contracts. Made by program (vc.py). -/
import Derived.Test.YtofmpipjklcjhaaDoorOksT
namespace Go.Proofs.YtofmpipjklcjhaaDoor
open Go Go.E2 Go.E3
set_option maxRecDepth 100000
variable {sp : Nat → Option (List V → Heap → Option (CR × Heap))}

theorem zdt (hq : zy (cfg sp)) : qid XK szK (cfg sp) 57 zcb := by
  intro ns pre r h hp
  unfold zcb at h
  dsimp only at h
  split at h
  · cases h
    exact ⟨_, rfl, q1w qco hq (f := 57) rfl (by kernel_rfl) _ _, j5 rfl⟩
  · cases h
theorem zds (hq : zy (cfg sp)) : qid XK szK (cfg sp) 55 zca := by
  intro ns pre r h hp
  unfold zca at h
  dsimp only at h
  split at h
  · cases h
    exact ⟨_, rfl, q1f qco hq (f := 55) rfl (by kernel_rfl) _ _, j5 rfl⟩
  · cases h
theorem q33 (hq : zy (cfg sp)) (a0 : Int) (hp : (U8 a0)) : qda XK szK (cfg sp) 39 [.int .u8 none (a0)] (qsh a0) :=
  qia qg6 qco (qac) hq (kh rfl) (by simp [P.flat, P.cellsOf, RT]) (q35 a0) (q34 a0 hp)
theorem qz6 (hq : zy (cfg sp)) : qid XK szK (cfg sp) 39 q69 := by
  intro ns pre r h hp
  unfold q69 at h
  dsimp only at h
  split at h
  · cases h
    exact ⟨_, rfl, q33 hq _ hp, j5 rfl⟩
  · cases h
theorem q2u (hq : zy (cfg sp)) (a0 : List UInt8) (hp : (ln a0 ≤ 1000000000)) : qda XK szK (cfg sp) 25 [.str (a0)] (qqo a0) :=
  qia qg6 qco (ja (qz6 hq) (qac)) hq (kh rfl) (by simp [P.flat, P.cellsOf, RT]) (q2w a0) (q2v a0 hp)
theorem q66 (hq : zy (cfg sp)) : qid XK szK (cfg sp) 25 q9x := by
  intro ns pre r h hp
  unfold q9x at h
  dsimp only at h
  split at h
  · cases h
    exact ⟨_, rfl, q2u hq _ hp, j5 rfl⟩
  · cases h
theorem q21 (hq : zy (cfg sp)) (a0 : List Row) (a1 : List Row) (a2 : Bool) (hp : (ln a0 ≤ 1000000000 ∧ (∀ r ∈ a0, ln r.Words ≤ 1000000000))) : qda XK szK (cfg sp) 10 [.list 6 (a0) none, .list 6 (a1) none, .sb 0 false (a2) (a2 = true) (a2 = false)] (qqz a0 a1 a2) :=
  qia qg6 qco (qac) hq (kh rfl) (by simp [P.flat, P.cellsOf, RT]) (q23 a0 a1 a2) (q22 a0 a1 a2 hp)
theorem q61 (hq : zy (cfg sp)) : qid XK szK (cfg sp) 10 q9s := by
  intro ns pre r h hp
  unfold q9s at h
  dsimp only at h
  split at h
  · cases h
    exact ⟨_, rfl, q21 hq _ _ _ hp, j5 rfl⟩
  · cases h
theorem q2r (hq : zy (cfg sp)) (a0 : List UInt8) (hp : (ln a0 ≤ 1000000000)) : qda XK szK (cfg sp) 26 [.str (a0)] (qqm a0) :=
  qia qg6 qco (ja (qz6 hq) (qac)) hq (kh rfl) (by simp [P.flat, P.cellsOf, RT]) (q2t a0) (q2s a0 hp)
theorem q67 (hq : zy (cfg sp)) : qid XK szK (cfg sp) 26 q9y := by
  intro ns pre r h hp
  unfold q9y at h
  dsimp only at h
  split at h
  · cases h
    exact ⟨_, rfl, q2r hq _ hp, j5 rfl⟩
  · cases h
theorem q3p (hq : zy (cfg sp)) (a0 : List Row) (hp : (qez a0)) : qda XK szK (cfg sp) 13 [.list 6 (a0) none] (qsa a0) :=
  qia qg6 qco (ja (q66 hq) (ja (q67 hq) (qac))) hq (kh rfl) (by simp [P.flat, P.cellsOf, RT]) (q3r a0) (q3q a0 hp)
theorem q64 (hq : zy (cfg sp)) : qid XK szK (cfg sp) 13 q9v := by
  intro ns pre r h hp
  unfold q9v at h
  dsimp only at h
  split at h
  · cases h
    exact ⟨_, rfl, q3p hq _ hp, j5 rfl⟩
  · cases h
theorem zan (hq : zy (cfg sp)) (a0 : List Row) (hp : (qez a0)) : qda XK szK (cfg sp) 12 [.list 6 (a0) none] (q0q a0) :=
  qia qg6 qco (qac) hq (kh rfl) (by simp [P.flat, P.cellsOf, RT]) (zaq a0) (zap a0 hp)
theorem q63 (hq : zy (cfg sp)) : qid XK szK (cfg sp) 12 q9u := by
  intro ns pre r h hp
  unfold q9u at h
  dsimp only at h
  split at h
  · cases h
    exact ⟨_, rfl, zan hq _ hp, j5 rfl⟩
  · cases h
theorem q2o (hq : zy (cfg sp)) (a0 : Int) (hp : (U8 a0)) : qda XK szK (cfg sp) 42 [.int .u8 none (a0)] (qql a0) :=
  qia qg6 qco (qac) hq (kh rfl) (by simp [P.flat, P.cellsOf, RT]) (q2q a0) (q2p a0 hp)
theorem q7a (hq : zy (cfg sp)) : qid XK szK (cfg sp) 42 q90 := by
  intro ns pre r h hp
  unfold q90 at h
  dsimp only at h
  split at h
  · cases h
    exact ⟨_, rfl, q2o hq _ hp, j5 rfl⟩
  · cases h
theorem qyv (hq : zy (cfg sp)) (a0 : Int) (hp : (U8 a0)) : qda XK szK (cfg sp) 44 [.int .u8 none (a0)] (qnz a0) :=
  qia qg6 qco (qac) hq (kh rfl) (by simp [P.flat, P.cellsOf, RT]) (qyx a0) (qyw a0 hp)
theorem q7b (hq : zy (cfg sp)) : qid XK szK (cfg sp) 44 q91 := by
  intro ns pre r h hp
  unfold q91 at h
  dsimp only at h
  split at h
  · cases h
    exact ⟨_, rfl, qyv hq _ hp, j5 rfl⟩
  · cases h
theorem q6l (hq : zy (cfg sp)) (a0 : Int) (a1 : List UInt8) (a2 : Bool) (hp : (ln a1 ≤ 100000)) : qda XK szK (cfg sp) 30 [.agg [.int .i64 none (a0), .str (a1), .sb 0 false (a2) (a2 = true) (a2 = false)]] (qt0 a0 a1 a2) :=
  qia qg6 qco (ja (q7b hq) (ja (q7a hq) (qac))) hq (kh rfl) (by simp [P.flat, P.cellsOf, RT]) (q6n a0 a1 a2) (q6m a0 a1 a2 hp)
theorem q68 (hq : zy (cfg sp)) : qid XK szK (cfg sp) 30 q9z := by
  intro ns pre r h hp
  unfold q9z at h
  dsimp only at h
  split at h
  · cases h
    exact ⟨_, rfl, q6l hq _ _ _ hp, j5 rfl⟩
  · cases h
theorem q3m (hq : zy (cfg sp)) (a0 : List Row) (hp : (qez a0)) : qda XK szK (cfg sp) 14 [.list 6 (a0) none] (qr9 a0) :=
  qia qg6 qco (ja (q68 hq) (qac)) hq (kh rfl) (by simp [P.flat, P.cellsOf, RT]) (q3o a0) (q3n a0 hp)
theorem q65 (hq : zy (cfg sp)) : qid XK szK (cfg sp) 14 q9w := by
  intro ns pre r h hp
  unfold q9w at h
  dsimp only at h
  split at h
  · cases h
    exact ⟨_, rfl, q3m hq _ hp, j5 rfl⟩
  · cases h
theorem q14 (hq : zy (cfg sp)) (a0 : List Row) : qda XK szK (cfg sp) 11 [.list 6 (a0) none] (qqb a0) :=
  qia qg6 qco (qac) hq (kh rfl) (by simp [P.flat, P.cellsOf, RT]) (q16 a0) (q15 a0 )
theorem q62 (hq : zy (cfg sp)) : qid XK szK (cfg sp) 11 q9t := by
  intro ns pre r h hp
  unfold q9t at h
  dsimp only at h
  split at h
  · cases h
    exact ⟨_, rfl, q14 hq _, j5 rfl⟩
  · cases h
theorem qn0 (hq : zy (cfg sp)) (hf7 : qid XK szK (cfg sp) 7 ct7) (a0 : List Row) : qda XK szK (cfg sp) 4 [.list 6 (a0) none] (qlw a0) :=
  qia qg6 qco (ja (q62 hq) (ja hf7 (ja (q63 hq) (ja (q64 hq) (ja (q65 hq) (ja (q61 hq) (qac))))))) hq (kh rfl) (by simp [P.flat, P.cellsOf, RT]) (qwv a0) (qwu a0 )
theorem zei (hq : zy (cfg sp)) (hf7 : qid XK szK (cfg sp) 7 ct7) : qid XK szK (cfg sp) 4 ct4 := by
  intro ns pre r h hp
  unfold ct4 at h
  dsimp only at h
  split at h
  · cases h
    exact ⟨_, rfl, qn0 hq hf7 _, j5 rfl⟩
  · cases h
end Go.Proofs.YtofmpipjklcjhaaDoor
