/- THE CONDITION of the law BookBack holds. -/
import Derived.Test.YtlkfjinaiepocaaDoorVcsLB
import Derived.Test.YtlkfjinaiepocaaDoorOksL
namespace Go.Proofs.YtlkfjinaiepocaaDoor
open Go Go.E2 Go.E3
set_option maxRecDepth 100000
section
variable {a0 : List Int} {a1 a2 x k : Int} {b : Bool}
theorem gb0 (h : ka a0 a1 a2 x) : 0 ≤ x := h.get.1
theorem gb1 (h : kb a0 a1 a2 k x) : 0 ≤ k := h.get.1
theorem lb0 : ka a0 a1 a2 0 := ⟨Int.le_refl 0, qx _⟩
theorem lb1 : kb a0 a1 a2 0 x := ⟨Int.le_refl 0, qx _⟩
theorem zea (h : ka a0 a1 a2 x) (hx : x < ln (bkP a0 (16 + qa a1 45) (1 + qa a2 12))) : ka a0 a1 a2 (x + 1) := ⟨by have := h.get.1; omega, by omega⟩
theorem zec (h : kb a0 a1 a2 k x) (hx : k < ln (ix (bkP a0 (16 + qa a1 45) (1 + qa a2 12)) x).Staves) : kb a0 a1 a2 (k + 1) x := ⟨by have := h.get.1; omega, by omega⟩
theorem zd9 (hx : x < ln (bkP a0 (16 + qa a1 45) (1 + qa a2 12))) : j5 a0 a1 a2 (x + 1) < j5 a0 a1 a2 x := by simp only [j5]; omega
theorem zeb (hx : k < ln (ix (bkP a0 (16 + qa a1 45) (1 + qa a2 12)) x).Staves) : j6 a0 a1 a2 (k + 1) x < j6 a0 a1 a2 k x := by simp only [j6]; omega
end
theorem q8u {nm : List UInt8} {l : List Sign} {w h : Int} {g : List Page} (hb : BookOk nm l w h g) : qbt nm g = (nm, l, 0) := by
  unfold qbt
  rw [hb.check, if_neg (by simp), hb.part]

set_option maxHeartbeats 8000000 in
theorem qz4 (a0 : List Int) (a1 a2 : Int) (hp : zbg a0 ∧ I64 a1 ∧ I64 a2) : qls a0 a1 a2 := by
  obtain ⟨⟨_, hg⟩, hi1, hi2⟩ := hp
  have m1 := qec (a := a1) (show (0 : Int) < 45 by decide)
  have m2 := qec (a := a2) (show (0 : Int) < 12 by decide)
  have hb := q3o a0 (w := 16 + qa a1 45) (h := 1 + qa a2 12) (by omega) (by omega) (by omega) (by omega)
  have ho := q14 a0
  have hnl := q6r ho.name
  have hn := ho.n
  have hl := hb.pgs.len
  have hsm := hb.sm
  have hS : z6 (qm a0).1 (qm a0).2 (qm a0).1 (qm a0).2 = true := by simp [z6]
  have hpg : ∀ x, ka a0 a1 a2 x → x < ln (bkP a0 (16 + qa a1 45) (1 + qa a2 12)) → ln (ix (bkP a0 (16 + qa a1 45) (1 + qa a2 12)) x).Staves ≤ 1 + qa a2 12 := fun x h h' => (q2a hb.pgs (by omega) h.get.1 h').1
  have hst : ∀ x k, ka a0 a1 a2 x → x < ln (bkP a0 (16 + qa a1 45) (1 + qa a2 12)) → kb a0 a1 a2 k x → k < ln (ix (bkP a0 (16 + qa a1 45) (1 + qa a2 12)) x).Staves → ln (ix (ix (bkP a0 (16 + qa a1 45) (1 + qa a2 12)) x).Staves k).Signs ≤ 16 + qa a1 45 := fun x k h h' q q' => (q2a hb.pgs (by omega) h.get.1 h').2 k q.get.1 q'
  have hfu : ∀ x, ka a0 a1 a2 x → x + 1 < ln (bkP a0 (16 + qa a1 45) (1 + qa a2 12)) → ln (ix (bkP a0 (16 + qa a1 45) (1 + qa a2 12)) x).Staves = 1 + qa a2 12 := fun x h h' => hb.pgs.full x h.get.1 h'
  unfold qls
  rw [hb.made]
  dsimp only
  rw [hb.check, q8u hb]
  dsimp only
  unhygienic (repeat' (first | with_reducible exact trivial | with_reducible rfl | with_reducible exact hsm | with_reducible exact hi1 | with_reducible exact hi2 | with_reducible exact hg | apply And.intro | intro))
  all_goals first
    | with_reducible assumption
    | with_reducible exact lb0
    | with_reducible exact lb1
    | with_reducible exact zea (by assumption) (by assumption)
    | with_reducible exact zec (by assumption) (by assumption)
    | with_reducible exact zd9 (by assumption)
    | with_reducible exact zeb (by assumption)
    | omega
    | (have h0 := gb0 (by with_reducible assumption); omega)
    | (have h1 := gb1 (by assumption); omega)
    | (have h2 := hpg _ (by assumption) (by assumption); omega)
    | (have h2 := hpg _ (by assumption) (by assumption); have h1 := gb1 (by assumption); omega)
    | (exfalso; have h3 := hst _ _ (by assumption) (by assumption) (by assumption) (by assumption); omega)
    | (exfalso; have h3 := hfu _ (by assumption) (by assumption); omega)
    | (exfalso; have h3 : _ = false := (by assumption); rw [hS] at h3; cases h3)
    | skip
end Go.Proofs.YtlkfjinaiepocaaDoor
