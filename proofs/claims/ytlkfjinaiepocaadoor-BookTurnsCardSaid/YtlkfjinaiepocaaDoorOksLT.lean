/- THE CONDITION of the law BookTurns holds. -/
import Derived.Test.YtlkfjinaiepocaaDoorVcsLT
import Derived.Test.YtlkfjinaiepocaaDoorOksL
namespace Go.Proofs.YtlkfjinaiepocaaDoor
open Go Go.E2 Go.E3
set_option maxRecDepth 100000
/-! ### Turns -/
section
variable {a0 : List Int} {a1 a2 x k : Int} {b : Bool}
theorem gu1 (h : qy a0 a1 a2 b k x) : 0 ≤ k := h.get.1
theorem lu0 : zb a0 a1 a2 0 := ⟨Int.le_refl 0, qo _⟩
theorem lu1 : qy a0 a1 a2 false 0 x := ⟨Int.le_refl 0, qo _, by rw [qbt]; rfl⟩
theorem zeh (h : zb a0 a1 a2 x) (hx : x < ln (bkP a0 (16 + qa a1 8) (1 + qa a2 3))) : zb a0 a1 a2 (x + 1) := ⟨by have := h.get.1; omega, by omega⟩
theorem zeg (hx : x < ln (bkP a0 (16 + qa a1 8) (1 + qa a2 3))) : zf a0 a1 a2 (x + 1) < zf a0 a1 a2 x := by simp only [zf]; omega
theorem zel (h : qy a0 a1 a2 b k x) (hx : k < ln (ix (ix (bkP a0 (16 + qa a1 8) (1 + qa a2 3)) x).Staves ((ln (ix (bkP a0 (16 + qa a1 8) (1 + qa a2 3)) x).Staves) - 1)).Signs) (hb : b = true) : qy a0 a1 a2 true (k + 1) x := by
  obtain ⟨h1, h2, h3⟩ := h
  have hx : k < ln (qld a0 a1 a2 x).Signs := hx
  refine ⟨by omega, by omega, ?_⟩
  rw [qah h1 hx, List.any_append, ← h3, hb]; rfl
theorem zej (h : qy a0 a1 a2 b k x) (hx : k < ln (ix (ix (bkP a0 (16 + qa a1 8) (1 + qa a2 3)) x).Staves ((ln (ix (bkP a0 (16 + qa a1 8) (1 + qa a2 3)) x).Staves) - 1)).Signs) (hb : b = false) : qy a0 a1 a2 (decide ((ix (ix (ix (bkP a0 (16 + qa a1 8) (1 + qa a2 3)) x).Staves ((ln (ix (bkP a0 (16 + qa a1 8) (1 + qa a2 3)) x).Staves) - 1)).Signs k).Kind = 2)) (k + 1) x := by
  obtain ⟨h1, h2, h3⟩ := h
  have hx : k < ln (qld a0 a1 a2 x).Signs := hx
  refine ⟨by omega, by omega, ?_⟩
  rw [qah h1 hx, List.any_append, ← h3, hb]
  simp
  exact Iff.rfl
theorem zek {b' : Bool} (hx : k < ln (ix (ix (bkP a0 (16 + qa a1 8) (1 + qa a2 3)) x).Staves ((ln (ix (bkP a0 (16 + qa a1 8) (1 + qa a2 3)) x).Staves) - 1)).Signs) : zg a0 a1 a2 b' (k + 1) x < zg a0 a1 a2 b k x := by
  have hx : k < ln (qld a0 a1 a2 x).Signs := hx
  simp only [zg]; omega
theorem zei (h : qy a0 a1 a2 b k x) (hx : ln (ix (ix (bkP a0 (16 + qa a1 8) (1 + qa a2 3)) x).Staves ((ln (ix (bkP a0 (16 + qa a1 8) (1 + qa a2 3)) x).Staves) - 1)).Signs ≤ k) (hb : b = true) : (ix (ix (bkP a0 (16 + qa a1 8) (1 + qa a2 3)) x).Staves ((ln (ix (bkP a0 (16 + qa a1 8) (1 + qa a2 3)) x).Staves) - 1)).Signs.any (fun s => decide (s.Kind = 2)) = true := by
  obtain ⟨h1, h2, h3⟩ := h
  have hx : ln (qld a0 a1 a2 x).Signs ≤ k := hx
  rw [qet hx] at h3
  show (qld a0 a1 a2 x).Signs.any _ = true
  rw [← h3]; exact hb
end
theorem q78 {nm : List UInt8} {l : List Sign} {w h : Int} {g : List Page} (hb : BookOk nm l w h g) : zh nm g = ((zy (-1) false g).1, (zy (-1) false g).2, 0) := by
  unfold zh
  rw [hb.check, if_neg (by simp)]

set_option maxHeartbeats 8000000 in
theorem qyd (a0 : List Int) (a1 a2 : Int) (hp : zbk a0 ∧ I64 a1 ∧ I64 a2) : qkb a0 a1 a2 := by
  obtain ⟨⟨_, hg⟩, hi1, hi2⟩ := hp
  have m1 := qen (a := a1) (show (0 : Int) < 8 by decide)
  have m2 := qen (a := a2) (show (0 : Int) < 3 by decide)
  have hb := q3w a0 (w := 16 + qa a1 8) (h := 1 + qa a2 3) (by omega) (by omega) (by omega) (by omega)
  have ho := q18 a0
  have hnl := q6y ho.name
  have hn := ho.n
  have hl := hb.pgs.len
  have hsm := hb.sm
  have hgn := qo (bkP a0 (16 + qa a1 8) (1 + qa a2 3))
  have ht0 : ln (bkP a0 (16 + qa a1 8) (1 + qa a2 3)) ≤ 0 → ln (zy (-1) false (bkP a0 (16 + qa a1 8) (1 + qa a2 3))).1 = 0 ∧ ln (zy (-1) false (bkP a0 (16 + qa a1 8) (1 + qa a2 3))).2 = 0 := fun h => by
    rw [q15 h]; exact ⟨rfl, rfl⟩
  have ht1 : 0 < ln (bkP a0 (16 + qa a1 8) (1 + qa a2 3)) → ln (zy (-1) false (bkP a0 (16 + qa a1 8) (1 + qa a2 3))).1 = ln (bkP a0 (16 + qa a1 8) (1 + qa a2 3)) - 1 ∧ ln (zy (-1) false (bkP a0 (16 + qa a1 8) (1 + qa a2 3))).2 = ln (bkP a0 (16 + qa a1 8) (1 + qa a2 3)) - 1 := fun h => qvc (fun hh => by rw [hh] at h; simp [ln] at h)
  have hz : ln (bkP a0 (16 + qa a1 8) (1 + qa a2 3)) = 0 → ln (qb a0).2 = 0 := fun h => by
    have h2 := hb.pgs
    have h3 : bkP a0 (16 + qa a1 8) (1 + qa a2 3) = [] := q15 (by omega)
    rw [h3] at h2
    exact h2.ne.symm
  have hpg : ∀ x, zb a0 a1 a2 x → x < ln (bkP a0 (16 + qa a1 8) (1 + qa a2 3)) → ln (ix (bkP a0 (16 + qa a1 8) (1 + qa a2 3)) x).Staves ≤ 1 + qa a2 3 := fun x h h' => (q2f hb.pgs (by omega) h.get.1 h').1
  have htk : ∀ x, zb a0 a1 a2 x → x < ln (zy (-1) false (bkP a0 (16 + qa a1 8) (1 + qa a2 3))).1 → TurnOk (qb a0).2 (ix (bkP a0 (16 + qa a1 8) (1 + qa a2 3)) x) (ix (zy (-1) false (bkP a0 (16 + qa a1 8) (1 + qa a2 3))).1 x) (ix (zy (-1) false (bkP a0 (16 + qa a1 8) (1 + qa a2 3))).2 x) ∧ ln (ix (bkP a0 (16 + qa a1 8) (1 + qa a2 3)) x).Staves ≤ 3 ∧ 0 ≤ x ∧ x + 1 < ln (bkP a0 (16 + qa a1 8) (1 + qa a2 3)) := fun x h h' => by
    have h0 := h.get.1
    have hx : x + 1 < ln (bkP a0 (16 + qa a1 8) (1 + qa a2 3)) := by
      by_cases hh : 0 < ln (bkP a0 (16 + qa a1 8) (1 + qa a2 3))
      · have := (ht1 hh).1; omega
      · have := (ht0 (by omega)).1; omega
    exact ⟨zay hb.pgs h0 hx, by have := hpg x h (by omega); omega, h0, hx⟩
  have hsl : ∀ x, zb a0 a1 a2 x → x < ln (zy (-1) false (bkP a0 (16 + qa a1 8) (1 + qa a2 3))).1 → ln (qld a0 a1 a2 x).Signs ≤ 60 := fun x h h' => by
    have h2 := htk x h h'
    have := (q2f hb.pgs (by omega) h.get.1 (by omega)).2 (ln (ix (bkP a0 (16 + qa a1 8) (1 + qa a2 3)) x).Staves - 1) (by have := h2.1.ne; have := qo (ix (bkP a0 (16 + qa a1 8) (1 + qa a2 3)) x).Staves; omega) (by omega)
    show ln (ix (ix (bkP a0 (16 + qa a1 8) (1 + qa a2 3)) x).Staves _).Signs ≤ 60
    omega
  unfold qkb
  rw [hb.made]
  dsimp only
  rw [q78 hb]
  dsimp only
  unhygienic (repeat' (first | with_reducible exact trivial | with_reducible rfl | with_reducible exact hsm | with_reducible exact hi1 | with_reducible exact hi2 | with_reducible exact hg | apply And.intro | intro))
  all_goals first
    | with_reducible assumption
    | with_reducible exact lu0
    | with_reducible exact lu1
    | with_reducible exact zel (by assumption) (by assumption) (by assumption)
    | with_reducible exact zej (by assumption) (by assumption) (by assumption)
    | with_reducible exact zek (by assumption)
    | omega
    | (have h2 := htk _ (by with_reducible assumption) (by with_reducible assumption); omega)
    | (have h2 := htk _ (by with_reducible assumption) (by with_reducible assumption); exact zeh (by with_reducible assumption) (by omega))
    | (have h2 := htk _ (by with_reducible assumption) (by with_reducible assumption); exact zeg (by omega))
    | (have h2 := htk _ (by with_reducible assumption) (by with_reducible assumption); have h3 := h2.1.ne; have h4 := h2.1.lo; have h5 := h2.1.hi; have h6 := qo (ix (bkP a0 (16 + qa a1 8) (1 + qa a2 3)) x8).Staves; omega)
    | (have h2 := htk _ (by with_reducible assumption) (by with_reducible assumption); have h3 := h2.1.ne; have h4 := h2.1.lo; have h5 := h2.1.hi; have h6 := qo (ix (bkP a0 (16 + qa a1 8) (1 + qa a2 3)) x7).Staves; omega)
    | (have h2 := gu1 (by with_reducible assumption); have h3 := hsl _ (by with_reducible assumption) (by with_reducible assumption); have h4 : _ < _ := ‹_ < ln (ix (ix (bkP a0 (16 + qa a1 8) (1 + qa a2 3)) _).Staves _).Signs›; simp only [qld] at h3; omega)
    | (exfalso; have h2 := htk _ (by with_reducible assumption) (by with_reducible assumption); have h3 := h2.1.rest (zei (by with_reducible assumption) (by with_reducible assumption) (by with_reducible assumption)); have h4 : ix (zy (-1) false (bkP a0 (16 + qa a1 8) (1 + qa a2 3))).2 _ = false := (by with_reducible assumption); rw [h3] at h4; cases h4)
    | skip
end Go.Proofs.YtlkfjinaiepocaaDoor
