/- THE CONDITION of whole holds. -/
import Derived.Test.YtlkfjinaiepocaaDoorOksM
namespace Go.Proofs.YtlkfjinaiepocaaDoor
open Go Go.E2 Go.E3
set_option maxRecDepth 100000

theorem qxg {l : List Sign} {i : Int} (h : 0 ≤ i) : 0 ≤ (qhi l i).2 ∧ (qhi l i).2 ≤ ln l := by
  by_cases hc : i < ln l
  · by_cases he : qmw l i = 0
    · rw [qfk hc he]
      exact qxg (by omega)
    · rw [q1d hc he]
      exact ⟨h, by show i ≤ ln l; omega⟩
  · rw [qvp (by omega)]
    exact ⟨Int.le_refl _, qo _⟩
 termination_by (ln l - i).toNat
 decreasing_by omega
theorem q3d (nm : List UInt8) (l : List Sign) : 0 ≤ (zl nm l).2 ∧ (zl nm l).2 ≤ ln l := by
  have := qo l
  unfold zl
  split
  · exact ⟨Int.le_refl _, this⟩
  · split
    · exact ⟨Int.le_refl _, this⟩
    · exact qxg (Int.le_refl _)

section
variable {a0 : List UInt8} {a1 : List Page} {x1 x y n a e : Int} {l : List Sign}
theorem gw0 (h : jt a0 a1 x) : 0 ≤ x ∧ x ≤ ln (qd a1) := ⟨h.get.1, h.get.2.1⟩
theorem gw1 (h : zc a0 a1 x) : 0 ≤ x ∧ x ≤ ln (qd a1) := ⟨h.get.1, h.get.2.1⟩
theorem gw2 (h : jg a0 a1 y x) : x + 1 ≤ y ∧ y ≤ ln (qd a1) := ⟨h.get.1, h.get.2.1⟩
theorem gw3 (h : kv a0 a1 a n) : 0 ≤ n ∧ n ≤ ln (qc a1) ∧ a = ln (kl (upto (qc a1) n)) := ⟨h.get.1, h.get.2.1, h.get.2.2.1⟩
theorem w_e (hc : (zl a0 (qd a1)).1 ≠ 0) : za a0 a1 = ((zl a0 (qd a1)).1, zj a1 (zl a0 (qd a1)).2) := by unfold za; rw [if_pos hc]
theorem w_t (hc : (zl a0 (qd a1)).1 = 0) (h : jt a0 a1 x) (hx : x < ln (qd a1)) (hk : (ix (qd a1) x).Kind = 11) : za a0 a1 = (8, zj a1 x) := by
  obtain ⟨h1, h2, h3⟩ := h
  rw [qh1 h1 hx, if_pos hk] at h3
  unfold za
  rw [if_neg (by simp [hc]), ← h3, if_pos h1]
theorem w_n (hc : (zl a0 (qd a1)).1 = 0) (h : jt a0 a1 x) (hx : ln (qd a1) ≤ x) : za a0 a1 = if (qj8 a1 (qd a1) 0).1 ≠ 0 then qj8 a1 (qd a1) 0 else qqb (qd a1) (qc a1) 0 0 := by
  obtain ⟨h1, h2, h3⟩ := h
  rw [qs5 hx] at h3
  unfold za
  rw [if_neg (by simp [hc]), if_neg (by omega)]
theorem w0s (h : jt a0 a1 x) (hx : x < ln (qd a1)) (hk : (ix (qd a1) x).Kind ≠ 11) : jt a0 a1 (x + 1) := by
  obtain ⟨h1, h2, h3⟩ := h
  rw [qh1 h1 hx, if_neg hk] at h3
  exact ⟨by omega, by omega, h3⟩
theorem w00 : jt a0 a1 0 := ⟨Int.le_refl 0, qo _, by rw [qeh]; rfl⟩
theorem w10 : zc a0 a1 0 := ⟨Int.le_refl 0, qo _, rfl⟩
theorem w20 (hx : x < ln (qd a1)) : jg a0 a1 (x + 1) x := ⟨Int.le_refl _, by omega, rfl⟩
theorem w2s (h : jg a0 a1 y x) (hy : y < ln (qd a1)) (hk : (ix (qd a1) (y - 1)).Kind = 4) (hl : (ix (qd a1) (y - 1)).Last = false) : jg a0 a1 (y + 1) x := by
  obtain ⟨h1, h2, h3⟩ := h
  exact ⟨by omega, by omega, by rw [← h3, qhz ⟨hy, hk, hl⟩]⟩
theorem stA (h : ln l ≤ y) : ¬ (y < ln l ∧ (ix l (y - 1)).Kind = 4 ∧ (ix l (y - 1)).Last = false) := fun hh => by omega
theorem stB (h : (ix l (y - 1)).Last = true) : ¬ (y < ln l ∧ (ix l (y - 1)).Kind = 4 ∧ (ix l (y - 1)).Last = false) := fun hh => by rw [h] at hh; cases hh.2.2
theorem stC (h : (ix l (y - 1)).Kind ≠ 4) : ¬ (y < ln l ∧ (ix l (y - 1)).Kind = 4 ∧ (ix l (y - 1)).Last = false) := fun hh => h hh.2.1
theorem qvy (h : jg a0 a1 y x) (hs : ¬ (y < ln (qd a1) ∧ (ix (qd a1) (y - 1)).Kind = 4 ∧ (ix (qd a1) (y - 1)).Last = false)) (hy : y < ln (qd a1)) (hk : (ix (qd a1) y).Kind = 3) : gE (qd a1) x = y + 1 := by
  obtain ⟨h1, h2, h3⟩ := h
  rw [qfg hs] at h3
  unfold gE
  rw [← h3, if_pos ⟨hy, hk⟩]
theorem q1w (h : jg a0 a1 y x) (hs : ¬ (y < ln (qd a1) ∧ (ix (qd a1) (y - 1)).Kind = 4 ∧ (ix (qd a1) (y - 1)).Last = false)) (hk : ln (qd a1) ≤ y ∨ (ix (qd a1) y).Kind ≠ 3) : gE (qd a1) x = y := by
  obtain ⟨h1, h2, h3⟩ := h
  rw [qfg hs] at h3
  unfold gE
  rw [← h3, if_neg]
  rintro ⟨q1, q2⟩
  rcases hk with hk | hk
  · omega
  · exact hk q2
theorem w1s (h1 : zc a0 a1 x) (hx : x < ln (qd a1)) (hg : gE (qd a1) x = e) (ho : zj a1 x = zj a1 (e - 1)) : zc a0 a1 e := by
  obtain ⟨q1, q2, q3⟩ := h1
  have := qie hx
  rw [hg] at this
  exact ⟨by omega, by omega, by rw [← q3, quj hx (by rw [hg]; exact ho), hg]⟩
theorem w1m (h1 : zc a0 a1 x) (hx : x < ln (qd a1)) (hg : gE (qd a1) x = e) : ql a0 a1 e < ql a0 a1 x := by
  have := qie hx
  rw [hg] at this
  simp only [ql]; omega
theorem w1b (hc : (zl a0 (qd a1)).1 = 0) (h0 : jt a0 a1 x1) (h0e : ln (qd a1) ≤ x1) (h1 : zc a0 a1 x) (hx : x < ln (qd a1)) (hg : gE (qd a1) x = e) (ho : zj a1 x ≠ zj a1 (e - 1)) : za a0 a1 = (6, zj a1 x) := by
  have h : qj8 a1 (qd a1) 0 = (6, zj a1 x) := by rw [← h1.get.2.2, q6h hx (by rw [hg]; exact ho)]
  rw [w_n hc h0 h0e, h]; exact if_pos (show (6 : Int) ≠ 0 by decide)
theorem w_c (hc : (zl a0 (qd a1)).1 = 0) (h0 : jt a0 a1 x1) (h0e : ln (qd a1) ≤ x1) (h1 : zc a0 a1 x) (hx : ln (qd a1) ≤ x) : za a0 a1 = qqb (qd a1) (qc a1) 0 0 := by
  have h : qj8 a1 (qd a1) 0 = (0, 0) := by rw [← h1.get.2.2, qx8 hx]
  rw [w_n hc h0 h0e, h]; exact if_neg (show ¬ ((0 : Int) ≠ 0) by decide)
theorem w30 : kv a0 a1 0 0 := ⟨Int.le_refl 0, qo _, by rw [qbt]; rfl, by rw [qeh]⟩
theorem w3n (hl : qn a1) (h : kv a0 a1 a n) (hn : n < ln (qc a1)) : a + (ln (ix (qc a1) n).Signs - (ix (qc a1) n).Lead) = ln (kl (upto (qc a1) (n + 1))) ∧ a + (ln (ix (qc a1) n).Signs - (ix (qc a1) n).Lead) ≤ ln (qd a1) ∧ 0 ≤ a ∧ 0 ≤ ln (ix (qc a1) n).Signs - (ix (qc a1) n).Lead := by
  obtain ⟨h1, h2, h3, h4⟩ := h
  have hL := hl _ (qbd h1 hn)
  have e1 : ln (kl (upto (qc a1) (n + 1))) = a + (ln (ix (qc a1) n).Signs - (ix (qc a1) n).Lead) := by
    rw [qah h1 hn, qjf, qbq, qnk hL, h3]
  have e2 : qd a1 = kl (upto (qc a1) (n + 1)) ++ kl (fr (qc a1) (n + 1)) := by
    rw [← q39, qd]
    congr 1
    simp [upto, fr]
  have e3 := qo (kl (fr (qc a1) (n + 1)))
  have e4 := qo (kl (upto (qc a1) n))
  refine ⟨e1.symm, ?_, by omega, by have := hL.2; omega⟩
  rw [e2, qbq]
  omega
theorem w3s (hl : qn a1) (h : kv a0 a1 a n) (hn : n < ln (qc a1)) (hc : (ix (qc a1) n).Catch = (zo (fr (qd a1) (a + (ln (ix (qc a1) n).Signs - (ix (qc a1) n).Lead)))).1) (hd : (ix (qc a1) n).Custos = (zo (fr (qd a1) (a + (ln (ix (qc a1) n).Signs - (ix (qc a1) n).Lead)))).2) :
    kv a0 a1 (a + (ln (ix (qc a1) n).Signs - (ix (qc a1) n).Lead)) (n + 1) := by
  have h0 := w3n hl h hn
  obtain ⟨h1, h2, h3, h4⟩ := h
  rw [qa0 h1 hn] at h4
  simp only [qqb] at h4
  rw [if_pos ⟨hc, hd⟩] at h4
  exact ⟨by omega, by omega, h0.1, h4⟩
theorem w3b (h : kv a0 a1 a n) (hn : n < ln (qc a1)) (hw : za a0 a1 = qqb (qd a1) (qc a1) 0 0) (hc : (ix (qc a1) n).Catch ≠ (zo (fr (qd a1) (a + (ln (ix (qc a1) n).Signs - (ix (qc a1) n).Lead)))).1 ∨ (ix (qc a1) n).Custos ≠ (zo (fr (qd a1) (a + (ln (ix (qc a1) n).Signs - (ix (qc a1) n).Lead)))).2) :
    za a0 a1 = (3, n) := by
  obtain ⟨h1, h2, h3, h4⟩ := h
  rw [qa0 h1 hn] at h4
  simp only [qqb] at h4
  rw [if_neg] at h4
  · rw [hw, ← h4]
  · rintro ⟨q1, q2⟩
    rcases hc with hc | hc
    · exact hc q1
    · exact hc q2
theorem w3e (h : kv a0 a1 a n) (hn : ln (qc a1) ≤ n) (hw : za a0 a1 = qqb (qd a1) (qc a1) 0 0) : za a0 a1 = (0, 0) := by
  rw [hw, ← h.get.2.2.2, qfy hn]
  rfl
theorem p1 {p : Int × Int} {u v : Int} (h : p = (u, v)) : u = p.1 := by rw [h]
theorem p2 {p : Int × Int} {u v : Int} (h : p = (u, v)) : v = p.2 := by rw [h]
end

set_option maxHeartbeats 8000000 in
theorem q8i (a0 : List UInt8) (a1 : List Page) (hp : ln a0 ≤ 1000000000 ∧ smB a1 ∧ qn a1) : qs6 a0 a1 := by
  obtain ⟨hq, hs, hl⟩ := hp
  have hb := q2j hs hl
  have hcb := q3d a0 (qd a1)
  have hst := (qgs hs).1
  have hfr : ∀ i : Int, ln (fr (qd a1) i) ≤ ln (qd a1) := fun i => by simp only [ln, fr, List.length_drop]; omega
  have hsg : ∀ i, 0 ≤ i → i < ln (qc a1) → ln (ix (qc a1) i).Signs ≤ 500 ∧ 0 ≤ (ix (qc a1) i).Lead := fun i h h' => ⟨(qgs hs).2 _ (qbd h h'), (hl _ (qbd h h')).1⟩
  have hcz : (zl a0 (qd a1)).1 = 0 ∨ (zl a0 (qd a1)).1 ≠ 0 := by omega
  unfold qs6
  unhygienic (repeat' (first | with_reducible exact trivial | with_reducible rfl | with_reducible exact hs | with_reducible exact hl | apply And.intro | intro))
  all_goals first
    | with_reducible exact w00
    | with_reducible exact w10
    | with_reducible exact w30
    | omega
    | (have h0 := gw0 (by assumption); omega)
    | (have h1 := gw1 (by assumption); omega)
    | (have h1 := gw1 (by assumption); have h2 := gw2 (by assumption); omega)
    | (have h3 := gw3 (by assumption); omega)
    | (have h3 := gw3 (by assumption); have h4 := w3n hl (by assumption) (by assumption); have h5 := hsg _ h3.1 (by assumption); omega)
    | (have h4 := hfr (x9 + (ln (ix (qc a1) x10).Signs - (ix (qc a1) x10).Lead)); omega)
    | (have h4 := hfr (x7 + (ln (ix (qc a1) x8).Signs - (ix (qc a1) x8).Lead)); omega)
    | with_reducible exact p1 (w_e (by assumption))
    | with_reducible exact p2 (w_e (by assumption))
    | with_reducible exact p1 (w_t (by assumption) (by assumption) (by assumption) (by assumption))
    | with_reducible exact p2 (w_t (by assumption) (by assumption) (by assumption) (by assumption))
    | with_reducible exact w0s (by assumption) (by assumption) (by assumption)
    | with_reducible exact w20 (by assumption)
    | with_reducible exact w2s (by assumption) (by assumption) (by assumption) (by assumption)
    | with_reducible exact w1s (by assumption) (by assumption) (by first
        | exact qvy (by assumption) (by first | exact stB (by assumption) | exact stC (by assumption)) (by assumption) (by assumption)
        | exact q1w (by assumption) (by first | exact stA (by assumption) | exact stB (by assumption) | exact stC (by assumption)) (by first | exact .inl (by assumption) | exact .inr (by assumption))) (by assumption)
    | with_reducible exact w1m (by assumption) (by assumption) (by first
        | exact qvy (by assumption) (by first | exact stB (by assumption) | exact stC (by assumption)) (by assumption) (by assumption)
        | exact q1w (by assumption) (by first | exact stA (by assumption) | exact stB (by assumption) | exact stC (by assumption)) (by first | exact .inl (by assumption) | exact .inr (by assumption)))
    | with_reducible exact p1 (w1b (by assumption) (by assumption) (by assumption) (by assumption) (by assumption) (by first
        | exact qvy (by assumption) (by first | exact stB (by assumption) | exact stC (by assumption)) (by assumption) (by assumption)
        | exact q1w (by assumption) (by first | exact stA (by assumption) | exact stB (by assumption) | exact stC (by assumption)) (by first | exact .inl (by assumption) | exact .inr (by assumption))) (by assumption))
    | with_reducible exact p2 (w1b (by assumption) (by assumption) (by assumption) (by assumption) (by assumption) (by first
        | exact qvy (by assumption) (by first | exact stB (by assumption) | exact stC (by assumption)) (by assumption) (by assumption)
        | exact q1w (by assumption) (by first | exact stA (by assumption) | exact stB (by assumption) | exact stC (by assumption)) (by first | exact .inl (by assumption) | exact .inr (by assumption))) (by assumption))
    | with_reducible exact w3s hl (by assumption) (by assumption) (by assumption) (by assumption)
    | with_reducible exact p1 (w3b (by assumption) (by assumption) (w_c (by assumption) (by assumption) (by assumption) (by assumption) (by assumption)) (by first | exact .inl (by assumption) | exact .inr (by assumption)))
    | with_reducible exact p2 (w3b (by assumption) (by assumption) (w_c (by assumption) (by assumption) (by assumption) (by assumption) (by assumption)) (by first | exact .inl (by assumption) | exact .inr (by assumption)))
    | with_reducible exact p1 (w3e (by assumption) (by assumption) (w_c (by assumption) (by assumption) (by assumption) (by assumption) (by assumption)))
    | with_reducible exact p2 (w3e (by assumption) (by assumption) (w_c (by assumption) (by assumption) (by assumption) (by assumption) (by assumption)))
    | (simp only [qgg]; omega)
    | (simp only [qc7]; omega)
    | (simp only [qc8]; omega)
    | skip
end Go.Proofs.YtlkfjinaiepocaaDoor
