/- THE CONDITION of whole holds. -/
import Derived.Test.YtlkfjinaiepocaaDoorOksM
namespace Go.Proofs.YtlkfjinaiepocaaDoor
open Go Go.E2 Go.E3
set_option maxRecDepth 100000

theorem qxc {l : List Sign} {i : Int} (h : 0 ≤ i) : 0 ≤ (qg6 l i).2 ∧ (qg6 l i).2 ≤ ln l := by
  by_cases hc : i < ln l
  · by_cases he : qmm l i = 0
    · rw [qfa hc he]
      exact qxc (by omega)
    · rw [q08 hc he]
      exact ⟨h, by show i ≤ ln l; omega⟩
  · rw [qvi (by omega)]
    exact ⟨Int.le_refl _, qx _⟩
 termination_by (ln l - i).toNat
 decreasing_by omega
theorem q26 (nm : List UInt8) (l : List Sign) : 0 ≤ (zh nm l).2 ∧ (zh nm l).2 ≤ ln l := by
  have := qx l
  unfold zh
  split
  · exact ⟨Int.le_refl _, this⟩
  · split
    · exact ⟨Int.le_refl _, this⟩
    · exact qxc (Int.le_refl _)

section
variable {a0 : List UInt8} {a1 : List Page} {x1 x y n a e : Int} {l : List Sign}
theorem gw0 (h : jl a0 a1 x) : 0 ≤ x ∧ x ≤ ln (qc a1) := ⟨h.get.1, h.get.2.1⟩
theorem gw1 (h : zb a0 a1 x) : 0 ≤ x ∧ x ≤ ln (qc a1) := ⟨h.get.1, h.get.2.1⟩
theorem gw2 (h : k9 a0 a1 y x) : x + 1 ≤ y ∧ y ≤ ln (qc a1) := ⟨h.get.1, h.get.2.1⟩
theorem gw3 (h : km a0 a1 a n) : 0 ≤ n ∧ n ≤ ln (qb a1) ∧ a = ln (qdc (upto (qb a1) n)) := ⟨h.get.1, h.get.2.1, h.get.2.2.1⟩
theorem w_e (hc : (zh a0 (qc a1)).1 ≠ 0) : za a0 a1 = ((zh a0 (qc a1)).1, zf a1 (zh a0 (qc a1)).2) := by unfold za; rw [if_pos hc]
theorem w_t (hc : (zh a0 (qc a1)).1 = 0) (h : jl a0 a1 x) (hx : x < ln (qc a1)) (hk : (ix (qc a1) x).Kind = 11) : za a0 a1 = (8, zf a1 x) := by
  obtain ⟨h1, h2, h3⟩ := h
  rw [qho h1 hx, if_pos hk] at h3
  unfold za
  rw [if_neg (by simp [hc]), ← h3, if_pos h1]
theorem w_n (hc : (zh a0 (qc a1)).1 = 0) (h : jl a0 a1 x) (hx : ln (qc a1) ≤ x) : za a0 a1 = if (qjv a1 (qc a1) 0).1 ≠ 0 then qjv a1 (qc a1) 0 else qpz (qc a1) (qb a1) 0 0 := by
  obtain ⟨h1, h2, h3⟩ := h
  rw [qst hx] at h3
  unfold za
  rw [if_neg (by simp [hc]), if_neg (by omega)]
theorem w0s (h : jl a0 a1 x) (hx : x < ln (qc a1)) (hk : (ix (qc a1) x).Kind ≠ 11) : jl a0 a1 (x + 1) := by
  obtain ⟨h1, h2, h3⟩ := h
  rw [qho h1 hx, if_neg hk] at h3
  exact ⟨by omega, by omega, h3⟩
theorem w00 : jl a0 a1 0 := ⟨Int.le_refl 0, qx _, by rw [qe1]; rfl⟩
theorem w10 : zb a0 a1 0 := ⟨Int.le_refl 0, qx _, rfl⟩
theorem w20 (hx : x < ln (qc a1)) : k9 a0 a1 (x + 1) x := ⟨Int.le_refl _, by omega, rfl⟩
theorem w2s (h : k9 a0 a1 y x) (hy : y < ln (qc a1)) (hk : (ix (qc a1) (y - 1)).Kind = 4) (hl : (ix (qc a1) (y - 1)).Last = false) : k9 a0 a1 (y + 1) x := by
  obtain ⟨h1, h2, h3⟩ := h
  exact ⟨by omega, by omega, by rw [← h3, qhm ⟨hy, hk, hl⟩]⟩
theorem stA (h : ln l ≤ y) : ¬ (y < ln l ∧ (ix l (y - 1)).Kind = 4 ∧ (ix l (y - 1)).Last = false) := fun hh => by omega
theorem stB (h : (ix l (y - 1)).Last = true) : ¬ (y < ln l ∧ (ix l (y - 1)).Kind = 4 ∧ (ix l (y - 1)).Last = false) := fun hh => by rw [h] at hh; cases hh.2.2
theorem stC (h : (ix l (y - 1)).Kind ≠ 4) : ¬ (y < ln l ∧ (ix l (y - 1)).Kind = 4 ∧ (ix l (y - 1)).Last = false) := fun hh => h hh.2.1
theorem qvr (h : k9 a0 a1 y x) (hs : ¬ (y < ln (qc a1) ∧ (ix (qc a1) (y - 1)).Kind = 4 ∧ (ix (qc a1) (y - 1)).Last = false)) (hy : y < ln (qc a1)) (hk : (ix (qc a1) y).Kind = 3) : gE (qc a1) x = y + 1 := by
  obtain ⟨h1, h2, h3⟩ := h
  rw [qe6 hs] at h3
  unfold gE
  rw [← h3, if_pos ⟨hy, hk⟩]
theorem q1t (h : k9 a0 a1 y x) (hs : ¬ (y < ln (qc a1) ∧ (ix (qc a1) (y - 1)).Kind = 4 ∧ (ix (qc a1) (y - 1)).Last = false)) (hk : ln (qc a1) ≤ y ∨ (ix (qc a1) y).Kind ≠ 3) : gE (qc a1) x = y := by
  obtain ⟨h1, h2, h3⟩ := h
  rw [qe6 hs] at h3
  unfold gE
  rw [← h3, if_neg]
  rintro ⟨q1, q2⟩
  rcases hk with hk | hk
  · omega
  · exact hk q2
theorem w1s (h1 : zb a0 a1 x) (hx : x < ln (qc a1)) (hg : gE (qc a1) x = e) (ho : zf a1 x = zf a1 (e - 1)) : zb a0 a1 e := by
  obtain ⟨q1, q2, q3⟩ := h1
  have := qhz hx
  rw [hg] at this
  exact ⟨by omega, by omega, by rw [← q3, qt9 hx (by rw [hg]; exact ho), hg]⟩
theorem w1m (h1 : zb a0 a1 x) (hx : x < ln (qc a1)) (hg : gE (qc a1) x = e) : qk a0 a1 e < qk a0 a1 x := by
  have := qhz hx
  rw [hg] at this
  simp only [qk]; omega
theorem w1b (hc : (zh a0 (qc a1)).1 = 0) (h0 : jl a0 a1 x1) (h0e : ln (qc a1) ≤ x1) (h1 : zb a0 a1 x) (hx : x < ln (qc a1)) (hg : gE (qc a1) x = e) (ho : zf a1 x ≠ zf a1 (e - 1)) : za a0 a1 = (6, zf a1 x) := by
  have h : qjv a1 (qc a1) 0 = (6, zf a1 x) := by rw [← h1.get.2.2, q6b hx (by rw [hg]; exact ho)]
  rw [w_n hc h0 h0e, h]; exact if_pos (show (6 : Int) ≠ 0 by decide)
theorem w_c (hc : (zh a0 (qc a1)).1 = 0) (h0 : jl a0 a1 x1) (h0e : ln (qc a1) ≤ x1) (h1 : zb a0 a1 x) (hx : ln (qc a1) ≤ x) : za a0 a1 = qpz (qc a1) (qb a1) 0 0 := by
  have h : qjv a1 (qc a1) 0 = (0, 0) := by rw [← h1.get.2.2, qx4 hx]
  rw [w_n hc h0 h0e, h]; exact if_neg (show ¬ ((0 : Int) ≠ 0) by decide)
theorem w30 : km a0 a1 0 0 := ⟨Int.le_refl 0, qx _, by rw [qgf]; rfl, by rw [qe1]⟩
theorem w3n (hl : qn a1) (h : km a0 a1 a n) (hn : n < ln (qb a1)) : a + (ln (ix (qb a1) n).Signs - (ix (qb a1) n).Lead) = ln (qdc (upto (qb a1) (n + 1))) ∧ a + (ln (ix (qb a1) n).Signs - (ix (qb a1) n).Lead) ≤ ln (qc a1) ∧ 0 ≤ a ∧ 0 ≤ ln (ix (qb a1) n).Signs - (ix (qb a1) n).Lead := by
  obtain ⟨h1, h2, h3, h4⟩ := h
  have hL := hl _ (qc3 h1 hn)
  have e1 : ln (qdc (upto (qb a1) (n + 1))) = a + (ln (ix (qb a1) n).Signs - (ix (qb a1) n).Lead) := by
    rw [qey h1 hn, qr7, qdt, qr5 hL, h3]
  have e2 : qc a1 = qdc (upto (qb a1) (n + 1)) ++ qdc (fr (qb a1) (n + 1)) := by
    rw [← q30, qc]
    congr 1
    simp [upto, fr]
  have e3 := qx (qdc (fr (qb a1) (n + 1)))
  have e4 := qx (qdc (upto (qb a1) n))
  refine ⟨e1.symm, ?_, by omega, by have := hL.2; omega⟩
  rw [e2, qdt]
  omega
theorem w3s (hl : qn a1) (h : km a0 a1 a n) (hn : n < ln (qb a1)) (hc : (ix (qb a1) n).Catch = (zj (fr (qc a1) (a + (ln (ix (qb a1) n).Signs - (ix (qb a1) n).Lead)))).1) (hd : (ix (qb a1) n).Custos = (zj (fr (qc a1) (a + (ln (ix (qb a1) n).Signs - (ix (qb a1) n).Lead)))).2) :
    km a0 a1 (a + (ln (ix (qb a1) n).Signs - (ix (qb a1) n).Lead)) (n + 1) := by
  have h0 := w3n hl h hn
  obtain ⟨h1, h2, h3, h4⟩ := h
  rw [qbc h1 hn] at h4
  simp only [qpz] at h4
  rw [if_pos ⟨hc, hd⟩] at h4
  exact ⟨by omega, by omega, h0.1, h4⟩
theorem w3b (h : km a0 a1 a n) (hn : n < ln (qb a1)) (hw : za a0 a1 = qpz (qc a1) (qb a1) 0 0) (hc : (ix (qb a1) n).Catch ≠ (zj (fr (qc a1) (a + (ln (ix (qb a1) n).Signs - (ix (qb a1) n).Lead)))).1 ∨ (ix (qb a1) n).Custos ≠ (zj (fr (qc a1) (a + (ln (ix (qb a1) n).Signs - (ix (qb a1) n).Lead)))).2) :
    za a0 a1 = (3, n) := by
  obtain ⟨h1, h2, h3, h4⟩ := h
  rw [qbc h1 hn] at h4
  simp only [qpz] at h4
  rw [if_neg] at h4
  · rw [hw, ← h4]
  · rintro ⟨q1, q2⟩
    rcases hc with hc | hc
    · exact hc q1
    · exact hc q2
theorem w3e (h : km a0 a1 a n) (hn : ln (qb a1) ≤ n) (hw : za a0 a1 = qpz (qc a1) (qb a1) 0 0) : za a0 a1 = (0, 0) := by
  rw [hw, ← h.get.2.2.2, qin hn]
  rfl
theorem p1 {p : Int × Int} {u v : Int} (h : p = (u, v)) : u = p.1 := by rw [h]
theorem p2 {p : Int × Int} {u v : Int} (h : p = (u, v)) : v = p.2 := by rw [h]
end

set_option maxHeartbeats 8000000 in
theorem q8c (a0 : List UInt8) (a1 : List Page) (hp : ln a0 ≤ 1000000000 ∧ smB a1 ∧ qn a1) : qsu a0 a1 := by
  obtain ⟨hq, hs, hl⟩ := hp
  have hb := zap hs hl
  have hcb := q26 a0 (qc a1)
  have hst := (qge hs).1
  have hfr : ∀ i : Int, ln (fr (qc a1) i) ≤ ln (qc a1) := fun i => by simp only [ln, fr, List.length_drop]; omega
  have hsg : ∀ i, 0 ≤ i → i < ln (qb a1) → ln (ix (qb a1) i).Signs ≤ 500 ∧ 0 ≤ (ix (qb a1) i).Lead := fun i h h' => ⟨(qge hs).2 _ (qc3 h h'), (hl _ (qc3 h h')).1⟩
  have hcz : (zh a0 (qc a1)).1 = 0 ∨ (zh a0 (qc a1)).1 ≠ 0 := by omega
  unfold qsu
  unhygienic (repeat' (first | with_reducible exact trivial | with_reducible rfl | with_reducible exact hs | with_reducible exact hl | apply And.intro | intro))
  all_goals first
    | with_reducible exact w00
    | with_reducible exact w10
    | with_reducible exact w30
    | omega
    | (have h0 := gw0 (by assumption); omega)
    | (have h1 := gw1 (by assumption); omega)
    | (have h1 := gw1 (by assumption); have h2 := gw2 (by assumption); omega)
    | (have h3 := gw3 (by assumption); omega)
    | (have h3 := gw3 (by assumption); have h4 := w3n hl (by assumption) (by assumption); have h5 := hsg _ h3.1 (by assumption); omega)
    | (have h4 := hfr (x9 + (ln (ix (qb a1) x10).Signs - (ix (qb a1) x10).Lead)); omega)
    | (have h4 := hfr (x7 + (ln (ix (qb a1) x8).Signs - (ix (qb a1) x8).Lead)); omega)
    | with_reducible exact p1 (w_e (by assumption))
    | with_reducible exact p2 (w_e (by assumption))
    | with_reducible exact p1 (w_t (by assumption) (by assumption) (by assumption) (by assumption))
    | with_reducible exact p2 (w_t (by assumption) (by assumption) (by assumption) (by assumption))
    | with_reducible exact w0s (by assumption) (by assumption) (by assumption)
    | with_reducible exact w20 (by assumption)
    | with_reducible exact w2s (by assumption) (by assumption) (by assumption) (by assumption)
    | with_reducible exact w1s (by assumption) (by assumption) (by first
        | exact qvr (by assumption) (by first | exact stB (by assumption) | exact stC (by assumption)) (by assumption) (by assumption)
        | exact q1t (by assumption) (by first | exact stA (by assumption) | exact stB (by assumption) | exact stC (by assumption)) (by first | exact .inl (by assumption) | exact .inr (by assumption))) (by assumption)
    | with_reducible exact w1m (by assumption) (by assumption) (by first
        | exact qvr (by assumption) (by first | exact stB (by assumption) | exact stC (by assumption)) (by assumption) (by assumption)
        | exact q1t (by assumption) (by first | exact stA (by assumption) | exact stB (by assumption) | exact stC (by assumption)) (by first | exact .inl (by assumption) | exact .inr (by assumption)))
    | with_reducible exact p1 (w1b (by assumption) (by assumption) (by assumption) (by assumption) (by assumption) (by first
        | exact qvr (by assumption) (by first | exact stB (by assumption) | exact stC (by assumption)) (by assumption) (by assumption)
        | exact q1t (by assumption) (by first | exact stA (by assumption) | exact stB (by assumption) | exact stC (by assumption)) (by first | exact .inl (by assumption) | exact .inr (by assumption))) (by assumption))
    | with_reducible exact p2 (w1b (by assumption) (by assumption) (by assumption) (by assumption) (by assumption) (by first
        | exact qvr (by assumption) (by first | exact stB (by assumption) | exact stC (by assumption)) (by assumption) (by assumption)
        | exact q1t (by assumption) (by first | exact stA (by assumption) | exact stB (by assumption) | exact stC (by assumption)) (by first | exact .inl (by assumption) | exact .inr (by assumption))) (by assumption))
    | with_reducible exact w3s hl (by assumption) (by assumption) (by assumption) (by assumption)
    | with_reducible exact p1 (w3b (by assumption) (by assumption) (w_c (by assumption) (by assumption) (by assumption) (by assumption) (by assumption)) (by first | exact .inl (by assumption) | exact .inr (by assumption)))
    | with_reducible exact p2 (w3b (by assumption) (by assumption) (w_c (by assumption) (by assumption) (by assumption) (by assumption) (by assumption)) (by first | exact .inl (by assumption) | exact .inr (by assumption)))
    | with_reducible exact p1 (w3e (by assumption) (by assumption) (w_c (by assumption) (by assumption) (by assumption) (by assumption) (by assumption)))
    | with_reducible exact p2 (w3e (by assumption) (by assumption) (w_c (by assumption) (by assumption) (by assumption) (by assumption) (by assumption)))
    | (simp only [qf3]; omega)
    | (simp only [qcu]; omega)
    | (simp only [qcv]; omega)
    | skip
end Go.Proofs.YtlkfjinaiepocaaDoor
