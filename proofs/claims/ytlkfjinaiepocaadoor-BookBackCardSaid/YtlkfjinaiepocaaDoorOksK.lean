/- THE CONDITIONS of Check, Back hold. -/
import Derived.Test.YtlkfjinaiepocaaDoorOksW
namespace Go.Proofs.YtlkfjinaiepocaaDoor
open Go Go.E2 Go.E3
set_option maxRecDepth 100000

theorem qhl {s : Staff} {c k : List Sign} (h : kg s c k = 0) : qib s := by
  unfold kg at h
  split at h
  · omega
  · split at h
    · omega
    · split at h
      · omega
      · exact ⟨by omega, by omega⟩
theorem qm8 : ∀ {l : List Staff} {f : List Sign × List Sign} {n j : Int}, (qck f n j l).1 = 0 → ∀ s ∈ l, qib s
  | [], _, _, _, _, s, hs => by cases hs
  | a :: l, f, n, j, h, s, hs => by
    simp only [qck] at h
    split at h
    · simp at h
    · split at h
      · rename_i h1; exact absurd h h1
      · rename_i h1
        rcases List.mem_cons.1 hs with hs | hs
        · subst hs; exact qhl (Decidable.not_not.1 h1)
        · exact qm8 h s hs
theorem qps (p : Page) (g : List Page) : qb (p :: g) = p.Staves ++ qb g := rfl
theorem qif : ∀ {g : List Page} {f : List Sign × List Sign} {n : Int} {em : Bool}, (qad f n em g).1 = 0 → qn g
  | [], _, _, _, _ => fun s hs => by cases hs
  | p :: g, f, n, em, h => by
    intro s hs
    rw [qps] at hs
    simp only [qad] at h
    split at h
    · rename_i he
      rw [he] at hs
      exact qif h s (by simpa using hs)
    · split at h
      · rename_i h1; exact absurd h h1
      · rename_i h1
        rcases List.mem_append.1 hs with hs | hs
        · exact qm8 (Decidable.not_not.1 h1) s hs
        · exact qif h s hs
theorem qvh {nm : List UInt8} {g : List Page} (h : (kk nm g).1 = 0) : qn g := by
  unfold kk at h
  split at h
  · simp at h
  · split at h
    · rename_i h1; exact absurd h h1
    · rename_i h1
      exact qif (Decidable.not_not.1 h1)

section
variable {a0 : List UInt8} {a1 : List Page} {n m j i x e : Int} {c k c' k' : List Sign} {em : Bool}
theorem gc0 (h : z8 a0 a1 n em i c k) : 0 ≤ i ∧ i ≤ ln a1 ∧ 0 ≤ n ∧ n ≤ 500 * i ∧ ln c ≤ 1 ∧ ln k ≤ 1 := ⟨h.get.1, h.get.2.1, h.get.2.2.1, h.get.2.2.2.1, h.get.2.2.2.2.1, h.get.2.2.2.2.2.1⟩
theorem gc1 (h : kv a0 a1 n j c k em i) : 0 ≤ j ∧ j ≤ ln (ix a1 i).Staves ∧ 0 ≤ n ∧ n ≤ 500 * i + j ∧ ln c ≤ 1 ∧ ln k ≤ 1 := ⟨h.get.1, h.get.2.1, h.get.2.2.1, h.get.2.2.2.1, h.get.2.2.2.2.1, h.get.2.2.2.2.2.1⟩
theorem gc2 (h : jt a0 a1 x c k n em i j) : 0 ≤ x ∧ x ≤ ln (qoe (ix (ix a1 i).Staves j)) ∧ ln c ≤ 1 ∧ ln k ≤ 1 := ⟨h.get.1, h.get.2.1, h.get.2.2.1, h.get.2.2.2.1⟩
theorem zd7 (h : jt a0 a1 x c k n em i j) : x ≤ ln (fr (ix (ix a1 i).Staves j).Signs (ix (ix a1 i).Staves j).Lead) := h.get.2.1
theorem c00 : z8 a0 a1 0 false 0 ([] : List Sign) ([] : List Sign) :=
  ⟨Int.le_refl 0, qx _, Int.le_refl 0, by omega, by simp [ln], by simp [ln], (by rw [qgf]; intro s h; cases h), by rw [qe1]⟩
theorem qrr (h : qn (upto a1 i)) (h0 : 0 ≤ i) (hi : i < ln a1) (hp : ∀ s ∈ (ix a1 i).Staves, qib s) : qn (upto a1 (i + 1)) := by
  rw [qey h0 hi]
  intro s hs
  rw [qpt] at hs
  rcases List.mem_append.1 hs with hs | hs
  · exact h s hs
  · exact hp s hs
theorem ln0 {α : Type} {l : List α} (h : ln l = 0) : l = [] := by
  cases l with
  | nil => rfl
  | cons a l => rw [qiv] at h; have := qx l; omega
theorem c0e (h : z8 a0 a1 n em i c k) (hi : i < ln a1) (he : ln (ix a1 i).Staves = 0) : z8 a0 a1 n true (i + 1) c k := by
  obtain ⟨h1, h2, h3, h4, h5, h6, h7, h8⟩ := h
  have he := ln0 he
  refine ⟨by omega, by omega, h3, by omega, h5, h6, qrr h7 h1 hi (by rw [he]; intro s hs; cases hs), ?_⟩
  rw [qbc h1 hi] at h8
  rw [← h8]
  simp only [qad]
  rw [if_pos he]
theorem c10 (h : z8 a0 a1 n em i c k) (hi : i < ln a1) (he : ln (ix a1 i).Staves ≠ 0) : kv a0 a1 n 0 c k em i := by
  obtain ⟨h1, h2, h3, h4, h5, h6, h7, h8⟩ := h
  refine ⟨Int.le_refl 0, qx _, h3, by omega, h5, h6, (by rw [qgf]; intro s hs; cases hs), ?_⟩
  rw [qe1, ← h8, qbc h1 hi, qox]
  intro hh
  rw [hh] at he
  exact he rfl
theorem c1x (h : kv a0 a1 n j c k em i) (hj : j < ln (ix a1 i).Staves) (h12 : 12 ≤ j) : qad ([], []) 0 false a1 = (11, n, false) := by
  obtain ⟨h1, h2, h3, h4, h5, h6, h7, h8⟩ := h
  rw [← h8, qbc h1 hj]
  simp only [qck]
  rw [if_pos h12]
  rfl
theorem c1s (h : kv a0 a1 n j c k em i) (hj : j < ln (ix a1 i).Staves) (h12 : j < 12) (hs : kg (Staff.mk (ix (ix a1 i).Staves j).Signs (ix (ix a1 i).Staves j).Lead (ix (ix a1 i).Staves j).Catch (ix (ix a1 i).Staves j).Custos) c k ≠ 0) :
    qad ([], []) 0 false a1 = (kg (Staff.mk (ix (ix a1 i).Staves j).Signs (ix (ix a1 i).Staves j).Lead (ix (ix a1 i).Staves j).Catch (ix (ix a1 i).Staves j).Custos) c k, n, false) := by
  obtain ⟨h1, h2, h3, h4, h5, h6, h7, h8⟩ := h
  rw [quy] at hs ⊢
  rw [← h8, qbc h1 hj]
  simp only [qck]
  rw [if_neg (by omega), if_pos hs]
  unfold qtw
  rw [if_pos hs]
theorem c20 (h : kv a0 a1 n j c k em i) (hj : j < ln (ix a1 i).Staves) (h12 : j < 12) (hs : kg (Staff.mk (ix (ix a1 i).Staves j).Signs (ix (ix a1 i).Staves j).Lead (ix (ix a1 i).Staves j).Catch (ix (ix a1 i).Staves j).Custos) c k = 0) :
    jt a0 a1 0 c k n em i j := by
  obtain ⟨h1, h2, h3, h4, h5, h6, h7, h8⟩ := h
  rw [quy] at hs
  refine ⟨Int.le_refl 0, qx _, h5, h6, ?_⟩
  rw [← h8, qbc h1 hj, qe1]
  simp only [qck]
  rw [if_neg (by omega), if_neg (by simp [hs])]
theorem c2s (h : jt a0 a1 x c k n em i j) (hx : x < ln (fr (ix (ix a1 i).Staves j).Signs (ix (ix a1 i).Staves j).Lead)) {s : Sign} (hs : s = ix (fr (ix (ix a1 i).Staves j).Signs (ix (ix a1 i).Staves j).Lead) x) :
    jt a0 a1 (x + 1) (kc c k s).1 (kc c k s).2 n em i j := by
  obtain ⟨h1, h2, h3, h4, h5⟩ := h
  subst hs
  have hx' : x < ln (qoe (ix (ix a1 i).Staves j)) := hx
  have ha := qtq (s := ix (fr (ix (ix a1 i).Staves j).Signs (ix (ix a1 i).Staves j).Lead) x) h3 h4
  refine ⟨by omega, by omega, ha.1, ha.2, ?_⟩
  rw [qbc h1 hx'] at h5
  exact h5
theorem c21 (h1 : kv a0 a1 n j c' k' em i) (hj : j < ln (ix a1 i).Staves) (hs : kg (Staff.mk (ix (ix a1 i).Staves j).Signs (ix (ix a1 i).Staves j).Lead (ix (ix a1 i).Staves j).Catch (ix (ix a1 i).Staves j).Custos) c' k' = 0)
    (h : jt a0 a1 x c k n em i j) (hx : ln (fr (ix (ix a1 i).Staves j).Signs (ix (ix a1 i).Staves j).Lead) ≤ x) : kv a0 a1 (n + 1) (j + 1) c k em i := by
  obtain ⟨q1, q2, q3, q4, q5, q6, q7, q8⟩ := h1
  obtain ⟨g1, g2, g3, g4, g5⟩ := h
  refine ⟨by omega, by omega, by omega, by omega, g3, g4, ?_, ?_⟩
  · rw [qey q1 hj]
    intro s hm
    rcases List.mem_append.1 hm with hm | hm
    · exact q7 s hm
    · rw [List.mem_singleton.1 hm]; exact qhl hs
  · rw [qin (show ln (qoe (ix (ix a1 i).Staves j)) ≤ x from hx)] at g5
    exact g5
theorem c1e (h0 : z8 a0 a1 m em i c' k') (hi : i < ln a1) (hst : ln (ix a1 i).Staves ≤ 500) (h : kv a0 a1 n j c k em i) (hj : ln (ix a1 i).Staves ≤ j) : z8 a0 a1 n em (i + 1) c k := by
  obtain ⟨p1, p2, p3, p4, p5, p6, p7, p8⟩ := h0
  obtain ⟨q1, q2, q3, q4, q5, q6, q7, q8⟩ := h
  refine ⟨by omega, by omega, q3, by omega, q5, q6, qrr p7 p1 hi (by rw [qkc hj] at q7; exact q7), ?_⟩
  rw [qin hj] at q8
  rw [← q8]
  rfl
theorem q07 (h : z8 a0 a1 n em i c k) (hi : ln a1 ≤ i) : qad ([], []) 0 false a1 = (0, n, em) := by
  rw [← h.get.2.2.2.2.2.2.2, qin hi]; rfl
theorem c0l (h : z8 a0 a1 n em i c k) (hi : ln a1 ≤ i) : qn a1 := by
  have := h.get.2.2.2.2.2.2.1
  rw [qkc hi] at this
  exact this
theorem q8w (hn : jm a0 = true) (h : qad ([], []) 0 false a1 = (e, n, em)) (he : e ≠ 0) : kk a0 a1 = (e, n) := by
  unfold kk
  rw [if_neg (by simp [hn]), h, if_pos he]
theorem zc9 (hn : jm a0 = true) (h : qad ([], []) 0 false a1 = (0, n, em)) (he : em = true) : kk a0 a1 = (2, n) := by
  unfold kk
  rw [if_neg (by simp [hn]), h, if_neg (show ¬ ((0 : Int) ≠ 0) by decide), if_pos he]
theorem zdb (hn : jm a0 = true) (h : qad ([], []) 0 false a1 = (0, n, em)) (he : em = false) : kk a0 a1 = za a0 a1 := by
  unfold kk
  rw [if_neg (by simp [hn]), h, if_neg (show ¬ ((0 : Int) ≠ 0) by decide), if_neg (by simp [he])]
theorem zda (hn : jm a0 = false) : kk a0 a1 = (7, 0) := by unfold kk; rw [if_pos hn]
theorem pr1 {α β : Type} {p q : α × β} (h : p = q) : q.1 = p.1 := by rw [h]
theorem pr2 {α β : Type} {p q : α × β} (h : p = q) : q.2 = p.2 := by rw [h]
end

set_option maxHeartbeats 4000000 in
theorem q2o (a0 : List UInt8) (a1 : List Page) (hp : ln a0 ≤ 1000000000 ∧ smB a1) : qnl a0 a1 := by
  obtain ⟨hq, hs⟩ := hp
  have hpg : ∀ i, 0 ≤ i → i < ln a1 → ln (ix a1 i).Staves ≤ 500 := fun i h h' => (hs.2 _ (qc3 h h')).1
  have hsg : ∀ i j, 0 ≤ i → i < ln a1 → 0 ≤ j → j < ln (ix a1 i).Staves → ln (ix (ix a1 i).Staves j).Signs ≤ 500 := fun i j h h' g g' => (hs.2 _ (qc3 h h')).2 _ (qc3 g g')
  have hl := hs.1
  unfold qnl
  refine ⟨by omega, fun hn => ⟨p1 (zda hn), p2 (zda hn), trivial⟩, fun hn => ⟨c00, fun x1 x2 x3 x4 x5 h0 => ⟨fun hi => ?_, fun hi => ?_⟩⟩⟩
  · have g0 := gc0 h0
    refine ⟨⟨by omega, hi⟩, fun he => ⟨⟨by omega, by omega⟩, rfl, rfl, c0e h0 hi he, by simp only [qa3]; omega⟩, fun he => ⟨c10 h0 hi he, fun x9 x10 x11 x12 h1 => ⟨fun hj => ?_, fun hj => ?_⟩⟩⟩
    · have g1 := gc1 h1
      have gs := hsg x3 x10 g0.1 hi g1.1 hj
      have gp := hpg x3 g0.1 hi
      refine ⟨⟨by omega, hj⟩, fun h12 => ⟨p1 (q8w hn (c1x h1 hj h12) (by decide)), p2 (q8w hn (c1x h1 hj h12) (by decide)), trivial⟩, fun h12 => ⟨⟨gs, g1.2.2.2.2⟩, fun hx => ⟨p1 (q8w hn (c1s h1 hj h12 hx) hx), p2 (q8w hn (c1s h1 hj h12 hx) hx), trivial⟩, fun hx => ⟨qhl hx, c20 h1 hj h12 hx, fun x17 x18 x19 h2 => ⟨fun hy => ?_, fun hy => ?_⟩⟩⟩⟩
      · have g2 := gc2 h2
        have g2' := zd7 h2
        have hlen : ln (fr (ix (ix a1 x3).Staves x10).Signs (ix (ix a1 x3).Staves x10).Lead) ≤ 500 := by
          have hL := qhl hx
          have := qgv hL.1 hL.2
          have h5 : 0 ≤ (ix (ix a1 x3).Staves x10).Lead := hL.1
          have h6 : ln (fr (ix (ix a1 x3).Staves x10).Signs (ix (ix a1 x3).Staves x10).Lead) = ln (ix (ix a1 x3).Staves x10).Signs - (ix (ix a1 x3).Staves x10).Lead := this
          omega
        exact ⟨⟨by omega, hy⟩, trivial, ⟨by omega, by omega⟩, rfl, rfl, rfl, rfl, rfl, rfl, rfl, c2s h2 hy rfl, by
          have : x17 < ln (qoe (ix (ix a1 x3).Staves x10)) := hy
          simp only [qe4]; omega⟩
      · exact ⟨⟨by omega, by omega⟩, ⟨by omega, by omega⟩, rfl, rfl, rfl, c21 h1 hj hx h2 hy, by simp only [qe3]; omega⟩
    · have gp := hpg x3 g0.1 hi
      exact ⟨⟨by omega, by omega⟩, rfl, rfl, c1e h0 hi gp h1 hj, by simp only [qa3]; omega⟩
  · exact ⟨fun he => ⟨p1 (zc9 hn (q07 h0 hi) he), p2 (zc9 hn (q07 h0 hi) he), trivial⟩, fun he => ⟨⟨hq, hs, c0l h0 hi⟩, pr1 (zdb hn (q07 h0 hi) he), pr2 (zdb hn (q07 h0 hi) he), trivial⟩⟩

theorem q4v (a0 : List UInt8) (a1 : List Page) (hp : ln a0 ≤ 1000000000 ∧ smB a1) : qqc a0 a1 := by
  unfold qqc qbt
  refine ⟨hp, fun h => ?_, fun h => ⟨⟨hp.2, qvh h⟩, ?_⟩⟩
  · rw [if_pos h]; exact ⟨rfl, rfl, rfl, trivial⟩
  · rw [if_neg (by simp [h])]; exact ⟨rfl, rfl, rfl, trivial⟩
end Go.Proofs.YtlkfjinaiepocaaDoor
