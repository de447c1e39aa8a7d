/- THE CONDITION of Turns holds. -/
import Derived.Test.YtlkfjinaiepocaaDoorOksK
namespace Go.Proofs.YtlkfjinaiepocaaDoor
open Go Go.E2 Go.E3
set_option maxRecDepth 100000

theorem qsn (r : Bool) (l : List Sign) (s : Sign) : qcy r (l ++ [s]) = if s.Kind = 1 ∨ s.Kind = 4 ∨ s.Kind = 2 then decide (s.Kind = 2) else qcy r l := by
  unfold qcy
  rw [List.foldl_append]
  rfl
theorem qu5 (r : Bool) (l m : List Sign) : qcy r (l ++ m) = qcy (qcy r l) m := by
  unfold qcy
  rw [List.foldl_append]
theorem qjk {a : Int} {q : Bool} {p : Page} {g : List Page} (h : g ≠ []) : zy a q (p :: g) = ((a + ln (kl p.Staves)) :: (zy (a + ln (kl p.Staves)) (qcy q (kl p.Staves)) g).1, qcy q (kl p.Staves) :: (zy (a + ln (kl p.Staves)) (qcy q (kl p.Staves)) g).2) := by
  simp only [zy, if_neg h]
section
variable {a0 : List UInt8} {a1 : List Page} {s : List Int} {r : List Bool} {a i j x a2 : Int} {q q2 : Bool}
theorem gt0 (h : ke a0 a1 s r a q i) : 0 ≤ i ∧ i ≤ ln a1 ∧ ln s ≤ i ∧ ln r ≤ i := ⟨h.get.1, h.get.2.1, h.get.2.2.1, h.get.2.2.2.1⟩
theorem gt1 (h : j5 a0 a1 a q j s r i) : 0 ≤ j ∧ j ≤ ln (ix a1 i).Staves := ⟨h.get.1, h.get.2.1⟩
theorem t00 : ke a0 a1 ([] : List Int) ([] : List Bool) (-1) false 0 := ⟨Int.le_refl 0, qo _, by simp [ln], by simp [ln], by rw [qbt]; rfl, by rw [qeh]; rfl⟩
theorem t10 (h : ke a0 a1 s r a q i) : j5 a0 a1 a q 0 s r i := by
  obtain ⟨h1, h2, h3, h4, h5, h6⟩ := h
  exact ⟨Int.le_refl 0, qo _, a, q, by rw [qbt]; simp [kl, ln], by rw [qbt]; rfl, h5, h6⟩
theorem t20 (h : j5 a0 a1 a q j s r i) : kf a0 a1 a q 0 s r i j := by
  obtain ⟨h1, h2, a', q', h3, h4, h5, h6⟩ := h
  exact ⟨Int.le_refl 0, qo _, a', q', by omega, by rw [qbt]; exact h4, h5, h6⟩
theorem gt2 (hs : smB a1) (hl : qn a1) (h0 : ke a0 a1 s r a2 q2 i) (hi : i < ln a1) (h1 : 0 ≤ j ∧ j < ln (ix a1 i).Staves) (h : kf a0 a1 a q x s r i j) : 0 ≤ x ∧ x ≤ ln (qh7 (ix (ix a1 i).Staves j)) ∧ x ≤ 500 ∧ -1 ≤ a ∧ a ≤ 200000000 := by
  have g := gt0 h0
  obtain ⟨h2, h3, a', q', h4, h5, h6, h7⟩ := h
  have hm := qbd g.1 hi
  have hm2 := qbd h1.1 h1.2
  have hL : ∀ s ∈ (ix a1 i).Staves, qh2 s := fun s hs => hl s (List.mem_flatMap.2 ⟨_, hm, hs⟩)
  have hS := hs.2 _ hm
  have e1 := qnk (hL _ hm2)
  have e2 := hS.2 _ hm2
  have e3 := (hL _ hm2).1
  have e4 := qos (l := upto (ix a1 i).Staves j) fun s hs => ⟨hS.2 s (qik hs), hL s (qik hs)⟩
  have e5 := qhu h1.1 (Int.le_of_lt h1.2)
  have e6 := q2j (g := upto a1 i) (q73 hs) fun s hs => by
    obtain ⟨p, hp, hs⟩ := List.mem_flatMap.1 hs
    exact hl s (List.mem_flatMap.2 ⟨p, qik hp, hs⟩)
  have e7 := qo (qd (upto a1 i))
  have e8 := qo (kl (upto (ix a1 i).Staves j))
  have e9 := hS.1
  omega
theorem t2a (h : kf a0 a1 a q x s r i j) (hx : x < ln (fr (ix (ix a1 i).Staves j).Signs (ix (ix a1 i).Staves j).Lead))
    (hk : (ix (fr (ix (ix a1 i).Staves j).Signs (ix (ix a1 i).Staves j).Lead) x).Kind = 1 ∨ (ix (fr (ix (ix a1 i).Staves j).Signs (ix (ix a1 i).Staves j).Lead) x).Kind = 4 ∨ (ix (fr (ix (ix a1 i).Staves j).Signs (ix (ix a1 i).Staves j).Lead) x).Kind = 2) :
    kf a0 a1 (a + 1) (decide ((ix (fr (ix (ix a1 i).Staves j).Signs (ix (ix a1 i).Staves j).Lead) x).Kind = 2)) (x + 1) s r i j := by
  obtain ⟨h2, h3, a', q', h4, h5, h6, h7⟩ := h
  have hx' : x < ln (qh7 (ix (ix a1 i).Staves j)) := hx
  refine ⟨by omega, by omega, a', q', by omega, ?_, h6, h7⟩
  rw [qah h2 hx', qsn]
  exact (if_pos hk).symm
theorem t2b (h : kf a0 a1 a q x s r i j) (hx : x < ln (fr (ix (ix a1 i).Staves j).Signs (ix (ix a1 i).Staves j).Lead))
    (hk : ¬ ((ix (fr (ix (ix a1 i).Staves j).Signs (ix (ix a1 i).Staves j).Lead) x).Kind = 1 ∨ (ix (fr (ix (ix a1 i).Staves j).Signs (ix (ix a1 i).Staves j).Lead) x).Kind = 4 ∨ (ix (fr (ix (ix a1 i).Staves j).Signs (ix (ix a1 i).Staves j).Lead) x).Kind = 2)) :
    kf a0 a1 (a + 1) q (x + 1) s r i j := by
  obtain ⟨h2, h3, a', q', h4, h5, h6, h7⟩ := h
  have hx' : x < ln (qh7 (ix (ix a1 i).Staves j)) := hx
  refine ⟨by omega, by omega, a', q', by omega, ?_, h6, h7⟩
  rw [qah h2 hx', qsn]
  rw [h5]
  exact (if_neg hk).symm
theorem t2m {q3 : Bool} {a3 : Int} (hx : x < ln (fr (ix (ix a1 i).Staves j).Signs (ix (ix a1 i).Staves j).Lead)) : kk a0 a1 a3 q3 (x + 1) s r i j < kk a0 a1 a q x s r i j := by
  have hx' : x < ln (qh7 (ix (ix a1 i).Staves j)) := hx
  simp only [kk]; omega
theorem t21 (h1 : 0 ≤ j ∧ j < ln (ix a1 i).Staves) (h : kf a0 a1 a q x s r i j) (hx : ln (fr (ix (ix a1 i).Staves j).Signs (ix (ix a1 i).Staves j).Lead) ≤ x) : j5 a0 a1 a q (j + 1) s r i := by
  obtain ⟨h2, h3, a', q', h4, h5, h6, h7⟩ := h
  have hx' : ln (qh7 (ix (ix a1 i).Staves j)) ≤ x := hx
  refine ⟨by omega, by omega, a', q', ?_, ?_, h6, h7⟩
  · rw [qah h1.1 h1.2, qjf, qbq]; omega
  · rw [qah h1.1 h1.2, qjf, qu5, h5, qet hx']
theorem qsh (h0 : 0 ≤ i) (hi : i < ln a1) : qd (upto a1 (i + 1)) = qd (upto a1 i) ++ kl (ix a1 i).Staves := by
  rw [qah h0 hi, q38]
  simp [qd, qc]
theorem t1a (h0 : ke a0 a1 s r a2 q2 i) (hi : i + 1 < ln a1) (h : j5 a0 a1 a q j s r i) (hj : ln (ix a1 i).Staves ≤ j) : ke a0 a1 (s ++ [a]) (r ++ [q]) a q (i + 1) := by
  have g := gt0 h0
  obtain ⟨h1, h2, a', q', h3, h4, h5, h6⟩ := h
  rw [qet hj] at h3 h4
  have hc : fr a1 (i + 1) ≠ [] := by
    intro hh
    have := qf4 (l := a1) (i := i + 1) (by omega) (by omega)
    rw [hh] at this
    simp [ln] at this
    simp only [ln] at hi
    omega
  refine ⟨by omega, by omega, by rw [qas]; omega, by rw [qas]; omega, by rw [qsh g.1 (by omega), qbq]; omega, ?_⟩
  rw [qa0 g.1 (by omega), qjk hc, ← h3, ← h4] at h6
  rw [← h6]
  simp [q5m]
theorem t1b (h0 : ke a0 a1 s r a2 q2 i) (hi : i < ln a1) (hi' : ln a1 ≤ i + 1) (h : j5 a0 a1 a q j s r i) (hj : ln (ix a1 i).Staves ≤ j) : ke a0 a1 s r a q (i + 1) := by
  have g := gt0 h0
  obtain ⟨h1, h2, a', q', h3, h4, h5, h6⟩ := h
  rw [qet hj] at h3 h4
  refine ⟨by omega, by omega, by omega, by omega, by rw [qsh g.1 hi, qbq]; omega, ?_⟩
  rw [qa0 g.1 hi, qfy hi'] at h6
  rw [qfy hi', ← h6]
  simp [zy]
theorem t0e (h : ke a0 a1 s r a q i) (hi : ln a1 ≤ i) : (s, r) = zy (-1) false a1 := by
  rw [← h.get.2.2.2.2.2, qfy hi]
  simp [q5m, zy]
end

set_option maxHeartbeats 4000000 in
theorem q22 (a0 : List UInt8) (a1 : List Page) (hp : ln a0 ≤ 1000000000 ∧ smB a1) : qn3 a0 a1 := by
  have hs := hp.2
  have hl' := hs.1
  have hpg : ∀ i, 0 ≤ i → i < ln a1 → ln (ix a1 i).Staves ≤ 500 := fun i h h' => (hs.2 _ (qbd h h')).1
  unfold qn3 zh
  refine ⟨hp, fun h => ?_, fun h => ⟨t00, fun x1 x2 x3 x4 x5 h0 => ⟨fun hi => ?_, fun hi => ?_⟩⟩⟩
  · rw [if_pos h]; exact ⟨rfl, rfl, rfl, trivial⟩
  · have hl := qvo h
    have g0 := gt0 h0
    have gp := hpg x5 g0.1 hi
    refine ⟨⟨g0.1, hi⟩, t10 h0, fun x8 x9 x10 h1 => ⟨fun hj => ?_, fun hj => ?_⟩⟩
    · have g1 := gt1 h1
      have hL := hl _ (List.mem_flatMap.2 ⟨_, qbd g0.1 hi, qbd g1.1 hj⟩)
      refine ⟨⟨g1.1, hj⟩, hL, t20 h1, fun x13 x14 x15 h2 => ⟨fun hx => ?_, fun hx => ?_⟩⟩
      · have g2 := gt2 hs hl h0 hi ⟨g1.1, hj⟩ h2
        refine ⟨⟨g2.1, hx⟩, ⟨by omega, by omega⟩, fun k => ⟨⟨by omega, by omega⟩, rfl, rfl, rfl, rfl, rfl, rfl, rfl, t2a h2 hx (.inl k), t2m hx⟩, fun k => ⟨fun k' => ⟨⟨by omega, by omega⟩, rfl, rfl, rfl, rfl, rfl, rfl, rfl, t2a h2 hx (.inr (.inl k')), t2m hx⟩, fun k' => ⟨fun k'' => ⟨⟨by omega, by omega⟩, rfl, rfl, rfl, rfl, rfl, rfl, rfl, t2a h2 hx (.inr (.inr k'')), t2m hx⟩, fun k'' => ⟨⟨by omega, by omega⟩, rfl, rfl, rfl, rfl, rfl, rfl, rfl, t2b h2 hx ?_, t2m hx⟩⟩⟩⟩
        rintro (q | q | q)
        · exact k q
        · exact k' q
        · exact k'' q
      · exact ⟨⟨by omega, by omega⟩, rfl, rfl, rfl, t21 ⟨g1.1, hj⟩ h2 hx, by simp only [qfe]; omega⟩
    · have l1 : ∀ {α : Type} (l : List α), ((l.length : Nat) : Int) = ln l := fun _ => rfl
      refine ⟨⟨by omega, by omega⟩, fun hn => ⟨trivial, qgr (by have := l1 x1; simp [ln] at *; omega), trivial, qgr (by simp [ln] at *; omega), ⟨by omega, by omega⟩, rfl, rfl, t1a h0 hn h1 hj, by simp only [qbf]; omega⟩, fun hn => ⟨⟨by omega, by omega⟩, rfl, rfl, t1b h0 hi hn h1 hj, by simp only [qbf]; omega⟩⟩
  · rw [if_neg (by simp [h])]
    have e := t0e h0 hi
    exact ⟨pr1 e.symm, pr2 e.symm, rfl, trivial⟩
end Go.Proofs.YtlkfjinaiepocaaDoor
