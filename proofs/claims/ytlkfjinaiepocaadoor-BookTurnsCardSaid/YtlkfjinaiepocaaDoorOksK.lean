/- THE CONDITIONS of Check, Back hold. -/
import Derived.Test.YtlkfjinaiepocaaDoorOksW
namespace Go.Proofs.YtlkfjinaiepocaaDoor
open Go Go.E2 Go.E3
set_option maxRecDepth 100000

theorem qhy {s : Staff} {c k : List Sign} (h : kp s c k = 0) : qh2 s := by
  unfold kp at h
  split at h
  · omega
  · split at h
    · omega
    · split at h
      · omega
      · exact ⟨by omega, by omega⟩
theorem qnl : ∀ {l : List Staff} {f : List Sign × List Sign} {n j : Int}, (qcx f n j l).1 = 0 → ∀ s ∈ l, qh2 s
  | [], _, _, _, _, s, hs => by cases hs
  | a :: l, f, n, j, h, s, hs => by
    simp only [qcx] at h
    split at h
    · simp at h
    · split at h
      · rename_i h1; exact absurd h h1
      · rename_i h1
        rcases List.mem_cons.1 hs with hs | hs
        · subst hs; exact qhy (Decidable.not_not.1 h1)
        · exact qnl h s hs
theorem qp4 (p : Page) (g : List Page) : qc (p :: g) = p.Staves ++ qc g := rfl
theorem qit : ∀ {g : List Page} {f : List Sign × List Sign} {n : Int} {em : Bool}, (qak f n em g).1 = 0 → qn g
  | [], _, _, _, _ => fun s hs => by cases hs
  | p :: g, f, n, em, h => by
    intro s hs
    rw [qp4] at hs
    simp only [qak] at h
    split at h
    · rename_i he
      rw [he] at hs
      exact qit h s (by simpa using hs)
    · split at h
      · rename_i h1; exact absurd h h1
      · rename_i h1
        rcases List.mem_append.1 hs with hs | hs
        · exact qnl (Decidable.not_not.1 h1) s hs
        · exact qit h s hs
theorem qvo {nm : List UInt8} {g : List Page} (h : (jb nm g).1 = 0) : qn g := by
  unfold jb at h
  split at h
  · simp at h
  · split at h
    · rename_i h1; exact absurd h h1
    · rename_i h1
      exact qit (Decidable.not_not.1 h1)

section
variable {a0 : List UInt8} {a1 : List Page} {n m j i x e : Int} {c k c' k' : List Sign} {em : Bool}
theorem gc0 (h : kc a0 a1 n em i c k) : 0 ≤ i ∧ i ≤ ln a1 ∧ 0 ≤ n ∧ n ≤ 500 * i ∧ ln c ≤ 1 ∧ ln k ≤ 1 := ⟨h.get.1, h.get.2.1, h.get.2.2.1, h.get.2.2.2.1, h.get.2.2.2.2.1, h.get.2.2.2.2.2.1⟩
theorem gc1 (h : k7 a0 a1 n j c k em i) : 0 ≤ j ∧ j ≤ ln (ix a1 i).Staves ∧ 0 ≤ n ∧ n ≤ 500 * i + j ∧ ln c ≤ 1 ∧ ln k ≤ 1 := ⟨h.get.1, h.get.2.1, h.get.2.2.1, h.get.2.2.2.1, h.get.2.2.2.2.1, h.get.2.2.2.2.2.1⟩
theorem gc2 (h : j4 a0 a1 x c k n em i j) : 0 ≤ x ∧ x ≤ ln (qh7 (ix (ix a1 i).Staves j)) ∧ ln c ≤ 1 ∧ ln k ≤ 1 := ⟨h.get.1, h.get.2.1, h.get.2.2.1, h.get.2.2.2.1⟩
theorem zd9 (h : j4 a0 a1 x c k n em i j) : x ≤ ln (fr (ix (ix a1 i).Staves j).Signs (ix (ix a1 i).Staves j).Lead) := h.get.2.1
theorem c00 : kc a0 a1 0 false 0 ([] : List Sign) ([] : List Sign) :=
  ⟨Int.le_refl 0, qo _, Int.le_refl 0, by omega, by simp [ln], by simp [ln], (by rw [qbt]; intro s h; cases h), by rw [qeh]⟩
theorem qr3 (h : qn (upto a1 i)) (h0 : 0 ≤ i) (hi : i < ln a1) (hp : ∀ s ∈ (ix a1 i).Staves, qh2 s) : qn (upto a1 (i + 1)) := by
  rw [qah h0 hi]
  intro s hs
  rw [qp5] at hs
  rcases List.mem_append.1 hs with hs | hs
  · exact h s hs
  · exact hp s hs
theorem ln0 {α : Type} {l : List α} (h : ln l = 0) : l = [] := by
  cases l with
  | nil => rfl
  | cons a l => rw [qek] at h; have := qo l; omega
theorem c0e (h : kc a0 a1 n em i c k) (hi : i < ln a1) (he : ln (ix a1 i).Staves = 0) : kc a0 a1 n true (i + 1) c k := by
  obtain ⟨h1, h2, h3, h4, h5, h6, h7, h8⟩ := h
  have he := ln0 he
  refine ⟨by omega, by omega, h3, by omega, h5, h6, qr3 h7 h1 hi (by rw [he]; intro s hs; cases hs), ?_⟩
  rw [qa0 h1 hi] at h8
  rw [← h8]
  simp only [qak]
  rw [if_pos he]
theorem c10 (h : kc a0 a1 n em i c k) (hi : i < ln a1) (he : ln (ix a1 i).Staves ≠ 0) : k7 a0 a1 n 0 c k em i := by
  obtain ⟨h1, h2, h3, h4, h5, h6, h7, h8⟩ := h
  refine ⟨Int.le_refl 0, qo _, h3, by omega, h5, h6, (by rw [qbt]; intro s hs; cases hs), ?_⟩
  rw [qeh, ← h8, qa0 h1 hi, qpa]
  intro hh
  rw [hh] at he
  exact he rfl
theorem c1x (h : k7 a0 a1 n j c k em i) (hj : j < ln (ix a1 i).Staves) (h12 : 12 ≤ j) : qak ([], []) 0 false a1 = (11, n, false) := by
  obtain ⟨h1, h2, h3, h4, h5, h6, h7, h8⟩ := h
  rw [← h8, qa0 h1 hj]
  simp only [qcx]
  rw [if_pos h12]
  rfl
theorem c1s (h : k7 a0 a1 n j c k em i) (hj : j < ln (ix a1 i).Staves) (h12 : j < 12) (hs : kp (Staff.mk (ix (ix a1 i).Staves j).Signs (ix (ix a1 i).Staves j).Lead (ix (ix a1 i).Staves j).Catch (ix (ix a1 i).Staves j).Custos) c k ≠ 0) :
    qak ([], []) 0 false a1 = (kp (Staff.mk (ix (ix a1 i).Staves j).Signs (ix (ix a1 i).Staves j).Lead (ix (ix a1 i).Staves j).Catch (ix (ix a1 i).Staves j).Custos) c k, n, false) := by
  obtain ⟨h1, h2, h3, h4, h5, h6, h7, h8⟩ := h
  rw [qu8] at hs ⊢
  rw [← h8, qa0 h1 hj]
  simp only [qcx]
  rw [if_neg (by omega), if_pos hs]
  unfold qt6
  rw [if_pos hs]
theorem c20 (h : k7 a0 a1 n j c k em i) (hj : j < ln (ix a1 i).Staves) (h12 : j < 12) (hs : kp (Staff.mk (ix (ix a1 i).Staves j).Signs (ix (ix a1 i).Staves j).Lead (ix (ix a1 i).Staves j).Catch (ix (ix a1 i).Staves j).Custos) c k = 0) :
    j4 a0 a1 0 c k n em i j := by
  obtain ⟨h1, h2, h3, h4, h5, h6, h7, h8⟩ := h
  rw [qu8] at hs
  refine ⟨Int.le_refl 0, qo _, h5, h6, ?_⟩
  rw [← h8, qa0 h1 hj, qeh]
  simp only [qcx]
  rw [if_neg (by omega), if_neg (by simp [hs])]
theorem c2s (h : j4 a0 a1 x c k n em i j) (hx : x < ln (fr (ix (ix a1 i).Staves j).Signs (ix (ix a1 i).Staves j).Lead)) {s : Sign} (hs : s = ix (fr (ix (ix a1 i).Staves j).Signs (ix (ix a1 i).Staves j).Lead) x) :
    j4 a0 a1 (x + 1) (kh c k s).1 (kh c k s).2 n em i j := by
  obtain ⟨h1, h2, h3, h4, h5⟩ := h
  subst hs
  have hx' : x < ln (qh7 (ix (ix a1 i).Staves j)) := hx
  have ha := qt0 (s := ix (fr (ix (ix a1 i).Staves j).Signs (ix (ix a1 i).Staves j).Lead) x) h3 h4
  refine ⟨by omega, by omega, ha.1, ha.2, ?_⟩
  rw [qa0 h1 hx'] at h5
  exact h5
theorem c21 (h1 : k7 a0 a1 n j c' k' em i) (hj : j < ln (ix a1 i).Staves) (hs : kp (Staff.mk (ix (ix a1 i).Staves j).Signs (ix (ix a1 i).Staves j).Lead (ix (ix a1 i).Staves j).Catch (ix (ix a1 i).Staves j).Custos) c' k' = 0)
    (h : j4 a0 a1 x c k n em i j) (hx : ln (fr (ix (ix a1 i).Staves j).Signs (ix (ix a1 i).Staves j).Lead) ≤ x) : k7 a0 a1 (n + 1) (j + 1) c k em i := by
  obtain ⟨q1, q2, q3, q4, q5, q6, q7, q8⟩ := h1
  obtain ⟨g1, g2, g3, g4, g5⟩ := h
  refine ⟨by omega, by omega, by omega, by omega, g3, g4, ?_, ?_⟩
  · rw [qah q1 hj]
    intro s hm
    rcases List.mem_append.1 hm with hm | hm
    · exact q7 s hm
    · rw [List.mem_singleton.1 hm]; exact qhy hs
  · rw [qfy (show ln (qh7 (ix (ix a1 i).Staves j)) ≤ x from hx)] at g5
    exact g5
theorem c1e (h0 : kc a0 a1 m em i c' k') (hi : i < ln a1) (hst : ln (ix a1 i).Staves ≤ 500) (h : k7 a0 a1 n j c k em i) (hj : ln (ix a1 i).Staves ≤ j) : kc a0 a1 n em (i + 1) c k := by
  obtain ⟨p1, p2, p3, p4, p5, p6, p7, p8⟩ := h0
  obtain ⟨q1, q2, q3, q4, q5, q6, q7, q8⟩ := h
  refine ⟨by omega, by omega, q3, by omega, q5, q6, qr3 p7 p1 hi (by rw [qet hj] at q7; exact q7), ?_⟩
  rw [qfy hj] at q8
  rw [← q8]
  rfl
theorem q1c (h : kc a0 a1 n em i c k) (hi : ln a1 ≤ i) : qak ([], []) 0 false a1 = (0, n, em) := by
  rw [← h.get.2.2.2.2.2.2.2, qfy hi]; rfl
theorem c0l (h : kc a0 a1 n em i c k) (hi : ln a1 ≤ i) : qn a1 := by
  have := h.get.2.2.2.2.2.2.1
  rw [qet hi] at this
  exact this
theorem q81 (hn : ju a0 = true) (h : qak ([], []) 0 false a1 = (e, n, em)) (he : e ≠ 0) : jb a0 a1 = (e, n) := by
  unfold jb
  rw [if_neg (by simp [hn]), h, if_pos he]
theorem zdb (hn : ju a0 = true) (h : qak ([], []) 0 false a1 = (0, n, em)) (he : em = true) : jb a0 a1 = (2, n) := by
  unfold jb
  rw [if_neg (by simp [hn]), h, if_neg (show ¬ ((0 : Int) ≠ 0) by decide), if_pos he]
theorem zdd (hn : ju a0 = true) (h : qak ([], []) 0 false a1 = (0, n, em)) (he : em = false) : jb a0 a1 = za a0 a1 := by
  unfold jb
  rw [if_neg (by simp [hn]), h, if_neg (show ¬ ((0 : Int) ≠ 0) by decide), if_neg (by simp [he])]
theorem zdc (hn : ju a0 = false) : jb a0 a1 = (7, 0) := by unfold jb; rw [if_pos hn]
theorem pr1 {α β : Type} {p q : α × β} (h : p = q) : q.1 = p.1 := by rw [h]
theorem pr2 {α β : Type} {p q : α × β} (h : p = q) : q.2 = p.2 := by rw [h]
end

set_option maxHeartbeats 4000000 in
theorem q2s (a0 : List UInt8) (a1 : List Page) (hp : ln a0 ≤ 1000000000 ∧ smB a1) : qnz a0 a1 := by
  obtain ⟨hq, hs⟩ := hp
  have hpg : ∀ i, 0 ≤ i → i < ln a1 → ln (ix a1 i).Staves ≤ 500 := fun i h h' => (hs.2 _ (qbd h h')).1
  have hsg : ∀ i j, 0 ≤ i → i < ln a1 → 0 ≤ j → j < ln (ix a1 i).Staves → ln (ix (ix a1 i).Staves j).Signs ≤ 500 := fun i j h h' g g' => (hs.2 _ (qbd h h')).2 _ (qbd g g')
  have hl := hs.1
  unfold qnz
  refine ⟨by omega, fun hn => ⟨p1 (zdc hn), p2 (zdc hn), trivial⟩, fun hn => ⟨c00, fun x1 x2 x3 x4 x5 h0 => ⟨fun hi => ?_, fun hi => ?_⟩⟩⟩
  · have g0 := gc0 h0
    refine ⟨⟨by omega, hi⟩, fun he => ⟨⟨by omega, by omega⟩, rfl, rfl, c0e h0 hi he, by simp only [qbe]; omega⟩, fun he => ⟨c10 h0 hi he, fun x9 x10 x11 x12 h1 => ⟨fun hj => ?_, fun hj => ?_⟩⟩⟩
    · have g1 := gc1 h1
      have gs := hsg x3 x10 g0.1 hi g1.1 hj
      have gp := hpg x3 g0.1 hi
      refine ⟨⟨by omega, hj⟩, fun h12 => ⟨p1 (q81 hn (c1x h1 hj h12) (by decide)), p2 (q81 hn (c1x h1 hj h12) (by decide)), trivial⟩, fun h12 => ⟨⟨gs, g1.2.2.2.2⟩, fun hx => ⟨p1 (q81 hn (c1s h1 hj h12 hx) hx), p2 (q81 hn (c1s h1 hj h12 hx) hx), trivial⟩, fun hx => ⟨qhy hx, c20 h1 hj h12 hx, fun x17 x18 x19 h2 => ⟨fun hy => ?_, fun hy => ?_⟩⟩⟩⟩
      · have g2 := gc2 h2
        have g2' := zd9 h2
        have hlen : ln (fr (ix (ix a1 x3).Staves x10).Signs (ix (ix a1 x3).Staves x10).Lead) ≤ 500 := by
          have hL := qhy hx
          have := qf4 hL.1 hL.2
          have h5 : 0 ≤ (ix (ix a1 x3).Staves x10).Lead := hL.1
          have h6 : ln (fr (ix (ix a1 x3).Staves x10).Signs (ix (ix a1 x3).Staves x10).Lead) = ln (ix (ix a1 x3).Staves x10).Signs - (ix (ix a1 x3).Staves x10).Lead := this
          omega
        exact ⟨⟨by omega, hy⟩, trivial, ⟨by omega, by omega⟩, rfl, rfl, rfl, rfl, rfl, rfl, rfl, c2s h2 hy rfl, by
          have : x17 < ln (qh7 (ix (ix a1 x3).Staves x10)) := hy
          simp only [qfd]; omega⟩
      · exact ⟨⟨by omega, by omega⟩, ⟨by omega, by omega⟩, rfl, rfl, rfl, c21 h1 hj hx h2 hy, by simp only [qfc]; omega⟩
    · have gp := hpg x3 g0.1 hi
      exact ⟨⟨by omega, by omega⟩, rfl, rfl, c1e h0 hi gp h1 hj, by simp only [qbe]; omega⟩
  · exact ⟨fun he => ⟨p1 (zdb hn (q1c h0 hi) he), p2 (zdb hn (q1c h0 hi) he), trivial⟩, fun he => ⟨⟨hq, hs, c0l h0 hi⟩, pr1 (zdd hn (q1c h0 hi) he), pr2 (zdd hn (q1c h0 hi) he), trivial⟩⟩

end Go.Proofs.YtlkfjinaiepocaaDoor
