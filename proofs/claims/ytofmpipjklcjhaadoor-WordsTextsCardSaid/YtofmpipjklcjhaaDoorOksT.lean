/- THE CONDITIONS of tactusref02.Text, of large and of the law WordsTexts hold. -/
import Derived.Test.YtofmpipjklcjhaaDoorOksV
namespace Go.Proofs.YtofmpipjklcjhaaDoor
open Go Go.E2 Go.E3
set_option maxRecDepth 100000

theorem q2p (a0 : Int) (hp : U8 a0) : qm7 a0 := by
  unfold qm7 zg
  refine ⟨fun h => ⟨fun h1 => ⟨fun h2 => ⟨?_, trivial⟩, fun h2 => ⟨?_, trivial⟩⟩, fun h1 => ⟨?_, trivial⟩⟩, fun h => ⟨?_, trivial⟩⟩
  · simp [h, h1, h2]
  · simp [h2]
  · simp; omega
  · simp; omega
theorem qyw (a0 : Int) (hp : U8 a0) : qkk a0 := by
  unfold qkk za
  refine ⟨fun h => ⟨fun h1 => ⟨?_, trivial⟩, fun h1 => ⟨?_, trivial⟩⟩, fun h => ⟨?_, trivial⟩⟩
  · simp [h, h1]
  · simp; omega
  · simp; omega

section
variable {a0 : Int} {t : List UInt8} {q : Bool} {i : Int}
theorem qvk (h0 : 0 ≤ i) (h1 : i < ln t) (h : inI q (bx t i) = false) : km a0 t q = ([], false) := by
  unfold km
  rw [if_neg]
  cases q with
  | true => simp only [okW, if_true]; rw [qjb h0 h1 h]; simp
  | false => simp only [okW, Bool.false_eq_true, if_false]; rw [qqj h0 h1 h]; simp
theorem zdp (h : qaf a0 t true i) (hi : ln t ≤ i) : km a0 t true = ((([34] : List UInt8) ++ t) ++ ([34] : List UInt8), true) := by
  obtain ⟨h0, h1, h2⟩ := h
  unfold km
  rw [if_pos]
  · rfl
  · simp only [okW, if_true]
    exact qet.2 fun j j0 j1 => h2 j j0 (by omega)
theorem zdo (h : qaf a0 t false i) (hi : ln t ≤ i) : km a0 t false = (t, !(decide (t = ([] : List UInt8)))) := by
  obtain ⟨h0, h1, h2⟩ := h
  unfold km
  by_cases ht : t = []
  · subst ht
    rfl
  · rw [if_pos]
    · simp [qdq, ht]
    · simp only [okW, Bool.false_eq_true, if_false]
      exact qqi.2 ⟨fun j j0 j1 => h2 j j0 (by omega), ht⟩
theorem zdq (h : qaf a0 t q i) (hi : i < ln t) (hb : inI q (bx t i) = true) : qaf a0 t q (i + 1) := by
  obtain ⟨h0, h1, h2⟩ := h
  refine ⟨by omega, by omega, fun j j0 j1 => ?_⟩
  by_cases hj : j = i
  · rw [hj]; exact hb
  · exact h2 j j0 (by omega)
end
theorem wp1 {α β : Type} {p : α × β} {u : α} {v : β} (h : p = (u, v)) : u = p.1 := by rw [h]
theorem wp2 {α β : Type} {p : α × β} {u : α} {v : β} (h : p = (u, v)) : v = p.2 := by rw [h]
theorem q6m (a0 : Int) (a1 : List UInt8) (a2 : Bool) (hp : ln a1 ≤ 100000) : qri a0 a1 a2 := by
  unfold qri
  have e34 : ln ([34] : List UInt8) = 1 := rfl
  refine ⟨⟨Int.le_refl 0, zp _, fun j j0 j1 => by omega⟩, fun x h => ⟨fun hx => ?_, fun hx => ⟨fun hq => ?_, fun hq => ?_⟩⟩⟩
  · have h0 := h.get.1
    have hb := q30 a1 x
    refine ⟨fun hq => ?_, fun hq => ?_⟩
    · subst hq
      exact ⟨⟨h0, hx⟩, hb, fun hc => ⟨wp1 (qvk h0 hx hc), wp2 (qvk h0 hx hc), trivial⟩, fun hc => ⟨⟨by omega, by omega⟩, rfl, rfl, rfl, zdq h hx hc, by simp only [qa4]; omega⟩⟩
    · subst hq
      exact ⟨⟨h0, hx⟩, hb, fun hc => ⟨wp1 (qvk h0 hx hc), wp2 (qvk h0 hx hc), trivial⟩, fun hc => ⟨⟨by omega, by omega⟩, rfl, rfl, rfl, zdq h hx hc, by simp only [qa4]; omega⟩⟩
  · subst hq
    exact ⟨qd7 (by omega), qd7 (by rw [k8]; omega), wp1 (zdp h hx), wp2 (zdp h hx), trivial⟩
  · subst hq
    exact ⟨wp1 (zdo h hx), wp2 (zdo h hx), trivial⟩

theorem qt1 (a : Int) (t : List UInt8) (q : Bool) : ln (km a t q).1 ≤ ln t + 2 := by
  unfold km
  split
  · cases q <;> simp [qdq, ln] <;> omega
  · have := zp t; simp [ln]; omega
theorem q6o {w : Word} (h : (km w.At w.Text w.Quoted).2 = true) : okW w = true ∧ (km w.At w.Text w.Quoted).1 = qdq w := by
  unfold km at h ⊢
  have e : okW ⟨0, w.Text, w.Quoted⟩ = okW w := rfl
  have e2 : qdq ⟨0, w.Text, w.Quoted⟩ = qdq w := rfl
  split at h
  · rename_i hc
    rw [if_pos hc]; exact ⟨e ▸ hc, e2⟩
  · cases h
theorem qx4 {w : Word} (h : (km w.At w.Text w.Quoted).2 = false) : okW w = false := by
  unfold km at h
  split at h
  · cases h
  · rename_i hc
    exact Bool.not_eq_true _ ▸ hc
section
variable {a0 : List Row} {out line : List UInt8} {i k : Int}
theorem qzv (h : qax a0 out i) (hi : i < ln a0) : qf a0 = if (ix a0 i).Words = [] then ([], 3) else if (ix a0 i).Words.all okW = false then ([], 3) else if 1000 < ln (qdh (ix a0 i).Words) then ([], 4)
    else if 20000 < ln ((out ++ qdh (ix a0 i).Words) ++ ([10] : List UInt8)) then ([], 4) else qd8 ((out ++ qdh (ix a0 i).Words) ++ ([10] : List UInt8)) (fr a0 (i + 1)) := by
  obtain ⟨h0, h1, h2, h3⟩ := h
  rw [← h3, qb1 h0 hi]
  rfl
theorem q0x (h : qax a0 out i) (hi : i < ln a0) (hw : ln (ix a0 i).Words = 0) : qf a0 = ([], 3) := by
  rw [qzv h hi, if_pos (qup (by omega))]
theorem q9i {ws : List Word} (hw : ln ws ≠ 0) : ws ≠ [] := by rintro rfl; exact hw rfl
theorem q6b (h : qax a0 out i) (hi : i < ln a0) (hw : ln (ix a0 i).Words ≠ 0) (h0 : 0 ≤ k) (hk : k < ln (ix a0 i).Words) (hb : okW (ix (ix a0 i).Words k) = false) : qf a0 = ([], 3) := by
  rw [qzv h hi, if_neg (q9i hw), if_pos]
  rw [List.all_eq_false]
  exact ⟨_, qcc h0 hk, by simp [hb]⟩
theorem q0y (h : qay a0 line k out i) (hk : k < ln (ix a0 i).Words) (ht : ln (ix (ix a0 i).Words k).Text ≤ 100000) (hb : (km (ix (ix a0 i).Words k).At (ix (ix a0 i).Words k).Text (ix (ix a0 i).Words k).Quoted).2 = true) {l2 : List UInt8}
    (hl : l2 = (if 0 < k then (line ++ ([32] : List UInt8)) ++ (km (ix (ix a0 i).Words k).At (ix (ix a0 i).Words k).Text (ix (ix a0 i).Words k).Quoted).1 else line ++ (km (ix (ix a0 i).Words k).At (ix (ix a0 i).Words k).Text (ix (ix a0 i).Words k).Quoted).1)) : qay a0 l2 (k + 1) out i := by
  obtain ⟨h0, h1, h2, h3, h4⟩ := h
  obtain ⟨b1, b2⟩ := q6o hb
  have hlen := qt1 (ix (ix a0 i).Words k).At (ix (ix a0 i).Words k).Text (ix (ix a0 i).Words k).Quoted
  have e32 : ln ([32] : List UInt8) = 1 := rfl
  refine ⟨by omega, by omega, ?_, ?_, ?_⟩
  · rw [hl, qft h0 hk, b2]
    by_cases hk0 : 0 < k
    · rw [if_pos hk0, qqa (by
        intro hh
        have := qo0 h0 h1
        rw [hh] at this
        rw [qg3] at this; omega), ← h2]
      simp
    · have : k = 0 := by omega
      subst this
      rw [if_neg hk0, h2, qhd]
      simp [qdh, qq8]
  · rw [qft h0 hk]
    intro w hw
    rcases List.mem_append.1 hw with hw | hw
    · exact h3 w hw
    · rw [List.mem_singleton.1 hw]; exact b1
  · rw [hl]
    split
    · rw [k8, k8]; omega
    · rw [k8]; omega
theorem zbb (h0 : qax a0 out i) (hi : i < ln a0) (hw : ln (ix a0 i).Words ≠ 0) (h : qay a0 line k out i) (hk : ln (ix a0 i).Words ≤ k) : qf a0 = if 1000 < ln line then ([], 4)
    else if 20000 < ln ((out ++ line) ++ ([10] : List UInt8)) then ([], 4) else qd8 ((out ++ line) ++ ([10] : List UInt8)) (fr a0 (i + 1)) := by
  obtain ⟨g0, g1, g2, g3, g4⟩ := h
  rw [qrd hk] at g2 g3
  rw [qzv h0 hi, if_neg (q9i hw), if_neg, g2]
  have : (ix a0 i).Words.all okW = true := List.all_eq_true.2 g3
  rw [this]; simp
end
theorem q3n (a0 : List Row) (hp : qez a0) : qo7 a0 := by
  have hf : ∀ i, 0 ≤ i → i < ln a0 → ln (ix a0 i).Words ≤ 1000 ∧ ∀ k, 0 ≤ k → k < ln (ix a0 i).Words → ln (ix (ix a0 i).Words k).Text ≤ 100000 := fun i h h' => ⟨(hp.2 _ (qcc h h')).1, fun k g g' => (hp.2 _ (qcc h h')).2 _ (qcc g g')⟩
  have hl := hp.1
  have e32 : ln ([32] : List UInt8) = 1 := rfl
  have e10 : ln ([10] : List UInt8) = 1 := rfl
  unfold qo7
  refine ⟨⟨Int.le_refl 0, zp _, by decide, by rw [qe9]; rfl⟩, fun x0 x1 h => ⟨fun hi => ?_, fun hi => ?_⟩⟩
  · have h0 := h.get.1
    have h2 := h.get.2.2.1
    have hw := hf x1 h0 hi
    refine ⟨⟨h0, hi⟩, fun hz => ⟨wp1 (q0x h hi hz), wp2 (q0x h hi hz), trivial⟩, fun hz => ⟨⟨Int.le_refl 0, zp _, by rw [qhd]; rfl, (by rw [qhd]; intro w hw; cases hw), by decide⟩, fun x5 x6 g => ⟨⟨h0, hi⟩, fun hk => ?_, fun hk => ?_⟩⟩⟩
    · have g0 := g.get.1
      have g4 := g.get.2.2.2.2
      have ht := hw.2 x6 g0 hk
      have hlen := qt1 (ix (ix a0 x1).Words x6).At (ix (ix a0 x1).Words x6).Text (ix (ix a0 x1).Words x6).Quoted
      refine ⟨⟨h0, hi⟩, ⟨g0, hk⟩, ht, fun hb => ⟨wp1 (q6b h hi hz g0 hk (qx4 hb)), wp2 (q6b h hi hz g0 hk (qx4 hb)), trivial⟩, fun hb => ⟨fun hc => ?_, fun hc => ?_⟩⟩
      · exact ⟨qd7 (by omega), qd7 (by rw [k8]; omega), ⟨by omega, by omega⟩, q0y g hk ht hb (if_pos hc).symm, by simp only [qa3]; omega⟩
      · exact ⟨qd7 (by omega), ⟨by omega, by omega⟩, q0y g hk ht hb (if_neg (by omega)).symm, by simp only [qa3]; omega⟩
    · have g0 := g.get.1
      have g1 := g.get.2.1
      have g4 := g.get.2.2.2.2
      have he := zbb h hi hz g hk
      refine ⟨qd7 (by omega), qd7 (by rw [k8]; omega), fun hc => ?_, fun hc => ⟨fun hd => ?_, fun hd => ?_⟩⟩
      · rw [if_pos hc] at he; exact ⟨wp1 he, wp2 he, trivial⟩
      · rw [if_neg (by omega), if_pos hd] at he; exact ⟨wp1 he, wp2 he, trivial⟩
      · rw [if_neg (by omega), if_neg (by omega)] at he
        exact ⟨⟨by omega, by omega⟩, ⟨by omega, by omega, hd, he.symm⟩, by simp only [qfg]; omega⟩
  · have he := h.get.2.2.2
    rw [qiu hi] at he
    have he : qf a0 = (x0, 0) := he.symm
    exact ⟨wp1 he, wp2 he, trivial⟩

theorem zdd {x : Int} (h0 : 0 ≤ x) (h1 : x ≤ 3000) : 0 ≤ Int.tdiv x 100 ∧ Int.tdiv x 100 ≤ 30 := by
  rw [Int.tdiv_eq_ediv_of_nonneg h0]; omega
theorem q15 (a0 : List Row) : qmw a0 := by
  unfold qmw
  refine ⟨fun h => ⟨by unfold qbx; rw [if_pos h], trivial⟩, fun h => ?_⟩
  have hR : qbx a0 = qj6 0 a0 := by unfold qbx; rw [if_neg (by omega)]
  rw [hR]
  refine ⟨⟨Int.le_refl 0, zp _, Int.le_refl 0, by omega, by rw [qe9]⟩, fun x1 x2 h0 => ⟨fun hi => ?_, fun hi => ?_⟩⟩
  · obtain ⟨p1, p2, p3, p4, p5⟩ := h0
    rw [qb1 p1 hi] at p5
    simp only [qj6] at p5
    have hw0 := zp (ix a0 x2).Words
    refine ⟨⟨p1, hi⟩, fun hc => ⟨?_, trivial⟩, fun hc => ?_⟩
    · rw [if_pos hc] at p5; exact p5
    · rw [if_neg (by omega)] at p5
      refine ⟨⟨p1, hi⟩, ⟨by omega, by omega⟩, ⟨Int.le_refl 0, hw0, by omega, by omega, by rw [qe9]; exact p5⟩, fun x6 x7 g => ⟨⟨p1, hi⟩, fun hk => ?_, fun hk => ?_⟩⟩
      · obtain ⟨q1, q2, q3, q4, q5⟩ := g
        rw [qb1 q1 hk] at q5
        simp only [qk1] at q5
        have ht0 := zp (ix (ix a0 x2).Words x7).Text
        refine ⟨⟨p1, hi⟩, ⟨q1, hk⟩, fun hd => ⟨?_, trivial⟩, fun hd => ?_⟩
        · rw [if_pos hd] at q5; exact q5
        · rw [if_neg (by omega)] at q5
          have htd := zdd ht0 hd
          exact ⟨⟨p1, hi⟩, ⟨q1, hk⟩, ⟨by decide, by omega, by omega⟩, ⟨by omega, by omega⟩, ⟨by omega, by omega⟩, ⟨by omega, by omega, by omega, by omega, q5⟩, by simp only [qef]; omega⟩
      · obtain ⟨q1, q2, q3, q4, q5⟩ := g
        rw [qiu hk] at q5
        exact ⟨⟨by omega, by omega⟩, ⟨by omega, by omega, q3, by omega, q5⟩, by simp only [qee]; omega⟩
  · have h5 := h0.get.2.2.2.2
    rw [qiu hi] at h5
    exact ⟨h5, trivial⟩
theorem qwu (a0 : List Row) : qi1 a0 := by
  unfold qi1
  rw [zao, qzk]
  refine ⟨trivial, fun _ => ⟨trivial, rfl, trivial⟩, fun h => ?_⟩
  have hf := q17 h
  have h1 : qez a0 := ⟨by omega, fun r hr => ⟨by have := (hf.2 r hr).1; omega, fun w hw => by have := (hf.2 r hr).2 w hw; show ln w.Text ≤ 100000; omega⟩⟩
  exact ⟨h1, h1, h1, fun _ => ⟨fun _ => ⟨⟨by omega, fun r hr => by have := (hf.2 r hr).1; omega⟩, fun _ => ⟨trivial, rfl, trivial⟩, fun hc => by cases hc⟩, fun hc => absurd rfl hc⟩, fun hc => absurd rfl hc⟩
end Go.Proofs.YtofmpipjklcjhaaDoor
