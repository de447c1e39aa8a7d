/- THE CONDITION of the reference's Make holds. -/
import Derived.Test.YtlkfjinaiepocaaDoorOksD
namespace Go.Proofs.YtlkfjinaiepocaaDoor
open Go Go.E2 Go.E3
set_option maxRecDepth 100000

variable {nm n : List UInt8} {l : List Sign} {w h g k i m : Int} {page : List Staff} {pages : List Page}

theorem posG_lt (hk : k < ln (groupsL l)) : posG l k = (ix (groupsL l) k).fro := if_pos hk
theorem posG_ge (hk : ln (groupsL l) ≤ k) : posG l k = ln l := if_neg (by omega)
theorem to_gE (h0 : 0 ≤ k) (hk : k < ln (groupsL l)) : (ix (groupsL l) k).to = gE l (posG l k) := by
  rw [posG_lt hk]; exact ((groups_ok l).bd k h0 hk).2.2.1
theorem to_pos (h0 : 0 ≤ k) (hk : k < ln (groupsL l)) : (ix (groupsL l) k).to = posG l (k + 1) := by
  by_cases hl : k + 1 < ln (groupsL l)
  · rw [posG_lt hl, (groups_ok l).next k h0 hl]
  · rw [posG_ge (by omega), (groups_ok l).last k h0 (by omega)]
theorem pos_bd (h0 : 0 ≤ k) (hk : k ≤ ln (groupsL l)) : 0 ≤ posG l k ∧ posG l k ≤ ln l ∧ (k < ln (groupsL l) → posG l k < ln l) := by
  by_cases hl : k < ln (groupsL l)
  · have := (groups_ok l).bd k h0 hl
    rw [posG_lt hl]; omega
  · rw [posG_ge (by omega)]; have := ln_nonneg l; omega
theorem pos_zero : posG l 0 = 0 := by
  by_cases hl : 0 < ln (groupsL l)
  · rw [posG_lt hl]; exact (groups_ok l).at0 hl
  · rw [posG_ge (by omega)]
    have := (groups_ok l).none (by omega)
    have := ln_nonneg l
    omega
theorem pos_step (h0 : 0 ≤ k) (hk : k < ln (groupsL l)) : posG l k + 1 ≤ posG l (k + 1) := by
  rw [← to_pos h0 hk, to_gE h0 hk]
  exact (gE_bd ((pos_bd h0 (by omega)).2.2 hk)).1
theorem pos_mono (h0 : 0 ≤ g) : ∀ d : Nat, g + d ≤ ln (groupsL l) → posG l g + d ≤ posG l (g + d)
  | 0, _ => by simp
  | d + 1, hd => by
    have := pos_mono h0 d (by omega)
    have := pos_step (l := l) (k := g + d) (by omega) (by omega)
    rw [show g + ((d + 1 : Nat) : Int) = g + d + 1 by omega]
    omega
theorem pos_le (h0 : 0 ≤ g) (hg : g ≤ k) (hk : k ≤ ln (groupsL l)) : posG l g + (k - g) ≤ posG l k := by
  have := pos_mono (l := l) h0 (k - g).toNat (by omega)
  rw [show g + ((k - g).toNat : Int) = k by omega] at this
  omega
theorem ln_groups : ln (groupsL l) ≤ ln l := by have := (groups_ok l).len; omega

theorem R0_fail (gd : goodB nm l w h) (h0 : 0 ≤ k) (hk : k < ln (groupsL l)) (hf : w < (ln (leadL l (ix (groupsL l) k).fro) + (ix (groupsL l) k).to) - (ix (groupsL l) k).fro) : mkB nm l w h = ([], [], 11) := by
  have hb := (groups_ok l).bd k h0 hk
  exact mk_none gd (bk_none (Int.le_refl _) hb.2.2.2 hb.2.1 (by rw [← hb.2.2.1]; omega))
theorem R1_start : inv_MakeR_1 nm l w h 0 nm [] [] := ⟨Int.le_refl _, ln_nonneg _, rfl, by rw [pos_zero], by simp [ln], by simp [ln]⟩
theorem R1_end (gd : goodB nm l w h) (hi : inv_MakeR_1 nm l w h g n pages page) (hg : ln (groupsL l) ≤ g) : n = (mkB nm l w h).1 ∧ pages = (mkB nm l w h).2.1 ∧ (0 : Int) = (mkB nm l w h).2.2 := by
  obtain ⟨_, _, rfl, hb, _⟩ := hi
  rw [posG_ge hg, bk_end (Int.le_refl _)] at hb
  rw [mk_some gd hb.symm]
  exact ⟨rfl, rfl, rfl⟩
theorem R2_start (hg : g < ln (groupsL l)) : inv_MakeR_2 nm l w h (ln (leadL l (ix (groupsL l) g).fro)) g g := by
  refine ⟨Int.le_refl _, by omega, by rw [posG_lt hg]; omega, posG l g, rfl, .inl ⟨rfl, fun j h1 h2 => absurd h1 (by omega)⟩⟩
theorem R2_step (h0 : 0 ≤ g) (hi : inv_MakeR_2 nm l w h m k g) (hk : k < ln (groupsL l)) (hf : (m + (ix (groupsL l) k).to) - (ix (groupsL l) k).fro ≤ w) : inv_MakeR_2 nm l w h ((m + (ix (groupsL l) k).to) - (ix (groupsL l) k).fro) (k + 1) g := by
  obtain ⟨i0, i1, i2, rest, i3, i4⟩ := hi
  have ht := to_pos (l := l) (k := k) (by omega) hk
  have hge := to_gE (l := l) (k := k) (by omega) hk
  have hp := posG_lt hk
  have hb := (pos_bd (l := l) (k := k) (by omega) i1).2.2 hk
  refine ⟨by omega, by omega, by omega, if (ix l (posG l k)).Kind = 2 then gE l (posG l k) else rest, ?_, ?_⟩
  · rw [← i3, fA_step (i := posG l k) hb (by unfold limP; omega), ← hge, ht]
  · split
    · rename_i hk2
      exact .inr ⟨k, i0, by omega, by rw [← hp]; exact hk2, hge.symm, fun j h1 h2 => absurd h1 (by omega)⟩
    · rename_i hk2
      rw [hp] at hk2
      have hx : ∀ {a}, noRest l a k → noRest l a (k + 1) := fun hn j h1 h2 => by
        by_cases he : j = k
        · rw [he]; exact hk2
        · exact hn j h1 (by omega)
      rcases i4 with ⟨q1, q2⟩ | ⟨j, q1, q2, q3, q4, q5⟩
      · exact .inl ⟨q1, hx q2⟩
      · exact .inr ⟨j, q1, by omega, q3, q4, hx q5⟩
theorem R2_end (h0 : 0 ≤ g) (hg : g < ln (groupsL l)) (hall : ∀ j, 0 ≤ j → j < ln (groupsL l) → fitG l w j) (hi : inv_MakeR_2 nm l w h m k g) (hk : ln (groupsL l) ≤ k ∨ (k < ln (groupsL l) ∧ w < (m + (ix (groupsL l) k).to) - (ix (groupsL l) k).fro)) :
    g < k ∧ k ≤ ln (groupsL l) ∧ ∃ rest, fA l (limP l w (posG l g)) (posG l g) (posG l g) = (posG l k, rest) ∧ RestOk l g k rest := by
  obtain ⟨i0, i1, i2, rest, i3, i4⟩ := hi
  have hlt : g < k := by
    rcases hk with hk | ⟨hk, hw⟩
    · omega
    · rcases Int.lt_or_le g k with h' | h'
      · exact h'
      · have : k = g := by omega
        subst this
        have := hall k h0 hg
        unfold fitG at this
        rw [posG_lt hk] at i2
        omega
  refine ⟨hlt, i1, rest, ?_, i4⟩
  rw [← i3]
  rcases hk with hk | ⟨hk, hw⟩
  · rw [posG_ge hk]; exact fA_stop (.inl (Int.le_refl _))
  · refine fA_stop (.inr ?_)
    rw [← to_gE (by omega) hk]
    have := posG_lt hk
    unfold limP
    omega
theorem R3_plain {rest : Int} (hlt : g < k) (hk : k ≤ ln (groupsL l)) (hf : fA l (limP l w (posG l g)) (posG l g) (posG l g) = (posG l k, rest)) (hl : ln page + 1 ≠ h ∨ ln (groupsL l) ≤ k) : inv_MakeR_3 nm l w h k g page := by
  refine ⟨hlt, hk, ?_⟩
  unfold nxt
  rw [hf, if_neg]
  rintro ⟨q1, q2, _⟩
  have q1 := of_decide_eq_true q1
  rcases hl with hl | hl
  · exact hl q1
  · rw [posG_ge hl] at q2; dsimp only at q2; omega
theorem R4_start {rest : Int} (hlt : g < k) (hk : k < ln (groupsL l)) (hf : fA l (limP l w (posG l g)) (posG l g) (posG l g) = (posG l k, rest)) (hr : RestOk l g k rest) : inv_MakeR_4 nm l w h k (k - 1) g :=
  ⟨hlt, hk, by omega, by omega, ⟨rest, hf, hr⟩, fun j h1 h2 => absurd h1 (by omega)⟩
theorem R4_step (hi : inv_MakeR_4 nm l w h k i g) (hg : g ≤ i) (hk : (ix l (ix (groupsL l) i).fro).Kind ≠ 2) : inv_MakeR_4 nm l w h k (i - 1) g := by
  obtain ⟨q1, q2, q3, q4, q5, q6⟩ := hi
  refine ⟨q1, q2, by omega, by omega, q5, fun j h1 h2 => ?_⟩
  by_cases he : j = i
  · rw [he]; exact hk
  · exact q6 j (by omega) h2
theorem R4_found (h0 : 0 ≤ g) (hi : inv_MakeR_4 nm l w h k i g) (hg : g ≤ i) (hk : (ix l (ix (groupsL l) i).fro).Kind = 2) (hp : ln page + 1 = h) : inv_MakeR_3 nm l w h (i + 1) g page := by
  obtain ⟨q1, q2, q3, q4, ⟨rest, q5, q5'⟩, q6⟩ := hi
  refine ⟨by omega, by omega, ?_⟩
  have hrest : rest = (ix (groupsL l) i).to := by
    rcases q5' with ⟨_, c2⟩ | ⟨j, c1, c2, c3, c4, c5⟩
    · exact absurd hk (c2 i hg q4)
    · rcases Int.lt_trichotomy j i with hj | hj | hj
      · exact absurd hk (c5 i (by omega) q4)
      · rw [c4, hj]
      · exact absurd c3 (q6 j (by omega) c2)
  have hb := (pos_bd (l := l) (k := k) (by omega) (by omega)).2.2 q2
  have hs := pos_step (l := l) (k := i) (by omega) (by omega)
  have hm := pos_le (l := l) h0 hg (by omega)
  rw [to_pos (by omega) (by omega)] at hrest
  unfold nxt
  rw [q5, if_pos ⟨decide_eq_true hp, hb, by dsimp only; omega⟩]
  exact hrest.symm
theorem R4_none (h0 : 0 ≤ g) (hi : inv_MakeR_4 nm l w h k i g) (hg : i < g) : inv_MakeR_3 nm l w h k g page := by
  obtain ⟨q1, q2, q3, q4, ⟨rest, q5, q5'⟩, q6⟩ := hi
  refine ⟨q1, by omega, ?_⟩
  have hrest : rest = posG l g := by
    rcases q5' with ⟨c1, _⟩ | ⟨j, c1, c2, c3, c4, c5⟩
    · exact c1
    · exact absurd c3 (q6 j (by omega) c2)
  unfold nxt
  rw [q5, if_neg]
  rintro ⟨_, _, q⟩
  dsimp only at q
  omega
theorem R_stf (h0 : 0 ≤ g) (hi : inv_MakeR_3 nm l w h k g page) : Staff.mk (leadL l (ix (groupsL l) g).fro ++ sub l (ix (groupsL l) g).fro (ix (groupsL l) (k - 1)).to) (ln (leadL l (ix (groupsL l) g).fro)) (catchP l (ix (groupsL l) (k - 1)).to).1 (catchP l (ix (groupsL l) (k - 1)).to).2 = stf l (posG l g) (posG l k) := by
  obtain ⟨q1, q2, _⟩ := hi
  have e := to_pos (l := l) (k := k - 1) (by omega) (by omega)
  rw [show k - 1 + 1 = k by omega] at e
  rw [e, ← posG_lt (by omega)]
  rfl
theorem R_turn (hi : inv_MakeR_1 nm l w h g n pages page) (h3 : inv_MakeR_3 nm l w h k g page) (ht : ln page + 1 = h ∨ k = ln (groupsL l)) : inv_MakeR_1 nm l w h k n (pages ++ [Page.mk (page ++ [stf l (posG l g) (posG l k)])]) [] := by
  obtain ⟨i0, i1, i2, i3, i4, i5⟩ := hi
  obtain ⟨q1, q2, q3⟩ := h3
  have hb := (pos_bd (l := l) (k := g) i0 i1).2.2 (by omega)
  have hm := pos_le (l := l) i0 (k := k) (by omega) q2
  refine ⟨by omega, q2, i2, ?_, by simp [ln]; omega, by rw [ln_snoc]; omega⟩
  rw [← i3, bk_turn hb q3 (by omega)]
  rcases ht with ht | ht
  · exact .inl ht
  · exact .inr (by rw [posG_ge (by omega)]; exact Int.le_refl _)
theorem R_go (hi : inv_MakeR_1 nm l w h g n pages page) (h3 : inv_MakeR_3 nm l w h k g page) (ht : ln page + 1 ≠ h) (ht' : k ≠ ln (groupsL l)) : inv_MakeR_1 nm l w h k n pages (page ++ [stf l (posG l g) (posG l k)]) := by
  obtain ⟨i0, i1, i2, i3, i4, i5⟩ := hi
  obtain ⟨q1, q2, q3⟩ := h3
  have hb := (pos_bd (l := l) (k := g) i0 i1).2.2 (by omega)
  have hm := pos_le (l := l) i0 (k := k) (by omega) q2
  have hk := (pos_bd (l := l) (k := k) (by omega) q2).2.2 (by omega)
  refine ⟨by omega, q2, i2, ?_, by rw [ln_snoc]; omega, by omega⟩
  rw [← i3, bk_go hb q3 (by omega) (by omega)]

theorem R1_len (hi : inv_MakeR_1 nm l w h g n pages page) : 0 ≤ g ∧ g ≤ ln (groupsL l) ∧ ln page ≤ g ∧ ln pages ≤ g := ⟨hi.out.1, hi.out.2.1, hi.out.2.2.2.2.1, hi.out.2.2.2.2.2⟩
theorem R2_len (hi : inv_MakeR_2 nm l w h m k g) : g ≤ k ∧ k ≤ ln (groupsL l) ∧ m = ln (leadL l (posG l g)) + posG l k - posG l g := ⟨hi.out.1, hi.out.2.1, hi.out.2.2.1⟩
theorem R3_len (hi : inv_MakeR_3 nm l w h k g page) : g < k ∧ k ≤ ln (groupsL l) := ⟨hi.out.1, hi.out.2.1⟩
theorem R4_len (hi : inv_MakeR_4 nm l w h k i g) : g < k ∧ k < ln (groupsL l) ∧ g - 1 ≤ i ∧ i < k := ⟨hi.out.1, hi.out.2.1, hi.out.2.2.1, hi.out.2.2.2.1⟩
set_option maxHeartbeats 4000000 in
theorem MakeR_ok (a0 : List UInt8) (a1 : List Sign) (a2 a3 : Int) (hp : ln a0 ≤ 1000000000 ∧ ln a1 ≤ 500) : MakeR_VC a0 a1 a2 a3 := by
  have hn := ln_nonneg a1
  have hlg := ln_groups (l := a1)
  have hgb := (groups_ok a1).bd
  have hto : ∀ k, 0 ≤ k → k < ln (groupsL a1) → (ix (groupsL a1) k).fro < (ix (groupsL a1) k).to ∧ (ix (groupsL a1) k).to ≤ ln a1 ∧ 0 ≤ (ix (groupsL a1) k).fro ∧ posG a1 k = (ix (groupsL a1) k).fro := fun k k0 k1 => by
    have hb := hgb k k0 k1
    have := gE_bd hb.2.1
    rw [← hb.2.2.1] at this
    exact ⟨by omega, this.2, hb.1, posG_lt k1⟩
  unfold MakeR_VC
  refine ⟨by omega, fun he => ⟨by rw [mk_err he], by rw [mk_err he], by rw [mk_err he], trivial⟩, fun he => ⟨by omega, fun h => ?_, fun ht => ⟨fun h => ?_, fun h16 => ⟨fun h => ?_, fun h60 => ⟨fun h => ?_, fun h1 => ⟨fun h => ?_, fun h12 => ?_⟩⟩⟩⟩⟩⟩
  · rw [mk_turn he h]; exact ⟨rfl, rfl, rfl, trivial⟩
  iterate 4
    · rw [mk_range he ht (by omega)]; exact ⟨rfl, rfl, rfl, trivial⟩
  have gd : goodB a0 a1 a2 a3 := ⟨he, ht, h16, h60, h1, h12⟩
  refine ⟨by omega, ⟨Int.le_refl _, ln_nonneg _, fun j h1 h2 => absurd h1 (by omega)⟩, fun x ⟨x0, x1, x2⟩ => ⟨fun hx => ?_, fun hx => ?_⟩⟩
  · have hb := hgb x x0 hx
    have hl := lead_len a1 (ix (groupsL a1) x).fro
    have hge := gE_bd hb.2.1
    rw [← hb.2.2.1] at hge
    refine ⟨⟨x0, hx⟩, ⟨hb.1, by omega, by omega⟩, ⟨x0, hx⟩, by omega, ⟨x0, hx⟩, by omega, fun hw => ?_, fun hw => ⟨by omega, rfl, rfl, rfl, ⟨by omega, by omega, fun j j0 j1 => ?_⟩, ?_⟩⟩
    · rw [R0_fail gd x0 hx hw]; exact ⟨rfl, rfl, rfl, trivial⟩
    · by_cases hj : j = x
      · subst hj; exact hw
      · exact x2 j j0 (by omega)
    · simp only [minv_MakeR_0]; omega
  · have hall : ∀ j, 0 ≤ j → j < ln (groupsL a1) → fitG a1 a2 j := fun j j0 j1 => x2 j j0 (by omega)
    refine ⟨R1_start, fun g n pages page hi => ⟨fun hg => ?_, fun hg => ?_⟩⟩
    · have hg0 := R1_len hi
      unhygienic (repeat' (first | exact trivial | exact And.intro (by omega) trivial | apply And.intro | intro))
      all_goals have hpn := ln_nonneg page
      all_goals first
        | omega
        | rfl
        | exact R2_start (by assumption)
        | exact R2_step hg0.1 (by assumption) (by assumption) (by assumption)
        | (have b := hgb g hg0.1 (by assumption); omega)
        | exact R4_none hg0.1 (by assumption) (by assumption)
        | exact R4_found hg0.1 (by assumption) (by assumption) (by assumption) (by assumption)
        | exact R4_step (by assumption) (by assumption) (by assumption)
        | (obtain ⟨q1, q2, r, q3, q4⟩ := R2_end hg0.1 (by assumption) hall (by assumption) (.inr ⟨by assumption, by assumption⟩)
           exact R4_start q1 (by assumption) q3 q4)
        | (obtain ⟨q1, q2, r, q3, q4⟩ := R2_end hg0.1 (by assumption) hall (by assumption) (by first | exact .inl (by assumption) | exact .inr ⟨by assumption, by assumption⟩)
           exact R3_plain q1 q2 q3 (by first | exact .inl (by assumption) | exact .inr (by assumption)))
        | (have q := R2_len (m := x15) (k := x16) (by assumption)
           have p1 := pos_bd (l := a1) (k := g) (by omega) (by omega)
           have p2 := pos_bd (l := a1) (k := x16) (by omega) (by omega)
           have ll := lead_len a1 (posG a1 g)
           first
             | omega
             | (have b2 := hto x16 (by omega) (by omega); omega)
             | (simp only [minv_MakeR_2]; omega))
        | (have q := R4_len (k := x22) (i := x23) (by assumption)
           first
             | omega
             | (have b := hgb x23 (by omega) (by omega); omega)
             | (simp only [minv_MakeR_4]; omega))
        | (have q := R3_len (k := x20) (by assumption)
           have b := hgb g hg0.1 (by omega)
           have b2 := hto (x20 - 1) (by omega) (by omega)
           have e := to_pos (l := a1) (k := x20 - 1) (by omega) (by omega)
           rw [show x20 - 1 + 1 = x20 by omega] at e
           have e2 := posG_lt (l := a1) (k := g) (by omega)
           have e3 := pos_le (l := a1) (g := g) (k := x20) hg0.1 (by omega) (by omega)
           have ll := lead_len a1 (ix (groupsL a1) g).fro
           first
             | omega
             | exact short_app (by rw [ln_sub b.1 (by omega) (by omega)]; omega)
             | exact short_snoc (by omega)
             | (rw [R_stf hg0.1 (by assumption)]; exact R_turn hi (by assumption) (by first | exact .inl ((ln_snoc page _).symm.trans (by assumption)) | exact .inr (by assumption)))
             | (rw [R_stf hg0.1 (by assumption)]; exact R_go hi (by assumption) (fun hh => absurd ((ln_snoc page _).trans hh) (by assumption)) (by assumption))
             | (simp only [minv_MakeR_1]; omega))
        | (have q := R4_len (k := x21) (i := x22) (by assumption)
           first
             | omega
             | (have b := hgb x22 (by omega) (by omega); omega)
             | (simp only [minv_MakeR_4]; omega))
        | (have q := R3_len (k := x19) (by assumption)
           have b := hgb g hg0.1 (by omega)
           have b2 := hto (x19 - 1) (by omega) (by omega)
           have e := to_pos (l := a1) (k := x19 - 1) (by omega) (by omega)
           rw [show x19 - 1 + 1 = x19 by omega] at e
           have e2 := posG_lt (l := a1) (k := g) (by omega)
           have e3 := pos_le (l := a1) (g := g) (k := x19) hg0.1 (by omega) (by omega)
           have ll := lead_len a1 (ix (groupsL a1) g).fro
           first
             | omega
             | exact short_app (by rw [ln_sub b.1 (by omega) (by omega)]; omega)
             | exact short_snoc (by omega)
             | (rw [R_stf hg0.1 (by assumption)]; exact R_turn hi (by assumption) (by first | exact .inl ((ln_snoc page _).symm.trans (by assumption)) | exact .inr (by assumption)))
             | (rw [R_stf hg0.1 (by assumption)]; exact R_go hi (by assumption) (fun hh => absurd ((ln_snoc page _).trans hh) (by assumption)) (by assumption))
             | (simp only [minv_MakeR_1]; omega))
        | skip
    · obtain ⟨q1, q2, q3⟩ := R1_end gd hi hg
      exact ⟨q1, q2, q3, trivial⟩
end Go.Proofs.YtlkfjinaiepocaaDoor
