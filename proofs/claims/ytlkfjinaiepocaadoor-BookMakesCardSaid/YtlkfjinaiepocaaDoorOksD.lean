/- THE CONDITION of the program's Make holds. -/
import Derived.Test.YtlkfjinaiepocaaDoorVcs
namespace Go.Proofs.YtlkfjinaiepocaaDoor
open Go Go.E2 Go.E3
set_option maxRecDepth 100000

variable {nm n : List UInt8} {l s c k : List Sign} {w h m : Int} {page : List Staff} {pages : List Page}

/-- What has been looked at before a book is laid out. -/
def goodB (nm : List UInt8) (l : List Sign) (w h : Int) : Prop := (checkC nm l).1 = 0 ∧ turnI l < 0 ∧ 16 ≤ w ∧ w ≤ 60 ∧ 1 ≤ h ∧ h ≤ 12
theorem mk_err (h1 : (checkC nm l).1 ≠ 0) : mkB nm l w h = ([], [], (checkC nm l).1) := by rw [mkB, if_pos h1]
theorem mk_turn (h1 : (checkC nm l).1 = 0) (h2 : 0 ≤ turnI l) : mkB nm l w h = ([], [], 8) := by rw [mkB, if_neg (by omega), if_pos h2]
theorem mk_range (h1 : (checkC nm l).1 = 0) (h2 : turnI l < 0) (h3 : w < 16 ∨ 60 < w ∨ h < 1 ∨ 12 < h) : mkB nm l w h = ([], [], 2) := by rw [mkB, if_neg (by omega), if_neg (by omega), if_pos h3]
theorem mk_none (g : goodB nm l w h) (hb : bk l w h 0 [] [] = none) : mkB nm l w h = ([], [], 11) := by
  obtain ⟨h1, h2, h3, h4, h5, h6⟩ := g
  rw [mkB, if_neg (by omega), if_neg (by omega), if_neg (by omega), hb]
theorem mk_some (g : goodB nm l w h) (hb : bk l w h 0 [] [] = some pages) : mkB nm l w h = (nm, pages, 0) := by
  obtain ⟨h1, h2, h3, h4, h5, h6⟩ := g
  rw [mkB, if_neg (by omega), if_neg (by omega), if_neg (by omega), hb]


theorem B1_start : inv_MakeB_1 nm l w h l nm [] [] [] := ⟨0, Int.le_refl _, ln_nonneg _, by rw [fr_zero], rfl, rfl, rfl, by simp [ln]⟩
theorem B1_end (g : goodB nm l w h) (hi : inv_MakeB_1 nm l w h s n pages c k) (hs : ln s ≤ 0) : n = (mkB nm l w h).1 ∧ pages = (mkB nm l w h).2.1 ∧ (0 : Int) = (mkB nm l w h).2.2 := by
  obtain ⟨i, i0, i1, rfl, rfl, hf, hb, hp⟩ := hi
  rw [ln_fr i0 i1] at hs
  rw [bk_end (by omega)] at hb
  rw [mk_some g hb.symm]
  exact ⟨rfl, rfl, rfl⟩
theorem B2_start (hi : inv_MakeB_1 nm l w h s n pages c k) (hs : 0 < ln s) (hh : 1 ≤ h) : inv_MakeB_2 nm l w h s 1 [] c k n pages := by
  obtain ⟨i, i0, i1, rfl, rfl, hf, hb, hp⟩ := hi
  rw [ln_fr i0 i1] at hs
  exact ⟨i, i0, i1, rfl, rfl, hf, by rw [ln_nil]; rfl, by omega, hp, by omega, by omega, by rw [ln_nil]; omega, fun _ _ => hb, by omega⟩
theorem B2_len (hi : inv_MakeB_2 nm l w h s m page c k n pages) : ln c ≤ 1 ∧ ln k ≤ 1 ∧ 0 ≤ ln (c ++ k) ∧ ln (c ++ k) ≤ 2 ∧ ln s ≤ ln l ∧ ln page ≤ ln l ∧ ln pages ≤ ln l ∧ 1 ≤ m ∧ m ≤ h + 1 := by
  obtain ⟨i, i0, i1, rfl, rfl, hf, h1, h2, h3, h4, h5, h6, _, _⟩ := hi
  have hfl := force_len l i
  rw [← hf] at hfl
  have a := ln_nonneg c
  have b := ln_nonneg k
  have p := ln_nonneg page
  rw [ln_fr i0 i1, ln_append]
  dsimp only at hfl
  omega
theorem B1_next (hi : inv_MakeB_2 nm l w h s m page c k n pages) (hh : 1 ≤ h) (ht : ln s ≤ 0 ∨ h < m) : inv_MakeB_1 nm l w h s n (pages ++ [Page.mk page]) c k ∧ ln pages + 1 ≤ ln l := by
  obtain ⟨i, i0, i1, rfl, rfl, hf, h1, h2, h3, h4, h5, h6, h7, h8⟩ := hi
  rw [ln_fr i0 i1] at ht
  have p := ln_nonneg page
  exact ⟨⟨i, i0, i1, rfl, rfl, hf, h8 (by omega), by rw [ln_snoc]; omega⟩, by omega⟩
theorem B3_start (hi : inv_MakeB_2 nm l w h s m page c k n pages) {u : List Sign} : inv_MakeB_3 nm l w h 0 c k s u := by
  obtain ⟨i, i0, i1, rfl, rfl, hf, _⟩ := hi
  refine ⟨Int.le_refl _, ln_nonneg _, ?_⟩
  rw [ln_fr i0 i1, hf]
  congr 1; omega
theorem B3_step (hi : inv_MakeB_2 nm l w h s m page c k n pages) {j f : Int} {c' k' : List Sign} (hf0 : 0 ≤ f) (hf1 : f ≤ ln s) (h3 : inv_MakeB_3 nm l w h j c' k' s (upto s f)) (hj : j < ln (upto s f)) :
    inv_MakeB_3 nm l w h (j + 1) (afterF c' k' (ix (upto s f) j)).1 (afterF c' k' (ix (upto s f) j)).2 s (upto s f) := by
  obtain ⟨i, i0, i1, rfl, rfl, hf, _⟩ := hi
  obtain ⟨j0, j1, j2⟩ := h3
  refine ⟨by omega, by omega, ?_⟩
  have hl := ln_fr i0 i1
  have hu := ln_upto hf0 hf1
  have e : ln l - ln (fr l i) + (j + 1) = (ln l - ln (fr l i) + j) + 1 := by omega
  have hx : ix (upto (fr l i) f) j = ix l (ln l - ln (fr l i) + j) := by
    have : ix (upto (fr l i) f) j = ix (fr l i) j := by
      unfold ix upto
      rw [List.getD_eq_getElem?_getD, List.getD_eq_getElem?_getD, List.getElem?_take]
      rw [if_pos (by omega)]
    rw [this, ix_fr i0 j0]
    congr 1; omega
  rw [e, force_succ (by omega), ← j2, hx]
theorem B3_len {j : Int} {c' k' u : List Sign} (h3 : inv_MakeB_3 nm l w h j c' k' s u) : 0 ≤ j ∧ j ≤ ln u := ⟨h3.out.1, h3.out.2.1⟩
theorem B_go (hi : inv_MakeB_2 nm l w h s m page c k n pages) (hm : m ≤ h) (hs : 0 < ln s) {f : Int} (hf : f = fillL s (w - ln (c ++ k)) (decide (m = h))) :
    ∃ i, 0 ≤ i ∧ i < ln l ∧ s = fr l i ∧ c ++ k = leadL l i ∧ i + f = nxt l w i (decide (ln page + 1 = h)) ∧ bk l w h i page pages = bk l w h 0 [] [] ∧ ln l - ln s = i := by
  obtain ⟨i, i0, i1, rfl, rfl, hfo, h1, h2, h3, h4, h5, h6, h7, h8⟩ := hi
  have hl := ln_fr i0 i1
  have hc : c ++ k = leadL l i := by unfold leadL; rw [← hfo]
  refine ⟨i, i0, by omega, rfl, hc, ?_, h7 (by omega) hm, by omega⟩
  rw [hf, hc, fill_nxt i0 i1, h1]
theorem B_fail (g : goodB nm l w h) (hi : inv_MakeB_2 nm l w h s m page c k n pages) (hm : m ≤ h) (hs : 0 < ln s) (hf : fillL s (w - ln (c ++ k)) (decide (m = h)) ≤ 0) : mkB nm l w h = ([], [], 11) := by
  obtain ⟨i, i0, i1, _, _, h3, h4, _⟩ := B_go hi hm hs rfl
  exact mk_none g (by rw [← h4]; exact bk_none0 i1 (by omega))
theorem B2_step (hi : inv_MakeB_2 nm l w h s m page c k n pages) (hm : m ≤ h) (hs : 0 < ln s) {f j : Int} {c' k' : List Sign} (hf : f = fillL s (w - ln (c ++ k)) (decide (m = h))) (hf0 : 0 < f)
    (h3 : inv_MakeB_3 nm l w h j c' k' s (upto s f)) (hj : ln (upto s f) ≤ j) :
    inv_MakeB_2 nm l w h (fr s f) (m + 1) (page ++ [Staff.mk ((c ++ k) ++ upto s f) (ln (c ++ k)) (catchL (fr s f)).1 (catchL (fr s f)).2]) c' k' n pages := by
  obtain ⟨i, i0, i1, e1, e2, e3, e4, e5⟩ := B_go hi hm hs hf
  obtain ⟨i', a0, a1, es, rfl, _, h1, h2, hp, h4, _, h6, _, _⟩ := hi
  have hii := ln_fr a0 a1
  rw [← es] at hii
  have hfb := fill_bd (l := s) (room := w - ln (c ++ k)) (last := decide (m = h))
  rw [← hf] at hfb
  obtain ⟨j0, j1, j2⟩ := h3
  have hu := ln_upto (l := s) (i := f) (by omega) hfb.2
  have hj' : j = f := by omega
  subst hj'
  have hl : ln s = ln l - i := by omega
  have hfrs : fr s j = fr l (i + j) := by rw [e1, fr_fr i0 (by omega)]
  have hst : Staff.mk ((c ++ k) ++ upto s j) (ln (c ++ k)) (catchL (fr s j)).1 (catchL (fr s j)).2 = stf l i (i + j) := by
    have hsub : sub l i (i + j) = upto s j := by
      rw [sub_fr i0 (by omega), e1]; congr 1; omega
    unfold stf catchP
    rw [hsub, ← e2, hfrs]
  have hlen : ln (page ++ [stf l i (i + j)]) = ln page + 1 := ln_snoc _ _
  have hp' := ln_nonneg page
  rw [hst]
  refine ⟨i + j, by omega, by omega, hfrs, rfl, ?_, by omega, by omega, by omega, by omega, by omega, by omega, fun hlt hmh => ?_, fun ht => ?_⟩
  · rw [j2, show ln l - ln s + j = i + j by omega]
  · rw [← e4, bk_go i1 e3 (by omega) (by omega)]
  · rw [← e4, bk_turn i1 e3 (by omega) (by omega)]

theorem MakeB_ok (a0 : List UInt8) (a1 : List Sign) (a2 a3 : Int) (hp : ln a0 ≤ 1000000000 ∧ ln a1 ≤ 500) : MakeB_VC a0 a1 a2 a3 := by
  have hn := ln_nonneg a1
  unfold MakeB_VC
  simp only [sign_eta]
  refine ⟨by omega, fun he => ⟨by rw [mk_err he], by rw [mk_err he], by rw [mk_err he], trivial⟩, fun he => ⟨⟨Int.le_refl _, hn, by rw [fr_zero]; rfl⟩, fun x ⟨i0, i1, i2⟩ => ⟨fun hlt => ⟨⟨i0, hlt⟩, fun h11 => ⟨fun _ => ?_, fun hneg => absurd i0 (by omega)⟩, fun hne => ?_⟩, fun hge => ?_⟩⟩⟩
  · rw [turnGo_step i0 hlt, if_pos h11] at i2
    rw [mk_turn he (by omega)]
    exact ⟨rfl, rfl, rfl, trivial⟩
  · rw [turnGo_step i0 hlt, if_neg hne] at i2
    refine ⟨by omega, trivial, trivial, trivial, trivial, ⟨by omega, by omega, i2⟩, ?_⟩
    simp only [minv_MakeB_0]; omega
  · rw [turnGo_end hge] at i2
    have ht : turnI a1 < 0 := by omega
    refine ⟨fun h => ?_, fun h16 => ⟨fun h => ?_, fun h60 => ⟨fun h => ?_, fun h1 => ⟨fun h => ?_, fun h12 => ?_⟩⟩⟩⟩
    iterate 4
      · rw [mk_range he ht (by omega)]; exact ⟨rfl, rfl, rfl, trivial⟩
    have g : goodB a0 a1 a2 a3 := ⟨he, ht, h16, h60, h1, h12⟩
    refine ⟨by omega, B1_start, fun s n pages c k hi => ⟨fun hs => ⟨B2_start hi hs h1, fun s2 m page c2 k2 hj => ?_⟩, fun hs => ?_⟩⟩
    · have hL := B2_len hj
      have hfb : 0 ≤ fillL s2 (a2 - ln (c2 ++ k2)) (decide (m = a3)) ∧ fillL s2 (a2 - ln (c2 ++ k2)) (decide (m = a3)) ≤ ln s2 := fill_bd
      have hp' := ln_nonneg page
      have hu := ln_upto hfb.1 hfb.2
      have hr := ln_fr hfb.1 hfb.2
      have hap : ln ((c2 ++ k2) ++ upto s2 (fillL s2 (a2 - ln (c2 ++ k2)) (decide (m = a3)))) = ln (c2 ++ k2) + ln (upto s2 (fillL s2 (a2 - ln (c2 ++ k2)) (decide (m = a3)))) := ln_append _ _
      have hq' := ln_nonneg pages
      unhygienic (repeat' (first | exact trivial | exact And.intro (by omega) trivial | apply And.intro | intro))
      all_goals first
        | omega
        | (have := B3_len (by assumption); omega)
        | exact B3_start hj
        | (exact B3_step hj hfb.1 hfb.2 (by assumption) (by assumption))
        | (rw [B_fail g hj (by assumption) (by assumption) (by omega)]; done)
        | (exact B2_step hj (by assumption) (by assumption) rfl (by assumption) (by assumption) (by assumption))
        | (exact (B1_next hj h1 (by first | exact .inl (by assumption) | exact .inr (by assumption))).1)
        | (exact short_app (by have := ln_upto hfb.1 hfb.2; omega))
        | (exact short_snoc (by omega))
        | (have := B3_len (by assumption); simp only [minv_MakeB_3]; omega)
        | (simp only [minv_MakeB_2]; omega)
        | (have := (B1_next hj h1 (by first | exact .inl (by assumption) | exact .inr (by assumption))).2; simp only [minv_MakeB_1, ln_snoc]; omega)
        | skip
    · obtain ⟨q1, q2, q3⟩ := B1_end g hi hs
      exact ⟨q1, q2, q3, trivial⟩
end Go.Proofs.YtlkfjinaiepocaaDoor
