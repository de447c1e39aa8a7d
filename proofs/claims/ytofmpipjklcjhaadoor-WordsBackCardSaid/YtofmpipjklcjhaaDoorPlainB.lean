/- ROWS THAT ARE READ, AND ROWS MADE OF NUMBERS, can be written. -/
import Derived.Test.YtofmpipjklcjhaaDoorPlainA
namespace Go.Proofs.YtofmpipjklcjhaaDoor
open Go Go.E2 Go.E3
set_option maxRecDepth 100000

theorem quotedI_some {l : List UInt8} {a : Int} (h0 : 0 ≤ a) (h : a < quotedI l a) : runTo insideI l (a + 1) + 1 = quotedI l a ∧ endsAt l (quotedI l a) := by
  unfold quotedI at h ⊢
  split
  · rename_i hc
    rw [if_pos hc] at h
    omega
  · rename_i hc
    exact ⟨rfl, Classical.byContradiction fun hn => hc (.inr (.inr (.inr hn)))⟩

theorem all_of_run {p : Int → Bool} {l : List UInt8} {i j : Int} (h0 : 0 ≤ i) (hij : i ≤ j) (hj : j ≤ ln l) (h : ∀ k, i ≤ k → k < j → p (bx l k) = true) : ∀ k, 0 ≤ k → k < ln (sub l i j) → p (bx (sub l i j) k) = true := by
  intro k k0 k1
  rw [ln_sub h0 hij hj] at k1
  rw [bx_sub h0 k0 (by omega)]
  exact h _ (by omega) (by omega)

/-- Words stand behind a blank. -/
theorem rest_blank {l : List UInt8} {f e : Int} (h0 : 0 ≤ e) (h1 : e ≤ ln l) (hne : (cutS l f e).1 ≠ []) (hend : ln l ≤ e ∨ bx l e = 32 ∨ bx l e = 59 ∨ (bx l e ≠ 34 ∧ plainI (bx l e) = false) ∨ (bx l e = 34 ∧ 0 < e ∧ bx l (e - 1) ≠ 32)) : e + 1 ≤ runTo blankI l e := by
  by_cases hl : ln l ≤ e
  · rw [cut_end (.inl hl)] at hne
    exact absurd rfl hne
  · by_cases hb : bx l e = 32
    · exact runTo_gt h0 (by omega) (blankI_iff.2 hb)
    · by_cases hc : bx l e = 59
      · rw [cut_end (.inr hc)] at hne
        exact absurd rfl hne
      · exfalso
        rcases hend with h | h | h | ⟨h, h'⟩ | ⟨h, h', h''⟩
        · exact hl h
        · exact hb h
        · exact hc h
        · rw [cut_bad (by omega) hc (.inr ⟨h, hb, h'⟩) h0] at hne
          exact hne rfl
        · have hq : quotedI l e < 0 := by
            unfold quotedI
            rw [if_pos (.inl ⟨h', h''⟩)]
            decide
          rw [cut_bad (by omega) hc (.inl ⟨h, hq⟩) h0] at hne
          exact hne rfl

theorem join_cons {w : Word} {ws : List Word} (h : ws ≠ []) : joinT (w :: ws) = wordT w ++ 32 :: joinT ws := by
  cases ws with
  | nil => exact absurd rfl h
  | cons a l => rfl

theorem cut_good (l : List UInt8) (f i : Int) (h0 : 0 ≤ i) (h : i ≤ ln l) : (cutS l f i).2 < 0 → (cutS l f i).1.all okW = true ∧ ((cutS l f i).1 ≠ [] → ln (joinT (cutS l f i).1) ≤ ln l - runTo blankI l i) := by
  have hg := runTo_ge (p := blankI) (s := l) (i := i)
  have hr := runTo_le (p := blankI) (s := l) (i := i) h
  fun_induction cutS l f i with
  | case1 i h1 => exact fun _ => ⟨rfl, fun hn => absurd rfl hn⟩
  | case2 i h1 h2 h3 h4 ih =>
    intro _
    obtain ⟨e1, e2⟩ := quotedI_some (by omega) h3.1
    have hge := runTo_ge (p := insideI) (s := l) (i := runTo blankI l i + 1)
    obtain ⟨g1, g2⟩ := ih (by omega) (by omega) runTo_ge (runTo_le (by omega)) h4
    have hsub := ln_sub (l := l) (i := runTo blankI l i + 1) (j := quotedI l (runTo blankI l i) - 1) (by omega) (by omega) (by omega)
    have hq : quotedB (sub l (runTo blankI l i + 1) (quotedI l (runTo blankI l i) - 1)) = true := by
      rw [quotedB_iff]
      refine all_of_run (by omega) (by omega) (by omega) fun k k0 k1 => runTo_all k k0 (by omega)
    refine ⟨?_, fun _ => ?_⟩
    · show List.all (_ :: _) okW = true
      simp only [List.all_cons, okW, if_true, hq, Bool.true_and]
      exact g1
    · show ln (joinT (_ :: _)) ≤ _
      have hw : ln (wordT ⟨f + runTo blankI l i, sub l (runTo blankI l i + 1) (quotedI l (runTo blankI l i) - 1), true⟩) = quotedI l (runTo blankI l i) - runTo blankI l i := by
        simp only [wordT, if_true, ln_append, hsub]
        have : ln ([34] : List UInt8) = 1 := rfl
        omega
      by_cases hn : (cutS l f (quotedI l (runTo blankI l i))).1 = []
      · rw [hn]
        simp only [joinT, tailT, List.flatMap_nil, List.append_nil, hw]
        omega
      · have hb := rest_blank (by omega) (by omega) hn (by rcases e2 with e2 | e2 | e2; exact .inl e2; exact .inr (.inl e2); exact .inr (.inr (.inl e2)))
        have := g2 hn
        rw [join_cons hn, ln_append, ln_cons, hw]
        omega
  | case3 i h1 h2 h3 h4 ih => exact fun hh => absurd hh h4
  | case4 i h1 h2 h3 => exact fun hh => by have hh : runTo blankI l i < 0 := hh; omega
  | case5 i h1 h2 h3 h4 h5 ih =>
    intro _
    obtain ⟨g1, g2⟩ := ih (by omega) (by omega) runTo_ge (runTo_le (by omega)) h5
    have hsub := ln_sub (l := l) (i := runTo blankI l i) (j := runTo plainI l (runTo blankI l i)) (by omega) (by omega) (by omega)
    have hq : plainB (sub l (runTo blankI l i) (runTo plainI l (runTo blankI l i))) = true := by
      rw [plainB_iff]
      refine ⟨all_of_run (by omega) (by omega) (by omega) fun k k0 k1 => runTo_all k k0 (by omega), ?_⟩
      intro hz
      rw [hz, ln_nil] at hsub
      omega
    refine ⟨?_, fun _ => ?_⟩
    · show List.all (_ :: _) okW = true
      simp only [List.all_cons, okW, Bool.false_eq_true, if_false, hq, Bool.true_and]
      exact g1
    · show ln (joinT (_ :: _)) ≤ _
      have hw : ln (wordT ⟨f + runTo blankI l i, sub l (runTo blankI l i) (runTo plainI l (runTo blankI l i)), false⟩) = runTo plainI l (runTo blankI l i) - runTo blankI l i := by
        simp only [wordT, Bool.false_eq_true, if_false, hsub]
      by_cases hn : (cutS l f (runTo plainI l (runTo blankI l i))).1 = []
      · rw [hn]
        simp only [joinT, tailT, List.flatMap_nil, List.append_nil, hw]
        omega
      · have hprev : plainI (bx l (runTo plainI l (runTo blankI l i) - 1)) = true := runTo_all (p := plainI) (s := l) (i := runTo blankI l i) _ (by omega) (by omega)
        have hprev := plainI_iff.1 hprev
        have hb := rest_blank (by omega) (by omega) hn (by
          by_cases hl : ln l ≤ runTo plainI l (runTo blankI l i)
          · exact .inl hl
          · have hnp := runTo_end (p := plainI) (s := l) (i := runTo blankI l i) (by omega) (by omega)
            by_cases h34 : bx l (runTo plainI l (runTo blankI l i)) = 34
            · exact .inr (.inr (.inr (.inr ⟨h34, by omega, by omega⟩)))
            · exact .inr (.inr (.inr (.inl ⟨h34, hnp⟩))))
        have := g2 hn
        rw [join_cons hn, ln_append, ln_cons, hw]
        omega
  | case6 i h1 h2 h3 h4 h5 ih => exact fun hh => absurd hh h5
  | case7 i h1 h2 h3 h4 => exact fun hh => by have hh : runTo blankI l i < 0 := hh; omega
  | case8 i h1 h2 h3 => exact fun hh => by have hh : runTo blankI l i < 0 := hh; omega

def sumL : List (List UInt8) → Int
  | [] => 0
  | l :: ls => ln l + 1 + sumL ls
theorem sumL_nonneg : ∀ L, 0 ≤ sumL L
  | [] => Int.le_refl 0
  | l :: ls => by
    have := sumL_nonneg ls
    have := ln_nonneg l
    simp only [sumL]
    omega
theorem sumL_split (c : Int) : ∀ s : List UInt8, sumL (splitI c s) = ln s + 1
  | [] => rfl
  | b :: l => by
    have ih := sumL_split c l
    unfold splitI
    split
    · simp only [sumL, ih, ln_cons, ln_nil]
      omega
    · cases hs : splitI c l with
      | nil => exact absurd hs (splitI_ne c l)
      | cons x xs =>
        rw [hs] at ih
        simp only [sumL] at ih
        simp only [sumL, ln_cons]
        omega

theorem rows_good : ∀ (L : List (List UInt8)) (x : Int), (rowsS L x).2.1 = 0 → (∀ r ∈ (rowsS L x).1, goodRow r) ∧ ln (linesT (rowsS L x).1) ≤ sumL L
  | [], x, _ => ⟨fun r h => (by cases h), Int.le_refl 0⟩
  | l :: L, x, h => by
    have ih := rows_good L (x + ln l + 1)
    have hs := sumL_nonneg L
    have hl := ln_nonneg l
    unfold rowsS at h ⊢
    split at h
    · cases h
    · rename_i h1
      split at h
      · cases h
      · rename_i h2
        split at h
        · rename_i h3
          obtain ⟨i1, i2⟩ := ih h3
          rw [if_neg h1, if_neg h2, if_pos h3]
          obtain ⟨g1, g2⟩ := cut_good l x 0 (Int.le_refl 0) hl (by omega)
          by_cases hn : (cutS l x 0).1 = []
          · rw [if_pos hn]
            exact ⟨i1, by simp only [sumL]; omega⟩
          · rw [if_neg hn]
            have hg := runTo_ge (p := blankI) (s := l) (i := 0)
            have hj := g2 hn
            refine ⟨fun r hr => ?_, ?_⟩
            · rcases List.mem_cons.1 hr with rfl | hr
              · exact ⟨hn, g1, by show ln (joinT (cutS l x 0).1) ≤ 1000; omega⟩
              · exact i1 r hr
            · have e : linesT (⟨x, (cutS l x 0).1⟩ :: (rowsS L (x + ln l + 1)).1) = (joinT (cutS l x 0).1 ++ ([10] : List UInt8)) ++ linesT (rowsS L (x + ln l + 1)).1 := rfl
              show ln (linesT (⟨x, (cutS l x 0).1⟩ :: (rowsS L (x + ln l + 1)).1)) ≤ _
              rw [e, ln_append, ln_append]
              have : ln ([10] : List UInt8) = 1 := rfl
              simp only [sumL]
              omega
        · exact absurd h (by assumption)

theorem text_le {ws : List Word} {w : Word} (h : w ∈ ws) : ln w.Text ≤ ln (joinT ws) := by
  have hw : ∀ w : Word, ln w.Text ≤ ln (wordT w) := by
    intro w
    unfold wordT
    split
    · rw [ln_append, ln_append]
      have := ln_nonneg ([34] : List UInt8)
      omega
    · exact Int.le_refl _
  have ht : ∀ (ws : List Word), w ∈ ws → ln w.Text ≤ ln (tailT ws) := by
    intro ws
    induction ws with
    | nil => intro h; cases h
    | cons a l ih =>
      intro h
      have e : tailT (a :: l) = (32 :: wordT a) ++ tailT l := rfl
      rw [e, ln_append, ln_cons]
      have := ln_nonneg (tailT l)
      have := ln_nonneg (wordT a)
      rcases List.mem_cons.1 h with rfl | h
      · have := hw w
        omega
      · have := ih h
        omega
  cases ws with
  | nil => cases h
  | cons a l =>
    simp only [joinT]
    rw [ln_append]
    have := ln_nonneg (tailT l)
    have := ln_nonneg (wordT a)
    rcases List.mem_cons.1 h with rfl | h
    · have := hw w
      omega
    · have := ht l h
      omega

/-- Rows that were read fit, and can be written. -/
theorem read_good {s : List UInt8} (hs : ln s ≤ 20000) (h : (rowsR s).2.1 = 0) : (∀ r ∈ (rowsR s).1, goodRow r) ∧ ln (linesT (rowsR s).1) ≤ ln s + 1 ∧ fitR (rowsR s).1 := by
  have hb := rowsR_bd s
  rw [rowsR_short hs] at h hb ⊢
  obtain ⟨h1, h2⟩ := rows_good _ _ h
  rw [sumL_split] at h2
  refine ⟨h1, h2, by omega, fun r hr => ⟨hb.2 r hr, fun w hw => ?_⟩⟩
  have := text_le hw
  have := (h1 r hr).2.2
  show ln w.Text ≤ 100000
  omega

/-! ### Rows made of numbers -/
def gw (w : Word) : Prop := okW w = true ∧ ln w.Text ≤ 7
def gm (r : Row) : Prop := r.Words ≠ [] ∧ ln r.Words ≤ 8 ∧ ∀ w ∈ r.Words, gw w

theorem texts_ok : ∀ t ∈ texts13, ln t ≤ 7 ∧ quotedB t = true ∧ (t = [] ∨ t = [97, 32, 98] ∨ t = [120, 59] ∨ plainB t = true) := by decide
theorem txt_mem (n : Int) : txt n ∈ texts13 := ix_mem tx_wn.1 tx_wn.2
theorem madeW_ok (n : Int) : gw (madeW n) := by
  obtain ⟨h1, h2, h3⟩ := texts_ok _ (txt_mem n)
  refine ⟨?_, h1⟩
  unfold okW
  split
  · exact h2
  · rename_i hq
    have hq : (decide (txt n = []) || decide (txt n = [97, 32, 98]) || decide (txt n = [120, 59]) || decide (modI (Int.tdiv n 16) 4 = 0)) = false := by simpa [madeW] using hq
    simp only [Bool.or_eq_false_iff, decide_eq_false_iff_not] at hq
    rcases h3 with h3 | h3 | h3 | h3
    · exact absurd h3 hq.1.1.1
    · exact absurd h3 hq.1.1.2
    · exact absurd h3 hq.1.2
    · exact h3
theorem madeGo_good : ∀ (ns : List Int) (out : List Row) (ws : List Word), (∀ r ∈ out, gm r) → ln out ≤ 12 → (∀ w ∈ ws, gw w) → ln ws ≤ 7 → (∀ r ∈ madeGo out ws ns, gm r) ∧ ln (madeGo out ws ns) ≤ 13
  | [], out, ws, h1, h2, h3, h4 => by
    unfold madeGo
    split
    · exact ⟨h1, by omega⟩
    · rename_i hn
      refine ⟨fun r hr => ?_, by rw [ln_snoc]; omega⟩
      rcases List.mem_append.1 hr with hr | hr
      · exact h1 r hr
      · rw [List.mem_singleton.1 hr]
        exact ⟨hn, by show ln ws ≤ 8; omega, h3⟩
  | n :: ns, out, ws, h1, h2, h3, h4 => by
    unfold madeGo
    have h3' : ∀ w ∈ ws ++ [madeW n], gw w := by
      intro w hw
      rcases List.mem_append.1 hw with hw | hw
      · exact h3 w hw
      · rw [List.mem_singleton.1 hw]
        exact madeW_ok n
    split
    · split
      · exact ⟨h1, by omega⟩
      · rename_i hn
        refine ⟨fun r hr => ?_, by rw [ln_snoc]; omega⟩
        rcases List.mem_append.1 hr with hr | hr
        · exact h1 r hr
        · rw [List.mem_singleton.1 hr]
          exact ⟨hn, by show ln ws ≤ 8; omega, h3⟩
    · split
      · refine madeGo_good ns _ _ (fun r hr => ?_) (by rw [ln_snoc]; omega) (fun w hw => by cases hw) (by decide)
        rcases List.mem_append.1 hr with hr | hr
        · exact h1 r hr
        · rw [List.mem_singleton.1 hr]
          exact ⟨by simp, by show ln (ws ++ [madeW n]) ≤ 8; rw [ln_snoc]; omega, h3'⟩
      · rename_i hc
        refine madeGo_good ns _ _ h1 h2 h3' ?_
        have : ln (ws ++ [madeW n]) ≠ 8 := fun h => hc (.inl h)
        rw [ln_snoc] at this ⊢
        omega

theorem word10 {w : Word} (h : gw w) : ln (wordT w) ≤ 9 := by
  have := h.2
  unfold wordT
  split
  · rw [ln_append, ln_append]
    have : ln ([34] : List UInt8) = 1 := rfl
    omega
  · omega
theorem tail10 : ∀ {ws : List Word}, (∀ w ∈ ws, gw w) → ln (tailT ws) ≤ 10 * ln ws
  | [], _ => by decide
  | a :: l, h => by
    have e : tailT (a :: l) = (32 :: wordT a) ++ tailT l := rfl
    have h1 := word10 (h a List.mem_cons_self)
    have h2 := tail10 (ws := l) fun w hw => h w (List.mem_cons_of_mem _ hw)
    rw [e, ln_append, ln_cons, ln_cons]
    omega
theorem join10 {ws : List Word} (h : ∀ w ∈ ws, gw w) : ln (joinT ws) ≤ 10 * ln ws := by
  cases ws with
  | nil => decide
  | cons a l =>
    have h1 := word10 (h a List.mem_cons_self)
    have h2 := tail10 (ws := l) fun w hw => h w (List.mem_cons_of_mem _ hw)
    simp only [joinT]
    rw [ln_append, ln_cons]
    omega
theorem gm_good {r : Row} (h : gm r) : goodRow r ∧ ln (joinT r.Words) ≤ 80 := by
  have hj := join10 h.2.2
  have := h.2.1
  exact ⟨⟨h.1, List.all_eq_true.2 fun w hw => (h.2.2 w hw).1, by omega⟩, by omega⟩
theorem lines10 : ∀ {rows : List Row}, (∀ r ∈ rows, gm r) → ln (linesT rows) ≤ 81 * ln rows
  | [], _ => by decide
  | r :: rows, h => by
    have e : linesT (r :: rows) = (joinT r.Words ++ ([10] : List UInt8)) ++ linesT rows := rfl
    have h1 := (gm_good (h r List.mem_cons_self)).2
    have h2 := lines10 (rows := rows) fun r' hr => h r' (List.mem_cons_of_mem _ hr)
    have : ln ([10] : List UInt8) = 1 := rfl
    rw [e, ln_append, ln_append, ln_cons r rows]
    omega
theorem made_good (ns : List Int) : (∀ r ∈ madeR ns, goodRow r) ∧ ln (linesT (madeR ns)) ≤ 2000 ∧ fitR (madeR ns) ∧ ln (madeR ns) ≤ 13 ∧ ∀ r ∈ madeR ns, ln r.Words ≤ 8 := by
  obtain ⟨h1, h2⟩ := madeGo_good ns [] [] (fun r h => by cases h) (by decide) (fun r h => by cases h) (by decide)
  have h3 := lines10 (rows := madeR ns) h1
  have h2 : ln (madeR ns) ≤ 13 := h2
  refine ⟨fun r hr => (gm_good (h1 r hr)).1, by omega, ⟨by omega, fun r hr => ⟨?_, fun w hw => ?_⟩⟩, h2, fun r hr => (h1 r hr).2.1⟩
  · have := (h1 r hr).2.1
    omega
  · have := ((h1 r hr).2.2 w hw).2
    show ln w.Text ≤ 100000
    omega
end Go.Proofs.YtofmpipjklcjhaaDoor
