/- ROWS THAT ARE WRITTEN AND READ BACK, in plain Lean: what is written is read as it was. -/
import Derived.Test.YtofmpipjklcjhaaDoorOksA
import Derived.Test.YtofmpipjklcjhaaDoorOksB
namespace Go.Proofs.YtofmpipjklcjhaaDoor
open Go Go.E2 Go.E3
set_option maxRecDepth 100000

def strip (w : Word) : List UInt8 × Bool := (w.Text, w.Quoted)
def stripR (r : Row) : List (List UInt8 × Bool) := r.Words.map strip
theorem bx_zero {b : UInt8} {l : List UInt8} : bx (b :: l) 0 = b.toNat := rfl
theorem bx_succ {b : UInt8} {l : List UInt8} {i : Int} (h : 0 ≤ i) : bx (b :: l) (i + 1) = bx l i := by
  rw [bx_ix, bx_ix, ix_cons_succ h]
theorem bx_left {l m : List UInt8} {i : Int} (h0 : 0 ≤ i) (h : i < ln l) : bx (l ++ m) i = bx l i := by
  rw [bx_ix, bx_ix, ix_append_left h0 h]
theorem bx_right : ∀ {l : List UInt8} {b : UInt8} {m : List UInt8}, bx (l ++ b :: m) (ln l) = b.toNat
  | [], _, _ => rfl
  | a :: l, b, m => by
    rw [ln_cons]
    show bx (a :: (l ++ b :: m)) (ln l + 1) = _
    rw [bx_succ (ln_nonneg _)]
    exact bx_right
theorem upto_left {α : Type} {l m : List α} : upto (l ++ m) (ln l) = l := by simp [upto, ln]
theorem fr_right {α : Type} {l m : List α} : fr (l ++ m) (ln l) = m := by simp [fr, ln]
theorem fr_one {α : Type} {a : α} {l : List α} : fr (a :: l) 1 = l := rfl

/-- What stands behind a word. -/
theorem tail_ends {l : List UInt8} {e : Int} {ws : List Word} (h0 : 0 ≤ e) (h1 : e ≤ ln l) (h : fr l e = tailT ws) : ln l ≤ e ∨ bx l e = 32 := by
  cases ws with
  | nil =>
    have := ln_fr h0 h1
    rw [h] at this
    have hz : ln (tailT []) = 0 := rfl
    omega
  | cons w ws =>
    right
    have hb := bx_fr (s := l) (i := e) (j := 0) h0 (Int.le_refl 0)
    rw [Int.add_zero, h] at hb
    rw [← hb]
    rfl

theorem cut_join (f : Int) : ∀ (ws : List Word) (l : List UInt8) (i : Int), 0 ≤ i → i ≤ ln l → ws.all okW = true → fr l i = joinT ws → (i = 0 ∨ bx l (i - 1) = 32) → ∃ ws', cutS l f i = (ws', -1) ∧ ws'.map strip = ws.map strip
  | [], l, i, h0, h1, _, h, _ => by
    have := ln_fr h0 h1
    rw [h] at this
    have hz : ln (joinT []) = 0 := rfl
    exact ⟨[], cut_end (.inl (by omega)), rfl⟩
  | w :: ws, l, i, h0, h1, hok, h, hpre => by
    simp only [List.all_cons, Bool.and_eq_true] at hok
    -- what comes behind it
    have hafter : ∀ e, 0 ≤ e → e ≤ ln l → fr l e = tailT ws → ∃ ws', cutS l f e = (ws', -1) ∧ ws'.map strip = ws.map strip := by
      intro e he0 he1 he
      cases ws with
      | nil =>
        have := ln_fr he0 he1
        rw [he] at this
        have hz : ln (tailT []) = 0 := rfl
        exact ⟨[], cut_end (.inl (by omega)), rfl⟩
      | cons w' ws' =>
        have hb := bx_fr (s := l) (i := e) (j := 0) he0 (Int.le_refl 0)
        rw [Int.add_zero, he] at hb
        have hb : bx l e = 32 := by rw [← hb]; rfl
        have hf : fr l (e + 1) = joinT (w' :: ws') := by
          rw [← fr_fr he0 (by decide), he]
          rfl
        have hlen := ln_fr he0 he1
        rw [he] at hlen
        have hpos : 0 < ln (tailT (w' :: ws')) := by
          have h3 : tailT (w' :: ws') = 32 :: (wordT w' ++ tailT ws') := rfl
          rw [h3, ln_cons]
          have := ln_nonneg (wordT w' ++ tailT ws')
          omega
        obtain ⟨ws2, q1, q2⟩ := cut_join f (w' :: ws') l (e + 1) (by omega) (by omega) hok.2 hf (.inr (by rw [Int.add_sub_cancel]; exact hb))
        exact ⟨ws2, by rw [cut_blank he0 (by omega) hb, q1], q2⟩
    have hlen := ln_fr h0 h1
    rw [h] at hlen
    have hR := ln_nonneg (tailT ws)
    have hT := ln_nonneg w.Text
    have hat : ∀ j, 0 ≤ j → bx l (i + j) = bx (joinT (w :: ws)) j := fun j hj => by rw [← h, bx_fr h0 hj]
    cases hq : w.Quoted with
    | true =>
      have hw : joinT (w :: ws) = 34 :: (w.Text ++ 34 :: tailT ws) := by simp [joinT, wordT, hq]
      have hokT : quotedB w.Text = true := by have := hok.1; simpa [okW, hq] using this
      rw [hw] at hat hlen
      rw [ln_cons, ln_append, ln_cons] at hlen
      have hb0 : bx l i = 34 := by have := hat 0 (Int.le_refl 0); rwa [Int.add_zero] at this
      have hin : ∀ j, i + 1 ≤ j → j < i + 1 + ln w.Text → insideI (bx l j) = true := by
        intro j hj1 hj2
        have := hat (j - i - 1 + 1) (by omega)
        rw [show i + (j - i - 1 + 1) = j by omega, bx_succ (by omega), bx_left (by omega) (by omega)] at this
        rw [this]
        exact quotedB_iff.1 hokT _ (by omega) (by omega)
      have hbe : bx l (i + 1 + ln w.Text) = 34 := by
        have := hat (ln w.Text + 1) (by omega)
        rw [bx_succ hT, bx_right, show i + (ln w.Text + 1) = i + 1 + ln w.Text by omega] at this
        exact this
      have hrun : runTo insideI l (i + 1) = i + 1 + ln w.Text := runTo_eq (by omega) (by omega) (by omega) hin (.inr (by rw [hbe]; decide))
      have hfe : fr l (i + ln w.Text + 2) = tailT ws := by
        have e : i + ln w.Text + 2 = i + (1 + (ln w.Text + 1)) := by omega
        rw [e, ← fr_fr h0 (by omega), h, hw, ← fr_fr (by decide) (by omega), fr_one, ← fr_fr hT (by decide), fr_right, fr_one]
      have hends := tail_ends (by omega) (by omega) hfe
      have hqi : quotedI l i = i + ln w.Text + 2 := by
        unfold quotedI
        rw [hrun, if_neg]
        · omega
        · rintro (⟨c1, c2⟩ | c | c | c)
          · rcases hpre with hpre | hpre
            · omega
            · exact c2 hpre
          · omega
          · exact c hbe
          · refine c ?_
            rw [show i + 1 + ln w.Text + 1 = i + ln w.Text + 2 by omega]
            rcases hends with hends | hends
            · exact .inl hends
            · exact .inr (.inl hends)
      obtain ⟨ws', q1, q2⟩ := hafter _ (by omega) (by omega) hfe
      have hsub : sub l (i + 1) (i + ln w.Text + 2 - 1) = w.Text := by
        rw [sub_fr (by omega) (by omega), show i + ln w.Text + 2 - 1 - (i + 1) = ln w.Text by omega, ← fr_fr h0 (by decide), h, hw, fr_one, upto_left]
      refine ⟨⟨f + i, w.Text, true⟩ :: ws', ?_, by simp [strip, q2, hq]⟩
      rw [cut_quote h0 (by omega) hb0 hqi (by omega), q1, if_pos (by decide : (-1 : Int) < 0), hsub]
    | false =>
      have hw : joinT (w :: ws) = w.Text ++ tailT ws := by simp [joinT, wordT, hq]
      have hokT : plainB w.Text = true := by have := hok.1; simpa [okW, hq] using this
      obtain ⟨hpl, hne⟩ := plainB_iff.1 hokT
      have hTpos : 0 < ln w.Text := by
        rcases Int.lt_or_le 0 (ln w.Text) with h | h
        · exact h
        · exact absurd (ln_zero h) hne
      rw [hw] at hat hlen
      rw [ln_append] at hlen
      have hin : ∀ j, i ≤ j → j < i + ln w.Text → plainI (bx l j) = true := by
        intro j hj1 hj2
        have := hat (j - i) (by omega)
        rw [show i + (j - i) = j by omega, bx_left (by omega) (by omega)] at this
        rw [this]
        exact hpl _ (by omega) (by omega)
      have hfe : fr l (i + ln w.Text) = tailT ws := by
        rw [← fr_fr h0 hT, h, hw, fr_right]
      have hends := tail_ends (by omega) (by omega) hfe
      have hrun : runTo plainI l i = i + ln w.Text := runTo_eq h0 (by omega) (by omega) hin (by
        rcases hends with hends | hends
        · exact .inl (by omega)
        · exact .inr (by rw [hends]; decide))
      obtain ⟨ws', q1, q2⟩ := hafter _ (by omega) (by omega) hfe
      have hsub : sub l i (i + ln w.Text) = w.Text := by
        rw [sub_fr h0 (by omega), show i + ln w.Text - i = ln w.Text by omega, h, hw, upto_left]
      refine ⟨⟨f + i, w.Text, false⟩ :: ws', ?_, by simp [strip, q2, hq]⟩
      rw [cut_plain h0 (by omega) (hin i (Int.le_refl i) (by omega)) hrun, q1, if_pos (by decide : (-1 : Int) < 0), hsub]

/-! ### Rows -/
def goodRow (r : Row) : Prop := r.Words ≠ [] ∧ r.Words.all okW = true ∧ ln (joinT r.Words) ≤ 1000
def linesT (rows : List Row) : List UInt8 := rows.flatMap fun r => joinT r.Words ++ ([10] : List UInt8)

theorem rows_join : ∀ (rows : List Row) (x : Int), (∀ r ∈ rows, goodRow r) → ∃ rows', rowsS (rows.map (fun r => joinT r.Words) ++ [[]]) x = (rows', 0, 0) ∧ rows'.map stripR = rows.map stripR
  | [], x, _ => ⟨[], by
      have : cutS [] x 0 = ([], -1) := cut_end (.inl (Int.le_refl 0))
      simp [rowsS, this, ln], rfl⟩
  | r :: rows, x, h => by
    obtain ⟨g1, g2, g3⟩ := h r List.mem_cons_self
    obtain ⟨ws', q1, q2⟩ := cut_join x r.Words (joinT r.Words) 0 (Int.le_refl 0) (ln_nonneg _) g2 (fr_zero _) (.inl rfl)
    obtain ⟨rows', q3, q4⟩ := rows_join rows (x + ln (joinT r.Words) + 1) fun r' hr => h r' (List.mem_cons_of_mem _ hr)
    have hne : ws' ≠ [] := by
      rintro rfl
      have := congrArg List.length q2
      simp at this
      exact g1 (List.length_eq_zero_iff.1 this.symm)
    refine ⟨⟨x, ws'⟩ :: rows', ?_, by simp [stripR, q2, q4]⟩
    have hm : (r :: rows).map (fun r => joinT r.Words) ++ [[]] = joinT r.Words :: (rows.map (fun r => joinT r.Words) ++ [[]]) := rfl
    rw [hm]
    simp only [rowsS, q1, q3, if_neg (show ¬ 1000 < ln (joinT r.Words) by omega), if_neg (by decide : ¬ (0 : Int) ≤ -1), if_true, if_neg hne]

theorem join_no10 {ws : List Word} (h : ws.all okW = true) : ∀ b ∈ joinT ws, (b.toNat : Int) ≠ 10 := by
  have hword : ∀ w, okW w = true → ∀ b ∈ wordT w, (b.toNat : Int) ≠ 10 := by
    intro w hw b hb
    unfold wordT at hb
    unfold okW at hw
    split at hb
    · rename_i hq
      rw [if_pos hq] at hw
      simp only [List.mem_append, List.mem_singleton] at hb
      rcases hb with (rfl | hb) | rfl
      · decide
      · obtain ⟨i, i0, i1, rfl⟩ := mem_ix hb
        have := insideI_iff.1 (quotedB_iff.1 hw i i0 i1)
        rw [bx_ix] at this
        omega
      · decide
    · rename_i hq
      rw [if_neg hq] at hw
      obtain ⟨i, i0, i1, rfl⟩ := mem_ix hb
      have := plainI_iff.1 ((plainB_iff.1 hw).1 i i0 i1)
      rw [bx_ix] at this
      omega
  have htail : ∀ ws : List Word, ws.all okW = true → ∀ b ∈ tailT ws, (b.toNat : Int) ≠ 10 := by
    intro ws hws b hb
    simp only [tailT, List.mem_flatMap, List.mem_cons] at hb
    obtain ⟨w, hw, rfl | hb⟩ := hb
    · decide
    · exact hword w (List.all_eq_true.1 hws w hw) b hb
  cases ws with
  | nil => intro b hb; cases hb
  | cons w ws =>
    simp only [List.all_cons, Bool.and_eq_true] at h
    intro b hb
    simp only [joinT, List.mem_append] at hb
    rcases hb with hb | hb
    · exact hword w h.1 b hb
    · exact htail ws h.2 b hb

theorem split_lines : ∀ (rows : List Row), (∀ r ∈ rows, goodRow r) → splitI 10 (linesT rows) = rows.map (fun r => joinT r.Words) ++ [[]]
  | [], _ => rfl
  | r :: rows, h => by
    have hl : linesT (r :: rows) = joinT r.Words ++ 10 :: linesT rows := by simp [linesT, List.append_assoc]
    rw [hl, splitI_cut (c := 10) (b := 10) rfl (join_no10 (h r List.mem_cons_self).2.1), split_lines rows fun r' hr => h r' (List.mem_cons_of_mem _ hr)]
    rfl

theorem text_lines : ∀ (rows : List Row) (out : List UInt8), (∀ r ∈ rows, goodRow r) → ln out + ln (linesT rows) ≤ 20000 → textGo out rows = (out ++ linesT rows, 0)
  | [], out, _, _ => by simp [textGo, linesT]
  | r :: rows, out, h, hb => by
    obtain ⟨g1, g2, g3⟩ := h r List.mem_cons_self
    have hl : linesT (r :: rows) = (joinT r.Words ++ ([10] : List UInt8)) ++ linesT rows := rfl
    rw [hl, ln_append, ln_append] at hb
    have h10 : ln ([10] : List UInt8) = 1 := rfl
    have hn := ln_nonneg (linesT rows)
    have hlen : ln ((out ++ joinT r.Words) ++ ([10] : List UInt8)) = ln out + ln (joinT r.Words) + 1 := by rw [ln_append, ln_append]; omega
    simp only [textGo, if_neg g1, g2, Bool.true_eq_false, if_false, if_neg (show ¬ 1000 < ln (joinT r.Words) by omega)]
    rw [if_neg (by rw [hlen]; omega), text_lines rows _ (fun r' hr => h r' (List.mem_cons_of_mem _ hr)) (by rw [hlen]; omega), hl]
    simp [List.append_assoc]

theorem same_of_map {α β : Type} {g : α → β} {p : α → α → Bool} (hp : ∀ x y, g x = g y → p x y = true) : ∀ {a b : List α}, a.map g = b.map g → sameAll p a b = true
  | [], [], _ => rfl
  | [], _ :: _, h => by simp at h
  | _ :: _, [], h => by simp at h
  | x :: xs, y :: ys, h => by
    simp only [List.map_cons, List.cons.injEq] at h
    simp only [sameAll, hp x y h.1, same_of_map hp h.2, Bool.and_self]
theorem same_strip {a b : List Row} (h : a.map stripR = b.map stripR) : sameR a b false = true := by
  refine same_of_map (g := stripR) (fun x y hxy => ?_) h
  have h1 : x.Words.map strip = y.Words.map strip := hxy
  have hl : ln x.Words = ln y.Words := by
    have := congrArg List.length h1
    simp only [List.length_map] at this
    simp only [ln, this]
  have hw : sameAll (sameWord false) x.Words y.Words = true := same_of_map (g := strip) (fun u v huv => by
    simp only [strip, Prod.mk.injEq] at huv
    simp [sameWord, huv.1, huv.2]) h1
  simp [sameRow, hl, hw]

/-- WRITTEN AND READ. -/
theorem written_read {rows : List Row} (h : ∀ r ∈ rows, goodRow r) (hb : ln (linesT rows) ≤ 20000) : textW rows = (linesT rows, 0) ∧ ∃ rows', rowsR (linesT rows) = (rows', 0, 0) ∧ rows'.map stripR = rows.map stripR := by
  refine ⟨?_, ?_⟩
  · have := text_lines rows [] h (by have : ln ([] : List UInt8) = 0 := rfl; omega)
    simpa [textW] using this
  · obtain ⟨rows', q1, q2⟩ := rows_join rows 0 h
    exact ⟨rows', by rw [rowsR_short hb, split_lines rows h, q1], q2⟩
end Go.Proofs.YtofmpipjklcjhaaDoor
