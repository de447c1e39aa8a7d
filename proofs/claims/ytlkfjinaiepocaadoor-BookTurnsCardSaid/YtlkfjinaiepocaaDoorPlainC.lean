/- BOOKS OF WELL MADE PARTS: groups, staves, pages. Plain Lean; no program in sight. -/
import Derived.Test.YtlkfjinaiepocaaDoorPlainU
namespace Go.Proofs.YtlkfjinaiepocaaDoor
open Go Go.E2 Go.E3

/-! ### Units by place -/
theorem qo2 {l : List Sign} {i : Int} (h0 : 0 ≤ i) (hi : i < ln l) (h : Units (fr l i)) :
    ((ix l i).Kind ≠ 4 ∧ Units (fr l (i + 1))) ∨
    ((ix l i).Kind = 4 ∧ (ix l i).Last = false ∧ i + 1 < ln l ∧ (ix l (i + 1)).Kind = 4 ∧ (ix l (i + 1)).Last = true ∧ Units (fr l (i + 2))) ∨
    ((ix l i).Kind = 4 ∧ (ix l i).Last = false ∧ i + 2 < ln l ∧ (ix l (i + 1)).Kind = 4 ∧ (ix l (i + 1)).Last = false ∧ (ix l (i + 2)).Kind = 4 ∧ (ix l (i + 2)).Last = true ∧ Units (fr l (i + 3))) := by
  have e0 := qa0 h0 hi
  have hlt : ∀ {k : Int} {a : Sign} {m : List Sign}, 0 ≤ k → fr l k = a :: m → k < ln l := by
    intro k a m hk he
    by_cases hh : k < ln l
    · exact hh
    · rw [qfy (by omega)] at he; cases he
  generalize hm : fr l i = m at h e0
  cases h with
  | nil => rw [e0] at hm; cases e0
  | one hk hl =>
    injection e0 with a b
    subst a b
    exact .inl ⟨hk, hl⟩
  | two ha hb ha' hb' hl =>
    injection e0 with a b
    have h1 := hlt (by omega) b.symm
    rw [qa0 (by omega) h1] at b
    injection b with c d
    rw [show i + 1 + 1 = i + 2 by omega] at d
    subst a c d
    exact .inr (.inl ⟨ha, ha', h1, hb, hb', hl⟩)
  | three ha hb hc ha' hb' hc' hl =>
    injection e0 with a b
    have h1 := hlt (by omega) b.symm
    rw [qa0 (by omega) h1] at b
    injection b with c d
    have h2 := hlt (by omega) d.symm
    rw [qa0 (by omega) h2] at d
    injection d with e f
    rw [show i + 1 + 1 = i + 2 by omega] at e f
    rw [show i + 2 + 1 = i + 3 by omega] at f
    subst a c e f
    exact .inr (.inr ⟨ha, ha', by omega, hb, hb', hc, hc', hl⟩)
theorem qvz {l : List Sign} {i t : Int} (h0 : 0 ≤ t) (ht : tT l (i + 1) = t) (hu : Units (fr l t)) : t ≤ gE l i ∧ gE l i ≤ t + 1 ∧ Units (fr l (gE l i)) ∧ (∀ x, t ≤ x → x < gE l i → (ix l x).Kind = 3) := by
  unfold gE
  rw [ht]
  split
  · rename_i hd
    rcases qo2 h0 hd.1 hu with h | h | h
    · exact ⟨by omega, Int.le_refl _, h.2, fun x a b => by have : x = t := by omega
                                                           rw [this]; exact hd.2⟩
    · omega
    · omega
  · exact ⟨Int.le_refl _, by omega, hu, fun x a b => by omega⟩
/-- A group of a well made part: one to four signs; a sign that stands alone, or a ligature; a dot behind. -/
theorem qnu {l : List Sign} {i : Int} (h0 : 0 ≤ i) (hi : i < ln l) (h : Units (fr l i)) :
    gE l i ≤ i + 4 ∧ Units (fr l (gE l i)) ∧ (∀ x, i + 1 ≤ x → x < gE l i → (ix l x).Kind = 4 ∨ (ix l x).Kind = 3) ∧ ((ix l i).Kind ≠ 4 → ∀ x, i + 1 ≤ x → x < gE l i → (ix l x).Kind = 3) := by
  have e1 : i + 1 - 1 = i := by omega
  have e2 : i + 2 - 1 = i + 1 := by omega
  have e3 : i + 3 - 1 = i + 2 := by omega
  rcases qo2 h0 hi h with ⟨a, b⟩ | ⟨a1, a2, a3, a4, a5, b⟩ | ⟨a1, a2, a3, a4, a5, a6, a7, b⟩
  · obtain ⟨q1, q2, q3, q4⟩ := qvz (by omega) (qfg (to := i + 1) (by rw [e1]; exact fun hh => a hh.2.1)) b
    exact ⟨by omega, q3, fun x c d => .inr (q4 x c d), fun _ => q4⟩
  · have ht : tT l (i + 1) = i + 2 := by
      rw [qhz (by rw [e1]; exact ⟨a3, a1, a2⟩), show i + 1 + 1 = i + 2 by omega, qfg]
      rw [e2, a5]; rintro ⟨_, _, c⟩; cases c
    obtain ⟨q1, q2, q3, q4⟩ := qvz (by omega) ht b
    refine ⟨by omega, q3, fun x c d => ?_, fun hh => absurd a1 hh⟩
    by_cases hx : x = i + 1
    · subst hx; exact .inl a4
    · exact .inr (q4 x (by omega) d)
  · have ht : tT l (i + 1) = i + 3 := by
      rw [qhz (by rw [e1]; exact ⟨by omega, a1, a2⟩), show i + 1 + 1 = i + 2 by omega, qhz (by rw [e2]; exact ⟨a3, a4, a5⟩), show i + 2 + 1 = i + 3 by omega, qfg]
      rw [e3, a7]; rintro ⟨_, _, c⟩; cases c
    obtain ⟨q1, q2, q3, q4⟩ := qvz (by omega) ht b
    refine ⟨by omega, q3, fun x c d => ?_, fun hh => absurd a1 hh⟩
    by_cases hx : x = i + 1
    · subst hx; exact .inl a4
    · by_cases hx : x = i + 2
      · subst hx; exact .inl a6
      · exact .inr (q4 x (by omega) d)
theorem qze {l : List Sign} {i j : Int} (h0 : 0 ≤ i) (h : Units (fr l i)) (hc : Ch l i j) : Units (fr l j) := by
  induction hc with
  | refl => exact h
  | step ha _ ih => exact ih (by have := qie ha; omega) (qnu h0 ha h).2.1

/-! ### The check -/
theorem qrz {l : List Sign} {i : Int} (h : (ix l i).Kind ≠ 4 ∨ (ix l i).Last = true) : ins l (i + 1) = false := by
  unfold ins
  rw [show i + 1 - 1 = i by omega]
  rcases h with h | h <;> simp [h]
theorem qku {l : List Sign} {i : Int} (h0 : 0 ≤ i) (hi : i ≤ ln l) (h : Units (fr l i)) (hg : ∀ s ∈ l, Good s) (hs : ins l i = false) : qhi l i = (0, 0) := by
  by_cases hc : i < ln l
  · have hgi : ∀ k, 0 ≤ k → k < ln l → ¬ q5t l k → qmw l k = 0 := fun k a b c => by
      unfold qmw
      have : qqe (ix l k) = 0 := hg _ (qbd a b)
      rw [if_neg (by simp [this]), if_neg c]
    rcases qo2 h0 hc h with ⟨a, b⟩ | ⟨a1, a2, a3, a4, a5, b⟩ | ⟨a1, a2, a3, a4, a5, a6, a7, b⟩
    · rw [qfk hc (hgi i h0 hc fun hh => a hh.1)]
      exact qku (by omega) (by omega) b hg (qrz (.inl a))
    · rw [qfk hc (hgi i h0 hc (by
          rintro ⟨_, ⟨q, _⟩ | ⟨_, q | q⟩⟩
          · rw [a2] at q; cases q
          · omega
          · exact q a4)),
        qfk a3 (hgi (i + 1) (by omega) a3 (by
          rintro ⟨_, ⟨_, q⟩ | ⟨q, _⟩⟩
          · unfold ins at q
            rw [show i + 1 - 1 = i by omega, a1, a2] at q
            simp at q; omega
          · rw [a5] at q; cases q))]
      exact qku (by omega) (by omega) (by rw [show i + 1 + 1 = i + 2 by omega]; exact b) hg (qrz (.inr a5))
    · rw [qfk hc (hgi i h0 hc (by
          rintro ⟨_, ⟨q, _⟩ | ⟨_, q | q⟩⟩
          · rw [a2] at q; cases q
          · omega
          · exact q a4)),
        qfk (by omega) (hgi (i + 1) (by omega) (by omega) (by
          rintro ⟨_, ⟨q, _⟩ | ⟨_, q | q⟩⟩
          · rw [a5] at q; cases q
          · omega
          · rw [show i + 1 + 1 = i + 2 by omega] at q; exact q a6)), show i + 1 + 1 = i + 2 by omega,
        qfk a3 (hgi (i + 2) (by omega) a3 (by
          rintro ⟨_, ⟨_, q⟩ | ⟨q, _⟩⟩
          · unfold ins at q
            rw [show i + 2 - 1 = i + 1 by omega, a4, a5] at q
            simp at q; omega
          · rw [a7] at q; cases q))]
      exact qku (by omega) (by omega) (by rw [show i + 2 + 1 = i + 3 by omega]; exact b) hg (qrz (.inr a7))
  · exact qvp (by omega)
 termination_by (ln l - i).toNat
 decreasing_by all_goals omega
theorem q5z {nm : List UInt8} {l : List Sign} (h : PartOk nm l) : zl nm l = (0, 0) := by
  have := h.n
  unfold zl
  rw [if_neg (by simp [h.name]), if_neg (by omega)]
  exact qku (Int.le_refl 0) (qo l) h.u h.g rfl
theorem q77 {l : List Sign} (h : ∀ s ∈ l, s.Kind ≠ 11) (i : Int) : qic l i = -1 := by
  induction l generalizing i with
  | nil => rfl
  | cons s l ih =>
    simp only [qic]
    rw [if_neg (h s List.mem_cons_self)]
    exact ih (fun t ht => h t (List.mem_cons_of_mem _ ht)) _

/-! ### What a staff takes -/
theorem Ch.trans {l : List Sign} {a b c : Int} (h : Ch l a b) (h' : Ch l b c) : Ch l a c := by
  induction h with
  | refl => exact h'
  | step ha _ ih => exact .step ha (ih h')
theorem q5y {l : List Sign} {a b c : Int} (h : Ch l a b) (h' : Ch l a c) (hbc : b ≤ c) : Ch l b c := by
  induction h with
  | refl => exact h'
  | @step a b ha hh ih =>
    have hg := qie ha
    cases h' with
    | refl => have := hh.le; omega
    | step _ h2 => exact ih h2 hbc
/-- What fA comes to, at a well made part. -/
structure FA (l : List Sign) (lim i rest : Int) (r : Int × Int) : Prop where
  ch : Ch l i r.1
  lim : r.1 ≤ lim ∨ r.1 = i
  le : r.1 ≤ ln l
  no : r.2 = rest → ∀ x, i ≤ x → x < r.1 → (ix l x).Kind ≠ 2
  yes : r.2 ≠ rest → ∃ b, Ch l i b ∧ b < ln l ∧ (ix l b).Kind = 2 ∧ r.2 = gE l b ∧ r.2 ≤ r.1
theorem q1o {l : List Sign} {lim i rest : Int} (h0 : 0 ≤ i) (hi : i ≤ ln l) (hr : rest ≤ i) (hu : Units (fr l i)) : FA l lim i rest (fA l lim i rest) := by
  by_cases hc : i < ln l ∧ gE l i ≤ lim
  · have hb := qie hc.1
    have hg := qnu h0 hc.1 hu
    have ih := q1o (l := l) (lim := lim) (i := gE l i) (rest := if (ix l i).Kind = 2 then gE l i else rest) (by omega) hb.2 (by split <;> omega) hg.2.1
    rw [qkv hc.1 hc.2]
    refine ⟨.step hc.1 ih.ch, ?_, ih.le, fun hh x x0 x1 => ?_, fun hh => ?_⟩
    · rcases ih.lim with h | h
      · exact .inl h
      · rw [h]; exact .inl hc.2
    · have hm := qxv (l := l) (lim := lim) (i := gE l i) (rest := if (ix l i).Kind = 2 then gE l i else rest) (by omega) hb.2 (by split <;> omega)
      by_cases hk : (ix l i).Kind = 2
      · rw [if_pos hk] at hh hm
        omega
      · rw [if_neg hk] at hh ih x1
        by_cases hx : x < gE l i
        · by_cases hxi : x = i
          · rw [hxi]; exact hk
          · rcases hg.2.2.1 x (by omega) hx with q | q <;> omega
        · exact ih.no hh x (by omega) x1
    · by_cases hk : (ix l i).Kind = 2
      · rw [if_pos hk] at ih ⊢
        by_cases he : (fA l lim (gE l i) (gE l i)).2 = gE l i
        · have := ih.ch.le
          exact ⟨i, .refl _, hc.1, hk, he, by omega⟩
        · obtain ⟨b, b1, b2⟩ := ih.yes he
          exact ⟨b, .step hc.1 b1, b2⟩
      · rw [if_neg hk] at ih hh ⊢
        obtain ⟨b, b1, b2⟩ := ih.yes hh
        exact ⟨b, .step hc.1 b1, b2⟩
  · rw [qmx (by omega)]
    exact ⟨.refl _, .inr rfl, hi, fun _ x a b => by dsimp only at b; omega, fun hh => absurd rfl hh⟩
 termination_by (ln l - i).toNat
 decreasing_by omega
/-- A staff that ends a page. -/
def zba (l : List Sign) (i j : Int) : Prop := j = ln l ∨ (∀ x, i ≤ x → x < j → (ix l x).Kind ≠ 2) ∨ ∃ b, i ≤ b ∧ b < j ∧ (ix l b).Kind = 2 ∧ ∀ x, b + 1 ≤ x → x < j → (ix l x).Kind = 3
structure Nxt (l : List Sign) (w i : Int) (last : Bool) (j : Int) : Prop where
  ch : Ch l i j
  gt : i < j
  le : j ≤ ln l
  room : ln (qao l i) + (j - i) ≤ w
  rest : last = true → zba l i j
theorem q63 {l : List Sign} {w i : Int} {last : Bool} (h0 : 0 ≤ i) (hi : i < ln l) (hw : 16 ≤ w) (hu : Units (fr l i)) : Nxt l w i last (nxt l w i last) := by
  have hL := q6p l i
  have hg := qnu h0 hi hu
  have hgb := qie hi
  have hlim : qna l w i = i + (w - ln (qao l i)) := rfl
  have hf := q1o (lim := qna l w i) h0 (by omega) (Int.le_refl i) hu
  have hb := qxv (l := l) (lim := qna l w i) (i := i) (rest := i) h0 (by omega) (Int.le_refl i)
  have h1 : i < (fA l (qna l w i) i i).1 := by
    rw [qkv hi (by omega)]
    have := qxv (l := l) (lim := qna l w i) (i := gE l i) (rest := if (ix l i).Kind = 2 then gE l i else i) (by omega) hgb.2 (by split <;> omega)
    omega
  have h2 : (fA l (qna l w i) i i).1 ≤ qna l w i := by rcases hf.lim with h | h <;> omega
  unfold nxt
  split
  · rename_i hh
    obtain ⟨b, b1, b2, b3, b4, b5⟩ := hf.yes (by omega)
    have hub := qze h0 hu b1
    have hbl := b1.le
    have hgb' := qie b2
    refine ⟨?_, by omega, by omega, by omega, fun _ => .inr (.inr ⟨b, hbl, by omega, b3, fun x x0 x1 => (qnu (by omega) b2 hub).2.2.2 (by omega) x x0 (by omega)⟩)⟩
    rw [b4]
    exact b1.trans (.step b2 (.refl _))
  · rename_i hh
    refine ⟨hf.ch, h1, hf.le, by omega, fun hl => ?_⟩
    by_cases he : (fA l (qna l w i) i i).1 < ln l
    · refine .inr (.inl (hf.no ?_))
      have : ¬ i < (fA l (qna l w i) i i).2 := fun q => hh ⟨hl, he, q⟩
      omega
    · exact .inl (by omega)

/-! ### Staves, pages -/
/-- Staves from i to j. -/
inductive Stw (l : List Sign) (w : Int) : Int → Int → List Staff → Prop
  | nil (i : Int) : Stw l w i i []
  | cons {i j k : Int} {r : List Staff} (h0 : 0 ≤ i) (hc : Ch l i j) (hg : i < j) (hl : j ≤ ln l) (hw : ln (qao l i) + (j - i) ≤ w) (hr : Stw l w j k r) : Stw l w i k (stf l i j :: r)
theorem Stw.snoc {l : List Sign} {w i j k : Int} {r : List Staff} (h : Stw l w i j r) (h0 : 0 ≤ j) (hc : Ch l j k) (hg : j < k) (hl : k ≤ ln l) (hw : ln (qao l j) + (k - j) ≤ w) : Stw l w i k (r ++ [stf l j k]) := by
  induction h with
  | nil => exact .cons h0 hc hg hl hw (.nil _)
  | cons a b c d e _ ih => exact .cons a b c d e (ih h0 hc hg hw)
theorem Stw.app {l : List Sign} {w i j k : Int} {r q : List Staff} (h : Stw l w i j r) (h' : Stw l w j k q) : Stw l w i k (r ++ q) := by
  induction h with
  | nil => exact h'
  | cons a b c d e _ ih => exact .cons a b c d e (ih h')
theorem Stw.le {l : List Sign} {w i j : Int} {r : List Staff} (h : Stw l w i j r) : i + ln r ≤ j := by
  induction h with
  | nil => simp [ln]
  | cons a b c d e _ ih => rw [qek]; omega
inductive Pgs (l : List Sign) (w h : Int) : Int → List Page → Prop
  | nil : Pgs l w h (ln l) []
  | cons {i j k : Int} {r : List Staff} {g : List Page} (h0 : 0 ≤ i) (hs : Stw l w i j (r ++ [stf l k j])) (hk : i ≤ k) (hkj : k < j) (hn : ln (r ++ [stf l k j]) ≤ h) (hf : j = ln l ∨ (ln (r ++ [stf l k j]) = h ∧ zba l k j)) (hj : j ≤ ln l) (hg : Pgs l w h j g) : Pgs l w h i (Page.mk (r ++ [stf l k j]) :: g)
theorem qzr {l : List Sign} {w h i i0 : Int} {page : List Staff} {pages : List Page} (h0 : 0 ≤ i) (hi : i ≤ ln l) (hw : 16 ≤ w) (hu : Units (fr l i)) (h00 : 0 ≤ i0) (hs : Stw l w i0 i page) (hn : ln page < h) (hp : i < ln l ∨ (page = [] ∧ i0 = i)) :
    ∃ g, bk l w h i page pages = some (pages ++ g) ∧ Pgs l w h i0 g := by
  by_cases hl : i < ln l
  · have hx := q63 (last := decide (ln page + 1 = h)) h0 hl hw hu
    generalize hj : nxt l w i (decide (ln page + 1 = h)) = j at hx
    have hu' := qze h0 hu hx.ch
    have hs' := hs.snoc h0 hx.ch hx.gt hx.le hx.room
    have hle := hs.le
    have hpn := qo page
    by_cases ht : ln page + 1 = h ∨ ln l ≤ j
    · have hgt := hx.gt
      have hle' := hx.le
      obtain ⟨g, g1, g2⟩ := qzr (pages := pages ++ [Page.mk (page ++ [stf l i j])]) (h := h) (i0 := j) (page := []) (by omega) hx.le hw hu' (by omega) (.nil j) (by rw [qv4]; omega) (.inr ⟨rfl, rfl⟩)
      refine ⟨Page.mk (page ++ [stf l i j]) :: g, ?_, ?_⟩
      · rw [q1a hl hj.symm hx.gt ht, g1]; simp
      · refine .cons h00 hs' (by omega) hx.gt (by rw [qas]; omega) ?_ hx.le g2
        by_cases he : ln l ≤ j
        · exact .inl (by omega)
        · have h1 : ln page + 1 = h := by omega
          exact .inr ⟨by rw [qas]; exact h1, hx.rest (by simp [h1])⟩
    · have hgt := hx.gt
      obtain ⟨g, g1, g2⟩ := qzr (pages := pages) (h := h) (by omega) hx.le hw hu' h00 hs' (by rw [qas]; omega) (.inl (by omega))
      exact ⟨g, by rw [zbb hl hj.symm hx.gt ht, g1], g2⟩
  · obtain ⟨rfl, rfl⟩ : page = [] ∧ i0 = i := by rcases hp with h | h; omega; exact h
    refine ⟨[], by rw [q5v (by omega), List.append_nil], ?_⟩
    rw [show i0 = ln l by omega]
    exact .nil
 termination_by (ln l - i).toNat
 decreasing_by all_goals omega
theorem Pgs.stw {l : List Sign} {w h i : Int} {g : List Page} (hp : Pgs l w h i g) : Stw l w i (ln l) (qc g) := by
  induction hp with
  | nil => exact .nil _
  | cons a hs b c d e f _ ih => exact hs.app ih
end Go.Proofs.YtlkfjinaiepocaaDoor
