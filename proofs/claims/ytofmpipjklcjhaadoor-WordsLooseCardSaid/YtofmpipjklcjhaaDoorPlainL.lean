/- ROWS WITH GAPS: blanks, comments and empty lines between written rows change no word. -/
import Derived.Test.YtofmpipjklcjhaaDoorPlainB
import Derived.Test.YtofmpipjklcjhaaDoorSpecL
namespace Go.Proofs.YtofmpipjklcjhaaDoor
open Go Go.E2 Go.E3
set_option maxRecDepth 100000

/-- What may stand behind the words of a line. -/
def PostOk (f : Int) (post : List UInt8) : Prop := (post = [] ∨ ∃ b t, post = b :: t ∧ ((b.toNat : Int) = 32 ∨ (b.toNat : Int) = 59)) ∧ ∀ l e, 0 ≤ e → e ≤ ln l → fr l e = post → cutS l f e = ([], -1)

theorem tail_endsP {post l : List UInt8} {e : Int} {ws : List Word} (hP : post = [] ∨ ∃ b t, post = b :: t ∧ ((b.toNat : Int) = 32 ∨ (b.toNat : Int) = 59)) (h0 : 0 ≤ e) (h1 : e ≤ ln l) (h : fr l e = tailT ws ++ post) : ln l ≤ e ∨ bx l e = 32 ∨ bx l e = 59 := by
  cases ws with
  | nil =>
    have h : fr l e = post := h
    rcases hP with rfl | ⟨b, t, rfl, hb⟩
    · have := ln_fr h0 h1
      rw [h] at this
      have hz : ln ([] : List UInt8) = 0 := rfl
      omega
    · right
      have hx := bx_fr (s := l) (i := e) (j := 0) h0 (Int.le_refl 0)
      rw [Int.add_zero, h, bx_zero] at hx
      rw [← hx]
      exact hb
  | cons w ws =>
    right; left
    have hb := bx_fr (s := l) (i := e) (j := 0) h0 (Int.le_refl 0)
    rw [Int.add_zero, h] at hb
    rw [← hb]
    rfl

theorem cut_joinP (f : Int) {post : List UInt8} (hP : PostOk f post) : ∀ (ws : List Word) (l : List UInt8) (i : Int), 0 ≤ i → i ≤ ln l → ws.all okW = true → fr l i = joinT ws ++ post → (i = 0 ∨ bx l (i - 1) = 32) → ∃ ws', cutS l f i = (ws', -1) ∧ ws'.map strip = ws.map strip
  | [], l, i, h0, h1, _, h, _ => ⟨[], hP.2 l i h0 h1 h, rfl⟩
  | w :: ws, l, i, h0, h1, hok, h, hpre => by
    simp only [List.all_cons, Bool.and_eq_true] at hok
    -- what comes behind it
    have hafter : ∀ e, 0 ≤ e → e ≤ ln l → fr l e = tailT ws ++ post → ∃ ws', cutS l f e = (ws', -1) ∧ ws'.map strip = ws.map strip := by
      intro e he0 he1 he
      cases ws with
      | nil => exact ⟨[], hP.2 l e he0 he1 he, rfl⟩
      | cons w' ws' =>
        have hb := bx_fr (s := l) (i := e) (j := 0) he0 (Int.le_refl 0)
        rw [Int.add_zero, he] at hb
        have hb : bx l e = 32 := by rw [← hb]; rfl
        have hf : fr l (e + 1) = joinT (w' :: ws') ++ post := by
          rw [← fr_fr he0 (by decide), he]
          rfl
        have hlen := ln_fr he0 he1
        rw [he] at hlen
        have hpos : 0 < ln (tailT (w' :: ws') ++ post) := by
          have h3 : tailT (w' :: ws') ++ post = 32 :: (wordT w' ++ tailT ws' ++ post) := rfl
          rw [h3, ln_cons]
          have := ln_nonneg (wordT w' ++ tailT ws' ++ post)
          omega
        obtain ⟨ws2, q1, q2⟩ := cut_joinP f hP (w' :: ws') l (e + 1) (by omega) (by omega) hok.2 hf (.inr (by rw [Int.add_sub_cancel]; exact hb))
        exact ⟨ws2, by rw [cut_blank he0 (by omega) hb, q1], q2⟩
    have hlen := ln_fr h0 h1
    rw [h] at hlen
    have hR := ln_nonneg (tailT ws ++ post)
    have hT := ln_nonneg w.Text
    have hat : ∀ j, 0 ≤ j → bx l (i + j) = bx (joinT (w :: ws) ++ post) j := fun j hj => by rw [← h, bx_fr h0 hj]
    cases hq : w.Quoted with
    | true =>
      have hw : joinT (w :: ws) ++ post = 34 :: (w.Text ++ 34 :: (tailT ws ++ post)) := by simp [joinT, wordT, hq]
      have hokT : quotedB w.Text = true := by have := hok.1; simpa [okW, hq] using this
      rw [hw] at hat hlen
      rw [ln_cons, ln_append, ln_cons] at hlen
      have hb0 : bx l i = 34 := by have := hat 0 (Int.le_refl 0); rwa [Int.add_zero] at this
      have hin : ∀ j, i + 1 ≤ j → j < i + 1 + ln w.Text → insideI (bx l j) = true := by
        intro j hj1 hj2
        have := hat (j - i - 1 + 1) (by omega)
        rw [show i + (j - i - 1 + 1) = j by omega, bx_succ (by omega), bx_left (by omega) (by omega)] at this
        rw [this]
        exact quotedB_iff.1 hokT _ (by omega) (by omega)
      have hbe : bx l (i + 1 + ln w.Text) = 34 := by
        have := hat (ln w.Text + 1) (by omega)
        rw [bx_succ hT, bx_right, show i + (ln w.Text + 1) = i + 1 + ln w.Text by omega] at this
        exact this
      have hrun : runTo insideI l (i + 1) = i + 1 + ln w.Text := runTo_eq (by omega) (by omega) (by omega) hin (.inr (by rw [hbe]; decide))
      have hfe : fr l (i + ln w.Text + 2) = tailT ws ++ post := by
        have e : i + ln w.Text + 2 = i + (1 + (ln w.Text + 1)) := by omega
        rw [e, ← fr_fr h0 (by omega), h, hw, ← fr_fr (by decide) (by omega), fr_one, ← fr_fr hT (by decide), fr_right, fr_one]
      have hends := tail_endsP hP.1 (by omega) (by omega) hfe
      have hqi : quotedI l i = i + ln w.Text + 2 := by
        unfold quotedI
        rw [hrun, if_neg]
        · omega
        · rintro (⟨c1, c2⟩ | c | c | c)
          · rcases hpre with hpre | hpre
            · omega
            · exact c2 hpre
          · omega
          · exact c hbe
          · refine c ?_
            rw [show i + 1 + ln w.Text + 1 = i + ln w.Text + 2 by omega]
            exact hends
      obtain ⟨ws', q1, q2⟩ := hafter _ (by omega) (by omega) hfe
      have hsub : sub l (i + 1) (i + ln w.Text + 2 - 1) = w.Text := by
        rw [sub_fr (by omega) (by omega), show i + ln w.Text + 2 - 1 - (i + 1) = ln w.Text by omega, ← fr_fr h0 (by decide), h, hw, fr_one, upto_left]
      refine ⟨⟨f + i, w.Text, true⟩ :: ws', ?_, by simp [strip, q2, hq]⟩
      rw [cut_quote h0 (by omega) hb0 hqi (by omega), q1, if_pos (by decide : (-1 : Int) < 0), hsub]
    | false =>
      have hw : joinT (w :: ws) ++ post = w.Text ++ (tailT ws ++ post) := by simp [joinT, wordT, hq]
      have hokT : plainB w.Text = true := by have := hok.1; simpa [okW, hq] using this
      obtain ⟨hpl, hne⟩ := plainB_iff.1 hokT
      have hTpos : 0 < ln w.Text := by
        rcases Int.lt_or_le 0 (ln w.Text) with h | h
        · exact h
        · exact absurd (ln_zero h) hne
      rw [hw] at hat hlen
      rw [ln_append] at hlen
      have hin : ∀ j, i ≤ j → j < i + ln w.Text → plainI (bx l j) = true := by
        intro j hj1 hj2
        have := hat (j - i) (by omega)
        rw [show i + (j - i) = j by omega, bx_left (by omega) (by omega)] at this
        rw [this]
        exact hpl _ (by omega) (by omega)
      have hfe : fr l (i + ln w.Text) = tailT ws ++ post := by
        rw [← fr_fr h0 hT, h, hw, fr_right]
      have hends := tail_endsP hP.1 (by omega) (by omega) hfe
      have hrun : runTo plainI l i = i + ln w.Text := runTo_eq h0 (by omega) (by omega) hin (by
        rcases hends with hends | hends | hends
        · exact .inl (by omega)
        · exact .inr (by rw [hends]; decide)
        · exact .inr (by rw [hends]; decide))
      obtain ⟨ws', q1, q2⟩ := hafter _ (by omega) (by omega) hfe
      have hsub : sub l i (i + ln w.Text) = w.Text := by
        rw [sub_fr h0 (by omega), show i + ln w.Text - i = ln w.Text by omega, h, hw, upto_left]
      refine ⟨⟨f + i, w.Text, false⟩ :: ws', ?_, by simp [strip, q2, hq]⟩
      rw [cut_plain h0 (by omega) (hin i (Int.le_refl i) (by omega)) hrun, q1, if_pos (by decide : (-1 : Int) < 0), hsub]

/-! ### Gaps -/
theorem post_ok (f : Int) : ∀ p ∈ gapB, PostOk f p ∧ (∀ b ∈ p, (b.toNat : Int) ≠ 10) ∧ ln p ≤ 7 := by
  have at_ : ∀ {l : List UInt8} {e j : Int} {p : List UInt8}, 0 ≤ e → 0 ≤ j → fr l e = p → bx l (e + j) = bx p j := fun h0 hj h => by rw [← h, bx_fr h0 hj]
  have len : ∀ {l : List UInt8} {e : Int} {p : List UInt8}, 0 ≤ e → e ≤ ln l → fr l e = p → ln l = e + ln p := fun h0 h1 h => by have := ln_fr h0 h1; rw [h] at this; omega
  intro p hp
  simp only [gapB, List.mem_cons, List.not_mem_nil, or_false] at hp
  rcases hp with rfl | rfl | rfl | rfl | rfl
  · refine ⟨⟨.inl rfl, fun l e h0 h1 h => cut_end (.inl ?_)⟩, by decide, by decide⟩
    have := len h0 h1 h
    have hz : ln ([] : List UInt8) = 0 := rfl
    omega
  · refine ⟨⟨.inr ⟨_, _, rfl, .inl rfl⟩, fun l e h0 h1 h => ?_⟩, by decide, by decide⟩
    have hl := len h0 h1 h
    have hz : ln ([32] : List UInt8) = 1 := rfl
    have b0 : bx l (e + 0) = 32 := at_ h0 (by decide) h
    rw [Int.add_zero] at b0
    rw [cut_blank h0 (by omega) b0]
    exact cut_end (.inl (by omega))
  · refine ⟨⟨.inr ⟨_, _, rfl, .inl rfl⟩, fun l e h0 h1 h => ?_⟩, by decide, by decide⟩
    have hl := len h0 h1 h
    have hz : ln ([32, 32, 59, 32, 120, 59, 34] : List UInt8) = 7 := rfl
    have b0 : bx l (e + 0) = 32 := at_ h0 (by decide) h
    have b1 : bx l (e + 1) = 32 := at_ h0 (by decide) h
    have b2 : bx l (e + 2) = 59 := at_ h0 (by decide) h
    rw [Int.add_zero] at b0
    rw [cut_blank h0 (by omega) b0, cut_blank (by omega) (by omega) b1]
    exact cut_end (.inr (by rw [show e + 1 + 1 = e + 2 by omega]; exact b2))
  · refine ⟨⟨.inr ⟨_, _, rfl, .inl rfl⟩, fun l e h0 h1 h => ?_⟩, by decide, by decide⟩
    have hl := len h0 h1 h
    have hz : ln ([32, 59] : List UInt8) = 2 := rfl
    have b0 : bx l (e + 0) = 32 := at_ h0 (by decide) h
    have b1 : bx l (e + 1) = 59 := at_ h0 (by decide) h
    rw [Int.add_zero] at b0
    rw [cut_blank h0 (by omega) b0]
    exact cut_end (.inr b1)
  · refine ⟨⟨.inr ⟨_, _, rfl, .inr rfl⟩, fun l e h0 h1 h => ?_⟩, by decide, by decide⟩
    have b0 : bx l (e + 0) = 59 := at_ h0 (by decide) h
    rw [Int.add_zero] at b0
    exact cut_end (.inr b0)

/-- A line that gives some words. -/
def lineW (p : List UInt8 × List (List UInt8 × Bool)) : Prop := ln p.1 ≤ 1000 ∧ (∀ b ∈ p.1, (b.toNat : Int) ≠ 10) ∧ ∀ f, ∃ ws', cutS p.1 f 0 = (ws', -1) ∧ ws'.map strip = p.2

theorem rows_ps : ∀ (ps : List (List UInt8 × List (List UInt8 × Bool))) (x : Int), (∀ p ∈ ps, lineW p) → ∃ rows', rowsS (ps.map (·.1)) x = (rows', 0, 0) ∧ rows'.map stripR = (ps.map (·.2)).filter (fun w => !w.isEmpty)
  | [], x, _ => ⟨[], rfl, rfl⟩
  | p :: ps, x, h => by
    obtain ⟨h1, _, h3⟩ := h p List.mem_cons_self
    obtain ⟨ws', q1, q2⟩ := h3 x
    obtain ⟨rows', q3, q4⟩ := rows_ps ps (x + ln p.1 + 1) fun p' hp => h p' (List.mem_cons_of_mem _ hp)
    by_cases hw : ws' = []
    · subst hw
      refine ⟨rows', ?_, ?_⟩
      · simp only [List.map_cons, rowsS, q1, q3, if_neg (show ¬ 1000 < ln p.1 by omega), if_neg (by decide : ¬ (0 : Int) ≤ -1), if_true]
      · have : p.2 = [] := q2.symm
        simp [q4, this]
    · refine ⟨⟨x, ws'⟩ :: rows', ?_, ?_⟩
      · simp only [List.map_cons, rowsS, q1, q3, if_neg (show ¬ 1000 < ln p.1 by omega), if_neg (by decide : ¬ (0 : Int) ≤ -1), if_true, if_neg hw]
      · have hne : p.2 ≠ [] := by
          rw [← q2]
          simpa using hw
        have hne' : p.2.isEmpty = false := by
          cases hp : p.2 with
          | nil => exact absurd hp hne
          | cons a l => rfl
        simp [stripR, q2, q4, hne']

def flatP (ps : List (List UInt8 × List (List UInt8 × Bool))) : List UInt8 := ps.flatMap fun p => p.1 ++ ([10] : List UInt8)
theorem split_ps : ∀ (ps : List (List UInt8 × List (List UInt8 × Bool))), (∀ p ∈ ps, lineW p) → splitI 10 (flatP ps) = ps.map (·.1) ++ [[]]
  | [], _ => rfl
  | p :: ps, h => by
    have hl : flatP (p :: ps) = p.1 ++ 10 :: flatP ps := by simp [flatP, List.append_assoc]
    rw [hl, splitI_cut (c := 10) (b := 10) rfl (h p List.mem_cons_self).2.1, split_ps ps fun p' hp => h p' (List.mem_cons_of_mem _ hp)]
    rfl

def lineE : List UInt8 × List (List UInt8 × Bool) := ([], [])
theorem lineE_ok : lineW lineE := ⟨by decide, fun b hb => (by cases hb), fun f => ⟨[], cut_end (.inl (Int.le_refl 0)), rfl⟩⟩
/-- What is read of such lines. -/
theorem read_ps {ps : List (List UInt8 × List (List UInt8 × Bool))} (h : ∀ p ∈ ps, lineW p) (hb : ln (flatP ps) ≤ 20000) : ∃ rows', rowsR (flatP ps) = (rows', 0, 0) ∧ rows'.map stripR = (ps.map (·.2)).filter (fun w => !w.isEmpty) := by
  have h' : ∀ p ∈ ps ++ [lineE], lineW p := by
    intro p hp
    rcases List.mem_append.1 hp with hp | hp
    · exact h p hp
    · rw [List.mem_singleton.1 hp]; exact lineE_ok
  obtain ⟨rows', q1, q2⟩ := rows_ps (ps ++ [lineE]) 0 h'
  have e : (ps ++ [lineE]).map (·.1) = ps.map (·.1) ++ [[]] := by simp [lineE]
  rw [e, ← split_ps ps h] at q1
  refine ⟨rows', by rw [rowsR_short hb]; exact q1, by rw [q2]; simp [lineE]⟩

/-! ### The lines of a gap and a row -/
def preP (a : Int) : List (List UInt8) := if a = 2 then [[32, 59], []] else if a = 3 then [[59, 32, 34, 97]] else if a = 4 then [[]] else []
def blP (a : Int) : List UInt8 := if a = 1 then [32, 32] else if a = 3 then [32, 32, 32] else []
theorem five {a : Int} (h : 0 ≤ a) (h' : a < 5) : a = 0 ∨ a = 1 ∨ a = 2 ∨ a = 3 ∨ a = 4 := by omega
theorem gapA_eq {a : Int} (h : 0 ≤ a) (h' : a < 5) : ix gapA a = ((preP a).flatMap fun l => l ++ ([10] : List UInt8)) ++ blP a := by
  rcases five h h' with rfl | rfl | rfl | rfl | rfl <;> rfl
theorem pre_ok {a : Int} : ∀ l ∈ preP a, lineW (l, []) := by
  have e1 : lineW (([32, 59] : List UInt8), []) := ⟨by decide, by decide, fun f => ⟨[], by rw [cut_blank (l := [32, 59]) (Int.le_refl 0) (by decide) rfl]; exact cut_end (.inr rfl), rfl⟩⟩
  have e2 : lineW (([59, 32, 34, 97] : List UInt8), []) := ⟨by decide, by decide, fun f => ⟨[], cut_end (.inr rfl), rfl⟩⟩
  intro l hl
  unfold preP at hl
  split at hl
  · simp only [List.mem_cons, List.not_mem_nil, or_false] at hl
    rcases hl with rfl | rfl
    · exact e1
    · exact lineE_ok
  · split at hl
    · simp only [List.mem_cons, List.not_mem_nil, or_false] at hl
      rw [hl]
      exact e2
    · split at hl
      · simp only [List.mem_cons, List.not_mem_nil, or_false] at hl
        rw [hl]
        exact lineE_ok
      · cases hl

theorem blank_run {l : List UInt8} {f : Int} : ∀ {n : Nat} {m : List UInt8}, l = List.replicate n 32 ++ m → cutS l f 0 = cutS l f n ∧ ((n : Int) = 0 ∨ bx l ((n : Int) - 1) = 32)
  | 0, m, h => ⟨rfl, .inl rfl⟩
  | n + 1, m, h => by
    have h' : l = List.replicate n 32 ++ (32 :: m) := by rw [h, List.replicate_succ', List.append_assoc]; rfl
    obtain ⟨e1, _⟩ := blank_run h'
    have hl : ln (List.replicate n (32 : UInt8)) = n := by simp [ln]
    have hb : bx l (n : Int) = 32 := by
      have := bx_right (l := List.replicate n (32 : UInt8)) (b := 32) (m := m)
      rw [hl, ← h'] at this
      exact this
    have hlt : (n : Int) < ln l := by
      rw [h', ln_append, hl, ln_cons]
      have := ln_nonneg m
      omega
    refine ⟨by rw [e1, cut_blank (by omega) hlt hb]; rfl, .inr ?_⟩
    rw [show ((n + 1 : Nat) : Int) - 1 = n by omega]
    exact hb

theorem row_line {r : Row} (h : gm r) {a b : Int} (ha : 0 ≤ a) (ha' : a < 5) (hb : 0 ≤ b) (hb' : b < 5) : lineW ((blP a ++ joinT r.Words) ++ ix gapB b, stripR r) := by
  obtain ⟨⟨g1, g2, g3⟩, g4⟩ := gm_good h
  have hmem : ix gapB b ∈ gapB := ix_mem hb hb'
  obtain ⟨_, p2, p3⟩ := post_ok 0 _ hmem
  have hbl : ∃ n : Nat, n ≤ 3 ∧ blP a = List.replicate n 32 := by
    rcases five ha ha' with rfl | rfl | rfl | rfl | rfl
    · exact ⟨0, by decide, rfl⟩
    · exact ⟨2, by decide, rfl⟩
    · exact ⟨0, by decide, rfl⟩
    · exact ⟨3, by decide, rfl⟩
    · exact ⟨0, by decide, rfl⟩
  obtain ⟨n, hn, he⟩ := hbl
  rw [he]
  have hl : ln (List.replicate n (32 : UInt8)) = n := by simp [ln]
  refine ⟨?_, fun x hx => ?_, fun f => ?_⟩
  · show ln ((_ ++ _) ++ _) ≤ 1000
    rw [ln_append, ln_append, hl]
    omega
  · have hx : x ∈ (List.replicate n (32 : UInt8) ++ joinT r.Words) ++ ix gapB b := hx
    rcases List.mem_append.1 hx with hx | hx
    · rcases List.mem_append.1 hx with hx | hx
      · rw [(List.mem_replicate.1 hx).2]; decide
      · exact join_no10 g2 x hx
    · exact p2 x hx
  · obtain ⟨e1, e2⟩ := blank_run (l := (List.replicate n (32 : UInt8) ++ joinT r.Words) ++ ix gapB b) (f := f) (n := n) (m := joinT r.Words ++ ix gapB b) (List.append_assoc _ _ _)
    have hfr : fr ((List.replicate n (32 : UInt8) ++ joinT r.Words) ++ ix gapB b) (n : Int) = joinT r.Words ++ ix gapB b := by
      rw [List.append_assoc]
      have := fr_right (l := List.replicate n (32 : UInt8)) (m := joinT r.Words ++ ix gapB b)
      rw [hl] at this
      exact this
    obtain ⟨ws', q1, q2⟩ := cut_joinP f (post_ok f _ hmem).1 r.Words _ (n : Int) (by omega) (by rw [ln_append, ln_append, hl]; have := ln_nonneg (joinT r.Words); have := ln_nonneg (ix gapB b); omega) g2 hfr e2
    exact ⟨ws', by show cutS ((List.replicate n (32 : UInt8) ++ joinT r.Words) ++ ix gapB b) f 0 = _; rw [e1]; exact q1, q2⟩

theorem at5 (g : List Int) (i : Int) : 0 ≤ modI (atI g i) 5 ∧ modI (atI g i) 5 < 5 := modI_bd (by decide)
def chunkP (g : List Int) (i : Int) (r : Row) : List (List UInt8 × List (List UInt8 × Bool)) := ((preP (modI (atI g i) 5)).map fun l => (l, [])) ++ [((blP (modI (atI g i) 5) ++ joinT r.Words) ++ ix gapB (modI (atI g (i + 7)) 5), stripR r)]
def looseP (g : List Int) (i : Int) : List Row → List (List UInt8 × List (List UInt8 × Bool))
  | [] => []
  | r :: rs => chunkP g i r ++ looseP g (i + 1) rs
theorem flatP_app {a b : List (List UInt8 × List (List UInt8 × Bool))} : flatP (a ++ b) = flatP a ++ flatP b := by simp [flatP]
theorem chunk_flat (g : List Int) (i : Int) (r : Row) : flatP (chunkP g i r) = chunkT g i r := by
  unfold chunkP chunkT
  rw [flatP_app, gapA_eq (at5 g i).1 (at5 g i).2]
  simp [flatP, List.flatMap_map, List.append_assoc]
theorem loose_flat (g : List Int) : ∀ (l : List Row) (i : Int), flatP (looseP g i l) = looseT g i l
  | [], _ => rfl
  | r :: rs, i => by rw [looseP, looseT, flatP_app, chunk_flat, loose_flat g rs (i + 1)]
theorem stripR_ne {r : Row} (h : gm r) : (stripR r).isEmpty = false := by
  cases hr : r.Words with
  | nil => exact absurd hr h.1
  | cons a l => simp [stripR, hr]
theorem loose_ok (g : List Int) : ∀ (l : List Row) (i : Int), (∀ r ∈ l, gm r) → (∀ p ∈ looseP g i l, lineW p) ∧ ((looseP g i l).map (·.2)).filter (fun w => !w.isEmpty) = l.map stripR
  | [], _, _ => ⟨fun p hp => (by cases hp), rfl⟩
  | r :: rs, i, h => by
    have hr := h r List.mem_cons_self
    obtain ⟨q1, q2⟩ := loose_ok g rs (i + 1) fun r' hr' => h r' (List.mem_cons_of_mem _ hr')
    refine ⟨fun p hp => ?_, ?_⟩
    · rcases List.mem_append.1 hp with hp | hp
      · rcases List.mem_append.1 hp with hp | hp
        · obtain ⟨l, hl, rfl⟩ := List.mem_map.1 hp
          exact pre_ok l hl
        · rw [List.mem_singleton.1 hp]
          exact row_line hr (at5 _ _).1 (at5 _ _).2 (at5 _ _).1 (at5 _ _).2
      · exact q1 p hp
    · have hf : (((preP (modI (atI g i) 5)).map fun l => ((l, []) : List UInt8 × List (List UInt8 × Bool))).map (·.2)).filter (fun w => !w.isEmpty) = [] := by
        rw [List.filter_eq_nil_iff]
        intro w hw
        simp only [List.map_map, List.mem_map, Function.comp] at hw
        obtain ⟨_, _, rfl⟩ := hw
        simp
      simp only [looseP, chunkP, List.map_append, List.filter_append, hf, q2, List.map_cons, List.map_nil, List.nil_append]
      simp [stripR_ne hr]

def plainP (m : List Row) : List (List UInt8 × List (List UInt8 × Bool)) := m.map fun r => (joinT r.Words, stripR r)
theorem plain_flat (m : List Row) : flatP (plainP m) = linesT m := by simp [flatP, plainP, linesT, List.flatMap_map]
theorem plain_ok (m : List Row) (h : ∀ r ∈ m, gm r) : (∀ p ∈ plainP m, lineW p) ∧ ((plainP m).map (·.2)).filter (fun w => !w.isEmpty) = m.map stripR := by
  refine ⟨fun p hp => ?_, ?_⟩
  · obtain ⟨r, hr, rfl⟩ := List.mem_map.1 hp
    obtain ⟨⟨g1, g2, g3⟩, g4⟩ := gm_good (h r hr)
    exact ⟨by show ln (joinT r.Words) ≤ 1000; omega, join_no10 g2, fun f => cut_join f r.Words (joinT r.Words) 0 (Int.le_refl 0) (ln_nonneg _) g2 (fr_zero _) (.inl rfl)⟩
  · have e : (plainP m).map (·.2) = m.map stripR := by simp [plainP]
    rw [e, List.filter_eq_self]
    intro w hw
    obtain ⟨r, hr, rfl⟩ := List.mem_map.1 hw
    simp [stripR_ne (h r hr)]

/-- READ WITH GAPS. -/
theorem loose_read (g : List Int) {l : List Row} (h : ∀ r ∈ l, gm r) (hb : ln (looseT g 0 l) ≤ 20000) : ∃ rows', rowsR (looseT g 0 l) = (rows', 0, 0) ∧ rows'.map stripR = l.map stripR := by
  obtain ⟨q1, q2⟩ := loose_ok g l 0 h
  rw [← loose_flat] at hb ⊢
  obtain ⟨rows', e1, e2⟩ := read_ps q1 hb
  exact ⟨rows', e1, e2.trans q2⟩
/-- TWO TEXTS. -/
theorem loose_two (g : List Int) {l m : List Row} (h : ∀ r ∈ l, gm r) (h' : ∀ r ∈ m, gm r) (hb : ln ((looseT g 0 l ++ ([10] : List UInt8)) ++ linesT m) ≤ 20000) : ∃ rows', rowsR ((looseT g 0 l ++ ([10] : List UInt8)) ++ linesT m) = (rows', 0, 0) ∧ rows'.map stripR = l.map stripR ++ m.map stripR := by
  obtain ⟨q1, q2⟩ := loose_ok g l 0 h
  obtain ⟨p1, p2⟩ := plain_ok m h'
  have e : (looseT g 0 l ++ ([10] : List UInt8)) ++ linesT m = flatP ((looseP g 0 l ++ [lineE]) ++ plainP m) := by
    rw [flatP_app, flatP_app, loose_flat, plain_flat]
    rfl
  rw [e] at hb ⊢
  obtain ⟨rows', e1, e2⟩ := read_ps (ps := (looseP g 0 l ++ [lineE]) ++ plainP m) (fun p hp => by
    rcases List.mem_append.1 hp with hp | hp
    · rcases List.mem_append.1 hp with hp | hp
      · exact q1 p hp
      · rw [List.mem_singleton.1 hp]; exact lineE_ok
    · exact p1 p hp) hb
  refine ⟨rows', e1, ?_⟩
  rw [e2, List.map_append, List.map_append, List.filter_append, List.filter_append, q2, p2]
  simp [lineE]
end Go.Proofs.YtofmpipjklcjhaaDoor
