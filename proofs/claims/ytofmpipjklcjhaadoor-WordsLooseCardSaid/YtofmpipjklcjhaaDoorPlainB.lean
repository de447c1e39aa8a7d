/- ROWS THAT ARE READ, AND ROWS MADE OF NUMBERS, can be written. -/
import Derived.Test.YtofmpipjklcjhaaDoorPlainA
namespace Go.Proofs.YtofmpipjklcjhaaDoor
open Go Go.E2 Go.E3
set_option maxRecDepth 100000

/-! ### Rows made of numbers -/
def gw (w : Word) : Prop := okW w = true ∧ ln w.Text ≤ 7
def gm (r : Row) : Prop := r.Words ≠ [] ∧ ln r.Words ≤ 8 ∧ ∀ w ∈ r.Words, gw w

theorem texts_ok : ∀ t ∈ texts13, ln t ≤ 7 ∧ quotedB t = true ∧ (t = [] ∨ t = [97, 32, 98] ∨ t = [120, 59] ∨ plainB t = true) := by decide
theorem txt_mem (n : Int) : txt n ∈ texts13 := ix_mem tx_wn.1 tx_wn.2
theorem madeW_ok (n : Int) : gw (madeW n) := by
  obtain ⟨h1, h2, h3⟩ := texts_ok _ (txt_mem n)
  refine ⟨?_, h1⟩
  unfold okW
  split
  · exact h2
  · rename_i hq
    have hq : (decide (txt n = []) || decide (txt n = [97, 32, 98]) || decide (txt n = [120, 59]) || decide (modI (Int.tdiv n 16) 4 = 0)) = false := by simpa [madeW] using hq
    simp only [Bool.or_eq_false_iff, decide_eq_false_iff_not] at hq
    rcases h3 with h3 | h3 | h3 | h3
    · exact absurd h3 hq.1.1.1
    · exact absurd h3 hq.1.1.2
    · exact absurd h3 hq.1.2
    · exact h3
theorem madeGo_good : ∀ (ns : List Int) (out : List Row) (ws : List Word), (∀ r ∈ out, gm r) → ln out ≤ 12 → (∀ w ∈ ws, gw w) → ln ws ≤ 7 → (∀ r ∈ madeGo out ws ns, gm r) ∧ ln (madeGo out ws ns) ≤ 13
  | [], out, ws, h1, h2, h3, h4 => by
    unfold madeGo
    split
    · exact ⟨h1, by omega⟩
    · rename_i hn
      refine ⟨fun r hr => ?_, by rw [ln_snoc]; omega⟩
      rcases List.mem_append.1 hr with hr | hr
      · exact h1 r hr
      · rw [List.mem_singleton.1 hr]
        exact ⟨hn, by show ln ws ≤ 8; omega, h3⟩
  | n :: ns, out, ws, h1, h2, h3, h4 => by
    unfold madeGo
    have h3' : ∀ w ∈ ws ++ [madeW n], gw w := by
      intro w hw
      rcases List.mem_append.1 hw with hw | hw
      · exact h3 w hw
      · rw [List.mem_singleton.1 hw]
        exact madeW_ok n
    split
    · split
      · exact ⟨h1, by omega⟩
      · rename_i hn
        refine ⟨fun r hr => ?_, by rw [ln_snoc]; omega⟩
        rcases List.mem_append.1 hr with hr | hr
        · exact h1 r hr
        · rw [List.mem_singleton.1 hr]
          exact ⟨hn, by show ln ws ≤ 8; omega, h3⟩
    · split
      · refine madeGo_good ns _ _ (fun r hr => ?_) (by rw [ln_snoc]; omega) (fun w hw => by cases hw) (by decide)
        rcases List.mem_append.1 hr with hr | hr
        · exact h1 r hr
        · rw [List.mem_singleton.1 hr]
          exact ⟨by simp, by show ln (ws ++ [madeW n]) ≤ 8; rw [ln_snoc]; omega, h3'⟩
      · rename_i hc
        refine madeGo_good ns _ _ h1 h2 h3' ?_
        have : ln (ws ++ [madeW n]) ≠ 8 := fun h => hc (.inl h)
        rw [ln_snoc] at this ⊢
        omega

theorem word10 {w : Word} (h : gw w) : ln (wordT w) ≤ 9 := by
  have := h.2
  unfold wordT
  split
  · rw [ln_append, ln_append]
    have : ln ([34] : List UInt8) = 1 := rfl
    omega
  · omega
theorem tail10 : ∀ {ws : List Word}, (∀ w ∈ ws, gw w) → ln (tailT ws) ≤ 10 * ln ws
  | [], _ => by decide
  | a :: l, h => by
    have e : tailT (a :: l) = (32 :: wordT a) ++ tailT l := rfl
    have h1 := word10 (h a List.mem_cons_self)
    have h2 := tail10 (ws := l) fun w hw => h w (List.mem_cons_of_mem _ hw)
    rw [e, ln_append, ln_cons, ln_cons]
    omega
theorem join10 {ws : List Word} (h : ∀ w ∈ ws, gw w) : ln (joinT ws) ≤ 10 * ln ws := by
  cases ws with
  | nil => decide
  | cons a l =>
    have h1 := word10 (h a List.mem_cons_self)
    have h2 := tail10 (ws := l) fun w hw => h w (List.mem_cons_of_mem _ hw)
    simp only [joinT]
    rw [ln_append, ln_cons]
    omega
theorem gm_good {r : Row} (h : gm r) : goodRow r ∧ ln (joinT r.Words) ≤ 80 := by
  have hj := join10 h.2.2
  have := h.2.1
  exact ⟨⟨h.1, List.all_eq_true.2 fun w hw => (h.2.2 w hw).1, by omega⟩, by omega⟩
theorem lines10 : ∀ {rows : List Row}, (∀ r ∈ rows, gm r) → ln (linesT rows) ≤ 81 * ln rows
  | [], _ => by decide
  | r :: rows, h => by
    have e : linesT (r :: rows) = (joinT r.Words ++ ([10] : List UInt8)) ++ linesT rows := rfl
    have h1 := (gm_good (h r List.mem_cons_self)).2
    have h2 := lines10 (rows := rows) fun r' hr => h r' (List.mem_cons_of_mem _ hr)
    have : ln ([10] : List UInt8) = 1 := rfl
    rw [e, ln_append, ln_append, ln_cons r rows]
    omega
end Go.Proofs.YtofmpipjklcjhaaDoor
