/- WHAT THE LAWS ASK of the book of a made part. -/
import Derived.Test.YtlkfjinaiepocaaDoorPlainD
namespace Go.Proofs.YtlkfjinaiepocaaDoor
open Go Go.E2 Go.E3
set_option maxRecDepth 100000

theorem Pgs.full {l : List Sign} {w h i : Int} {g : List Page} (hp : Pgs l w h i g) : ∀ n : Int, 0 ≤ n → n + 1 < ln g → ln (ix g n).Staves = h := by
  induction hp with
  | nil => intro n h0 h1; simp [ln] at h1; omega
  | @cons i j k r g a hs b c d e f hg ih =>
    intro n h0 h1
    rw [qek] at h1
    by_cases hn : n = 0
    · subst hn
      show ln (r ++ [stf l k j]) = h
      rcases e with e | e
      · exfalso
        cases hg with
        | nil => simp [ln] at h1
        | cons a' hs' b' c' d' e' f' _ => omega
      · exact e.1
    · have e1 : ix (Page.mk (r ++ [stf l k j]) :: g) n = ix g (n - 1) := by
        have := qm6 (a := Page.mk (r ++ [stf l k j])) (l := g) (i := n - 1) (by omega)
        rw [show n - 1 + 1 = n by omega] at this
        exact this
      rw [e1]
      exact ih (n - 1) (by omega) (by omega)
/-- All that the laws ask of the book of the generator's part. -/
theorem q3w (a0 : List Int) {w h : Int} (hw : 16 ≤ w) (hw' : w ≤ 60) (hh : 1 ≤ h) (hh' : h ≤ 12) : BookOk (qb a0).1 (qb a0).2 w h (bkP a0 w h) := by
  obtain ⟨g, hg⟩ := q80 (q18 a0) hw hw' hh hh'
  have : bkP a0 w h = g := by unfold bkP; rw [hg.made]
  rw [this]; exact hg
theorem Pgs.ne {l : List Sign} {w h i : Int} (hp : Pgs l w h i []) : i = ln l := by
  cases hp; rfl
theorem q2f {l : List Sign} {w h : Int} {g : List Page} (hp : Pgs l w h 0 g) (hw : w ≤ 60) {x : Int} (h0 : 0 ≤ x) (h1 : x < ln g) : ln (ix g x).Staves ≤ h ∧ ∀ k, 0 ≤ k → k < ln (ix g x).Staves → ln (ix (ix g x).Staves k).Signs ≤ w :=
  ⟨(hp.sm hw _ (qbd h0 h1)).2.1, fun k a b => (hp.sm hw _ (qbd h0 h1)).2.2 _ (qbd a b)⟩
theorem q6y {nm : List UInt8} (h : ju nm = true) : ln nm ≤ 20 := by
  simp only [ju, Bool.and_eq_true, decide_eq_true_eq] at h
  exact h.1.1.2

end Go.Proofs.YtlkfjinaiepocaaDoor
