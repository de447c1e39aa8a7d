/- WHAT tactusref02.Text and the law WordsTexts compute, in plain Lean -/
import Derived.Test.YtofmpipjklcjhaaDoorSpecL
namespace Go.Proofs.YtofmpipjklcjhaaDoor
open Go Go.E2 Go.E3
def km (_ : Int) (t : List UInt8) (q : Bool) : List UInt8 × Bool := if okW ⟨0, t, q⟩ then (qdq ⟨0, t, q⟩, true) else ([], false)
def qk1 (n : Int) : List Word → Option Int
  | [] => some n
  | w :: ws => if 3000 < ln w.Text then none else qk1 (n + Int.tdiv (ln w.Text) 100) ws
def q8y (f : Int → Bool) : Option Int → Bool
  | none => true
  | some n => f n
def qj6 (n : Int) : List Row → Bool
  | [] => decide (1500 < n)
  | r :: rs => if 300 < ln r.Words then true else q8y (fun m => qj6 m rs) (qk1 (n + ln r.Words) r.Words)
def qbx (l : List Row) : Bool := if 300 < ln l then true else qj6 0 l
theorem qrf : ∀ {ws : List Word} {n m : Int}, qk1 n ws = some m → ∀ w ∈ ws, ln w.Text ≤ 3000
  | [], _, _, _, w, h => by cases h
  | x :: ws, n, m, h, w, hw => by
    simp only [qk1] at h
    split at h
    · cases h
    · rcases List.mem_cons.1 hw with hw | hw
      · rw [hw]; omega
      · exact qrf h w hw
theorem qtk : ∀ {l : List Row} {n : Int}, qj6 n l = false → ∀ r ∈ l, ln r.Words ≤ 300 ∧ ∀ w ∈ r.Words, ln w.Text ≤ 3000
  | [], _, _, r, h => by cases h
  | x :: l, n, h, r, hr => by
    simp only [qj6] at h
    split at h
    · cases h
    · cases hw : qk1 (n + ln x.Words) x.Words with
      | none => rw [hw] at h; cases h
      | some m =>
        rw [hw] at h
        rcases List.mem_cons.1 hr with hr | hr
        · rw [hr]; exact ⟨by omega, qrf hw⟩
        · exact qtk (n := m) h r hr
theorem q17 {l : List Row} (h : qbx l = false) : ln l ≤ 300 ∧ ∀ r ∈ l, ln r.Words ≤ 300 ∧ ∀ w ∈ r.Words, ln w.Text ≤ 3000 := by
  unfold qbx at h
  split at h
  · cases h
  · exact ⟨by omega, qtk h⟩
theorem zao (l : List Row) : qie l = l := by
  unfold qie
  conv => rhs; rw [← List.map_id l]
  exact List.map_congr_left fun r _ => by simp
theorem qh4 {α : Type} {p : α → α → Bool} : ∀ {l : List α}, (∀ a ∈ l, p a a = true) → jx p l l = true
  | [], _ => rfl
  | a :: l, h => by
    simp only [jx]
    rw [h a List.mem_cons_self, qh4 fun b hb => h b (List.mem_cons_of_mem _ hb)]
    rfl
theorem qzk (l : List Row) : j9 l l true = true := by
  refine qh4 fun r _ => ?_
  have : jx (ji true) r.Words r.Words = true := qh4 fun w _ => by simp [ji]
  simp [qa7, this]
end Go.Proofs.YtofmpipjklcjhaaDoor
