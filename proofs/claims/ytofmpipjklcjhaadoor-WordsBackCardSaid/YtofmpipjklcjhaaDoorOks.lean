/- THE CONDITION of the law holds. -/
import Derived.Test.YtofmpipjklcjhaaDoorPlainB
namespace Go.Proofs.YtofmpipjklcjhaaDoor
open Go Go.E2 Go.E3

theorem lawBack_ok (a0 : List Int) (a1 : List UInt8) (hp : goodL a0) : lawBack_VC a0 a1 := by
  obtain ⟨m1, m2, m3, m4, m5⟩ := made_good a0
  obtain ⟨w1, rows', w2, w3⟩ := written_read m1 (by omega)
  have w1a : (textW (madeR a0)).1 = linesT (madeR a0) := by rw [w1]
  have w1b : (textW (madeR a0)).2 = 0 := by rw [w1]
  have hle : ∀ {l : List Row}, ln l ≤ 20001 → (∀ r ∈ l, ln r.Words ≤ 1000) → ln l ≤ 1000000000 ∧ ∀ r ∈ l, ln r.Words ≤ 1000000000 := fun h1 h2 => ⟨by omega, fun r hr => by have := h2 r hr; omega⟩
  have hs1 : sameR (madeR a0) rows' false = true := same_strip w3.symm
  unfold lawBack_VC
  rw [w1a, w1b, w2]
  refine ⟨trivial, hp, m3, trivial, fun h => absurd rfl h, fun _ => ⟨fun h => absurd rfl h, fun _ => ⟨hle (by omega) fun r hr => by have := m5 r hr; omega, fun h => ?_, fun _ => ⟨fun _ => ⟨rfl, trivial⟩, fun hl => ⟨trivial, fun _ => ⟨rfl, trivial⟩, fun hz => ?_⟩⟩⟩⟩⟩
  · rw [hs1] at h
    cases h
  · obtain ⟨g1, g2, g3⟩ := read_good (s := a1) (by omega) hz
    obtain ⟨v1, rows2, v2, v3⟩ := written_read g1 (by omega)
    have v1a : (textW (rowsR a1).1).1 = linesT (rowsR a1).1 := by rw [v1]
    have v1b : (textW (rowsR a1).1).2 = 0 := by rw [v1]
    have v2a : (rowsR (linesT (rowsR a1).1)).1 = rows2 := by rw [v2]
    have v2b : (rowsR (linesT (rowsR a1).1)).2.1 = 0 := by rw [v2]
    have hbd := rowsR_bd a1
    have hs2 : sameR (rowsR a1).1 rows2 false = true := same_strip v3.symm
    have ht : textW rows2 = (linesT (rowsR a1).1, 0) := by
      rw [← v1]
      exact text_congr v3
    have hfit := (read_good (s := linesT (rowsR a1).1) (by omega) v2b).2.2
    rw [v2a] at hfit
    have hta : (textW rows2).1 = linesT (rowsR a1).1 := by rw [ht]
    have htb : (textW rows2).2 = 0 := by rw [ht]
    rw [v1a, v1b, v2b, v2a, hta, htb, hs2]
    refine ⟨g3, fun h => absurd rfl h, fun _ => ⟨trivial, hfit, fun _ => ⟨fun _ => ⟨fun _ => ⟨hle hbd.1 hbd.2, fun _ => ⟨?_, trivial⟩, fun h => ?_⟩, fun h => absurd rfl h⟩, fun h => absurd rfl h⟩, fun h => ?_⟩⟩
    · simp
    · cases h
    · cases h
end Go.Proofs.YtofmpipjklcjhaaDoor
