/- THE CONDITIONS of the functions of the chapter 2 hold. -/
import Derived.Test.YtofmpipjklcjhaaDoorVcs
namespace Go.Proofs.YtofmpipjklcjhaaDoor
open Go Go.E2 Go.E3
set_option maxRecDepth 100000

theorem class_all : ∀ n : Nat, n < 127 → bx [120, 120, 120, 120, 120, 120, 120, 120, 120, 120, 120, 120, 120, 120, 120, 120, 120, 120, 120, 120, 120, 120, 120, 120, 120, 120, 120, 120, 120, 120, 120, 120, 32, 112, 113, 112, 112, 112, 112, 112, 112, 112, 112, 112, 112, 112, 112, 112, 112, 112, 112, 112, 112, 112, 112, 112, 112, 112, 112, 99, 112, 112, 112, 112, 112, 112, 112, 112, 112, 112, 112, 112, 112, 112, 112, 112, 112, 112, 112, 112, 112, 112, 112, 112, 112, 112, 112, 112, 112, 112, 112, 112, 112, 112, 112, 112, 112, 112, 112, 112, 112, 112, 112, 112, 112, 112, 112, 112, 112, 112, 112, 112, 112, 112, 112, 112, 112, 112, 112, 112, 112, 112, 112, 112, 112, 112, 112] (n : Int) = classI n := by decide +kernel

theorem class_ok (a0 : Int) (hp : U8 a0) : class_VC a0 := by
  obtain ⟨h0, h1⟩ := hp
  refine ⟨by omega, fun h => ⟨?_, trivial⟩, fun h => ⟨⟨h0, by simp only [ln, List.length_cons, List.length_nil]; omega⟩, ?_, trivial⟩⟩
  · unfold classI; rw [if_pos (by omega)]
  · have := class_all a0.toNat (by omega)
    rwa [show ((a0.toNat : Nat) : Int) = a0 by omega] at this

theorem quoted_ok (a0 : List UInt8) (hp : ln a0 ≤ 1000000000) : quoted_VC a0 := by
  refine ⟨⟨by omega, ln_nonneg _, fun j h1 h2 => by omega⟩, fun x ⟨h0, h1, h2⟩ => ⟨fun h3 => ⟨⟨h0, h3⟩, bx_bd a0 x, fun hc => ⟨?_, trivial⟩, fun hc => ⟨fun hd => ⟨?_, trivial⟩, fun hd => ⟨by omega, ⟨by omega, by omega, fun j h4 h5 => ?_⟩, ?_⟩⟩⟩, fun h3 => ⟨?_, trivial⟩⟩⟩
  · exact (quotedB_not h0 h3 (insideI_not.2 (by have := class_x.1 hc; omega))).symm
  · exact (quotedB_not h0 h3 (insideI_not.2 (by have := class_q.1 hd; omega))).symm
  · by_cases h : j = x
    · subst h
      rw [insideI_iff]
      have a := mt class_x.2 hc
      have b := mt class_q.2 hd
      omega
    · exact h2 j h4 (by omega)
  · simp only [minv_quoted_0]; omega
  · exact (quotedB_iff.2 fun i h4 h5 => h2 i h4 (by omega)).symm

theorem genSplit_end {a0 a1 x : List UInt8} {i : Int} {l : List (List UInt8)} (hinv : inv_genSplit_0 a0 a1 0 (-1) x i l) (h : splitI (bx a1 0) x = [x]) :
    i < ln l ∧ upto (l.set i.toNat x) (i + 1) = splitI (bx a1 0) a0 := by
  obtain ⟨h0, h1, h2, h3, h4⟩ := hinv
  rw [h] at h2 h3
  have hi : i < ln l := by rw [h1, ← h2]; simp only [ln, List.length_cons, List.length_nil]; omega
  exact ⟨hi, by rw [upto_set h0 hi, h3]⟩

theorem genSplit_step {a0 a1 x : List UInt8} {i m : Int} {l : List (List UInt8)} (hinv : inv_genSplit_0 a0 a1 0 (-1) x i l) (hm : 0 ≤ m) (hml : m < ln x) (h : splitI (bx a1 0) x = upto x m :: splitI (bx a1 0) (fr x (m + 1))) (hi : i < cntB a0 (bx a1 0)) :
    inv_genSplit_0 a0 a1 0 (-1) (fr x (m + 1)) (i + 1) (l.set i.toNat (upto x m)) := by
  obtain ⟨h0, h1, h2, h3, h4⟩ := hinv
  rw [h] at h2 h3
  rw [ln_cons] at h2
  refine ⟨by omega, by rw [ln_set, h1], by omega, ?_, ?_⟩
  · rw [upto_set h0 (by rw [h1]; omega), List.append_assoc]
    exact h3
  · rw [ln_fr (by omega) (by omega)]; omega

theorem genSplit_ok (a0 a1 : List UInt8) (a2 a3 : Int) (hp : ln a1 = 1 ∧ (a2 : Int) = 0 ∧ (a3 : Int) = -1 ∧ ln a0 ≤ 100000000) : genSplit_VC a0 a1 a2 a3 := by
  obtain ⟨h1, rfl, rfl, hl⟩ := hp
  have hc := bx_bd a1 0
  have hb := cntB_bd a0 (bx a1 0)
  have hn : (if ((ln a0) + 1) < ((cntB a0 (bx a1 0)) + 1) then ((ln a0) + 1) else ((cntB a0 (bx a1 0)) + 1)) = cntB a0 (bx a1 0) + 1 := if_neg (by omega)
  have hz : ∀ m : Int, m + 0 = m := fun m => by omega
  unfold genSplit_VC
  simp only [hn]
  refine ⟨fun h => absurd h (by decide), fun _ => ⟨fun h => (by subst h; cases h1), fun _ => ⟨fun _ => ⟨fun h => by omega, fun _ => ⟨fun _ => ?_, fun h => absurd h1 h⟩⟩, fun h => by omega⟩⟩⟩
  refine ⟨by omega, trivial, by omega, by omega, trivial, by omega, trivial, by omega, ⟨Int.le_refl 0, ln_replicate (by omega), ?_, ?_, Int.le_refl _⟩, fun x i l hi => ⟨fun hlt => ⟨fun h => by omega, fun _ => ⟨fun hx => ?_, fun hx => ⟨fun _ => ?_, fun h => absurd h1 h⟩⟩⟩, fun hge => ?_⟩⟩
  · rw [ln_splitI hc.1 (by omega)]; omega
  · rfl
  · -- the separator itself
    subst hx
    have hidx : idxB a1 (bx a1 0) = 0 := by
      rcases idxB_lt a1 (bx a1 0) with h | h
      · have := idxB_ge a1 (bx a1 0)
        by_cases hx : idxB a1 (bx a1 0) < 0
        · exact absurd rfl (idxB_none hc.1 (by omega) hx 0 (Int.le_refl 0) (by omega))
        · omega
      · exact absurd rfl (idxB_none hc.1 (by omega) (by omega) 0 (Int.le_refl 0) (by omega))
    have hst := splitI_step (s := a1) hc.1 (by omega) (by omega : 0 ≤ idxB a1 (bx a1 0))
    rw [hidx] at hst
    have hs := genSplit_step hi (Int.le_refl 0) (by omega) hst (by omega)
    obtain ⟨g0, g1, g2, g3, g4⟩ := id hi
    have e : (0 : Int) + ln a1 = 0 + 1 := by omega
    rw [e]
    refine ⟨by omega, by omega, by omega, by omega, trivial, by omega, by omega, by omega, hs, ?_⟩
    show (_ : Int).toNat < (_ : Int).toNat; omega
  · refine ⟨by omega, trivial, fun hm => ?_, fun hm => ?_⟩
    · obtain ⟨h2, h3⟩ := genSplit_end hi (splitI_last hc.1 (by omega) hm)
      obtain ⟨g0, g1, g2, g3, g4⟩ := id hi
      exact ⟨by omega, by omega, trivial, by omega, by rw [ln_set]; omega, by rw [ln_set]; omega, h3, trivial⟩
    · obtain ⟨b1, b2, b3⟩ := idxB_some hc.1 (by omega) hm
      have hs := genSplit_step hi hm b1 (splitI_step hc.1 (by omega) hm) (by omega)
      obtain ⟨g0, g1, g2, g3, g4⟩ := id hi
      rw [h1, hz]
      refine ⟨by omega, by omega, by omega, by omega, trivial, by omega, by omega, by omega, hs, ?_⟩
      show (_ : Int).toNat < (_ : Int).toNat; omega
  · obtain ⟨g0, g1, g2, g3, g4⟩ := id hi
    obtain ⟨h2, h3⟩ := genSplit_end hi (splitI_one hc.1 (by omega) (by omega))
    exact ⟨by omega, by omega, trivial, by omega, by rw [ln_set]; omega, by rw [ln_set]; omega, h3, trivial⟩

theorem Split_ok (a0 a1 : List UInt8) (hp : ln a1 = 1 ∧ ln a0 ≤ 100000000) : Split_VC a0 a1 := ⟨⟨hp.1, rfl, rfl, hp.2⟩, rfl, trivial⟩

theorem quotedI_cases {l : List UInt8} {a x : Int} (h : runTo insideI l (a + 1) = x) :
    (((0 < a ∧ bx l (a - 1) ≠ 32) ∨ ln l ≤ x ∨ bx l x ≠ 34 ∨ ¬ (ln l ≤ x + 1 ∨ bx l (x + 1) = 32 ∨ bx l (x + 1) = 59)) ∧ quotedI l a = -1) ∨
    (¬ ((0 < a ∧ bx l (a - 1) ≠ 32) ∨ ln l ≤ x ∨ bx l x ≠ 34 ∨ ¬ (ln l ≤ x + 1 ∨ bx l (x + 1) = 32 ∨ bx l (x + 1) = 59)) ∧ quotedI l a = x + 1) := by
  unfold quotedI
  rw [h]
  split
  · rename_i hc
    exact .inl ⟨hc, rfl⟩
  · rename_i hc
    exact .inr ⟨hc, rfl⟩

/-! ### The words of a line -/
theorem withW_cons {out : List Word} {w : Word} {r : List Word × Int} : withW out (if r.2 < 0 then (w :: r.1, -1) else ([], r.2)) = withW (out ++ [w]) r := by
  unfold withW
  by_cases h : r.2 < 0
  · rw [if_pos h, if_pos h, if_pos (show (-1 : Int) < 0 by decide), List.append_assoc]; rfl
  · rw [if_neg h, if_neg h, if_neg h]
theorem withW_end {out : List Word} : withW out ([], -1) = (out, -1) := by simp [withW]
theorem withW_bad {out : List Word} {x : Int} (h : 0 ≤ x) : withW out ([], x) = ([], x) := by
  unfold withW; rw [if_neg (by show ¬ x < 0; omega)]

section
variable {l : List UInt8} {f x : Int} {out : List Word} (hi : cutS l f 0 = withW out (cutS l f x))
 include hi
theorem cutI_end (h : ln l ≤ x ∨ bx l x = 59) : cutS l f 0 = (out, -1) := by rw [hi, cut_end h, withW_end]
theorem cutI_bad (h0 : 0 ≤ x) (h1 : x < ln l) (h2 : bx l x ≠ 59) (h : (bx l x = 34 ∧ quotedI l x < 0) ∨ (bx l x ≠ 34 ∧ bx l x ≠ 32 ∧ plainI (bx l x) = false)) : cutS l f 0 = ([], x) := by rw [hi, cut_bad h1 h2 h h0, withW_bad h0]
theorem cutI_quote {a e : Int} (ha : a = f + x) (h0 : 0 ≤ x) (h1 : x < ln l) (h : bx l x = 34) (he : quotedI l x = e) (h3 : 0 ≤ e) : cutS l f 0 = withW (out ++ [⟨a, sub l (x + 1) (e - 1), true⟩]) (cutS l f e) := by
  rw [hi, cut_quote h0 h1 h he h3, withW_cons, ha]
theorem cutI_plain {a e : Int} (ha : a = f + x) (h0 : 0 ≤ x) (h1 : x < ln l) (h : plainI (bx l x) = true) (he : runTo plainI l x = e) : cutS l f 0 = withW (out ++ [⟨a, sub l x e, false⟩]) (cutS l f e) := by
  rw [hi, cut_plain h0 h1 h he, withW_cons, ha]
end

theorem cutS_form (l : List UInt8) (f i : Int) (h : 0 ≤ i) : (cutS l f i).2 = -1 ∨ (0 ≤ (cutS l f i).2 ∧ (cutS l f i).1 = []) := by
  have hg := runTo_ge (p := blankI) (s := l) (i := i)
  fun_induction cutS l f i with
  | case1 i h1 => exact .inl rfl
  | case2 i h1 h2 h3 h4 ih => exact .inl rfl
  | case3 i h1 h2 h3 h4 ih => 
    refine .inr ⟨?_, rfl⟩
    show 0 ≤ (cutS l f _).2
    omega
  | case4 i h1 h2 h3 => exact .inr ⟨by show 0 ≤ runTo blankI l i; omega, rfl⟩
  | case5 i h1 h2 h3 h4 h5 ih => exact .inl rfl
  | case6 i h1 h2 h3 h4 h5 ih => 
    refine .inr ⟨?_, rfl⟩
    show 0 ≤ (cutS l f _).2
    omega
  | case7 i h1 h2 h3 h4 => exact .inr ⟨by show 0 ≤ runTo blankI l i; omega, rfl⟩
  | case8 i h1 h2 h3 => exact .inr ⟨by show 0 ≤ runTo blankI l i; omega, rfl⟩

theorem withW_nil {r : List Word × Int} (h : r.2 = -1 ∨ (0 ≤ r.2 ∧ r.1 = [])) : r = withW [] r := by
  obtain ⟨a, b⟩ := r
  rcases h with h | ⟨h, h'⟩
  · cases h; rfl
  · cases h'; rw [withW_bad h]

/-! ### The rows of a text -/
theorem withR_end {out : List Row} : withR out ([], 0, 0) = (out, 0, 0) := by simp [withR]
theorem withR_bad {out : List Row} {e x : Int} (h : e ≠ 0) : withR out ([], e, x) = ([], e, x) := by
  unfold withR; rw [if_neg h]
theorem rowsS_form : ∀ (l : List (List UInt8)) (x : Int), (rowsS l x).2 = (0, 0) ∨ ((rowsS l x).2.1 ≠ 0 ∧ (rowsS l x).1 = [])
  | [], _ => .inl rfl
  | l :: ls, x => by
    unfold rowsS
    split
    · exact .inr ⟨show (4 : Int) ≠ 0 by decide, rfl⟩
    · split
      · exact .inr ⟨show (3 : Int) ≠ 0 by decide, rfl⟩
      · split
        · exact .inl rfl
        · exact .inr ⟨by assumption, rfl⟩
theorem withR_nil {r : List Row × Int × Int} (h : r.2 = (0, 0) ∨ (r.2.1 ≠ 0 ∧ r.1 = [])) : r = withR [] r := by
  obtain ⟨a, b⟩ := r
  rcases h with h | ⟨h, h'⟩
  · cases h; rfl
  · cases h'; obtain ⟨b, c⟩ := b; rw [withR_bad h]

/-- One line more. -/
theorem rows_line {L : List (List UInt8)} {line : List UInt8} {out : List Row} {R : List Row × Int × Int} {x : Int} (hi : R = withR out (rowsS (line :: L) x)) :
    (1000 < ln line → R = ([], 4, x)) ∧ (ln line ≤ 1000 → 0 ≤ (cutS line x 0).2 → R = ([], 3, x + (cutS line x 0).2)) ∧
    (ln line ≤ 1000 → (cutS line x 0).2 < 0 → R = withR (if (cutS line x 0).1 = [] then out else out ++ [⟨x, (cutS line x 0).1⟩]) (rowsS L (x + ln line + 1))) := by
  subst hi
  refine ⟨fun h => ?_, fun h h1 => ?_, fun h h1 => ?_⟩
  · rw [rowsS, if_pos h, withR_bad (by decide)]
  · rw [rowsS, if_neg (by omega), if_pos h1, withR_bad (by decide)]
  · rw [rowsS, if_neg (by omega), if_neg (by omega)]
    by_cases h2 : (rowsS L (x + ln line + 1)).2.1 = 0
    · rw [if_pos h2]
      unfold withR
      rw [if_pos rfl, if_pos h2]
      split
      · rfl
      · simp
    · rw [if_neg h2]
      unfold withR
      rw [if_neg h2, if_neg h2]

theorem rowsR_short {a0 : List UInt8} (h : ln a0 ≤ 20000) : rowsR a0 = rowsS (splitI 10 a0) 0 := by unfold rowsR; rw [if_neg (by omega)]
theorem rowsR_long {a0 : List UInt8} (h : 20000 < ln a0) : rowsR a0 = ([], 4, 20000) := by unfold rowsR; rw [if_pos h]

theorem ne_of_ln {α : Type} {l : List α} (h : 0 < ln l) : ¬ l = [] := by rintro rfl; simp [ln] at h
/-! ### The program's own -/
theorem class_x' {b : Int} (h : classI b = 120) (h0 : 0 ≤ b) : b ≠ 34 ∧ b ≠ 32 ∧ b ≠ 59 ∧ plainI b = false := by
  have := class_x.1 h
  exact ⟨by omega, by omega, by omega, plainI_not.2 (by omega)⟩
theorem class_other {b : Int} (hx : classI b ≠ 120) (hq : classI b ≠ 113) (h1 : b ≠ 32) (h2 : b ≠ 59) : plainI b = true := by
  have h3 := mt class_x.2 hx
  have h4 := mt class_q.2 hq
  exact plainI_iff.2 (by omega)

/-- How the program finds a quoted word's end. -/
theorem quoted_prog {l : List UInt8} {x : Int} (h0 : 0 ≤ x) (h1 : x < ln l) :
    (0 < x → bx l (x - 1) ≠ 32 → quotedI l x = -1) ∧ (idxB (fr l (x + 1)) 34 < 0 → quotedI l x = -1) ∧
    (0 ≤ idxB (fr l (x + 1)) 34 → x + 1 + idxB (fr l (x + 1)) 34 < ln l ∧ bx l (x + 1 + idxB (fr l (x + 1)) 34) = 34 ∧
      (quotedB (sub l (x + 1) (x + 1 + idxB (fr l (x + 1)) 34)) = false → quotedI l x = -1) ∧
      (quotedB (sub l (x + 1) (x + 1 + idxB (fr l (x + 1)) 34)) = true → (0 < x → bx l (x - 1) = 32) →
        (x + idxB (fr l (x + 1)) 34 + 2 < ln l → bx l (x + idxB (fr l (x + 1)) 34 + 2) ≠ 32 → bx l (x + idxB (fr l (x + 1)) 34 + 2) ≠ 59 → quotedI l x = -1) ∧
        (ln l ≤ x + idxB (fr l (x + 1)) 34 + 2 ∨ bx l (x + idxB (fr l (x + 1)) 34 + 2) = 32 ∨ bx l (x + idxB (fr l (x + 1)) 34 + 2) = 59 → quotedI l x = x + idxB (fr l (x + 1)) 34 + 2))) := by
  have hc := quotedI_cases (l := l) (a := x) rfl
  have hg := runTo_ge (p := insideI) (s := l) (i := x + 1)
  have hle := runTo_le (p := insideI) (s := l) (i := x + 1) (by omega)
  have hr := runTo_end (p := insideI) (s := l) (i := x + 1) (by omega)
  have hf := ln_fr (l := l) (i := x + 1) (by omega) (by omega)
  refine ⟨fun h2 h3 => by omega, fun h2 => ?_, fun h2 => ?_⟩
  · have hn := idxB_none (by decide) (by decide) h2
    by_cases hl : ln l ≤ runTo insideI l (x + 1)
    · omega
    · have h3 := hn (runTo insideI l (x + 1) - (x + 1)) (by omega) (by omega)
      rw [bx_fr (by omega) (by omega), show x + 1 + (runTo insideI l (x + 1) - (x + 1)) = runTo insideI l (x + 1) by omega] at h3
      omega
  · obtain ⟨a1, a2, a3⟩ := idxB_some (by decide) (by decide) h2
    generalize idxB (fr l (x + 1)) 34 = n at *
    rw [bx_fr (by omega) h2] at a2
    refine ⟨by omega, a2, fun hq => ?_, fun hq hb => ?_⟩
    · have hlt : runTo insideI l (x + 1) < x + 1 + n := by
        apply Decidable.byContradiction
        intro hge
        have hle2 : x + 1 + n ≤ ln l := by omega
        have : quotedB (sub l (x + 1) (x + 1 + n)) = true := quotedB_iff.2 fun i h4 h5 => by
          rw [ln_sub (l := l) (i := x + 1) (j := x + 1 + n) (by omega) (by omega) hle2] at h5
          rw [bx_sub (s := l) (i := x + 1) (j := x + 1 + n) (k := i) (by omega) h4 (by omega)]
          exact runTo_all (i := x + 1) _ (by omega) (by omega)
        rw [this] at hq
        cases hq
      have h3 := a3 (runTo insideI l (x + 1) - (x + 1)) (by omega) (by omega)
      rw [bx_fr (by omega) (by omega), show x + 1 + (runTo insideI l (x + 1) - (x + 1)) = runTo insideI l (x + 1) by omega] at h3
      omega
    · have he : runTo insideI l (x + 1) = x + 1 + n := by
        refine runTo_eq (by omega) (by omega) (by omega) (fun j h4 h5 => ?_) (.inr (by rw [a2]; rfl))
        have := quotedB_iff.1 hq (j - (x + 1)) (by omega) (by rw [ln_sub (by omega) (by omega) (by omega)]; omega)
        rwa [bx_sub (by omega) (by omega) (by omega), show x + 1 + (j - (x + 1)) = j by omega] at this
      rw [he] at hc
      rw [show x + 1 + n + 1 = x + n + 2 by omega] at hc
      rw [show x + 1 + n = x + n + 1 by omega] at *
      constructor <;> intros <;> omega

theorem ix_splitI_len {c : Int} {s : List UInt8} {k : Int} (h0 : 0 ≤ k) (h : k < ln (splitI c s)) : ln (ix (splitI c s) k) ≤ ln s := splitI_mem_len (ix_mem h0 h)

theorem rows_line' {L : List (List UInt8)} {k : Int} {out : List Row} {R : List Row × Int × Int} {x : Int} (h0 : 0 ≤ k) (h1 : k < ln L) (hi : R = withR out (rowsS (fr L k) x)) :
    (1000 < ln (ix L k) → R = ([], 4, x)) ∧ (ln (ix L k) ≤ 1000 → 0 ≤ (cutS (ix L k) x 0).2 → R = ([], 3, x + (cutS (ix L k) x 0).2)) ∧
    (ln (ix L k) ≤ 1000 → (cutS (ix L k) x 0).2 < 0 → R = withR (if (cutS (ix L k) x 0).1 = [] then out else out ++ [⟨x, (cutS (ix L k) x 0).1⟩]) (rowsS (fr L (k + 1)) (x + (ln (ix L k) + 1)))) := by
  rw [fr_cons h0 h1] at hi
  have := rows_line hi
  rwa [Int.add_assoc] at this

theorem cut_skip {l : List UInt8} {f x y : Int} (h0 : 0 ≤ x) (hxy : runTo blankI l x = runTo blankI l y) (hy : ln l ≤ y ∨ bx l y ≠ 32) : cutS l f x = cutS l f y := by
  rw [blank_stop hy] at hxy
  rw [cutS, hxy]
  have e : runTo blankI l y = y := blank_stop hy
  exact (by rw [cutS, e] : cutS l f y = _).symm
theorem not_plain {b : Int} (h : classI b ≠ 112) : plainI b = false := by rw [← Bool.not_eq_true]; exact mt class_p.2 h

set_option maxHeartbeats 4000000 in
theorem RowsW_ok (a0 : List UInt8) : RowsW_VC a0 := by
  have hl := ln_nonneg a0
  have hb : bx [10] 0 = 10 := rfl
  have hb2 : ln ([10] : List UInt8) = 1 := rfl
  have hc := ln_splitI (s := a0) (c := 10) (by decide) (by decide)
  have hd := cntB_bd a0 10
  unfold RowsW_VC
  simp only [inv_RowsW_0, minv_RowsW_0, inv_RowsW_1, minv_RowsW_1, inv_RowsW_2, minv_RowsW_2, inv_RowsW_3, minv_RowsW_3, and_imp, ln_snoc, hb, hb2]
  unhygienic (repeat' (first | exact trivial | apply And.intro | (intro; intros)))
  all_goals first
    | omega
    | exact short_snoc (by omega)
    | (rw [rowsR_long (by omega)]; done)
    | exact Eq.trans (by assumption) (runTo_step (by omega) (by omega) (blankI_iff.2 (by assumption)))
    | exact Eq.trans (by assumption) (runTo_step (by omega) (by omega) (class_p.1 (by assumption)))
    | (have := bx_bd (ix (splitI 10 a0) x3) x10; omega)
    | (have := bx_bd (ix (splitI 10 a0) x3) x18; omega)
    | (have h1 := ix_splitI_len (s := a0) (c := 10) (k := x3) (by omega) (by omega); have h2 := ln_nonneg (ix (splitI 10 a0) x3); omega)
    | (have QP := quoted_prog (l := ix (splitI 10 a0) x3) (x := x10) (by omega) (by omega); have Q := QP.2.2 (by omega); have Q1 := Q.1; first | omega | (rw [ln_sub (by omega) (by omega) (by omega)]; omega))
    | (have hg := runTo_gt (p := plainI) (s := ix (splitI 10 a0) x3) (i := x10) (by omega) (by omega) (class_other (by assumption) (by assumption) (by omega) (by omega)); have hs := runTo_stop (p := plainI) (s := ix (splitI 10 a0) x3) (i := x18) (by first | exact .inl (by omega) | exact .inr (not_plain (by assumption))); omega)
    | (have hx := a_12.trans (congrArg (withW x7) (cut_skip (by omega) (by assumption) (by omega)))
       first
        | exact cutI_plain hx (Int.add_comm _ _) (by omega) (by omega) (class_other (by assumption) (by assumption) (by omega) (by omega)) (Eq.trans (by assumption) (runTo_stop (by first | exact .inl (by omega) | exact .inr (not_plain (by assumption)))))
        | (have QP := quoted_prog (l := ix (splitI 10 a0) x3) (x := x10) (by omega) (by omega)
           exact cutI_quote hx (Int.add_comm _ _) (by omega) (by omega) (class_q.1 (by assumption)) (((QP.2.2 (by omega)).2.2.2 (by assumption) (fun _ => by omega)).2 (by omega)) (by omega))
        | (have CE := cutI_end hx (by omega)
           have L1 := (rows_line' (by omega) (by omega) (by assumption : rowsS (splitI 10 a0) 0 = withR x1 (rowsS (fr (splitI 10 a0) x3) x2))).2.2 (by omega) (by rw [CE]; show (-1 : Int) < 0; decide)
           rw [CE] at L1
           first
            | exact L1.trans (by rw [if_neg (ne_of_ln (by omega))])
            | exact L1.trans (by rw [if_pos (ln_zero (by omega))]))
        | (have CB := cutI_bad hx (by omega) (by omega) (by omega) (by
             first
              | (refine .inr ⟨?_, by omega, ?_⟩
                 · exact (class_x' (by assumption) (bx_bd _ _).1).1
                 · exact (class_x' (by assumption) (bx_bd _ _).1).2.2.2)
              | (refine .inl ⟨class_q.1 (by assumption), ?_⟩
                 have QP := quoted_prog (l := ix (splitI 10 a0) x3) (x := x10) (by omega) (by omega)
                 first
                  | (have := QP.1 (by omega) (by omega); omega)
                  | (have := QP.2.1 (by omega); omega)
                  | (have := (QP.2.2 (by omega)).2.2.1 (by assumption); omega)
                  | (have := ((QP.2.2 (by omega)).2.2.2 (by assumption) (fun _ => by omega)).1 (by omega) (by omega) (by omega); omega)))
           have L1 := (rows_line' (by omega) (by omega) (by assumption : rowsS (splitI 10 a0) 0 = withR x1 (rowsS (fr (splitI 10 a0) x3) x2))).2.1 (by omega) (by rw [CB]; show (0 : Int) ≤ x10; omega)
           rw [CB] at L1
           rw [rowsR_short (by omega), L1]))
    | exact withW_nil (cutS_form _ _ _ (Int.le_refl 0))
    | (rw [fr_zero]; exact withR_nil (rowsS_form _ _))
    | (rw [rowsR_short (by omega), a_6, fr_all (by omega)]; simp only [rowsS, withR_end]; done)
    | (rw [rowsR_short (by omega), (rows_line' (by omega) (by omega) (by assumption : rowsS (splitI 10 a0) 0 = withR x1 (rowsS (fr (splitI 10 a0) x3) x2))).1 (by omega)]; done)
    | with_reducible exact Int.le_refl _
    | exact ln_nil_le
    | with_reducible rfl
    | exact Int.le_refl _

/-! ### Rows that are alike -/
theorem sameAll_len {α : Type} {p : α → α → Bool} : ∀ {a b : List α}, ln a ≠ ln b → sameAll p a b = false
  | [], [], h => absurd rfl h
  | [], _ :: _, _ => rfl
  | _ :: _, [], _ => rfl
  | _ :: l, _ :: m, h => by
    rw [ln_cons, ln_cons] at h
    rw [sameAll, sameAll_len (a := l) (b := m) (by omega), Bool.and_false]
theorem sameAll_step {α : Type} [Inhabited α] {p : α → α → Bool} {a b : List α} {x : Int} (h0 : 0 ≤ x) (h1 : x < ln a) (h2 : x < ln b) : sameAll p (fr a x) (fr b x) = (p (ix a x) (ix b x) && sameAll p (fr a (x + 1)) (fr b (x + 1))) := by
  rw [fr_cons h0 h1, fr_cons h0 h2, sameAll]
theorem sameAll_end {α : Type} {p : α → α → Bool} {a b : List α} {x : Int} (h1 : ln a ≤ x) (h2 : ln b ≤ x) : sameAll p (fr a x) (fr b x) = true := by
  rw [fr_all h1, fr_all h2, sameAll]
section
variable {a0 a1 : List Row} {a2 : Bool} {x y : Int}
theorem same_row_false (hi : sameR a0 a1 a2 = sameR (fr a0 x) (fr a1 x) a2) (h0 : 0 ≤ x) (h1 : x < ln a0) (h2 : x < ln a1) (h : sameRow a2 (ix a0 x) (ix a1 x) = false) : sameR a0 a1 a2 = false := by
  rw [hi, sameR, sameAll_step h0 h1 h2, h]; rfl
theorem same_row_true (hi : sameR a0 a1 a2 = sameR (fr a0 x) (fr a1 x) a2) (h0 : 0 ≤ x) (h1 : x < ln a0) (h2 : x < ln a1) (h : sameRow a2 (ix a0 x) (ix a1 x) = true) : sameR a0 a1 a2 = sameR (fr a0 (x + 1)) (fr a1 (x + 1)) a2 := by
  rw [hi, sameR, sameAll_step h0 h1 h2, h]; rfl
end
section
variable {a b : Row} {off : Bool} {y : Int}
theorem row_len (h : ln a.Words ≠ ln b.Words) : sameRow off a b = false := by simp only [sameRow, decide_eq_false h, Bool.false_and]
theorem row_at (ho : off = true) (h : a.At ≠ b.At) : sameRow off a b = false := by simp [sameRow, ho, h]
theorem row_words (h : sameAll (sameWord off) a.Words b.Words = false) : sameRow off a b = false := by simp only [sameRow, h, Bool.and_false]
theorem row_true (h1 : ln a.Words = ln b.Words) (h2 : off = false ∨ a.At = b.At) (h : sameAll (sameWord off) a.Words b.Words = true) : sameRow off a b = true := by
  rcases h2 with h2 | h2
  · subst h2
    simp [sameRow, h, h1]
  · simp [sameRow, h, h1, h2]
end
theorem word_text {a b : Word} {off : Bool} (h : a.Text ≠ b.Text) : sameWord off a b = false := by simp [sameWord, h]
theorem word_quoted {a b : Word} {off : Bool} (h : a.Quoted ≠ b.Quoted) : sameWord off a b = false := by simp [sameWord, h]
theorem word_at {a b : Word} {off : Bool} (ho : off = true) (h : a.At ≠ b.At) : sameWord off a b = false := by simp [sameWord, h, ho]
theorem word_true {a b : Word} {off : Bool} (h1 : a.Text = b.Text) (h2 : a.Quoted = b.Quoted) (h3 : off = false ∨ a.At = b.At) : sameWord off a b = true := by
  rcases h3 with h3 | h3 <;> simp [sameWord, h1, h2, h3]

set_option maxHeartbeats 4000000 in
theorem sameR__ok (a0 a1 : List Row) (a2 : Bool) (hp : ln a0 ≤ 1000000000 ∧ (∀ r ∈ a0, ln r.Words ≤ 1000000000)) : sameR__VC a0 a1 a2 := by
  obtain ⟨p1, p2⟩ := hp
  have hl := ln_nonneg a0
  unfold sameR__VC
  simp only [inv_sameR__0, minv_sameR__0, inv_sameR__1, minv_sameR__1, and_imp]
  unhygienic (repeat' (first | exact trivial | apply And.intro | (intro; intros)))
  all_goals first
    | omega
    | exact (sameAll_len (by omega)).symm
    | exact ln_nonneg _
    | (have h1 := p2 (ix a0 x1) (ix_mem (by omega) (by omega)); omega)
    | (have h1 := ln_nonneg (ix a0 x1).Words; omega)
    | (rw [fr_zero, fr_zero]; done)
    | exact (same_row_false (by assumption) (by omega) (by omega) (by omega) (row_len (by omega))).symm
    | exact (same_row_false (by assumption) (by omega) (by omega) (by omega) (row_at (by assumption) (by assumption))).symm
    | (refine (same_row_false (by assumption) (by omega) (by omega) (by omega) (row_words (Eq.trans (by assumption) ((sameAll_step (by omega) (by omega) (by omega)).trans ?_)))).symm
       first
        | (rw [word_text (by assumption)]; rfl)
        | (rw [word_quoted (by assumption)]; rfl)
        | (rw [word_at (by assumption) (by assumption)]; rfl))
    | (refine Eq.trans (by assumption) ((sameAll_step (by omega) (by omega) (by omega)).trans ?_)
       rw [word_true (by assumption) (by assumption) (by first | exact .inl (by assumption) | exact .inr (by assumption))]; rfl)
    | exact same_row_true (by assumption) (by omega) (by omega) (by omega) (row_true (by omega) (by first | exact .inl (by assumption) | exact .inr (by assumption)) (Eq.trans (by assumption) (sameAll_end (by omega) (by omega))))
    | exact (Eq.trans (by assumption) (sameAll_end (by omega) (by omega))).symm

/-! ### How many -/
theorem cutS_words (l : List UInt8) (f i : Int) (h0 : 0 ≤ i) (h : i ≤ ln l) : ln (cutS l f i).1 ≤ ln l - i := by
  have hg := runTo_ge (p := blankI) (s := l) (i := i)
  have hr := runTo_le (p := blankI) (s := l) (i := i) h
  fun_induction cutS l f i with
  | case1 i h1 => show ln ([] : List Word) ≤ _; rw [ln_nil]; omega
  | case2 i h1 h2 h3 h4 ih => 
    have := ih (by omega) (by omega) runTo_ge (runTo_le (by omega))
    show ln (_ :: _) ≤ _
    rw [ln_cons]; omega
  | case3 i h1 h2 h3 h4 ih => show ln ([] : List Word) ≤ _; rw [ln_nil]; omega
  | case4 i h1 h2 h3 => show ln ([] : List Word) ≤ _; rw [ln_nil]; omega
  | case5 i h1 h2 h3 h4 h5 ih => 
    have := ih (by omega) (by omega) runTo_ge (runTo_le (by omega))
    show ln (_ :: _) ≤ _
    rw [ln_cons]; omega
  | case6 i h1 h2 h3 h4 h5 ih => show ln ([] : List Word) ≤ _; rw [ln_nil]; omega
  | case7 i h1 h2 h3 h4 => show ln ([] : List Word) ≤ _; rw [ln_nil]; omega
  | case8 i h1 h2 h3 => show ln ([] : List Word) ≤ _; rw [ln_nil]; omega

theorem rowsS_bd : ∀ (L : List (List UInt8)) (x : Int), ln (rowsS L x).1 ≤ ln L ∧ ∀ r ∈ (rowsS L x).1, ln r.Words ≤ 1000
  | [], x => ⟨Int.le_refl _, fun r h => by cases h⟩
  | l :: L, x => by
    have hn : ln ([] : List Row) ≤ ln (l :: L) ∧ ∀ r ∈ ([] : List Row), ln r.Words ≤ 1000 := ⟨by rw [ln_nil]; exact ln_nonneg _, fun r h => by cases h⟩
    have ih := rowsS_bd L (x + ln l + 1)
    unfold rowsS
    split
    · exact hn
    · split
      · exact hn
      · rename_i h1 h2
        have hw := cutS_words l x 0 (Int.le_refl 0) (ln_nonneg l)
        split
        · split
          · exact ⟨by rw [ln_cons]; show ln (rowsS L _).1 ≤ _; omega, ih.2⟩
          · refine ⟨by show ln (_ :: _) ≤ _; rw [ln_cons, ln_cons]; omega, fun r hr => ?_⟩
            rcases List.mem_cons.1 hr with rfl | hr
            · show ln (cutS l x 0).1 ≤ 1000; omega
            · exact ih.2 r hr
        · exact hn

theorem rowsR_bd (a0 : List UInt8) : ln (rowsR a0).1 ≤ 20001 ∧ ∀ r ∈ (rowsR a0).1, ln r.Words ≤ 1000 := by
  unfold rowsR
  split
  · exact ⟨by show ln ([] : List Row) ≤ _; rw [ln_nil]; omega, fun r h => by cases h⟩
  · have h1 := rowsS_bd (splitI 10 a0) 0
    have h2 := ln_splitI (s := a0) (c := 10) (by decide) (by decide)
    have h3 := cntB_bd a0 10
    exact ⟨by omega, h1.2⟩

end Go.Proofs.YtofmpipjklcjhaaDoor
