/- THE CONDITIONS of the functions on names, mensurations and signs hold. -/
import Derived.Test.YtlkfjinaiepocaaDoorVcs
namespace Go.Proofs.YtlkfjinaiepocaaDoor
open Go Go.E2 Go.E3
set_option maxRecDepth 100000

theorem nameI_iff (b : Int) : nameI b = true ↔ ((97 ≤ b ∧ b ≤ 122) ∨ (48 ≤ b ∧ b ≤ 57) ∨ b = 45) := by
  simp only [nameI, letterI, Bool.or_eq_true, Bool.and_eq_true, decide_eq_true_eq]; omega
theorem nameB_iff (s : List UInt8) : nameB s = true ↔ (1 ≤ ln s ∧ ln s ≤ 20 ∧ 97 ≤ bx s 0 ∧ bx s 0 ≤ 122 ∧ ∀ j, 0 ≤ j → j < ln s → nameI (bx s j) = true) := by
  simp only [nameB, letterI, Bool.and_eq_true, decide_eq_true_eq, List.all_eq_true]
  constructor
  · rintro ⟨⟨⟨h1, h2⟩, h3, h4⟩, h5⟩
    exact ⟨h1, h2, h3, h4, fun j h0 h => h5 _ (ix_mem h0 h)⟩
  · rintro ⟨h1, h2, h3, h4, h5⟩
    refine ⟨⟨⟨h1, h2⟩, h3, h4⟩, fun b hb => ?_⟩
    obtain ⟨i, i0, i1, rfl⟩ := mem_ix hb
    exact h5 i i0 i1
theorem nameB_t {s : List UInt8} (h : 1 ≤ ln s ∧ ln s ≤ 20 ∧ 97 ≤ bx s 0 ∧ bx s 0 ≤ 122 ∧ ∀ j, 0 ≤ j → j < ln s → nameI (bx s j) = true) : true = nameB s := ((nameB_iff s).2 h).symm
theorem nameB_f {s : List UInt8} (h : ¬ (1 ≤ ln s ∧ ln s ≤ 20 ∧ 97 ≤ bx s 0 ∧ bx s 0 ≤ 122 ∧ ∀ j, 0 ≤ j → j < ln s → nameI (bx s j) = true)) : false = nameB s := by
  cases hb : nameB s with
  | false => rfl
  | true => exact absurd ((nameB_iff s).1 hb) h
theorem name_next {s : List UInt8} {i : Int} (h : ∀ j, 0 ≤ j → j < i → nameI (bx s j) = true) (hi : (97 ≤ bx s i ∧ bx s i ≤ 122) ∨ (48 ≤ bx s i ∧ bx s i ≤ 57) ∨ bx s i = 45) : ∀ j, 0 ≤ j → j < i + 1 → nameI (bx s j) = true := by
  intro j h0 hj
  by_cases he : j = i
  · subst he; exact (nameI_iff _).2 hi
  · exact h j h0 (by omega)
theorem name_not {s : List UInt8} {i : Int} (h0 : 0 ≤ i) (h : i < ln s) (hi : ¬ ((97 ≤ bx s i ∧ bx s i ≤ 122) ∨ (48 ≤ bx s i ∧ bx s i ≤ 57) ∨ bx s i = 45)) : false = nameB s :=
  nameB_f fun hh => hi ((nameI_iff _).1 (hh.2.2.2.2 i h0 h))

theorem NameW_ok (a0 : List UInt8) (hp : ln a0 ≤ 9223372036854775806) : NameW_VC a0 := by
  unfold NameW_VC
  have hn := ln_nonneg a0
  unhygienic (repeat' (first | exact trivial | exact And.intro (by omega) trivial | apply And.intro | intro))
  all_goals try simp only [inv_NameW_0, minv_NameW_0] at *
  all_goals first
    | omega
    | exact ⟨by omega, by omega, fun j h0 h => absurd h (by omega)⟩
    | (refine nameB_f fun hh => ?_; omega)
    | (exact name_next a_4.2.2 (by omega) j (by assumption) (by assumption))
    | (obtain ⟨i0, i1, i2⟩ := a_4; exact name_not i0 (by assumption) (by omega))
    | (obtain ⟨i0, i1, i2⟩ := a_4; exact nameB_t ⟨by omega, by omega, by omega, by omega, fun j h0 h => i2 j h0 (by omega)⟩)

theorem NameR_ok (a0 : List UInt8) (hp : ln a0 ≤ 9223372036854775806) : NameR_VC a0 := by
  unfold NameR_VC
  have hn := ln_nonneg a0
  have he : a0 = [] → ln a0 = 0 := fun h => by rw [h]; rfl
  have he' : a0 ≠ [] → 1 ≤ ln a0 := fun h => by
    rcases Nat.eq_zero_or_pos a0.length with h' | h'
    · exact absurd (List.length_eq_zero_iff.1 h') h
    · simp only [ln]; omega
  unhygienic (repeat' (first | exact trivial | exact And.intro (by omega) trivial | apply And.intro | intro))
  all_goals try simp only [inv_NameR_0, minv_NameR_0] at *
  all_goals first
    | omega
    | exact ⟨by omega, by omega, fun j h0 h => absurd h (by omega)⟩
    | (have h1 := he' (by assumption); omega)
    | (have h1 := he (by assumption); refine nameB_f fun hh => ?_; omega)
    | (refine nameB_f fun hh => ?_; omega)
    | (exact name_next a.2.2 (by omega) j (by assumption) (by assumption))
    | (obtain ⟨i0, i1, i2⟩ := a; exact name_not i0 (by assumption) (by omega))
    | (obtain ⟨i0, i1, i2⟩ := a; exact nameB_t ⟨by omega, by omega, by omega, by omega, fun j h0 h => i2 j h0 (by omega)⟩)
    | skip
  · have h1 := he' a_2
    by_cases hx : bx a0 0 ≤ 122
    · rw [decide_eq_true hx]
      exact nameB_t ⟨by omega, by omega, by omega, hx, fun j h0 h => a.2.2 j h0 (by omega)⟩
    · rw [decide_eq_false hx]
      exact nameB_f fun hh => by omega

theorem CheckM_ok (a0 a1 a2 a3 : Int) : CheckM_VC a0 a1 a2 a3 := by
  unfold CheckM_VC
  unhygienic (repeat' (first | exact trivial | apply And.intro | intro))
  all_goals try simp only [inv_CheckM_0, minv_CheckM_0] at *
  all_goals first
    | omega
    | (unfold mensC; split <;> omega)

theorem CheckMR_ok (a0 a1 a2 a3 : Int) : CheckMR_VC a0 a1 a2 a3 := by
  have h0 : ix [a0, a1, a2, a3] 0 = a0 := rfl
  have h1 : ix [a0, a1, a2, a3] 1 = a1 := rfl
  have h2 : ix [a0, a1, a2, a3] 2 = a2 := rfl
  have h3 : ix [a0, a1, a2, a3] 3 = a3 := rfl
  have hl : ln [a0, a1, a2, a3] = 4 := rfl
  have hb : ∀ i, 0 ≤ i → i < 4 → ix [a0, a1, a2, a3] i ≠ 2 → ix [a0, a1, a2, a3] i ≠ 3 → mensC a0 a1 a2 a3 = 12 := by
    intro i i0 i1 n2 n3
    have : i = 0 ∨ i = 1 ∨ i = 2 ∨ i = 3 := by omega
    unfold mensC
    rcases this with rfl | rfl | rfl | rfl
    all_goals rw [if_neg (by omega)]
  have hg : (∀ j, 0 ≤ j → j < 4 → (ix [a0, a1, a2, a3] j = 2 ∨ ix [a0, a1, a2, a3] j = 3)) → mensC a0 a1 a2 a3 = 0 := by
    intro h
    have q0 := h 0 (by omega) (by omega)
    have q1 := h 1 (by omega) (by omega)
    have q2 := h 2 (by omega) (by omega)
    have q3 := h 3 (by omega) (by omega)
    unfold mensC
    rw [if_pos (by omega)]
  have hx : ∀ i, (∀ j, 0 ≤ j → j < i → (ix [a0, a1, a2, a3] j = 2 ∨ ix [a0, a1, a2, a3] j = 3)) → (ix [a0, a1, a2, a3] i = 2 ∨ ix [a0, a1, a2, a3] i = 3) → ∀ j, 0 ≤ j → j < i + 1 → (ix [a0, a1, a2, a3] j = 2 ∨ ix [a0, a1, a2, a3] j = 3) := by
    intro i h hi j j0 j1
    by_cases he : j = i
    · rw [he]; exact hi
    · exact h j j0 (by omega)
  unfold CheckMR_VC
  unhygienic (repeat' (first | exact trivial | exact And.intro (by omega) trivial | apply And.intro | intro))
  all_goals try simp only [inv_CheckMR_0, minv_CheckMR_0, ok23] at *
  all_goals first
    | omega
    | exact ⟨by omega, by omega, fun j h0 h => absurd h (by omega)⟩
    | (exact hx _ a.2.2 (by omega) j (by assumption) (by assumption))
    | (obtain ⟨i0, i1, i2⟩ := a; exact (hb _ i0 (by omega) (by assumption) (by assumption)).symm)
    | (obtain ⟨i0, i1, i2⟩ := a; exact (hg fun j j0 j1 => i2 j j0 (by omega)).symm)

theorem used_ok (a0 a1 a2 a3 : Int) (a4 : Bool) (a5 : Int) (a6 a7 : Bool) (a8 a9 a10 a11 : Int) (a12 : Bool) (a13 a14 a15 a16 : Int) : used_VC a0 a1 a2 a3 a4 a5 a6 a7 a8 a9 a10 a11 a12 a13 a14 a15 a16 := by
  unfold used_VC
  simp only [usedS]
  unhygienic (repeat' (first | exact trivial | apply And.intro | intro))
  all_goals simp_all

theorem ranges_ok (a0 a1 a2 a3 : Int) (a4 : Bool) (a5 : Int) (a6 a7 : Bool) (a8 a9 a10 a11 : Int) (a12 : Bool) (a13 a14 a15 a16 : Int) : ranges_VC a0 a1 a2 a3 a4 a5 a6 a7 a8 a9 a10 a11 a12 a13 a14 a15 a16 := by
  unfold ranges_VC
  unhygienic (repeat' (first | exact trivial | apply And.intro | intro))
  all_goals grind (splits := 40) [rangeC]

theorem OneR_ok (a0 a1 a2 a3 : Int) (a4 : Bool) (a5 : Int) (a6 a7 : Bool) (a8 a9 a10 a11 : Int) (a12 : Bool) (a13 a14 a15 a16 : Int) : OneR_VC a0 a1 a2 a3 a4 a5 a6 a7 a8 a9 a10 a11 a12 a13 a14 a15 a16 := by
  unfold OneR_VC
  unhygienic (repeat' (first | exact trivial | apply And.intro | intro))
  all_goals try omega
  all_goals grind (splits := 40) [oneC, keptC, mensC, usedS]

theorem CheckSg_ok (a0 : List UInt8) (a1 : List Sign) (hp : ln a0 ≤ 1000000000 ∧ ln a1 ≤ 1000000000) : CheckSg_VC a0 a1 := by
  unfold CheckSg_VC
  simp only [sign_eta]
  unhygienic (repeat' (first | exact trivial | exact And.intro (by omega) trivial | apply And.intro | intro))
  all_goals try simp only [inv_CheckSg_0, minv_CheckSg_0] at *
  all_goals first
    | omega
    | skip
  all_goals grind [checkC, chk_step, chk_err, chk_end, errAt, badT, ins]

theorem CheckSR_ok (a0 : List UInt8) (a1 : List Sign) (hp : ln a0 ≤ 1000000000 ∧ ln a1 ≤ 1000000000) : CheckSR_VC a0 a1 := by
  unfold CheckSR_VC
  simp only [sign_eta]
  unhygienic (repeat' (first | exact trivial | exact And.intro (by omega) trivial | apply And.intro | intro))
  all_goals try simp only [inv_CheckSR_0, minv_CheckSR_0] at *
  all_goals first
    | omega
    | skip
  all_goals grind [checkC, chk_step, chk_err, chk_end, errAt, badT, ins]
end Go.Proofs.YtlkfjinaiepocaaDoor
