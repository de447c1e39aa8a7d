/- THE CONDITIONS of the functions on times and voices hold. -/
import Derived.Test.YtjbefleabibmmaaGreatDoorVcs
namespace Go.Proofs.YtjbefleabibmmaaGreatDoor
open Go Go.E2 Go.E3
set_option maxRecDepth 100000

theorem divisor_ok (a0 a1 : Int) (hp : 0 ≤ a0 ∧ 0 ≤ a1 ∧ a0 ≤ 4611686018427387904 ∧ a1 ≤ 4611686018427387904) : divisor_VC a0 a1 := by
  obtain ⟨h0, h1, h2, h3⟩ := hp
  refine ⟨fun h => ⟨?_, trivial⟩, fun h => ?_⟩
  · rw [h, gcdI_zero h0]
  · have t := tmod_bd h0 (show 0 < a1 by omega)
    have q := tdiv_bd h0 h1
    exact ⟨⟨h, by omega, by omega⟩, h, ⟨⟨h1, t.1, h3, by omega⟩, by omega⟩, gcdI_step h0 h1, trivial⟩

theorem gcdR_ok (a0 a1 : Int) (hp : 0 ≤ a0 ∧ 0 ≤ a1 ∧ a0 ≤ 4611686018427387904 ∧ a1 ≤ 4611686018427387904) : gcdR_VC a0 a1 := by
  obtain ⟨h0, h1, h2, h3⟩ := hp
  refine ⟨⟨h0, h1, rfl⟩, fun x y ⟨i0, i1, i2⟩ => ⟨fun h => ?_, fun h => ⟨?_, trivial⟩⟩⟩
  · have t := tmod_bd i0 h
    refine ⟨by omega, ⟨i1, t.1, by rw [gcdI_step i0 i1]; exact i2⟩, ?_⟩
    simp only [minv_gcdR_0]; omega
  · have : y = 0 := by omega
    subst this
    rw [← i2, gcdI_zero i0]

theorem CheckS_ok (a0 a1 : Int) : CheckS_VC a0 a1 := by
  unfold CheckS_VC checkT
  unhygienic (repeat' (first | exact trivial | apply And.intro | intro))
  all_goals (try split)
  all_goals (try split)
  all_goals omega

theorem CheckR_ok (a0 a1 : Int) : CheckR_VC a0 a1 := by
  have hg : 1 ≤ a1 → 1 ≤ gcdI a0 a1 := fun h => gcdI_pos h
  unfold CheckR_VC checkT
  unhygienic (repeat' (first | exact trivial | apply And.intro | intro))
  all_goals (try split)
  all_goals (try split)
  all_goals omega

theorem firstS_ok (a0 : List Time) (hp : ln a0 ≤ 1000000000) : firstS_VC a0 := by
  refine ⟨⟨by omega, ln_nonneg _, rfl⟩, fun x ⟨i0, i1, i2⟩ => ⟨fun h => ?_, fun h => ⟨?_, trivial⟩⟩⟩
  · rw [fr_cons i0 h] at i2
    simp only [firstT] at i2
    refine ⟨⟨i0, h⟩, trivial, fun hc => ⟨?_, trivial⟩, fun hc => ⟨by omega, ⟨by omega, by omega, ?_⟩, ?_⟩⟩
    · rw [if_pos hc] at i2; exact i2
    · rw [if_neg (by omega)] at i2; exact i2
    · simp only [minv_firstS_0]; omega
  · rw [fr_all h] at i2; exact i2

theorem ofR_ok (a0 a1 : Int) (hp : 0 ≤ a0 ∧ 1 ≤ a1 ∧ a0 ≤ 4611686018427387904 ∧ a1 ≤ 4611686018427387904) : ofR_VC a0 a1 := by
  obtain ⟨h0, h1, h2, h3⟩ := hp
  have g := gcdI_pos (a := a0) h1
  have q1 := tdiv_bd h0 (gcdI_nonneg a0 a1)
  have q2 := tdiv_bd (show 0 ≤ a1 by omega) (gcdI_nonneg a0 a1)
  refine ⟨⟨h0, by omega, h2, h3⟩, ⟨by omega, by omega, by omega⟩, ⟨by omega, by omega, by omega⟩, fun h => ?_, fun h => ⟨fun h' => ?_, fun h' => ?_⟩⟩
  · have e : ofT a0 a1 = (0, 0, 4) := by unfold ofT; rw [if_pos (.inl h)]
    rw [e]; exact ⟨rfl, rfl, rfl, trivial⟩
  · have e : ofT a0 a1 = (0, 0, 4) := by unfold ofT; rw [if_pos (.inr h')]
    rw [e]; exact ⟨rfl, rfl, rfl, trivial⟩
  · have e : ofT a0 a1 = (a0.tdiv (gcdI a0 a1), a1.tdiv (gcdI a0 a1), 0) := by unfold ofT; rw [if_neg (by omega)]
    rw [e]; exact ⟨rfl, rfl, rfl, trivial⟩

theorem MakeS_ok (a0 a1 : Int) (hp : 0 ≤ a0 ∧ 1 ≤ a1 ∧ a0 ≤ 4611686018427387904 ∧ a1 ≤ 4611686018427387904) : MakeS_VC a0 a1 :=
  ⟨fun h => absurd h (by omega), fun _ => ⟨fun h => absurd h (by omega), fun _ => ⟨fun h => absurd h (by omega), fun _ => ofR_ok a0 a1 hp⟩⟩⟩

theorem add_bounds {a0 a1 a2 a3 : Int} (h1 : checkT a0 a1 = 0) (h2 : checkT a2 a3 = 0) : I64 (a0 * a3) ∧ I64 (a2 * a1) ∧ I64 ((a0 * a3) + (a2 * a1)) ∧ I64 (a1 * a3) ∧
    (0 ≤ ((a0 * a3) + (a2 * a1)) ∧ 1 ≤ (a1 * a3) ∧ ((a0 * a3) + (a2 * a1)) ≤ 4611686018427387904 ∧ (a1 * a3) ≤ 4611686018427387904) ∧ I64 ((a0 * a3) - (a2 * a1)) := by
  have b1 := checkT_ok h1
  have b2 := checkT_ok h2
  have p1 := mul_bd b1.1 b1.2.1 (show 0 ≤ a3 by omega) b2.2.2.2
  have p2 := mul_bd b2.1 b2.2.1 (show 0 ≤ a1 by omega) b1.2.2.2
  have p3 := mul_ge b1.2.2.1 b2.2.2.1
  have p4 := mul_bd (show 0 ≤ a1 by omega) b1.2.2.2 (show 0 ≤ a3 by omega) b2.2.2.2
  omega

theorem AddR_ok (a0 a1 a2 a3 : Int) : AddR_VC a0 a1 a2 a3 := by
  refine ⟨trivial, fun h => ⟨fun _ => ?_, fun h' => absurd h' h⟩, fun h => ⟨trivial, fun h' => ?_, fun h' => ?_⟩⟩
  · have e : addT a0 a1 a2 a3 = (0, 0, checkT a0 a1) := by unfold addT; rw [if_pos h]
    rw [e]; exact ⟨rfl, rfl, rfl, trivial⟩
  · have e : addT a0 a1 a2 a3 = (0, 0, checkT a2 a3) := by unfold addT; rw [if_neg (by omega), if_pos h']
    rw [e]; exact ⟨rfl, rfl, rfl, trivial⟩
  · have e : addT a0 a1 a2 a3 = ofT (a0 * a3 + a2 * a1) (a1 * a3) := by unfold addT; rw [if_neg (by omega), if_neg (by omega)]
    obtain ⟨b1, b2, b3, b4, b5, _⟩ := add_bounds h h'
    rw [e]; exact ⟨b1, b2, b3, b4, b5, rfl, rfl, rfl, trivial⟩

theorem AddS_ok (a0 a1 a2 a3 : Int) : AddS_VC a0 a1 a2 a3 := by
  have hl : ln [Time.mk a0 a1, Time.mk a2 a3] = 2 := rfl
  refine ⟨trivial, trivial, by omega, fun h => ?_, fun h => ?_⟩
  · rw [first_two] at h ⊢
    by_cases h1 : checkT a0 a1 ≠ 0
    · have e : addT a0 a1 a2 a3 = (0, 0, checkT a0 a1) := by unfold addT; rw [if_pos h1]
      rw [e, if_pos h1]; exact ⟨rfl, rfl, rfl, trivial⟩
    · rw [if_neg h1] at h ⊢
      have e : addT a0 a1 a2 a3 = (0, 0, checkT a2 a3) := by unfold addT; rw [if_neg h1, if_pos h]
      rw [e]; exact ⟨rfl, rfl, rfl, trivial⟩
  · rw [first_two] at h
    have h1 : checkT a0 a1 = 0 := by
      by_cases h1 : checkT a0 a1 ≠ 0
      · rw [if_pos h1] at h; exact h
      · omega
    rw [if_neg (by omega)] at h
    have e : addT a0 a1 a2 a3 = ofT (a0 * a3 + a2 * a1) (a1 * a3) := by unfold addT; rw [if_neg (by omega), if_neg (by omega)]
    obtain ⟨b1, b2, b3, b4, b5, _⟩ := add_bounds h1 h
    rw [e]; exact ⟨b1, b2, b3, b4, b5, rfl, rfl, rfl, trivial⟩

theorem cmp_val {a0 a1 a2 a3 : Int} (h1 : checkT a0 a1 = 0) (h2 : checkT a2 a3 = 0) : cmpT a0 a1 a2 a3 = if a0 * a3 < a2 * a1 then (-1, 0) else if a2 * a1 < a0 * a3 then (1, 0) else (0, 0) := by
  unfold cmpT
  rw [if_neg (by omega), if_neg (by omega)]

theorem CompareR_ok (a0 a1 a2 a3 : Int) : CompareR_VC a0 a1 a2 a3 := by
  refine ⟨trivial, fun h => ⟨fun _ => ?_, fun h' => absurd h' h⟩, fun h => ⟨trivial, fun h' => ?_, fun h' => ?_⟩⟩
  · have e : cmpT a0 a1 a2 a3 = (0, checkT a0 a1) := by unfold cmpT; rw [if_pos h]
    rw [e]; exact ⟨rfl, rfl, trivial⟩
  · have e : cmpT a0 a1 a2 a3 = (0, checkT a2 a3) := by unfold cmpT; rw [if_neg (by omega), if_pos h']
    rw [e]; exact ⟨rfl, rfl, trivial⟩
  · obtain ⟨b1, b2, b3, b4, b5, b6⟩ := add_bounds h h'
    rw [cmp_val h h']
    refine ⟨b1, b2, fun g => ?_, fun g => ⟨fun g' => ?_, fun g' => ?_⟩⟩
    · rw [if_pos g]; exact ⟨rfl, rfl, trivial⟩
    · rw [if_neg (by omega), if_pos g']; exact ⟨rfl, rfl, trivial⟩
    · rw [if_neg (by omega), if_neg (by omega)]; exact ⟨rfl, rfl, trivial⟩

theorem CompareS_ok (a0 a1 a2 a3 : Int) : CompareS_VC a0 a1 a2 a3 := by
  have hl : ln [Time.mk a0 a1, Time.mk a2 a3] = 2 := rfl
  refine ⟨trivial, trivial, by omega, fun h => ?_, fun h => ?_⟩
  · rw [first_two] at h ⊢
    by_cases h1 : checkT a0 a1 ≠ 0
    · have e : cmpT a0 a1 a2 a3 = (0, checkT a0 a1) := by unfold cmpT; rw [if_pos h1]
      rw [e, if_pos h1]; exact ⟨rfl, rfl, trivial⟩
    · rw [if_neg h1] at h ⊢
      have e : cmpT a0 a1 a2 a3 = (0, checkT a2 a3) := by unfold cmpT; rw [if_neg h1, if_pos h]
      rw [e]; exact ⟨rfl, rfl, trivial⟩
  · rw [first_two] at h
    have h1 : checkT a0 a1 = 0 := by
      by_cases h1 : checkT a0 a1 ≠ 0
      · rw [if_pos h1] at h; exact h
      · omega
    rw [if_neg (by omega)] at h
    obtain ⟨b1, b2, b3, b4, b5, b6⟩ := add_bounds h1 h
    rw [cmp_val h1 h]
    refine ⟨b1, b2, b6, fun g => ?_, fun g => ⟨fun g' => ?_, fun g' => ?_⟩⟩
    · rw [if_pos (by omega)]; exact ⟨rfl, rfl, trivial⟩
    · rw [if_neg (by omega), if_pos (by omega)]; exact ⟨rfl, rfl, trivial⟩
    · rw [if_neg (by omega), if_neg (by omega)]; exact ⟨rfl, rfl, trivial⟩

theorem At1_ok (a0 a1 a2 a3 a4 a5 a6 : Int) (a7 : Bool) (a8 a9 a10 a11 : Int) : At1_VC a0 a1 a2 a3 a4 a5 a6 a7 a8 a9 a10 a11 := ⟨trivial, rfl, trivial⟩

theorem CheckP_ok (a0 a1 a2 : Int) : CheckP_VC a0 a1 a2 := by
  unfold CheckP_VC pitchC
  unhygienic (repeat' (first | exact trivial | apply And.intro | intro))
  all_goals (try split)
  all_goals omega
theorem CheckPR_ok (a0 a1 a2 : Int) : CheckPR_VC a0 a1 a2 := by
  unfold CheckPR_VC pitchC
  unhygienic (repeat' (first | exact trivial | apply And.intro | intro))
  all_goals (try split)
  all_goals omega

/-! ### One event -/
section
variable {a0 a1 a2 a3 a4 a5 a6 : Int} {a7 : Bool} {a8 a9 : Int}
theorem one_1 (h : checkT a0 a1 ≠ 0) : oneE ⟨a0, a1, a2, a3, a4, a5, a6, a7, a8, a9⟩ = checkT a0 a1 := by simp [oneE, h]
theorem one_2 (h : checkT a0 a1 = 0) (h2 : checkT a2 a3 ≠ 0) : oneE ⟨a0, a1, a2, a3, a4, a5, a6, a7, a8, a9⟩ = checkT a2 a3 := by simp [oneE, h, h2]
theorem one_3 (h : checkT a0 a1 = 0) (h2 : checkT a2 a3 = 0) (h3 : a2 = 0) : oneE ⟨a0, a1, a2, a3, a4, a5, a6, a7, a8, a9⟩ = 2 := by subst h3; simp [oneE, h, h2]
theorem one_4 (h : checkT a0 a1 = 0) (h2 : checkT a2 a3 = 0) (h3 : a2 ≠ 0) (h4 : a7 = true) (h5 : a4 ≠ 0 ∨ (a5 ≠ 0 ∨ a6 ≠ 0)) : oneE ⟨a0, a1, a2, a3, a4, a5, a6, a7, a8, a9⟩ = 3 := by
  unfold oneE
  dsimp only
  rw [if_neg (by omega), if_neg (by omega), if_neg h3, if_pos ⟨h4, h5⟩]
theorem one_5 (h : checkT a0 a1 = 0) (h2 : checkT a2 a3 = 0) (h3 : a2 ≠ 0) (h4 : a7 = true) (h5 : a4 = 0 ∧ (a5 = 0 ∧ a6 = 0)) : oneE ⟨a0, a1, a2, a3, a4, a5, a6, a7, a8, a9⟩ = if a8 < 0 ∨ a9 < 0 then 2 else 0 := by
  unfold oneE
  dsimp only
  rw [if_neg (by omega), if_neg (by omega), if_neg h3, if_neg (fun hh => by have := hh.2; omega), if_neg (fun hh => by rw [h4] at hh; cases hh.1)]
theorem one_6 (h : checkT a0 a1 = 0) (h2 : checkT a2 a3 = 0) (h3 : a2 ≠ 0) (h4 : a7 = false) (h5 : pitchC a4 a5 a6 ≠ 0) : oneE ⟨a0, a1, a2, a3, a4, a5, a6, a7, a8, a9⟩ = pitchC a4 a5 a6 := by
  unfold oneE
  dsimp only
  rw [if_neg (by omega), if_neg (by omega), if_neg h3, if_neg (fun hh => by rw [h4] at hh; cases hh.1), if_pos ⟨h4, h5⟩]
theorem one_7 (h : checkT a0 a1 = 0) (h2 : checkT a2 a3 = 0) (h3 : a2 ≠ 0) (h4 : a7 = false) (h5 : pitchC a4 a5 a6 = 0) : oneE ⟨a0, a1, a2, a3, a4, a5, a6, a7, a8, a9⟩ = if a8 < 0 ∨ a9 < 0 then 2 else 0 := by
  unfold oneE
  dsimp only
  rw [if_neg (by omega), if_neg (by omega), if_neg h3, if_neg (fun hh => by rw [h4] at hh; cases hh.1), if_neg (fun hh => hh.2 h5)]
end

theorem oneR_bad {x : Event} {n d e : Int} (h : oneE x = e) (he : e ≠ 0) : oneR x n d = e := by unfold oneR; rw [h, if_pos he]
theorem oneR_ord {x : Event} {n d : Int} (h : oneE x = 0) (h2 : x.AtN ≠ n ∨ x.AtD ≠ d) : oneR x n d = 6 := by unfold oneR; rw [if_neg (by omega), if_pos h2]
theorem oneR_add {x : Event} {n d : Int} (h : oneE x = 0) (h2 : x.AtN = n ∧ x.AtD = d) : oneR x n d = (addT x.AtN x.AtD x.DurN x.DurD).2.2 := by unfold oneR; rw [if_neg (by omega), if_neg (by omega)]

theorem oneS_ok (a0 a1 a2 a3 a4 a5 a6 : Int) (a7 : Bool) (a8 a9 : Int) : oneS_VC a0 a1 a2 a3 a4 a5 a6 a7 a8 a9 := by
  have hl : ln [Time.mk a0 a1, Time.mk a2 a3] = 2 := rfl
  refine ⟨trivial, trivial, ⟨by omega, by omega, fun h => by omega, fun h => by omega⟩, fun x ⟨i0, i1, i2, i3⟩ => ⟨fun h => ?_, fun h => ?_⟩⟩
  · rcases (show x = 0 ∨ x = 1 by omega) with rfl | rfl
    · refine ⟨⟨by omega, by omega⟩, trivial, fun hc => ⟨(one_1 hc).symm, trivial⟩, fun hc => ⟨by omega, rfl, rfl, rfl, rfl, rfl, rfl, rfl, rfl, rfl, rfl, ⟨by omega, by omega, fun _ => hc, fun h => by omega⟩, ?_⟩⟩
      simp only [minv_oneS_0]; omega
    · refine ⟨⟨by omega, by omega⟩, trivial, fun hc => ⟨(one_2 (i2 (by omega)) hc).symm, trivial⟩, fun hc => ⟨by omega, rfl, rfl, rfl, rfl, rfl, rfl, rfl, rfl, rfl, rfl, ⟨by omega, by omega, fun _ => i2 (by omega), fun _ => hc⟩, ?_⟩⟩
      simp only [minv_oneS_0]; omega
  · have c1 := i2 (by omega)
    have c2 := i3 (by omega)
    refine ⟨fun h3 => ⟨(one_3 c1 c2 h3).symm, trivial⟩, fun h3 => ⟨fun h4 => ⟨fun h5 => ⟨(one_4 c1 c2 h3 h4 h5).symm, trivial⟩, fun h5 => ?_⟩, fun h4 => ⟨trivial, fun h5 => ⟨(one_6 c1 c2 h3 h4 h5).symm, trivial⟩, fun h5 => ?_⟩⟩⟩
    · rw [one_5 c1 c2 h3 h4 h5]
      refine ⟨fun h6 => ⟨?_, trivial⟩, fun h6 => ⟨fun h7 => ⟨?_, trivial⟩, fun h7 => ⟨?_, trivial⟩⟩⟩
      · rw [if_pos (.inl h6)]
      · rw [if_pos (.inr h7)]
      · rw [if_neg (by omega)]
    · rw [one_7 c1 c2 h3 h4 h5]
      refine ⟨fun h6 => ⟨?_, trivial⟩, fun h6 => ⟨fun h7 => ⟨?_, trivial⟩, fun h7 => ⟨?_, trivial⟩⟩⟩
      · rw [if_pos (.inl h6)]
      · rw [if_pos (.inr h7)]
      · rw [if_neg (by omega)]

theorem oneR__ok (a0 a1 a2 a3 a4 a5 a6 : Int) (a7 : Bool) (a8 a9 a10 a11 : Int) : oneR__VC a0 a1 a2 a3 a4 a5 a6 a7 a8 a9 a10 a11 := by
  refine ⟨trivial, fun c1 => ⟨(oneR_bad (one_1 c1) c1).symm, trivial⟩, fun c1 => ⟨trivial, fun c2 => ⟨(oneR_bad (one_2 c1 c2) c2).symm, trivial⟩, fun c2 => ⟨fun h3 => ⟨(oneR_bad (one_3 c1 c2 h3) (by omega)).symm, trivial⟩, fun h3 => ⟨fun h4 => ⟨fun h5 => ⟨(oneR_bad (one_4 c1 c2 h3 h4 h5) (by omega)).symm, trivial⟩, fun h5 => ?_⟩, fun h4 => ⟨trivial, fun h5 => ⟨(oneR_bad (one_6 c1 c2 h3 h4 h5) h5).symm, trivial⟩, fun h5 => ?_⟩⟩⟩⟩⟩
  · have e := one_5 (a8 := a8) (a9 := a9) c1 c2 h3 h4 h5
    refine ⟨fun h6 => ⟨?_, trivial⟩, fun h6 => ⟨fun h7 => ⟨?_, trivial⟩, fun h7 => ⟨fun h8 => ⟨?_, trivial⟩, fun h8 => ⟨trivial, ?_, trivial⟩⟩⟩⟩
    · rw [if_pos (.inl h6)] at e; exact (oneR_bad e (by omega)).symm
    · rw [if_pos (.inr h7)] at e; exact (oneR_bad e (by omega)).symm
    · rw [if_neg (by omega)] at e; exact (oneR_ord e h8).symm
    · rw [if_neg (by omega)] at e; exact (oneR_add e h8).symm
  · have e := one_7 (a8 := a8) (a9 := a9) c1 c2 h3 h4 h5
    refine ⟨fun h6 => ⟨?_, trivial⟩, fun h6 => ⟨fun h7 => ⟨?_, trivial⟩, fun h7 => ⟨fun h8 => ⟨?_, trivial⟩, fun h8 => ⟨trivial, ?_, trivial⟩⟩⟩⟩
    · rw [if_pos (.inl h6)] at e; exact (oneR_bad e (by omega)).symm
    · rw [if_pos (.inr h7)] at e; exact (oneR_bad e (by omega)).symm
    · rw [if_neg (by omega)] at e; exact (oneR_ord e h8).symm
    · rw [if_neg (by omega)] at e; exact (oneR_add e h8).symm

/-! ### Voices -/
theorem check_step {a0 : List Event} {x n d : Int} (hl : ln a0 ≤ 2000) (h0 : 0 ≤ x) (h1 : x < ln a0) (hi : checkGo (fr a0 x) x n d = checkGo a0 0 0 1) :
    (oneR (ix a0 x) n d ≠ 0 → checkE a0 = (oneR (ix a0 x) n d, x)) ∧ (oneR (ix a0 x) n d = 0 → checkGo (fr a0 (x + 1)) (x + 1) (addT (ix a0 x).AtN (ix a0 x).AtD (ix a0 x).DurN (ix a0 x).DurD).1 (addT (ix a0 x).AtN (ix a0 x).AtD (ix a0 x).DurN (ix a0 x).DurD).2.1 = checkGo a0 0 0 1) := by
  rw [fr_cons h0 h1] at hi
  simp only [checkGo] at hi
  refine ⟨fun h => ?_, fun h => ?_⟩
  · rw [if_pos h] at hi
    unfold checkE
    rw [if_neg (by omega)]
    exact hi.symm
  · rw [if_neg (by omega)] at hi
    exact hi
theorem check_end {a0 : List Event} {x n d : Int} (hl : ln a0 ≤ 2000) (h1 : ln a0 ≤ x) (hi : checkGo (fr a0 x) x n d = checkGo a0 0 0 1) : checkE a0 = (0, 0) := by
  rw [fr_all h1] at hi
  unfold checkE
  rw [if_neg (by omega)]
  exact hi.symm
theorem check_full {a0 : List Event} (h : 2000 < ln a0) : checkE a0 = (11, 0) := by unfold checkE; rw [if_pos h]

theorem CheckE_ok (a0 : List Event) (hp : ln a0 ≤ 1000000000) : CheckE_VC a0 := by
  refine ⟨fun h => ?_, fun hl => ⟨⟨by omega, ln_nonneg _, rfl⟩, fun x n d ⟨i0, i1, i2⟩ => ⟨fun h => ?_, fun h => ?_⟩⟩⟩
  · rw [check_full h]; exact ⟨rfl, rfl, trivial⟩
  · obtain ⟨s1, s2⟩ := check_step hl i0 h i2
    refine ⟨⟨i0, h⟩, trivial, fun hc => ?_, fun hc => ⟨fun ho => ?_, fun ho => ⟨trivial, fun ha => ?_, fun ha => ⟨by omega, rfl, rfl, ⟨by omega, by omega, ?_⟩, ?_⟩⟩⟩⟩
    · have e : oneR (ix a0 x) n d = oneE (ix a0 x) := oneR_bad rfl hc
      rw [s1 (by rw [e]; exact hc), e]
      exact ⟨rfl, rfl, trivial⟩
    · have e : oneR (ix a0 x) n d = 6 := oneR_ord hc ho
      rw [s1 (by rw [e]; omega), e]
      exact ⟨rfl, rfl, trivial⟩
    · have e : oneR (ix a0 x) n d = _ := oneR_add hc ho
      rw [s1 (by rw [e]; exact ha), e]
      exact ⟨rfl, rfl, trivial⟩
    · have e : oneR (ix a0 x) n d = _ := oneR_add hc ho
      exact s2 (by rw [e]; exact ha)
    · simp only [minv_CheckE_0]; omega
  · rw [check_end hl h i2]; exact ⟨rfl, rfl, trivial⟩

theorem CheckER_ok (a0 : List Event) (hp : ln a0 ≤ 1000000000) : CheckER_VC a0 := by
  refine ⟨fun h => ?_, fun hl => ⟨⟨by omega, ln_nonneg _, rfl⟩, fun x n d ⟨i0, i1, i2⟩ => ⟨fun h => ?_, fun h => ?_⟩⟩⟩
  · rw [check_full h]; exact ⟨rfl, rfl, trivial⟩
  · obtain ⟨s1, s2⟩ := check_step hl i0 h i2
    refine ⟨⟨i0, h⟩, trivial, fun hc => ?_, fun hc => ⟨⟨i0, h⟩, ⟨i0, h⟩, trivial, by omega, ⟨by omega, by omega, s2 hc⟩, ?_⟩⟩
    · rw [s1 hc]
      exact ⟨rfl, rfl, trivial⟩
    · simp only [minv_CheckER_0]; omega
  · rw [check_end hl h i2]; exact ⟨rfl, rfl, trivial⟩

theorem EndE_ok (a0 : List Event) (hp : ln a0 ≤ 1000000000) : EndE_VC a0 := by
  have h0 := ln_nonneg a0
  refine ⟨hp, fun h => ?_, fun h => ⟨fun h2 => ?_, fun h2 => ⟨by omega, ⟨by omega, by omega⟩, trivial, ?_⟩⟩⟩
  · have e : endE a0 = (0, 0, (checkE a0).1) := by unfold endE; rw [if_pos h]
    rw [e]; exact ⟨rfl, rfl, rfl, trivial⟩
  · have e : endE a0 = (0, 1, 0) := by unfold endE; rw [if_neg (by omega), if_pos h2]
    rw [e]; exact ⟨rfl, rfl, rfl, trivial⟩
  · have e : endE a0 = addT (ix a0 (ln a0 - 1)).AtN (ix a0 (ln a0 - 1)).AtD (ix a0 (ln a0 - 1)).DurN (ix a0 (ln a0 - 1)).DurD := by unfold endE; rw [if_neg (by omega), if_neg h2]
    rw [e]; exact ⟨rfl, rfl, rfl, trivial⟩
theorem EndER_ok (a0 : List Event) (hp : ln a0 ≤ 1000000000) : EndER_VC a0 := EndE_ok a0 hp

theorem at_bad {l : List Event} {tn td : Int} (h : (endE l).2.2 ≠ 0) : atE l tn td = (0, (endE l).2.2) := by unfold atE; rw [if_pos h]
theorem at_bad2 {l : List Event} {tn td : Int} (h : (endE l).2.2 = 0) (h2 : (cmpT tn td (endE l).1 (endE l).2.1).2 ≠ 0) : atE l tn td = (0, (cmpT tn td (endE l).1 (endE l).2.1).2) := by unfold atE; rw [if_neg (by omega), if_pos h2]
theorem at_late {l : List Event} {tn td : Int} (h : (endE l).2.2 = 0) (h2 : (cmpT tn td (endE l).1 (endE l).2.1).2 = 0) (h3 : 0 ≤ (cmpT tn td (endE l).1 (endE l).2.1).1) : atE l tn td = (0, 2) := by unfold atE; rw [if_neg (by omega), if_neg (by omega), if_pos h3]

theorem half_bd {x y : Int} (h0 : 0 ≤ x) (h1 : x < y) : x ≤ Int.tdiv (x + y) 2 ∧ Int.tdiv (x + y) 2 < y := by
  rw [Int.tdiv_eq_ediv_of_nonneg (by omega)]
  omega

theorem AtE_ok (a0 : List Event) (a1 a2 : Int) (hp : ln a0 ≤ 1000000000) : AtE_VC a0 a1 a2 := by
  refine ⟨hp, fun h => ?_, fun h1 => ⟨trivial, fun h2 => ?_, fun h2 => ⟨fun h3 => ?_, fun h3 => ?_⟩⟩⟩
  · rw [at_bad h]; exact ⟨rfl, rfl, trivial⟩
  · rw [at_bad2 h1 h2]; exact ⟨rfl, rfl, trivial⟩
  · rw [at_late h1 h2 h3]; exact ⟨rfl, rfl, trivial⟩
  · obtain ⟨f1, f2, f3⟩ := at_facts h1 h2 h3
    refine ⟨⟨by omega, by omega, by omega, fun k k0 k1 => by omega, fun k k0 k1 => by omega⟩, fun x y ⟨i0, i1, i2, i3, i4⟩ => ⟨fun h => ?_, fun h => ⟨fun g => ⟨⟨i0, g⟩, trivial, fun hz => ⟨by omega, ?_⟩, fun hz => ?_⟩, fun g => ⟨by omega, ?_⟩⟩⟩⟩
    · obtain ⟨m0, m1⟩ := half_bd i0 h
      generalize hm : Int.tdiv (x + y) 2 = m at *
      refine ⟨by omega, by simp only [InK]; omega, by omega, ⟨by omega, by simp only [InK]; omega⟩, by omega, ⟨by omega, by omega⟩, trivial, fun hc => ⟨by omega, rfl, rfl, rfl, rfl, rfl, rfl, ⟨by omega, by omega, by omega, fun k k0 k1 => ?_, i4⟩, ?_⟩, fun hc => ⟨rfl, rfl, rfl, rfl, rfl, rfl, ⟨by omega, by omega, by omega, i3, fun k k0 k1 => ?_⟩, ?_⟩⟩
      · have hc' : cm a0 a1 a2 m < 0 := hc
        by_cases hk : k = m
        · rw [hk]; exact hc'
        · by_cases hcm : cm a0 a1 a2 k < 0
          · exact hcm
          · have := f3 k m k0 (by omega) (by omega) (by omega)
            omega
      · simp only [minv_AtE_0]; omega
      · have hc' : 0 ≤ cm a0 a1 a2 m := hc
        by_cases hk : k = m
        · rw [hk]; exact hc'
        · have := f3 m k (by omega) (by omega) k1 hc'
          omega
      · simp only [minv_AtE_0]; omega
    · have hz' : cm a0 a1 a2 x ≠ 0 := hz
      have hx : x = y := by omega
      subst hx
      have c0 := i4 x (Int.le_refl _) g
      have hx0 : 0 < x := by
        by_cases hx0 : 0 < x
        · exact hx0
        · have : x = 0 := by omega
          subst this
          omega
      have := i3 (x - 1) (by omega) (by omega)
      rw [at_is h1 h2 h3 (r := x - 1) (by omega) (by omega) (by omega) (fun j j0 j1 => by
        by_cases hj : j = x
        · subst hj; omega
        · exact f3 x j i0 (by omega) j1 c0)]
      exact ⟨rfl, rfl, trivial⟩
    · have hz' : cm a0 a1 a2 x = 0 := hz
      rw [at_is h1 h2 h3 (r := x) i0 g (by omega) (fun j j0 j1 => f3 x j i0 j0 j1 (by omega))]
      exact ⟨rfl, rfl, trivial⟩
    · have hx : x = ln a0 := by omega
      have := i3 (x - 1) (by omega) (by omega)
      rw [at_is h1 h2 h3 (r := x - 1) (by omega) (by omega) (by omega) (fun j j0 j1 => by omega)]
      exact ⟨rfl, rfl, trivial⟩

theorem AtER_ok (a0 : List Event) (a1 a2 : Int) (hp : ln a0 ≤ 1000000000) : AtER_VC a0 a1 a2 := by
  refine ⟨hp, fun h => ?_, fun h1 => ⟨trivial, fun h2 => ?_, fun h2 => ⟨fun h3 => ?_, fun h3 => ?_⟩⟩⟩
  · rw [at_bad h]; exact ⟨rfl, rfl, trivial⟩
  · rw [at_bad2 h1 h2]; exact ⟨rfl, rfl, trivial⟩
  · rw [at_late h1 h2 h3]; exact ⟨rfl, rfl, trivial⟩
  · rw [at_scan h1 h2 h3]
    refine ⟨⟨by omega, ln_nonneg _, rfl⟩, fun n i ⟨i0, i1, i2⟩ => ⟨fun h => ?_, fun h => ?_⟩⟩
    · rw [fr_cons i0 h] at i2
      simp only [scanGo] at i2
      refine ⟨⟨i0, h⟩, trivial, fun hc => ⟨by omega, rfl, rfl, rfl, rfl, ⟨by omega, by omega, ?_⟩, ?_⟩, fun hc => ⟨by omega, rfl, rfl, rfl, rfl, ⟨by omega, by omega, ?_⟩, ?_⟩⟩
      · rw [if_pos hc] at i2; exact i2
      · simp only [minv_AtER_0]; omega
      · rw [if_neg (by omega)] at i2; exact i2
      · simp only [minv_AtER_0]; omega
    · rw [fr_all h] at i2
      exact ⟨i2, rfl, trivial⟩

theorem SameEvents_ok (a0 a1 : List Event) (hp : ln a0 ≤ 1000000000) : SameEvents_VC a0 a1 := by
  refine ⟨fun h => ⟨(sameEv_no fun he => h (by rw [he])).symm, trivial⟩, fun hl => ⟨⟨by omega, ln_nonneg _, fun j j0 j1 => by omega⟩, fun x ⟨i0, i1, i2⟩ => ⟨fun h => ⟨⟨i0, h⟩, ⟨i0, by omega⟩, fun hc => ⟨(sameEv_no fun he => ?_).symm, trivial⟩, fun hc => ⟨by omega, ⟨by omega, by omega, fun j j0 j1 => ?_⟩, ?_⟩⟩, fun h => ⟨(sameEv_yes (list_ext_ix hl fun j j0 j1 => i2 j j0 (by omega))).symm, trivial⟩⟩⟩⟩
  · subst he
    simp at hc
  · obtain ⟨c1, c2, c3, c4, c5, c6, c7, c8, c9, c10⟩ := hc
    by_cases hj : j = x
    · subst hj
      exact event_eq c1 c2 c3 c4 c5 c6 c7 c8 c9 c10
    · exact i2 j j0 (by omega)
  · simp only [minv_SameEvents_0]; omega

theorem OwnEvents_ok (a0 : List Event) (hp : ln a0 ≤ 100000000) : OwnEvents_VC a0 := ⟨by simp only [ln, Short, List.length_nil] at *; omega, rfl, trivial⟩

theorem lawChecks_ok (a0 : List Event) (a1 a2 : Int) (hp : ln a0 ≤ 9223372036854775807) : lawChecks_VC a0 a1 a2 := by
  have hs : sameEv a0 a0 = true := sameEv_yes rfl
  unfold lawChecks_VC
  unhygienic (repeat' (first | exact trivial | apply And.intro | intro))
  all_goals first
    | omega
    | rfl
    | (exfalso; simp_all; done)
end Go.Proofs.YtjbefleabibmmaaGreatDoor
