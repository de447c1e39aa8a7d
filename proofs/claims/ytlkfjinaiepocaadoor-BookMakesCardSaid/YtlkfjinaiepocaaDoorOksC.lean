/- THE CONDITIONS of the functions on groups, what is in force, the custos, turns hold. -/
import Derived.Test.YtlkfjinaiepocaaDoorVcs
namespace Go.Proofs.YtlkfjinaiepocaaDoor
open Go Go.E2 Go.E3
set_option maxRecDepth 100000

theorem Clone_ok (a0 : List Sign) (hp : ln a0 ≤ 10000000) : Clone_VC a0 := by
  intro b hb
  refine ⟨fun h => ⟨(hb h).symm, trivial⟩, fun _ => ⟨?_, by simp, trivial⟩⟩
  simp only [Short, ln, List.length_nil] at *; omega
theorem lead_ok (a0 a1 : List Sign) (hp : ln a0 ≤ 1 ∧ ln a1 ≤ 1) : lead_VC a0 a1 :=
  ⟨by omega, short_app (by omega), rfl, trivial⟩
theorem after_ok (a0 a1 : List Sign) (a2 a3 a4 a5 : Int) (a6 : Bool) (a7 : Int) (a8 a9 : Bool) (a10 a11 a12 a13 : Int) (a14 : Bool) (a15 a16 a17 a18 : Int) : after_VC a0 a1 a2 a3 a4 a5 a6 a7 a8 a9 a10 a11 a12 a13 a14 a15 a16 a17 a18 := by
  unfold after_VC afterF
  unhygienic (repeat' (first | exact trivial | apply And.intro | intro))
  all_goals simp_all
theorem catch__ok (a0 : List Sign) (hp : ln a0 ≤ 1000000000) : catch__VC a0 := by
  have hz : ∀ i, 0 ≤ i → i < ln a0 → catchL (fr a0 i) = if (ix a0 i).Kind = 1 ∨ (ix a0 i).Kind = 4 then (true, (ix a0 i).Place) else catchL (fr a0 (i + 1)) := fun i h0 h => by
    rw [fr_cons h0 h, catchL]
  have he : ∀ i, ln a0 ≤ i → catchL (fr a0 i) = (false, 0) := fun i h => by rw [fr_all h]; rfl
  refine ⟨⟨by omega, ln_nonneg _, by rw [fr_zero]⟩, fun x ⟨i0, i1, i2⟩ => ⟨fun h => ⟨⟨i0, h⟩, fun k => ?_, fun k => ⟨fun k' => ?_, fun k' => ⟨by omega, ⟨by omega, by omega, ?_⟩, ?_⟩⟩⟩, fun h => ?_⟩⟩
  · rw [← i2, hz x i0 h, if_pos (.inl k)]; exact ⟨rfl, rfl, trivial⟩
  · rw [← i2, hz x i0 h, if_pos (.inr k')]; exact ⟨rfl, rfl, trivial⟩
  · rw [← i2, hz x i0 h, if_neg (by omega)]
  · simp only [minv_catch__0]; omega
  · rw [← i2, he x h]; exact ⟨rfl, rfl, trivial⟩
theorem custos_ok (a0 : List Sign) (a1 : Int) (hp : 0 ≤ a1 ∧ a1 ≤ ln a0 ∧ ln a0 ≤ 1000000000) : custos_VC a0 a1 := by
  have hz : ∀ i, 0 ≤ i → i < ln a0 → catchL (fr a0 i) = if (ix a0 i).Kind = 1 ∨ (ix a0 i).Kind = 4 then (true, (ix a0 i).Place) else catchL (fr a0 (i + 1)) := fun i h0 h => by
    rw [fr_cons h0 h, catchL]
  have he : ∀ i, ln a0 ≤ i → catchL (fr a0 i) = (false, 0) := fun i h => by rw [fr_all h]; rfl
  refine ⟨⟨hp.1, hp.2.1, rfl⟩, fun x ⟨i0, i1, i2⟩ => ⟨fun h => ⟨⟨i0, h⟩, fun k => ⟨⟨i0, h⟩, ?_⟩, fun k => ⟨⟨i0, h⟩, fun k' => ⟨⟨i0, h⟩, ?_⟩, fun k' => ⟨by omega, ⟨by omega, by omega, ?_⟩, ?_⟩⟩⟩, fun h => ?_⟩⟩
  · rw [← i2, hz x i0 h, if_pos (.inl k)]; exact ⟨rfl, rfl, trivial⟩
  · rw [← i2, hz x i0 h, if_pos (.inr k')]; exact ⟨rfl, rfl, trivial⟩
  · rw [← i2, hz x i0 h, if_neg (by omega)]
  · simp only [minv_custos_0]; omega
  · rw [← i2, he x h]; exact ⟨rfl, rfl, trivial⟩
theorem turn_ok (a0 : List Sign) (hp : ln a0 ≤ 1000000000) : turn_VC a0 := by
  refine ⟨⟨by omega, ln_nonneg _, by rw [fr_zero]; rfl⟩, fun x ⟨i0, i1, i2⟩ => ⟨fun h => ⟨⟨i0, h⟩, fun k => ⟨?_, trivial⟩, fun k => ⟨by omega, ⟨by omega, by omega, ?_⟩, ?_⟩⟩, fun h => ⟨?_, trivial⟩⟩⟩
  · rw [← i2, turnGo_step i0 h, if_pos k]
  · rw [← i2, turnGo_step i0 h, if_neg k]
  · simp only [minv_turn_0]; omega
  · rw [← i2, turnGo_end h]
theorem leadR_ok (a0 : List Sign) (a1 : Int) (hp : 0 ≤ a1 ∧ a1 ≤ ln a0 ∧ ln a0 ≤ 1000000000) : leadR_VC a0 a1 := by
  unfold leadR_VC
  simp only [sign_eta]
  refine ⟨⟨by omega, hp.1, rfl⟩, fun c k i ⟨i0, i1, i2⟩ => ⟨fun h => ⟨⟨i0, by omega⟩, fun k7 => ⟨⟨i0, by omega⟩, trivial, by omega, ⟨by omega, by omega, ?_⟩, ?_⟩, fun k7 => ⟨fun k8 => ⟨⟨i0, by omega⟩, trivial, by omega, ⟨by omega, by omega, ?_⟩, ?_⟩, fun k8 => ⟨by omega, ⟨by omega, by omega, ?_⟩, ?_⟩⟩⟩, fun h => ⟨?_, ?_, trivial⟩⟩⟩
  · rw [force_succ i0, ← i2, afterF, if_pos k7]
  · simp only [minv_leadR_0]; omega
  · rw [force_succ i0, ← i2, afterF, if_neg k7, if_pos k8]
  · simp only [minv_leadR_0]; omega
  · rw [force_succ i0, ← i2, afterF, if_neg k7, if_neg k8]
  · simp only [minv_leadR_0]; omega
  · have := force_len a0 i
    rw [← i2] at this
    exact short_app (by dsimp only at this; omega)
  · have : i = a1 := by omega
    subst this
    unfold leadL
    rw [← i2]
theorem fill_ok (a0 : List Sign) (a1 : Int) (a2 : Bool) (hp : ln a0 ≤ 500) : fill_VC a0 a1 a2 := by
  have hgs : ∀ i to, tT a0 to = tT a0 (i + 1) → ¬ (to < ln a0 ∧ (ix a0 (to - 1)).Kind = 4 ∧ (ix a0 (to - 1)).Last = false) → gE a0 i = if to < ln a0 ∧ (ix a0 to).Kind = 3 then to + 1 else to := by
    intro i to h h'
    unfold gE
    rw [← h, tT_stop h']
  have hst : ∀ i rest, i < ln a0 → gE a0 i ≤ a1 → fA a0 a1 i rest = fA a0 a1 (gE a0 i) (if (ix a0 i).Kind = 2 then gE a0 i else rest) := fun i rest h h' => fA_step h h'
  have hsp : ∀ i rest, ln a0 ≤ i ∨ a1 < gE a0 i → fA a0 a1 i rest = (i, rest) := fun i rest h => fA_stop h
  have hts : ∀ to, to < ln a0 → (ix a0 (to - 1)).Kind = 4 → (ix a0 (to - 1)).Last = false → tT a0 to = tT a0 (to + 1) := fun to h1 h2 h3 => tT_step ⟨h1, h2, h3⟩
  have hfl : fillL a0 a1 a2 = if a2 = true ∧ (fA a0 a1 0 0).1 < ln a0 ∧ 0 < (fA a0 a1 0 0).2 then (fA a0 a1 0 0).2 else (fA a0 a1 0 0).1 := rfl
  have hn := ln_nonneg a0
  unfold fill_VC
  unhygienic (repeat' (first | exact trivial | exact And.intro (by omega) trivial | apply And.intro | intro))
  all_goals try simp only [inv_fill_0, minv_fill_0, inv_fill_1, minv_fill_1] at *
  all_goals first
    | omega
    | skip
  all_goals grind
theorem groupsR_ok (a0 : List Sign) (hp : ln a0 ≤ 1000000000) : groupsR_VC a0 := by
  have hgs : ∀ i to, tT a0 to = tT a0 (i + 1) → ¬ (to < ln a0 ∧ (ix a0 (to - 1)).Kind = 4 ∧ (ix a0 (to - 1)).Last = false) → gE a0 i = if to < ln a0 ∧ (ix a0 to).Kind = 3 then to + 1 else to := by
    intro i to h h'
    unfold gE
    rw [← h, tT_stop h']
  have hts : ∀ to, to < ln a0 → (ix a0 (to - 1)).Kind = 4 → (ix a0 (to - 1)).Last = false → tT a0 to = tT a0 (to + 1) := fun to h1 h2 h3 => tT_step ⟨h1, h2, h3⟩
  have hg : ∀ (g : List Group) i j, i < ln a0 → g ++ grpL a0 i = groupsL a0 → gE a0 i = j → (g ++ [Group.mk i j]) ++ grpL a0 j = groupsL a0 := fun g i j h h1 h2 => by
    subst h2
    rw [List.append_assoc, ← h1, grp_step h]; rfl
  have hge : ∀ (g : List Group) i, ln a0 ≤ i → g ++ grpL a0 i = groupsL a0 → g = groupsL a0 := fun g i h h1 => by
    rw [grp_end h, List.append_nil] at h1; exact h1
  have hsn : ∀ (g : List Group) (a : Group), ln (g ++ [a]) = ln g + 1 := fun g a => ln_snoc g a
  have hsh : ∀ (g : List Group) (a : Group), ln g + 1 ≤ 1000000000 → Short (g.length + [a].length) := fun g a h => short_snoc h
  have hn := ln_nonneg a0
  have hz : ([] : List Group) ++ grpL a0 0 = groupsL a0 := rfl
  have hz0 : ln ([] : List Group) = 0 := rfl
  have ht1 : ∀ i, 0 ≤ i → (ix a0 i).Kind ≠ 4 → ¬ (i + 1 < ln a0 ∧ (ix a0 (i + 1 - 1)).Kind = 4 ∧ (ix a0 (i + 1 - 1)).Last = false) := fun i h0 h => by
    rw [show i + 1 - 1 = i by omega]; exact fun hh => h hh.2.1
  unfold groupsR_VC
  unhygienic (repeat' (first | exact trivial | exact And.intro (by omega) trivial | apply And.intro | intro))
  all_goals try simp only [inv_groupsR_0, minv_groupsR_0, inv_groupsR_1, minv_groupsR_1] at *
  all_goals first
    | omega
    | skip
  all_goals grind
end Go.Proofs.YtlkfjinaiepocaaDoor
