/- THE CONDITIONS of the kit's functions and of the law hold. -/
import Derived.Test.YtlkfjinaiepocaaDoorVcs
namespace Go.Proofs.YtlkfjinaiepocaaDoor
open Go Go.E2 Go.E3
set_option maxRecDepth 100000

theorem LightPart_ok (a0 : List UInt8) (a1 : List Sign) (a2 : Int) (hp : ln a0 ≤ 9223372036854775807 ∧ ln a1 ≤ 9223372036854775807) : LightPart_VC a0 a1 a2 := by
  unfold LightPart_VC lightP
  unhygienic (repeat' (first | exact trivial | apply And.intro | intro))
  all_goals grind
theorem OwnSigns_ok (a0 : List Sign) (hp : ln a0 ≤ 10000000) : OwnSigns_VC a0 :=
  ⟨by simp only [Short, ln, List.length_nil] at *; omega, by simp, trivial⟩
theorem OwnPart_ok (a0 : List UInt8) (a1 : List Sign) (hp : ln a1 ≤ 10000000) : OwnPart_VC a0 a1 := ⟨hp, rfl, rfl, trivial⟩
theorem sameS_yes {a b : List Sign} (h : a = b) : sameS a b = true := decide_eq_true h
theorem sameS_no {a b : List Sign} (h : a ≠ b) : sameS a b = false := decide_eq_false h
theorem sign_ext {a b : Sign} (h1 : a.Kind = b.Kind) (h2 : a.Value = b.Value) (h3 : a.Place = b.Place) (h4 : a.Acc = b.Acc) (h5 : a.Color = b.Color) (h6 : a.Stem = b.Stem) (h7 : a.Oblique = b.Oblique) (h8 : a.Last = b.Last) (h9 : a.MensMax = b.MensMax) (h10 : a.MensMod = b.MensMod) (h11 : a.MensTem = b.MensTem) (h12 : a.MensPro = b.MensPro) (h13 : a.Stroke = b.Stroke) (h14 : a.N = b.N) (h15 : a.D = b.D) (h16 : a.ClefStep = b.ClefStep) (h17 : a.ClefLine = b.ClefLine) : a = b := by
  cases a; cases b; simp_all
theorem SameSigns_ok (a0 a1 : List Sign) (hp : ln a0 ≤ 10000000) : SameSigns_VC a0 a1 := by
  refine ⟨fun h => ⟨(sameS_no fun he => h (by rw [he])).symm, trivial⟩, fun hl => ⟨⟨by omega, ln_nonneg _, fun j j0 j1 => by omega⟩, fun x ⟨i0, i1, i2⟩ => ⟨fun h => ⟨⟨i0, h⟩, ⟨i0, by omega⟩, fun hc => ⟨(sameS_no fun he => ?_).symm, trivial⟩, fun hc => ⟨by omega, ⟨by omega, by omega, fun j j0 j1 => ?_⟩, ?_⟩⟩, fun h => ⟨(sameS_yes (list_ext_ix hl fun j j0 j1 => i2 j j0 (by omega))).symm, trivial⟩⟩⟩⟩
  · subst he; simp at hc
  · by_cases he : j = x
    · subst he
      obtain ⟨h1, h2, h3, h4, h5, h6, h7, h8, h9, h10, h11, h12, h13, h14, h15, h16, h17⟩ := hc
      exact sign_ext h1 h2 h3 h4 h5 h6 h7 h8 h9 h10 h11 h12 h13 h14 h15 h16 h17
    · exact i2 j j0 (by omega)
  · simp only [minv_SameSigns_0]; omega
theorem SamePart_ok (a0 : List UInt8) (a1 : List Sign) (a2 : List UInt8) (a3 : List Sign) (hp : ln a1 ≤ 10000000) : SamePart_VC a0 a1 a2 a3 := by
  refine ⟨fun h => ⟨hp, ?_, trivial⟩, fun h => ⟨?_, trivial⟩⟩
  · simp only [sameS, sameP, h, true_and]
  · simp [sameP, h]
theorem sameStaff_ok (a0 : List Sign) (a1 : Int) (a2 : Bool) (a3 : Int) (a4 : List Sign) (a5 : Int) (a6 : Bool) (a7 : Int) (hp : ln a0 ≤ 10000000) : sameStaff_VC a0 a1 a2 a3 a4 a5 a6 a7 := by
  refine ⟨fun h1 => ⟨fun h2 => ⟨fun h3 => ⟨hp, ?_, trivial⟩, fun h3 => ⟨?_, trivial⟩⟩, fun h2 => ⟨?_, trivial⟩⟩, fun h1 => ⟨?_, trivial⟩⟩
  · simp only [sameS, sameSt, Staff.mk.injEq, h1, h2, h3, and_true]
  · simp [sameSt, h3]
  · simp [sameSt, h2]
  · simp [sameSt, h1]
theorem sameBk_ok (a0 : List UInt8) (a1 : List Page) (a2 : List UInt8) (a3 : List Page) (hp : ln a1 ≤ 500 ∧ okB a1) : sameBk_VC a0 a1 a2 a3 := by
  have no : ¬ (a0 = a2 ∧ a1 = a3) → false = sameB a0 a1 a2 a3 := fun h => (decide_eq_false h).symm
  have yes : a0 = a2 → a1 = a3 → true = sameB a0 a1 a2 a3 := fun h h' => (decide_eq_true ⟨h, h'⟩).symm
  have page_ext : ∀ p q : Page, p.Staves = q.Staves → p = q := fun p q h => by cases p; cases q; simp_all
  have hs : ∀ i, 0 ≤ i → i < ln a1 → ln (ix a1 i).Staves ≤ 1000000000 ∧ ∀ s ∈ (ix a1 i).Staves, ln s.Signs ≤ 10000000 := fun i h0 h => hp.2 _ (ix_mem h0 h)
  unfold sameBk_VC
  simp only [staff_eta]
  refine ⟨fun h => ⟨no fun hh => h hh.1, trivial⟩, fun hn => ⟨fun h => ⟨no fun hh => h (by rw [hh.2]), trivial⟩, fun hl => ⟨⟨by omega, ln_nonneg _, fun j j0 j1 => by omega⟩, fun x ⟨i0, i1, i2⟩ => ⟨fun h => ⟨⟨i0, h⟩, ⟨i0, by omega⟩, fun hc => ⟨no fun hh => hc (by rw [hh.2]), trivial⟩, fun hc =>
    ⟨⟨by omega, ln_nonneg _, fun j j0 j1 => by omega⟩, fun y ⟨k0, k1, k2⟩ => ⟨⟨i0, h⟩, fun hy => ⟨⟨i0, h⟩, ⟨k0, hy⟩, ⟨i0, by omega⟩, ⟨k0, by omega⟩, (hs x i0 h).2 _ (ix_mem k0 hy), fun hd => ⟨no fun hh => ?_, trivial⟩, fun hd => ⟨?_, trivial, trivial, trivial, trivial, ⟨by omega, by omega, fun j j0 j1 => ?_⟩, ?_⟩⟩, fun hy => ⟨?_, trivial, trivial, trivial, trivial, ⟨by omega, by omega, fun j j0 j1 => ?_⟩, ?_⟩⟩⟩⟩,
    fun h => ⟨yes hn (list_ext_ix hl fun j j0 j1 => i2 j j0 (by omega)), trivial⟩⟩⟩⟩⟩
  · rw [hh.2] at hd; simp [sameSt] at hd
  · have := (hs x i0 h).1; omega
  · by_cases he : j = y
    · subst he; exact of_decide_eq_true hd
    · exact k2 j j0 (by omega)
  · simp only [minv_sameBk_1]; omega
  · omega
  · by_cases he : j = x
    · subst he
      exact page_ext _ _ (list_ext_ix hc fun m m0 m1 => k2 m m0 (by omega))
    · exact i2 j j0 (by omega)
  · simp only [minv_sameBk_0]; omega
theorem lawMakes_ok (a0 : List UInt8) (a1 : List Sign) (a2 a3 : Int) (hp : ln a0 ≤ 9223372036854775807 ∧ ln a1 ≤ 9223372036854775807) : lawMakes_VC a0 a1 a2 a3 := by
  have hl : lightP a0 a1 60 = true → ln a0 ≤ 100 ∧ ln a1 ≤ 420 := fun h => by
    simp only [lightP, Bool.and_eq_true, Bool.or_eq_true, decide_eq_true_eq] at h; omega
  have sp : sameP a0 a1 a0 a1 = true := decide_eq_true ⟨rfl, rfl⟩
  have sb : ∀ n b, sameB n b n b = true := fun n b => decide_eq_true ⟨rfl, rfl⟩
  refine ⟨hp, fun _ => ⟨trivial, rfl, trivial⟩, fun h => ?_⟩
  have h1 := hl h
  have hm := mk_ok a0 (l := a1) a2 a3 (by omega)
  refine ⟨by omega, by omega, by omega, hm, fun _ => ⟨fun _ => ⟨by omega, fun _ => ⟨trivial, rfl, trivial⟩, fun hf => ?_⟩, fun hne => absurd rfl hne⟩, fun hf => ?_⟩
  · rw [sp] at hf; cases hf
  · rw [sb] at hf; cases hf
end Go.Proofs.YtlkfjinaiepocaaDoor
