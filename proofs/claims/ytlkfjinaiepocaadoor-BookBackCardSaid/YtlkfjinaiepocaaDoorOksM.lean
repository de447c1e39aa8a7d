/- THE CONDITION of Made holds; those of staves, part, owner, single. -/
import Derived.Test.YtlkfjinaiepocaaDoorOksF
import Derived.Test.YtlkfjinaiepocaaDoorVcs
namespace Go.Proofs.YtlkfjinaiepocaaDoor
open Go Go.E2 Go.E3
set_option maxRecDepth 100000

theorem q3d (l : List Int) : ln (qu l).2 ≤ 58 ∧ (qu l).1 = (qgr l).nm := by
  have h := qnz (l := l) (i := 1) (x := qve (qa (atI l 0) 1048576)) ⟨by show (-4 : Int) ≤ 4; decide, by show (4 : Int) ≤ 12; decide⟩ (by show (2 : Int) ≤ 57; decide)
  have h2 : ln (qgr l).S ≤ 57 := h.2.1
  unfold qu
  split
  · exact ⟨by show ln (_ ++ [_]) ≤ 58; rw [qbq]; omega, rfl⟩
  · exact ⟨by show ln (qgr l).S ≤ 58; omega, rfl⟩
theorem qpi (l : List Sign) (s : Sign) : jq (l ++ [s]) = if s.Kind = 11 then jq l else jq l ++ [s] := by
  unfold jq
  rw [List.filter_append]
  by_cases h : s.Kind = 11
  · rw [if_pos h]; simp [h]
  · rw [if_neg h]; simp [h]
theorem qz9 (l : List Sign) : ln (jq l) ≤ ln l := by
  have := List.length_filter_le (fun s : Sign => !decide (s.Kind = 11)) l
  simp only [ln, jq]; omega
theorem q42 (a0 : List Int) (hp : ln a0 ≤ 80 ∧ ∀ n ∈ a0, I64 n) : qqf a0 := by
  have h58 := (q3d a0).1
  unfold qqf
  refine ⟨hp, ⟨Int.le_refl 0, qx _, by rw [qgf]; rfl⟩, fun x0 x1 ⟨h1, h2, h3⟩ => ⟨fun h => ⟨⟨h1, h⟩, fun hk => ?_, fun hk => ?_⟩, fun h => ⟨rfl, ?_, trivial⟩⟩⟩
  · have hx : ln x0 ≤ 58 := by
      rw [h3]
      have := qz9 (upto (qu a0).2 x1)
      rw [qiw h1 h2] at this
      omega
    refine ⟨⟨h1, h⟩, trivial, qg3 (by omega), ⟨by omega, by omega⟩, rfl, rfl, rfl, ⟨by omega, by omega, ?_⟩, ?_⟩
    · rw [qey h1 h, qpi, if_neg hk, ← h3, qsk]
    · show (ln (qu a0).2 - (x1 + 1)).toNat < (ln (qu a0).2 - x1).toNat; omega
  · refine ⟨⟨by omega, by omega⟩, rfl, rfl, rfl, ⟨by omega, by omega, ?_⟩, ?_⟩
    · rw [qey h1 h, qpi, if_pos hk, ← h3]
    · show (ln (qu a0).2 - (x1 + 1)).toNat < (ln (qu a0).2 - x1).toNat; omega
  · rw [h3, qkc h]
    rfl

/-! ### Sizes -/
theorem qjr {α β : Type} {f : α → List β} {c : Int} (hc : 0 ≤ c) : ∀ {l : List α}, (∀ a ∈ l, ln (f a) ≤ c) → ln (l.flatMap f) ≤ c * ln l
  | [], _ => by simp [ln]
  | a :: l, h => by
    have h1 := h a List.mem_cons_self
    have h2 := qjr hc (l := l) fun b hb => h b (List.mem_cons_of_mem _ hb)
    rw [List.flatMap_cons, qdt, qiv, Int.mul_add, Int.mul_one]
    omega
theorem qge {g : List Page} (h : smB g) : ln (qb g) ≤ 250000 ∧ ∀ s ∈ qb g, ln s.Signs ≤ 500 := by
  refine ⟨?_, fun s hs => ?_⟩
  · have := qjr (c := 500) (by decide) (l := g) (f := fun p => p.Staves) fun p hp => (h.2 p hp).1
    have h1 := h.1
    have : ln (qb g) ≤ 500 * ln g := this
    omega
  · obtain ⟨p, hp, hs⟩ := List.mem_flatMap.1 hs
    exact (h.2 p hp).2 s hs
theorem qr5 {s : Staff} (h : qib s) : ln (qoe s) = ln s.Signs - s.Lead := qgv h.1 h.2
theorem qun {l : List Staff} (h : ∀ s ∈ l, ln s.Signs ≤ 500 ∧ qib s) : ln (qdc l) ≤ 500 * ln l := qjr (by decide) fun s hs => by
  rw [qr5 (h s hs).2]
  have := (h s hs).1
  have := (h s hs).2.1
  omega
theorem zap {g : List Page} (h : smB g) (hl : qn g) : ln (qc g) ≤ 125000000 := by
  have h1 := qge h
  have := qun (l := qb g) fun s hs => ⟨h1.2 s hs, hl s hs⟩
  have : ln (qc g) ≤ 500 * ln (qb g) := this
  omega
theorem qpt (l : List Page) (p : Page) : qb (l ++ [p]) = qb l ++ p.Staves := by simp [qb]
theorem qr7 (l : List Staff) (s : Staff) : qdc (l ++ [s]) = qdc l ++ qoe s := by simp [qdc]
theorem q30 (l m : List Staff) : qdc (l ++ m) = qdc l ++ qdc m := by simp [qdc]
theorem qru {α : Type} {l : List α} {i : Int} {a : α} (h : a ∈ upto l i) : a ∈ l := List.mem_of_mem_take h
theorem zc1 {g : List Page} {i : Int} (h : smB g) : smB (upto g i) := ⟨by
    have : ln (upto g i) ≤ ln g := by
      have := List.length_take_le' i.toNat g
      simp only [ln, upto]; omega
    have := h.1
    omega, fun p hp => h.2 p (qru hp)⟩

theorem q4f (a0 : List UInt8) (a1 : List Page) (hp : smB a1) : qok a0 a1 := by
  unfold qok
  refine ⟨⟨Int.le_refl 0, qx _, by rw [qgf]; rfl⟩, fun x0 x1 ⟨h1, h2, h3⟩ => ⟨fun h => ?_, fun h => ⟨by rw [h3, qkc h], trivial⟩⟩⟩
  have hs := (qge (zc1 (i := x1) hp)).1
  rw [← h3] at hs
  have hq := (hp.2 _ (qc3 h1 h)).1
  have h500 := hp.1
  refine ⟨⟨h1, h⟩, qkp (by omega), ⟨by omega, by omega⟩, rfl, rfl, ⟨by omega, by omega, ?_⟩, ?_⟩
  · rw [qey h1 h, qpt, h3]
  · show (ln a1 - (x1 + 1)).toNat < (ln a1 - x1).toNat; omega

theorem zal (a0 : List UInt8) (a1 : List Page) (hp : smB a1 ∧ qn a1) : qv8 a0 a1 := by
  obtain ⟨hp, hl⟩ := hp
  have hst := qge hp
  unfold qv8
  refine ⟨hp, ⟨Int.le_refl 0, qx _, rfl, by rw [qgf]; rfl⟩, fun x0 x1 x2 ⟨h1, h2, h3, h4⟩ => ⟨fun h => ?_, fun h => ⟨h3, by rw [h4, qkc h]; rfl, trivial⟩⟩⟩
  have hm := qc3 h1 h
  have hL := hl _ hm
  have hb := qun (l := upto (qb a1) x0) fun s hs => ⟨hst.2 s (qru hs), hl s (qru hs)⟩
  rw [← h4, qiw h1 h2] at hb
  have hq : ln (fr (ix (qb a1) x0).Signs (ix (qb a1) x0).Lead) = _ := qr5 hL
  have h5 := hst.2 _ hm
  have h6 := hst.1
  have h7 := hL.1
  refine ⟨⟨h1, h⟩, hL, qkp (by omega), ⟨by omega, by omega⟩, rfl, rfl, rfl, ⟨by omega, by omega, h3, ?_⟩, ?_⟩
  · rw [qey h1 h, qr7, h4]; rfl
  · show (ln (qb a1) - (x0 + 1)).toNat < (ln (qb a1) - x0).toNat; omega

theorem q69 (a0 : List UInt8) (a1 : List Page) (a2 : Int) (hp : smB a1 ∧ qn a1 ∧ (0 : Int) ≤ a2 ∧ (a2 : Int) ≤ 1000000000000) : qr6 a0 a1 a2 := by
  obtain ⟨hp, hl, ha, hb⟩ := hp
  have hst := qge hp
  unfold qr6
  refine ⟨hp, ⟨Int.le_refl 0, qx _, ha, Int.le_refl _, by rw [qe1]; rfl⟩, fun x0 x1 ⟨h1, h2, h3, h4, h5⟩ => ⟨fun h => ?_, fun h => ⟨by rw [← h5, qin h]; rfl, trivial⟩⟩⟩
  have hm := qc3 h1 h
  have hL := hl _ hm
  have h6 := hst.2 _ hm
  have h7 := hL.1
  have h8 := hL.2
  have hs := hst.1
  rw [qbc h1 h] at h5
  simp only [qr4] at h5
  refine ⟨⟨h1, h⟩, ⟨by omega, by omega⟩, ⟨by omega, by omega⟩, fun hc => ⟨?_, trivial⟩, fun hc => ⟨⟨by omega, by omega⟩, rfl, rfl, ⟨by omega, by omega, by omega, by omega, ?_⟩, ?_⟩⟩
  · rw [← h5, if_pos hc]
  · rw [← h5, if_neg (by omega)]
  · show (ln (qb a1) - (x1 + 1)).toNat < (ln (qb a1) - x1).toNat; omega

theorem qz6 {α : Type} [Inhabited α] {a b : List α} (hl : ln a = ln b) (h : ∀ j, 0 ≤ j → j < ln a → ix a j = ix b j) : a = b := by
  refine List.ext_getElem (by simp only [ln] at hl; omega) fun i h1 h2 => ?_
  have := h (i : Int) (by omega) (by simp only [ln]; omega)
  rw [qro h1, qro h2] at this
  exact this
set_option maxHeartbeats 4000000 in
theorem q4b (a0 : List Sign) (a1 : Int) (a2 : Bool) (a3 : Int) (a4 a5 : List Sign) (hp : ln a0 ≤ 500 ∧ ln a4 ≤ 1 ∧ ln a5 ≤ 1) : qoj a0 a1 a2 a3 a4 a5 := by
  unfold qoj
  refine ⟨fun h => ⟨?_, trivial⟩, fun h => ⟨fun h' => ⟨?_, trivial⟩, fun h' => ⟨fun h2 => ⟨?_, trivial⟩, fun h2 => ⟨⟨h', by omega⟩, ⟨hp.2.1, hp.2.2⟩, fun h3 => ⟨?_, trivial⟩, fun h3 => ⟨⟨Int.le_refl 0, qx _, fun j a b => by omega⟩, fun x4 ⟨g1, g2, g3⟩ => ⟨fun g => ?_, fun g => ⟨?_, trivial⟩⟩⟩⟩⟩⟩⟩
  · unfold kg; rw [if_pos h]
  · unfold kg; rw [if_neg (show ¬ 60 < ln a0 by omega), if_pos h']
  · unfold kg; rw [if_neg (show ¬ 60 < ln a0 by omega), if_neg (show ¬ a1 < 0 by omega), if_pos h2]
  · unfold kg
    rw [if_neg (show ¬ 60 < ln a0 by omega), if_neg (show ¬ a1 < 0 by omega), if_neg (show ¬ ln a0 ≤ a1 by omega), if_neg]
    intro he
    have he : upto a0 a1 = a4 ++ a5 := he
    exact h3 (by rw [he])
  · have hu := qiw h' (show a1 ≤ ln a0 by omega)
    refine ⟨⟨g1, g⟩, ⟨g1, by omega⟩, fun hn => ⟨?_, trivial⟩, fun he => ⟨⟨by omega, by omega⟩, rfl, rfl, rfl, rfl, rfl, rfl, ⟨by omega, by omega, fun j j0 j1 => ?_⟩, ?_⟩⟩
    · unfold kg
      rw [if_neg (show ¬ 60 < ln a0 by omega), if_neg (show ¬ a1 < 0 by omega), if_neg (show ¬ ln a0 ≤ a1 by omega), if_neg]
      intro he
      have he : upto a0 a1 = a4 ++ a5 := he
      rw [he] at hn
      simp at hn
    · by_cases hj : j = x4
      · subst hj
        exact (qy0 _ _).1 he
      · exact g3 j j0 (by omega)
    · show (ln (upto a0 a1) - (x4 + 1)).toNat < (ln (upto a0 a1) - x4).toNat; omega
  · unfold kg
    rw [if_neg (show ¬ 60 < ln a0 by omega), if_neg (show ¬ a1 < 0 by omega), if_neg (show ¬ ln a0 ≤ a1 by omega), if_pos]
    show upto a0 a1 = a4 ++ a5
    exact qz6 h3 fun j j0 j1 => g3 j j0 (by omega)
end Go.Proofs.YtlkfjinaiepocaaDoor
