/- THE CONDITION of Made holds; those of staves, part, owner, single. -/
import Derived.Test.YtlkfjinaiepocaaDoorOksF
import Derived.Test.YtlkfjinaiepocaaDoorVcs
namespace Go.Proofs.YtlkfjinaiepocaaDoor
open Go Go.E2 Go.E3
set_option maxRecDepth 100000

theorem q3k (l : List Int) : ln (qw l).2 ≤ 58 ∧ (qw l).1 = (qg4 l).nm := by
  have h := qod (l := l) (i := 1) (x := qvl (qa (atI l 0) 1048576)) ⟨by show (-4 : Int) ≤ 4; decide, by show (4 : Int) ≤ 12; decide⟩ (by show (2 : Int) ≤ 57; decide)
  have h2 : ln (qg4 l).S ≤ 57 := h.2.1
  unfold qw
  split
  · exact ⟨by show ln (_ ++ [_]) ≤ 58; rw [qas]; omega, rfl⟩
  · exact ⟨by show ln (qg4 l).S ≤ 58; omega, rfl⟩
theorem qpu (l : List Sign) (s : Sign) : jx (l ++ [s]) = if s.Kind = 11 then jx l else jx l ++ [s] := by
  unfold jx
  rw [List.filter_append]
  by_cases h : s.Kind = 11
  · rw [if_pos h]; simp [h]
  · rw [if_neg h]; simp [h]
theorem q0d (l : List Sign) : ln (jx l) ≤ ln l := by
  have := List.length_filter_le (fun s : Sign => !decide (s.Kind = 11)) l
  simp only [ln, jx]; omega
theorem q47 (a0 : List Int) (hp : ln a0 ≤ 80 ∧ ∀ n ∈ a0, I64 n) : qqr a0 := by
  have h58 := (q3k a0).1
  unfold qqr
  refine ⟨hp, ⟨Int.le_refl 0, qo _, by rw [qbt]; rfl⟩, fun x0 x1 ⟨h1, h2, h3⟩ => ⟨fun h => ⟨⟨h1, h⟩, fun hk => ?_, fun hk => ?_⟩, fun h => ⟨rfl, ?_, trivial⟩⟩⟩
  · have hx : ln x0 ≤ 58 := by
      rw [h3]
      have := q0d (upto (qw a0).2 x1)
      rw [qhu h1 h2] at this
      omega
    refine ⟨⟨h1, h⟩, trivial, qhf (by omega), ⟨by omega, by omega⟩, rfl, rfl, rfl, ⟨by omega, by omega, ?_⟩, ?_⟩
    · rw [qah h1 h, qpu, if_neg hk, ← h3, qsw]
    · show (ln (qw a0).2 - (x1 + 1)).toNat < (ln (qw a0).2 - x1).toNat; omega
  · refine ⟨⟨by omega, by omega⟩, rfl, rfl, rfl, ⟨by omega, by omega, ?_⟩, ?_⟩
    · rw [qah h1 h, qpu, if_pos hk, ← h3]
    · show (ln (qw a0).2 - (x1 + 1)).toNat < (ln (qw a0).2 - x1).toNat; omega
  · rw [h3, qet h]
    rfl

/-! ### Sizes -/
theorem qj4 {α β : Type} {f : α → List β} {c : Int} (hc : 0 ≤ c) : ∀ {l : List α}, (∀ a ∈ l, ln (f a) ≤ c) → ln (l.flatMap f) ≤ c * ln l
  | [], _ => by simp [ln]
  | a :: l, h => by
    have h1 := h a List.mem_cons_self
    have h2 := qj4 hc (l := l) fun b hb => h b (List.mem_cons_of_mem _ hb)
    rw [List.flatMap_cons, qbq, qek, Int.mul_add, Int.mul_one]
    omega
theorem qgs {g : List Page} (h : smB g) : ln (qc g) ≤ 250000 ∧ ∀ s ∈ qc g, ln s.Signs ≤ 500 := by
  refine ⟨?_, fun s hs => ?_⟩
  · have := qj4 (c := 500) (by decide) (l := g) (f := fun p => p.Staves) fun p hp => (h.2 p hp).1
    have h1 := h.1
    have : ln (qc g) ≤ 500 * ln g := this
    omega
  · obtain ⟨p, hp, hs⟩ := List.mem_flatMap.1 hs
    exact (h.2 p hp).2 s hs
theorem qnk {s : Staff} (h : qh2 s) : ln (qh7 s) = ln s.Signs - s.Lead := qf4 h.1 h.2
theorem qos {l : List Staff} (h : ∀ s ∈ l, ln s.Signs ≤ 500 ∧ qh2 s) : ln (kl l) ≤ 500 * ln l := qj4 (by decide) fun s hs => by
  rw [qnk (h s hs).2]
  have := (h s hs).1
  have := (h s hs).2.1
  omega
theorem q2j {g : List Page} (h : smB g) (hl : qn g) : ln (qd g) ≤ 125000000 := by
  have h1 := qgs h
  have := qos (l := qc g) fun s hs => ⟨h1.2 s hs, hl s hs⟩
  have : ln (qd g) ≤ 500 * ln (qc g) := this
  omega
theorem qp5 (l : List Page) (p : Page) : qc (l ++ [p]) = qc l ++ p.Staves := by simp [qc]
theorem qjf (l : List Staff) (s : Staff) : kl (l ++ [s]) = kl l ++ qh7 s := by simp [kl]
theorem q39 (l m : List Staff) : kl (l ++ m) = kl l ++ kl m := by simp [kl]
theorem q38 (l m : List Page) : qd (l ++ m) = qd l ++ qd m := by simp [qd, kl, qc]
theorem qik {α : Type} {l : List α} {i : Int} {a : α} (h : a ∈ upto l i) : a ∈ l := List.mem_of_mem_take h
theorem q73 {g : List Page} {i : Int} (h : smB g) : smB (upto g i) := ⟨by
    have : ln (upto g i) ≤ ln g := by
      have := List.length_take_le' i.toNat g
      simp only [ln, upto]; omega
    have := h.1
    omega, fun p hp => h.2 p (qik hp)⟩

theorem q4n (a0 : List UInt8) (a1 : List Page) (hp : smB a1) : qoy a0 a1 := by
  unfold qoy
  refine ⟨⟨Int.le_refl 0, qo _, by rw [qbt]; rfl⟩, fun x0 x1 ⟨h1, h2, h3⟩ => ⟨fun h => ?_, fun h => ⟨by rw [h3, qet h], trivial⟩⟩⟩
  have hs := (qgs (q73 (i := x1) hp)).1
  rw [← h3] at hs
  have hq := (hp.2 _ (qbd h1 h)).1
  have h500 := hp.1
  refine ⟨⟨h1, h⟩, qgr (by omega), ⟨by omega, by omega⟩, rfl, rfl, ⟨by omega, by omega, ?_⟩, ?_⟩
  · rw [qah h1 h, qp5, h3]
  · show (ln a1 - (x1 + 1)).toNat < (ln a1 - x1).toNat; omega

theorem zap (a0 : List UInt8) (a1 : List Page) (hp : smB a1 ∧ qn a1) : qwf a0 a1 := by
  obtain ⟨hp, hl⟩ := hp
  have hst := qgs hp
  unfold qwf
  refine ⟨hp, ⟨Int.le_refl 0, qo _, rfl, by rw [qbt]; rfl⟩, fun x0 x1 x2 ⟨h1, h2, h3, h4⟩ => ⟨fun h => ?_, fun h => ⟨h3, by rw [h4, qet h]; rfl, trivial⟩⟩⟩
  have hm := qbd h1 h
  have hL := hl _ hm
  have hb := qos (l := upto (qc a1) x0) fun s hs => ⟨hst.2 s (qik hs), hl s (qik hs)⟩
  rw [← h4, qhu h1 h2] at hb
  have hq : ln (fr (ix (qc a1) x0).Signs (ix (qc a1) x0).Lead) = _ := qnk hL
  have h5 := hst.2 _ hm
  have h6 := hst.1
  have h7 := hL.1
  refine ⟨⟨h1, h⟩, hL, qgr (by omega), ⟨by omega, by omega⟩, rfl, rfl, rfl, ⟨by omega, by omega, h3, ?_⟩, ?_⟩
  · rw [qah h1 h, qjf, h4]; rfl
  · show (ln (qc a1) - (x0 + 1)).toNat < (ln (qc a1) - x0).toNat; omega

theorem q7g (a0 : List UInt8) (a1 : List Page) (a2 : Int) (hp : smB a1 ∧ qn a1 ∧ (0 : Int) ≤ a2 ∧ (a2 : Int) ≤ 1000000000000) : qsg a0 a1 a2 := by
  obtain ⟨hp, hl, ha, hb⟩ := hp
  have hst := qgs hp
  unfold qsg
  refine ⟨hp, ⟨Int.le_refl 0, qo _, ha, Int.le_refl _, by rw [qeh]; rfl⟩, fun x0 x1 ⟨h1, h2, h3, h4, h5⟩ => ⟨fun h => ?_, fun h => ⟨by rw [← h5, qfy h]; rfl, trivial⟩⟩⟩
  have hm := qbd h1 h
  have hL := hl _ hm
  have h6 := hst.2 _ hm
  have h7 := hL.1
  have h8 := hL.2
  have hs := hst.1
  rw [qa0 h1 h] at h5
  simp only [qsf] at h5
  refine ⟨⟨h1, h⟩, ⟨by omega, by omega⟩, ⟨by omega, by omega⟩, fun hc => ⟨?_, trivial⟩, fun hc => ⟨⟨by omega, by omega⟩, rfl, rfl, ⟨by omega, by omega, by omega, by omega, ?_⟩, ?_⟩⟩
  · rw [← h5, if_pos hc]
  · rw [← h5, if_neg (by omega)]
  · show (ln (qc a1) - (x1 + 1)).toNat < (ln (qc a1) - x1).toNat; omega

theorem q0a {α : Type} [Inhabited α] {a b : List α} (hl : ln a = ln b) (h : ∀ j, 0 ≤ j → j < ln a → ix a j = ix b j) : a = b := by
  refine List.ext_getElem (by simp only [ln] at hl; omega) fun i h1 h2 => ?_
  have := h (i : Int) (by omega) (by simp only [ln]; omega)
  rw [qz9 h1, qz9 h2] at this
  exact this
set_option maxHeartbeats 4000000 in
theorem q4j (a0 : List Sign) (a1 : Int) (a2 : Bool) (a3 : Int) (a4 a5 : List Sign) (hp : ln a0 ≤ 500 ∧ ln a4 ≤ 1 ∧ ln a5 ≤ 1) : qox a0 a1 a2 a3 a4 a5 := by
  unfold qox
  refine ⟨fun h => ⟨?_, trivial⟩, fun h => ⟨fun h' => ⟨?_, trivial⟩, fun h' => ⟨fun h2 => ⟨?_, trivial⟩, fun h2 => ⟨⟨h', by omega⟩, ⟨hp.2.1, hp.2.2⟩, fun h3 => ⟨?_, trivial⟩, fun h3 => ⟨⟨Int.le_refl 0, qo _, fun j a b => by omega⟩, fun x4 ⟨g1, g2, g3⟩ => ⟨fun g => ?_, fun g => ⟨?_, trivial⟩⟩⟩⟩⟩⟩⟩
  · unfold kp; rw [if_pos h]
  · unfold kp; rw [if_neg (show ¬ 60 < ln a0 by omega), if_pos h']
  · unfold kp; rw [if_neg (show ¬ 60 < ln a0 by omega), if_neg (show ¬ a1 < 0 by omega), if_pos h2]
  · unfold kp
    rw [if_neg (show ¬ 60 < ln a0 by omega), if_neg (show ¬ a1 < 0 by omega), if_neg (show ¬ ln a0 ≤ a1 by omega), if_neg]
    intro he
    have he : upto a0 a1 = a4 ++ a5 := he
    exact h3 (by rw [he])
  · have hu := qhu h' (show a1 ≤ ln a0 by omega)
    refine ⟨⟨g1, g⟩, ⟨g1, by omega⟩, fun hn => ⟨?_, trivial⟩, fun he => ⟨⟨by omega, by omega⟩, rfl, rfl, rfl, rfl, rfl, rfl, ⟨by omega, by omega, fun j j0 j1 => ?_⟩, ?_⟩⟩
    · unfold kp
      rw [if_neg (show ¬ 60 < ln a0 by omega), if_neg (show ¬ a1 < 0 by omega), if_neg (show ¬ ln a0 ≤ a1 by omega), if_neg]
      intro he
      have he : upto a0 a1 = a4 ++ a5 := he
      rw [he] at hn
      simp at hn
    · by_cases hj : j = x4
      · subst hj
        exact (qy4 _ _).1 he
      · exact g3 j j0 (by omega)
    · show (ln (upto a0 a1) - (x4 + 1)).toNat < (ln (upto a0 a1) - x4).toNat; omega
  · unfold kp
    rw [if_neg (show ¬ 60 < ln a0 by omega), if_neg (show ¬ a1 < 0 by omega), if_neg (show ¬ ln a0 ≤ a1 by omega), if_pos]
    show upto a0 a1 = a4 ++ a5
    exact q0a h3 fun j j0 j1 => g3 j j0 (by omega)
end Go.Proofs.YtlkfjinaiepocaaDoor
