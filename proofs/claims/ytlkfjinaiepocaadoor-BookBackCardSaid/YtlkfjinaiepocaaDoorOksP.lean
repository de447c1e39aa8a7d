/- THE CONDITIONS of the functions that Make reaches hold. -/
import Derived.Test.YtlkfjinaiepocaaDoorVcs
namespace Go.Proofs.YtlkfjinaiepocaaDoor
open Go Go.E2 Go.E3
set_option maxRecDepth 100000
section
theorem quf (b : Int) : qk3 b = true ↔ ((97 ≤ b ∧ b ≤ 122) ∨ (48 ≤ b ∧ b ≤ 57) ∨ b = 45) := by
  simp only [qk3, qmx, Bool.or_eq_true, Bool.and_eq_true, decide_eq_true_eq]; omega
theorem que (s : List UInt8) : jm s = true ↔ (1 ≤ ln s ∧ ln s ≤ 20 ∧ 97 ≤ bx s 0 ∧ bx s 0 ≤ 122 ∧ ∀ j, 0 ≤ j → j < ln s → qk3 (bx s j) = true) := by
  simp only [jm, qmx, Bool.and_eq_true, decide_eq_true_eq, List.all_eq_true]
  constructor
  · rintro ⟨⟨⟨h1, h2⟩, h3, h4⟩, h5⟩
    exact ⟨h1, h2, h3, h4, fun j h0 h => h5 _ (qc3 h0 h)⟩
  · rintro ⟨h1, h2, h3, h4, h5⟩
    refine ⟨⟨⟨h1, h2⟩, h3, h4⟩, fun b hb => ?_⟩
    obtain ⟨i, i0, i1, rfl⟩ := zcp hb
    exact h5 i i0 i1
theorem q98 {s : List UInt8} (h : 1 ≤ ln s ∧ ln s ≤ 20 ∧ 97 ≤ bx s 0 ∧ bx s 0 ≤ 122 ∧ ∀ j, 0 ≤ j → j < ln s → qk3 (bx s j) = true) : true = jm s := ((que s).2 h).symm
theorem q15 {s : List UInt8} (h : ¬ (1 ≤ ln s ∧ ln s ≤ 20 ∧ 97 ≤ bx s 0 ∧ bx s 0 ≤ 122 ∧ ∀ j, 0 ≤ j → j < ln s → qk3 (bx s j) = true)) : false = jm s := by
  cases hb : jm s with
  | false => rfl
  | true => exact absurd ((que s).1 hb) h
theorem q3p {s : List UInt8} {i : Int} (h : ∀ j, 0 ≤ j → j < i → qk3 (bx s j) = true) (hi : (97 ≤ bx s i ∧ bx s i ≤ 122) ∨ (48 ≤ bx s i ∧ bx s i ≤ 57) ∨ bx s i = 45) : ∀ j, 0 ≤ j → j < i + 1 → qk3 (bx s j) = true := by
  intro j h0 hj
  by_cases he : j = i
  · subst he; exact (quf _).2 hi
  · exact h j h0 (by omega)
theorem q6s {s : List UInt8} {i : Int} (h0 : 0 ≤ i) (h : i < ln s) (hi : ¬ ((97 ≤ bx s i ∧ bx s i ≤ 122) ∨ (48 ≤ bx s i ∧ bx s i ≤ 57) ∨ bx s i = 45)) : false = jm s :=
  q15 fun hh => hi ((quf _).1 (hh.2.2.2.2 i h0 h))

theorem q49 (a0 : List UInt8) (hp : ln a0 ≤ 9223372036854775806) : qqh a0 := by
  unfold qqh
  have hn := qx a0
  unhygienic (repeat' (first | exact trivial | exact And.intro (by omega) trivial | apply And.intro | intro))
  all_goals try simp only [j3, zt] at *
  all_goals first
    | omega
    | exact ⟨by omega, by omega, fun j h0 h => absurd h (by omega)⟩
    | (refine q15 fun hh => ?_; omega)
    | (exact q3p a_4.2.2 (by omega) j (by assumption) (by assumption))
    | (obtain ⟨i0, i1, i2⟩ := a_4; exact q6s i0 (by assumption) (by omega))
    | (obtain ⟨i0, i1, i2⟩ := a_4; exact q98 ⟨by omega, by omega, by omega, by omega, fun j h0 h => i2 j h0 (by omega)⟩)

theorem q2r (a0 a1 a2 a3 : Int) : qnm a0 a1 a2 a3 := by
  unfold qnm
  unhygienic (repeat' (first | exact trivial | apply And.intro | intro))
  all_goals try simp only [kx, zi] at *
  all_goals first
    | omega
    | (unfold qh5; split <;> omega)

theorem qzf (a0 : List UInt8) (a1 : List Sign) (hp : ln a0 ≤ 1000000000 ∧ ln a1 ≤ 1000000000) : qlb a0 a1 := by
  unfold qlb
  simp only [qsk]
  unhygienic (repeat' (first | exact trivial | exact And.intro (by omega) trivial | apply And.intro | intro))
  all_goals try simp only [qa2, j4] at *
  all_goals first
    | omega
    | skip
  all_goals grind [zh, qfa, q08, qvi, qmm, q5n, ins]
end
section
theorem q37 {a b : List Sign} (h : a = b) : qh7 a b = true := decide_eq_true h
theorem qyy {a b : List Sign} (h : a ≠ b) : qh7 a b = false := decide_eq_false h
theorem q7t {a b : Sign} (h1 : a.Kind = b.Kind) (h2 : a.Value = b.Value) (h3 : a.Place = b.Place) (h4 : a.Acc = b.Acc) (h5 : a.Color = b.Color) (h6 : a.Stem = b.Stem) (h7 : a.Oblique = b.Oblique) (h8 : a.Last = b.Last) (h9 : a.MensMax = b.MensMax) (h10 : a.MensMod = b.MensMod) (h11 : a.MensTem = b.MensTem) (h12 : a.MensPro = b.MensPro) (h13 : a.Stroke = b.Stroke) (h14 : a.N = b.N) (h15 : a.D = b.D) (h16 : a.ClefStep = b.ClefStep) (h17 : a.ClefLine = b.ClefLine) : a = b := by
  cases a; cases b; simp_all
theorem qu9 (a0 a1 : List Sign) (hp : ln a0 ≤ 10000000) : ql7 a0 a1 := by
  refine ⟨fun h => ⟨(qyy fun he => h (by rw [he])).symm, trivial⟩, fun hl => ⟨⟨by omega, qx _, fun j j0 j1 => by omega⟩, fun x ⟨i0, i1, i2⟩ => ⟨fun h => ⟨⟨i0, h⟩, ⟨i0, by omega⟩, fun hc => ⟨(qyy fun he => ?_).symm, trivial⟩, fun hc => ⟨by omega, ⟨by omega, by omega, fun j j0 j1 => ?_⟩, ?_⟩⟩, fun h => ⟨(q37 (qyc hl fun j j0 j1 => i2 j j0 (by omega))).symm, trivial⟩⟩⟩⟩
  · subst he; simp at hc
  · by_cases he : j = x
    · subst he
      obtain ⟨h1, h2, h3, h4, h5, h6, h7, h8, h9, h10, h11, h12, h13, h14, h15, h16, h17⟩ := hc
      exact q7t h1 h2 h3 h4 h5 h6 h7 h8 h9 h10 h11 h12 h13 h14 h15 h16 h17
    · exact i2 j j0 (by omega)
  · simp only [qct]; omega
theorem qwy (a0 : List UInt8) (a1 : List Sign) (a2 : List UInt8) (a3 : List Sign) (hp : ln a1 ≤ 10000000) : qot a0 a1 a2 a3 := by
  refine ⟨fun h => ⟨hp, ?_, trivial⟩, fun h => ⟨?_, trivial⟩⟩
  · simp only [qh7, z6, h, true_and]
  · simp [z6, h]
end
section
theorem q4y (a0 : List Sign) (hp : ln a0 ≤ 10000000) : qwo a0 := by
  intro b hb
  refine ⟨fun h => ⟨(hb h).symm, trivial⟩, fun _ => ⟨?_, by simp, trivial⟩⟩
  simp only [z5, ln, List.length_nil] at *; omega
theorem q9z (a0 a1 : List Sign) (hp : ln a0 ≤ 1 ∧ ln a1 ≤ 1) : q11 a0 a1 :=
  ⟨by omega, qkp (by omega), rfl, trivial⟩
theorem q5i (a0 a1 : List Sign) (a2 a3 a4 a5 : Int) (a6 : Bool) (a7 : Int) (a8 a9 : Bool) (a10 a11 a12 a13 : Int) (a14 : Bool) (a15 a16 a17 a18 : Int) : qqk a0 a1 a2 a3 a4 a5 a6 a7 a8 a9 a10 a11 a12 a13 a14 a15 a16 a17 a18 := by
  unfold qqk kc
  unhygienic (repeat' (first | exact trivial | apply And.intro | intro))
  all_goals simp_all
theorem q24 (a0 : List Sign) (hp : ln a0 ≤ 1000000000) : qtt a0 := by
  have hz : ∀ i, 0 ≤ i → i < ln a0 → zj (fr a0 i) = if (ix a0 i).Kind = 1 ∨ (ix a0 i).Kind = 4 then (true, (ix a0 i).Place) else zj (fr a0 (i + 1)) := fun i h0 h => by
    rw [qbc h0 h, zj]
  have he : ∀ i, ln a0 ≤ i → zj (fr a0 i) = (false, 0) := fun i h => by rw [qin h]; rfl
  refine ⟨⟨by omega, qx _, by rw [qe1]⟩, fun x ⟨i0, i1, i2⟩ => ⟨fun h => ⟨⟨i0, h⟩, fun k => ?_, fun k => ⟨fun k' => ?_, fun k' => ⟨by omega, ⟨by omega, by omega, ?_⟩, ?_⟩⟩⟩, fun h => ?_⟩⟩
  · rw [← i2, hz x i0 h, if_pos (.inl k)]; exact ⟨rfl, rfl, trivial⟩
  · rw [← i2, hz x i0 h, if_pos (.inr k')]; exact ⟨rfl, rfl, trivial⟩
  · rw [← i2, hz x i0 h, if_neg (by omega)]
  · simp only [qe5]; omega
  · rw [← i2, he x h]; exact ⟨rfl, rfl, trivial⟩
theorem q9q (a0 : List Sign) (a1 : Int) (a2 : Bool) (hp : ln a0 ≤ 500) : qvn a0 a1 a2 := by
  have hgs : ∀ i to, tT a0 to = tT a0 (i + 1) → ¬ (to < ln a0 ∧ (ix a0 (to - 1)).Kind = 4 ∧ (ix a0 (to - 1)).Last = false) → gE a0 i = if to < ln a0 ∧ (ix a0 to).Kind = 3 then to + 1 else to := by
    intro i to h h'
    unfold gE
    rw [← h, qe6 h']
  have hst : ∀ i rest, i < ln a0 → gE a0 i ≤ a1 → fA a0 a1 i rest = fA a0 a1 (gE a0 i) (if (ix a0 i).Kind = 2 then gE a0 i else rest) := fun i rest h h' => qkh h h'
  have hsp : ∀ i rest, ln a0 ≤ i ∨ a1 < gE a0 i → fA a0 a1 i rest = (i, rest) := fun i rest h => qmn h
  have hts : ∀ to, to < ln a0 → (ix a0 (to - 1)).Kind = 4 → (ix a0 (to - 1)).Last = false → tT a0 to = tT a0 (to + 1) := fun to h1 h2 h3 => qhm ⟨h1, h2, h3⟩
  have hfl : qi a0 a1 a2 = if a2 = true ∧ (fA a0 a1 0 0).1 < ln a0 ∧ 0 < (fA a0 a1 0 0).2 then (fA a0 a1 0 0).2 else (fA a0 a1 0 0).1 := rfl
  have hn := qx a0
  unfold qvn
  unhygienic (repeat' (first | exact trivial | exact And.intro (by omega) trivial | apply And.intro | intro))
  all_goals try simp only [zm, qp, qgu, qhj] at *
  all_goals first
    | omega
    | skip
  all_goals grind
end
section
variable {nm n : List UInt8} {l s c k : List Sign} {w h m : Int} {page : List Staff} {pages : List Page}

/-- What has been looked at before a book is laid out. -/
def qx2 (nm : List UInt8) (l : List Sign) (w h : Int) : Prop := (zh nm l).1 = 0 ∧ qla l < 0 ∧ 16 ≤ w ∧ w ≤ 60 ∧ 1 ≤ h ∧ h ≤ 12
theorem qz7 (h1 : (zh nm l).1 ≠ 0) : mkB nm l w h = ([], [], (zh nm l).1) := by rw [mkB, if_pos h1]
theorem q97 (h1 : (zh nm l).1 = 0) (h2 : 0 ≤ qla l) : mkB nm l w h = ([], [], 8) := by rw [mkB, if_neg (by omega), if_pos h2]
theorem q6q (h1 : (zh nm l).1 = 0) (h2 : qla l < 0) (h3 : w < 16 ∨ 60 < w ∨ h < 1 ∨ 12 < h) : mkB nm l w h = ([], [], 2) := by rw [mkB, if_neg (by omega), if_neg (by omega), if_pos h3]
theorem q95 (g : qx2 nm l w h) (hb : bk l w h 0 [] [] = none) : mkB nm l w h = ([], [], 11) := by
  obtain ⟨h1, h2, h3, h4, h5, h6⟩ := g
  rw [mkB, if_neg (by omega), if_neg (by omega), if_neg (by omega), hb]
theorem q96 (g : qx2 nm l w h) (hb : bk l w h 0 [] [] = some pages) : mkB nm l w h = (nm, pages, 0) := by
  obtain ⟨h1, h2, h3, h4, h5, h6⟩ := g
  rw [mkB, if_neg (by omega), if_neg (by omega), if_neg (by omega), hb]


theorem q4q : k8 nm l w h l nm [] [] [] := ⟨0, Int.le_refl _, qx _, by rw [qe1], rfl, rfl, rfl, by simp [ln]⟩
theorem zbr (g : qx2 nm l w h) (hi : k8 nm l w h s n pages c k) (hs : ln s ≤ 0) : n = (mkB nm l w h).1 ∧ pages = (mkB nm l w h).2.1 ∧ (0 : Int) = (mkB nm l w h).2.2 := by
  obtain ⟨i, i0, i1, rfl, rfl, hf, hb, hp⟩ := hi
  rw [qgv i0 i1] at hs
  rw [q5p (by omega)] at hb
  rw [q96 g hb.symm]
  exact ⟨rfl, rfl, rfl⟩
theorem q4r (hi : k8 nm l w h s n pages c k) (hs : 0 < ln s) (hh : 1 ≤ h) : zs nm l w h s 1 [] c k n pages := by
  obtain ⟨i, i0, i1, rfl, rfl, hf, hb, hp⟩ := hi
  rw [qgv i0 i1] at hs
  exact ⟨i, i0, i1, rfl, rfl, hf, by rw [qvx]; rfl, by omega, hp, by omega, by omega, by rw [qvx]; omega, fun _ _ => hb, by omega⟩
theorem zbs (hi : zs nm l w h s m page c k n pages) : ln c ≤ 1 ∧ ln k ≤ 1 ∧ 0 ≤ ln (c ++ k) ∧ ln (c ++ k) ≤ 2 ∧ ln s ≤ ln l ∧ ln page ≤ ln l ∧ ln pages ≤ ln l ∧ 1 ≤ m ∧ m ≤ h + 1 := by
  obtain ⟨i, i0, i1, rfl, rfl, hf, h1, h2, h3, h4, h5, h6, _, _⟩ := hi
  have hfl := qt4 l i
  rw [← hf] at hfl
  have a := qx c
  have b := qx k
  have p := qx page
  rw [qgv i0 i1, qdt]
  dsimp only at hfl
  omega
theorem q0z (hi : zs nm l w h s m page c k n pages) (hh : 1 ≤ h) (ht : ln s ≤ 0 ∨ h < m) : k8 nm l w h s n (pages ++ [Page.mk page]) c k ∧ ln pages + 1 ≤ ln l := by
  obtain ⟨i, i0, i1, rfl, rfl, hf, h1, h2, h3, h4, h5, h6, h7, h8⟩ := hi
  rw [qgv i0 i1] at ht
  have p := qx page
  exact ⟨⟨i, i0, i1, rfl, rfl, hf, h8 (by omega), by rw [qbq]; omega⟩, by omega⟩
theorem q4t (hi : zs nm l w h s m page c k n pages) {u : List Sign} : jk nm l w h 0 c k s u := by
  obtain ⟨i, i0, i1, rfl, rfl, hf, _⟩ := hi
  refine ⟨Int.le_refl _, qx _, ?_⟩
  rw [qgv i0 i1, hf]
  congr 1; omega
theorem q8j (hi : zs nm l w h s m page c k n pages) {j f : Int} {c' k' : List Sign} (hf0 : 0 ≤ f) (hf1 : f ≤ ln s) (h3 : jk nm l w h j c' k' s (upto s f)) (hj : j < ln (upto s f)) :
    jk nm l w h (j + 1) (kc c' k' (ix (upto s f) j)).1 (kc c' k' (ix (upto s f) j)).2 s (upto s f) := by
  obtain ⟨i, i0, i1, rfl, rfl, hf, _⟩ := hi
  obtain ⟨j0, j1, j2⟩ := h3
  refine ⟨by omega, by omega, ?_⟩
  have hl := qgv i0 i1
  have hu := qiw hf0 hf1
  have e : ln l - ln (fr l i) + (j + 1) = (ln l - ln (fr l i) + j) + 1 := by omega
  have hx : ix (upto (fr l i) f) j = ix l (ln l - ln (fr l i) + j) := by
    have : ix (upto (fr l i) f) j = ix (fr l i) j := by
      unfold ix upto
      rw [List.getD_eq_getElem?_getD, List.getD_eq_getElem?_getD, List.getElem?_take]
      rw [if_pos (by omega)]
    rw [this, q1z i0 j0]
    congr 1; omega
  rw [e, qrd (by omega), ← j2, hx]
theorem q4s {j : Int} {c' k' u : List Sign} (h3 : jk nm l w h j c' k' s u) : 0 ≤ j ∧ j ≤ ln u := ⟨h3.out.1, h3.out.2.1⟩
theorem zc6 (hi : zs nm l w h s m page c k n pages) (hm : m ≤ h) (hs : 0 < ln s) {f : Int} (hf : f = qi s (w - ln (c ++ k)) (decide (m = h))) :
    ∃ i, 0 ≤ i ∧ i < ln l ∧ s = fr l i ∧ c ++ k = qal l i ∧ i + f = nxt l w i (decide (ln page + 1 = h)) ∧ bk l w h i page pages = bk l w h 0 [] [] ∧ ln l - ln s = i := by
  obtain ⟨i, i0, i1, rfl, rfl, hfo, h1, h2, h3, h4, h5, h6, h7, h8⟩ := hi
  have hl := qgv i0 i1
  have hc : c ++ k = qal l i := by unfold qal; rw [← hfo]
  refine ⟨i, i0, by omega, rfl, hc, ?_, h7 (by omega) hm, by omega⟩
  rw [hf, hc, q5z i0 i1, h1]
theorem zbt (g : qx2 nm l w h) (hi : zs nm l w h s m page c k n pages) (hm : m ≤ h) (hs : 0 < ln s) (hf : qi s (w - ln (c ++ k)) (decide (m = h)) ≤ 0) : mkB nm l w h = ([], [], 11) := by
  obtain ⟨i, i0, i1, _, _, h3, h4, _⟩ := zc6 hi hm hs rfl
  exact q95 g (by rw [← h4]; exact q5q i1 (by omega))
theorem q8i (hi : zs nm l w h s m page c k n pages) (hm : m ≤ h) (hs : 0 < ln s) {f j : Int} {c' k' : List Sign} (hf : f = qi s (w - ln (c ++ k)) (decide (m = h))) (hf0 : 0 < f)
    (h3 : jk nm l w h j c' k' s (upto s f)) (hj : ln (upto s f) ≤ j) :
    zs nm l w h (fr s f) (m + 1) (page ++ [Staff.mk ((c ++ k) ++ upto s f) (ln (c ++ k)) (zj (fr s f)).1 (zj (fr s f)).2]) c' k' n pages := by
  obtain ⟨i, i0, i1, e1, e2, e3, e4, e5⟩ := zc6 hi hm hs hf
  obtain ⟨i', a0, a1, es, rfl, _, h1, h2, hp, h4, _, h6, _, _⟩ := hi
  have hii := qgv a0 a1
  rw [← es] at hii
  have hfb := q1p (l := s) (room := w - ln (c ++ k)) (last := decide (m = h))
  rw [← hf] at hfb
  obtain ⟨j0, j1, j2⟩ := h3
  have hu := qiw (l := s) (i := f) (by omega) hfb.2
  have hj' : j = f := by omega
  subst hj'
  have hl : ln s = ln l - i := by omega
  have hfrs : fr s j = fr l (i + j) := by rw [e1, q55 i0 (by omega)]
  have hst : Staff.mk ((c ++ k) ++ upto s j) (ln (c ++ k)) (zj (fr s j)).1 (zj (fr s j)).2 = stf l i (i + j) := by
    have hsub : sub l i (i + j) = upto s j := by
      rw [qkb i0 (by omega), e1]; congr 1; omega
    unfold stf qqu
    rw [hsub, ← e2, hfrs]
  have hlen : ln (page ++ [stf l i (i + j)]) = ln page + 1 := qbq _ _
  have hp' := qx page
  rw [hst]
  refine ⟨i + j, by omega, by omega, hfrs, rfl, ?_, by omega, by omega, by omega, by omega, by omega, by omega, fun hlt hmh => ?_, fun ht => ?_⟩
  · rw [j2, show ln l - ln s + j = i + j by omega]
  · rw [← e4, za7 i1 e3 (by omega) (by omega)]
  · rw [← e4, q05 i1 e3 (by omega) (by omega)]

theorem q45 (a0 : List UInt8) (a1 : List Sign) (a2 a3 : Int) (hp : ln a0 ≤ 1000000000 ∧ ln a1 ≤ 500) : qqg a0 a1 a2 a3 := by
  have hn := qx a1
  unfold qqg
  simp only [qsk]
  refine ⟨by omega, fun he => ⟨by rw [qz7 he], by rw [qz7 he], by rw [qz7 he], trivial⟩, fun he => ⟨⟨Int.le_refl _, hn, by rw [qe1]; rfl⟩, fun x ⟨i0, i1, i2⟩ => ⟨fun hlt => ⟨⟨i0, hlt⟩, fun h11 => ⟨fun _ => ?_, fun hneg => absurd i0 (by omega)⟩, fun hne => ?_⟩, fun hge => ?_⟩⟩⟩
  · rw [qho i0 hlt, if_pos h11] at i2
    rw [q97 he (by omega)]
    exact ⟨rfl, rfl, rfl, trivial⟩
  · rw [qho i0 hlt, if_neg hne] at i2
    refine ⟨by omega, trivial, trivial, trivial, trivial, ⟨by omega, by omega, i2⟩, ?_⟩
    simp only [qf2]; omega
  · rw [qst hge] at i2
    have ht : qla a1 < 0 := by omega
    refine ⟨fun h => ?_, fun h16 => ⟨fun h => ?_, fun h60 => ⟨fun h => ?_, fun h1 => ⟨fun h => ?_, fun h12 => ?_⟩⟩⟩⟩
    iterate 4
      · rw [q6q he ht (by omega)]; exact ⟨rfl, rfl, rfl, trivial⟩
    have g : qx2 a0 a1 a2 a3 := ⟨he, ht, h16, h60, h1, h12⟩
    refine ⟨by omega, q4q, fun s n pages c k hi => ⟨fun hs => ⟨q4r hi hs h1, fun s2 m page c2 k2 hj => ?_⟩, fun hs => ?_⟩⟩
    · have hL := zbs hj
      have hfb : 0 ≤ qi s2 (a2 - ln (c2 ++ k2)) (decide (m = a3)) ∧ qi s2 (a2 - ln (c2 ++ k2)) (decide (m = a3)) ≤ ln s2 := q1p
      have hp' := qx page
      have hu := qiw hfb.1 hfb.2
      have hr := qgv hfb.1 hfb.2
      have hap : ln ((c2 ++ k2) ++ upto s2 (qi s2 (a2 - ln (c2 ++ k2)) (decide (m = a3)))) = ln (c2 ++ k2) + ln (upto s2 (qi s2 (a2 - ln (c2 ++ k2)) (decide (m = a3)))) := qdt _ _
      have hq' := qx pages
      unhygienic (repeat' (first | exact trivial | exact And.intro (by omega) trivial | apply And.intro | intro))
      all_goals first
        | omega
        | (have := q4s (by assumption); omega)
        | exact q4t hj
        | (exact q8j hj hfb.1 hfb.2 (by assumption) (by assumption))
        | (rw [zbt g hj (by assumption) (by assumption) (by omega)]; done)
        | (exact q8i hj (by assumption) (by assumption) rfl (by assumption) (by assumption) (by assumption))
        | (exact (q0z hj h1 (by first | exact .inl (by assumption) | exact .inr (by assumption))).1)
        | (exact qkp (by have := qiw hfb.1 hfb.2; omega))
        | (exact qg3 (by omega))
        | (have := q4s (by assumption); simp only [qcs]; omega)
        | (simp only [jv]; omega)
        | (have := (q0z hj h1 (by first | exact .inl (by assumption) | exact .inr (by assumption))).2; simp only [ju, qbq]; omega)
        | skip
    · obtain ⟨q1, q2, q3⟩ := zbr g hi hs
      exact ⟨q1, q2, q3, trivial⟩
end
section
set_option maxHeartbeats 4000000 in
theorem q8p (a0 a1 a2 a3 : Int) (a4 : Bool) (a5 : Int) (a6 a7 : Bool) (a8 a9 a10 a11 : Int) (a12 : Bool) (a13 a14 a15 a16 : Int) : qu6 a0 a1 a2 a3 a4 a5 a6 a7 a8 a9 a10 a11 a12 a13 a14 a15 a16 := by
  unfold qu6
  unhygienic (repeat' (first | exact trivial | apply And.intro | intro))
  all_goals try omega
  all_goals grind (splits := 40) [qp2, qh3, qev, qh5]
end
end Go.Proofs.YtlkfjinaiepocaaDoor
