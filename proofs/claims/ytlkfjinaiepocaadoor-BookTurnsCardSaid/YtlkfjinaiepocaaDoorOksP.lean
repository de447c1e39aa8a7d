/- THE CONDITIONS of the functions that Make reaches hold. -/
import Derived.Test.YtlkfjinaiepocaaDoorVcs
namespace Go.Proofs.YtlkfjinaiepocaaDoor
open Go Go.E2 Go.E3
set_option maxRecDepth 100000
section
theorem quq (b : Int) : qlg b = true ↔ ((97 ≤ b ∧ b ≤ 122) ∨ (48 ≤ b ∧ b ≤ 57) ∨ b = 45) := by
  simp only [qlg, qm9, Bool.or_eq_true, Bool.and_eq_true, decide_eq_true_eq]; omega
theorem qup (s : List UInt8) : ju s = true ↔ (1 ≤ ln s ∧ ln s ≤ 20 ∧ 97 ≤ bx s 0 ∧ bx s 0 ≤ 122 ∧ ∀ j, 0 ≤ j → j < ln s → qlg (bx s j) = true) := by
  simp only [ju, qm9, Bool.and_eq_true, decide_eq_true_eq, List.all_eq_true]
  constructor
  · rintro ⟨⟨⟨h1, h2⟩, h3, h4⟩, h5⟩
    exact ⟨h1, h2, h3, h4, fun j h0 h => h5 _ (qbd h0 h)⟩
  · rintro ⟨h1, h2, h3, h4, h5⟩
    refine ⟨⟨⟨h1, h2⟩, h3, h4⟩, fun b hb => ?_⟩
    obtain ⟨i, i0, i1, rfl⟩ := zcs hb
    exact h5 i i0 i1
theorem zac {s : List UInt8} (h : 1 ≤ ln s ∧ ln s ≤ 20 ∧ 97 ≤ bx s 0 ∧ bx s 0 ≤ 122 ∧ ∀ j, 0 ≤ j → j < ln s → qlg (bx s j) = true) : true = ju s := ((qup s).2 h).symm
theorem q2a {s : List UInt8} (h : ¬ (1 ≤ ln s ∧ ln s ≤ 20 ∧ 97 ≤ bx s 0 ∧ bx s 0 ≤ 122 ∧ ∀ j, 0 ≤ j → j < ln s → qlg (bx s j) = true)) : false = ju s := by
  cases hb : ju s with
  | false => rfl
  | true => exact absurd ((qup s).1 hb) h
theorem q3x {s : List UInt8} {i : Int} (h : ∀ j, 0 ≤ j → j < i → qlg (bx s j) = true) (hi : (97 ≤ bx s i ∧ bx s i ≤ 122) ∨ (48 ≤ bx s i ∧ bx s i ≤ 57) ∨ bx s i = 45) : ∀ j, 0 ≤ j → j < i + 1 → qlg (bx s j) = true := by
  intro j h0 hj
  by_cases he : j = i
  · subst he; exact (quq _).2 hi
  · exact h j h0 (by omega)
theorem q6z {s : List UInt8} {i : Int} (h0 : 0 ≤ i) (h : i < ln s) (hi : ¬ ((97 ≤ bx s i ∧ bx s i ≤ 122) ∨ (48 ≤ bx s i ∧ bx s i ≤ 57) ∨ bx s i = 45)) : false = ju s :=
  q2a fun hh => hi ((quq _).1 (hh.2.2.2.2 i h0 h))

theorem q5e (a0 : List UInt8) (hp : ln a0 ≤ 9223372036854775806) : qqt a0 := by
  unfold qqt
  have hn := qo a0
  unhygienic (repeat' (first | exact trivial | exact And.intro (by omega) trivial | apply And.intro | intro))
  all_goals try simp only [qab, zx] at *
  all_goals first
    | omega
    | exact ⟨by omega, by omega, fun j h0 h => absurd h (by omega)⟩
    | (refine q2a fun hh => ?_; omega)
    | (exact q3x a_4.2.2 (by omega) j (by assumption) (by assumption))
    | (obtain ⟨i0, i1, i2⟩ := a_4; exact q6z i0 (by assumption) (by omega))
    | (obtain ⟨i0, i1, i2⟩ := a_4; exact zac ⟨by omega, by omega, by omega, by omega, fun j h0 h => i2 j h0 (by omega)⟩)

theorem q2v (a0 a1 a2 a3 : Int) : qn0 a0 a1 a2 a3 := by
  unfold qn0
  unhygienic (repeat' (first | exact trivial | apply And.intro | intro))
  all_goals try simp only [k8, zm] at *
  all_goals first
    | omega
    | (unfold qil; split <;> omega)

theorem qzk (a0 : List UInt8) (a1 : List Sign) (hp : ln a0 ≤ 1000000000 ∧ ln a1 ≤ 1000000000) : qlo a0 a1 := by
  unfold qlo
  simp only [qsw]
  unhygienic (repeat' (first | exact trivial | exact And.intro (by omega) trivial | apply And.intro | intro))
  all_goals try simp only [qbc, qac] at *
  all_goals first
    | omega
    | skip
  all_goals grind [zl, qfk, q1d, qvp, qmw, q5t, ins]
end
section
end
section
theorem q43 (a0 : List Sign) (hp : ln a0 ≤ 10000000) : qwv a0 := by
  intro b hb
  refine ⟨fun h => ⟨(hb h).symm, trivial⟩, fun _ => ⟨?_, by simp, trivial⟩⟩
  simp only [ka, ln, List.length_nil] at *; omega
theorem q93 (a0 a1 : List Sign) (hp : ln a0 ≤ 1 ∧ ln a1 ≤ 1) : q14 a0 a1 :=
  ⟨by omega, qgr (by omega), rfl, trivial⟩
theorem q5o (a0 a1 : List Sign) (a2 a3 a4 a5 : Int) (a6 : Bool) (a7 : Int) (a8 a9 : Bool) (a10 a11 a12 a13 : Int) (a14 : Bool) (a15 a16 a17 a18 : Int) : qqx a0 a1 a2 a3 a4 a5 a6 a7 a8 a9 a10 a11 a12 a13 a14 a15 a16 a17 a18 := by
  unfold qqx kh
  unhygienic (repeat' (first | exact trivial | apply And.intro | intro))
  all_goals simp_all
theorem q3b (a0 : List Sign) (hp : ln a0 ≤ 1000000000) : qt3 a0 := by
  have hz : ∀ i, 0 ≤ i → i < ln a0 → zo (fr a0 i) = if (ix a0 i).Kind = 1 ∨ (ix a0 i).Kind = 4 then (true, (ix a0 i).Place) else zo (fr a0 (i + 1)) := fun i h0 h => by
    rw [qa0 h0 h, zo]
  have he : ∀ i, ln a0 ≤ i → zo (fr a0 i) = (false, 0) := fun i h => by rw [qfy h]; rfl
  refine ⟨⟨by omega, qo _, by rw [qeh]⟩, fun x ⟨i0, i1, i2⟩ => ⟨fun h => ⟨⟨i0, h⟩, fun k => ?_, fun k => ⟨fun k' => ?_, fun k' => ⟨by omega, ⟨by omega, by omega, ?_⟩, ?_⟩⟩⟩, fun h => ?_⟩⟩
  · rw [← i2, hz x i0 h, if_pos (.inl k)]; exact ⟨rfl, rfl, trivial⟩
  · rw [← i2, hz x i0 h, if_pos (.inr k')]; exact ⟨rfl, rfl, trivial⟩
  · rw [← i2, hz x i0 h, if_neg (by omega)]
  · simp only [qff]; omega
  · rw [← i2, he x h]; exact ⟨rfl, rfl, trivial⟩
theorem q9t (a0 : List Sign) (a1 : Int) (a2 : Bool) (hp : ln a0 ≤ 500) : qvu a0 a1 a2 := by
  have hgs : ∀ i to, tT a0 to = tT a0 (i + 1) → ¬ (to < ln a0 ∧ (ix a0 (to - 1)).Kind = 4 ∧ (ix a0 (to - 1)).Last = false) → gE a0 i = if to < ln a0 ∧ (ix a0 to).Kind = 3 then to + 1 else to := by
    intro i to h h'
    unfold gE
    rw [← h, qfg h']
  have hst : ∀ i rest, i < ln a0 → gE a0 i ≤ a1 → fA a0 a1 i rest = fA a0 a1 (gE a0 i) (if (ix a0 i).Kind = 2 then gE a0 i else rest) := fun i rest h h' => qkv h h'
  have hsp : ∀ i rest, ln a0 ≤ i ∨ a1 < gE a0 i → fA a0 a1 i rest = (i, rest) := fun i rest h => qmx h
  have hts : ∀ to, to < ln a0 → (ix a0 (to - 1)).Kind = 4 → (ix a0 (to - 1)).Last = false → tT a0 to = tT a0 (to + 1) := fun to h1 h2 h3 => qhz ⟨h1, h2, h3⟩
  have hfl : qj a0 a1 a2 = if a2 = true ∧ (fA a0 a1 0 0).1 < ln a0 ∧ 0 < (fA a0 a1 0 0).2 then (fA a0 a1 0 0).2 else (fA a0 a1 0 0).1 := rfl
  have hn := qo a0
  unfold qvu
  unhygienic (repeat' (first | exact trivial | exact And.intro (by omega) trivial | apply And.intro | intro))
  all_goals try simp only [zr, qq, qg7, qhw] at *
  all_goals first
    | omega
    | skip
  all_goals grind
end
section
variable {nm n : List UInt8} {l s c k : List Sign} {w h m : Int} {page : List Staff} {pages : List Page}

/-- What has been looked at before a book is laid out. -/
def qx6 (nm : List UInt8) (l : List Sign) (w h : Int) : Prop := (zl nm l).1 = 0 ∧ qln l < 0 ∧ 16 ≤ w ∧ w ≤ 60 ∧ 1 ≤ h ∧ h ≤ 12
theorem q0b (h1 : (zl nm l).1 ≠ 0) : mkB nm l w h = ([], [], (zl nm l).1) := by rw [mkB, if_pos h1]
theorem zab (h1 : (zl nm l).1 = 0) (h2 : 0 ≤ qln l) : mkB nm l w h = ([], [], 8) := by rw [mkB, if_neg (by omega), if_pos h2]
theorem q6x (h1 : (zl nm l).1 = 0) (h2 : qln l < 0) (h3 : w < 16 ∨ 60 < w ∨ h < 1 ∨ 12 < h) : mkB nm l w h = ([], [], 2) := by rw [mkB, if_neg (by omega), if_neg (by omega), if_pos h3]
theorem q99 (g : qx6 nm l w h) (hb : bk l w h 0 [] [] = none) : mkB nm l w h = ([], [], 11) := by
  obtain ⟨h1, h2, h3, h4, h5, h6⟩ := g
  rw [mkB, if_neg (by omega), if_neg (by omega), if_neg (by omega), hb]
theorem zaa (g : qx6 nm l w h) (hb : bk l w h 0 [] [] = some pages) : mkB nm l w h = (nm, pages, 0) := by
  obtain ⟨h1, h2, h3, h4, h5, h6⟩ := g
  rw [mkB, if_neg (by omega), if_neg (by omega), if_neg (by omega), hb]


theorem q4y : jf nm l w h l nm [] [] [] := ⟨0, Int.le_refl _, qo _, by rw [qeh], rfl, rfl, rfl, by simp [ln]⟩
theorem zbv (g : qx6 nm l w h) (hi : jf nm l w h s n pages c k) (hs : ln s ≤ 0) : n = (mkB nm l w h).1 ∧ pages = (mkB nm l w h).2.1 ∧ (0 : Int) = (mkB nm l w h).2.2 := by
  obtain ⟨i, i0, i1, rfl, rfl, hf, hb, hp⟩ := hi
  rw [qf4 i0 i1] at hs
  rw [q5v (by omega)] at hb
  rw [zaa g hb.symm]
  exact ⟨rfl, rfl, rfl⟩
theorem q4z (hi : jf nm l w h s n pages c k) (hs : 0 < ln s) (hh : 1 ≤ h) : zw nm l w h s 1 [] c k n pages := by
  obtain ⟨i, i0, i1, rfl, rfl, hf, hb, hp⟩ := hi
  rw [qf4 i0 i1] at hs
  exact ⟨i, i0, i1, rfl, rfl, hf, by rw [qv4]; rfl, by omega, hp, by omega, by omega, by rw [qv4]; omega, fun _ _ => hb, by omega⟩
theorem zbw (hi : zw nm l w h s m page c k n pages) : ln c ≤ 1 ∧ ln k ≤ 1 ∧ 0 ≤ ln (c ++ k) ∧ ln (c ++ k) ≤ 2 ∧ ln s ≤ ln l ∧ ln page ≤ ln l ∧ ln pages ≤ ln l ∧ 1 ≤ m ∧ m ≤ h + 1 := by
  obtain ⟨i, i0, i1, rfl, rfl, hf, h1, h2, h3, h4, h5, h6, _, _⟩ := hi
  have hfl := que l i
  rw [← hf] at hfl
  have a := qo c
  have b := qo k
  have p := qo page
  rw [qf4 i0 i1, qbq]
  dsimp only at hfl
  omega
theorem q04 (hi : zw nm l w h s m page c k n pages) (hh : 1 ≤ h) (ht : ln s ≤ 0 ∨ h < m) : jf nm l w h s n (pages ++ [Page.mk page]) c k ∧ ln pages + 1 ≤ ln l := by
  obtain ⟨i, i0, i1, rfl, rfl, hf, h1, h2, h3, h4, h5, h6, h7, h8⟩ := hi
  rw [qf4 i0 i1] at ht
  have p := qo page
  exact ⟨⟨i, i0, i1, rfl, rfl, hf, h8 (by omega), by rw [qas]; omega⟩, by omega⟩
theorem q41 (hi : zw nm l w h s m page c k n pages) {u : List Sign} : js nm l w h 0 c k s u := by
  obtain ⟨i, i0, i1, rfl, rfl, hf, _⟩ := hi
  refine ⟨Int.le_refl _, qo _, ?_⟩
  rw [qf4 i0 i1, hf]
  congr 1; omega
theorem q8p (hi : zw nm l w h s m page c k n pages) {j f : Int} {c' k' : List Sign} (hf0 : 0 ≤ f) (hf1 : f ≤ ln s) (h3 : js nm l w h j c' k' s (upto s f)) (hj : j < ln (upto s f)) :
    js nm l w h (j + 1) (kh c' k' (ix (upto s f) j)).1 (kh c' k' (ix (upto s f) j)).2 s (upto s f) := by
  obtain ⟨i, i0, i1, rfl, rfl, hf, _⟩ := hi
  obtain ⟨j0, j1, j2⟩ := h3
  refine ⟨by omega, by omega, ?_⟩
  have hl := qf4 i0 i1
  have hu := qhu hf0 hf1
  have e : ln l - ln (fr l i) + (j + 1) = (ln l - ln (fr l i) + j) + 1 := by omega
  have hx : ix (upto (fr l i) f) j = ix l (ln l - ln (fr l i) + j) := by
    have : ix (upto (fr l i) f) j = ix (fr l i) j := by
      unfold ix upto
      rw [List.getD_eq_getElem?_getD, List.getD_eq_getElem?_getD, List.getElem?_take]
      rw [if_pos (by omega)]
    rw [this, q13 i0 j0]
    congr 1; omega
  rw [e, qrq (by omega), ← j2, hx]
theorem q40 {j : Int} {c' k' u : List Sign} (h3 : js nm l w h j c' k' s u) : 0 ≤ j ∧ j ≤ ln u := ⟨h3.out.1, h3.out.2.1⟩
theorem zc8 (hi : zw nm l w h s m page c k n pages) (hm : m ≤ h) (hs : 0 < ln s) {f : Int} (hf : f = qj s (w - ln (c ++ k)) (decide (m = h))) :
    ∃ i, 0 ≤ i ∧ i < ln l ∧ s = fr l i ∧ c ++ k = qao l i ∧ i + f = nxt l w i (decide (ln page + 1 = h)) ∧ bk l w h i page pages = bk l w h 0 [] [] ∧ ln l - ln s = i := by
  obtain ⟨i, i0, i1, rfl, rfl, hfo, h1, h2, h3, h4, h5, h6, h7, h8⟩ := hi
  have hl := qf4 i0 i1
  have hc : c ++ k = qao l i := by unfold qao; rw [← hfo]
  refine ⟨i, i0, by omega, rfl, hc, ?_, h7 (by omega) hm, by omega⟩
  rw [hf, hc, q55 i0 i1, h1]
theorem zbx (g : qx6 nm l w h) (hi : zw nm l w h s m page c k n pages) (hm : m ≤ h) (hs : 0 < ln s) (hf : qj s (w - ln (c ++ k)) (decide (m = h)) ≤ 0) : mkB nm l w h = ([], [], 11) := by
  obtain ⟨i, i0, i1, _, _, h3, h4, _⟩ := zc8 hi hm hs rfl
  exact q99 g (by rw [← h4]; exact q5w i1 (by omega))
theorem q8o (hi : zw nm l w h s m page c k n pages) (hm : m ≤ h) (hs : 0 < ln s) {f j : Int} {c' k' : List Sign} (hf : f = qj s (w - ln (c ++ k)) (decide (m = h))) (hf0 : 0 < f)
    (h3 : js nm l w h j c' k' s (upto s f)) (hj : ln (upto s f) ≤ j) :
    zw nm l w h (fr s f) (m + 1) (page ++ [Staff.mk ((c ++ k) ++ upto s f) (ln (c ++ k)) (zo (fr s f)).1 (zo (fr s f)).2]) c' k' n pages := by
  obtain ⟨i, i0, i1, e1, e2, e3, e4, e5⟩ := zc8 hi hm hs hf
  obtain ⟨i', a0, a1, es, rfl, _, h1, h2, hp, h4, _, h6, _, _⟩ := hi
  have hii := qf4 a0 a1
  rw [← es] at hii
  have hfb := q1s (l := s) (room := w - ln (c ++ k)) (last := decide (m = h))
  rw [← hf] at hfb
  obtain ⟨j0, j1, j2⟩ := h3
  have hu := qhu (l := s) (i := f) (by omega) hfb.2
  have hj' : j = f := by omega
  subst hj'
  have hl : ln s = ln l - i := by omega
  have hfrs : fr s j = fr l (i + j) := by rw [e1, q6b i0 (by omega)]
  have hst : Staff.mk ((c ++ k) ++ upto s j) (ln (c ++ k)) (zo (fr s j)).1 (zo (fr s j)).2 = stf l i (i + j) := by
    have hsub : sub l i (i + j) = upto s j := by
      rw [qkp i0 (by omega), e1]; congr 1; omega
    unfold stf qq7
    rw [hsub, ← e2, hfrs]
  have hlen : ln (page ++ [stf l i (i + j)]) = ln page + 1 := qas _ _
  have hp' := qo page
  rw [hst]
  refine ⟨i + j, by omega, by omega, hfrs, rfl, ?_, by omega, by omega, by omega, by omega, by omega, by omega, fun hlt hmh => ?_, fun ht => ?_⟩
  · rw [j2, show ln l - ln s + j = i + j by omega]
  · rw [← e4, zbb i1 e3 (by omega) (by omega)]
  · rw [← e4, q1a i1 e3 (by omega) (by omega)]

theorem q5a (a0 : List UInt8) (a1 : List Sign) (a2 a3 : Int) (hp : ln a0 ≤ 1000000000 ∧ ln a1 ≤ 500) : qqs a0 a1 a2 a3 := by
  have hn := qo a1
  unfold qqs
  simp only [qsw]
  refine ⟨by omega, fun he => ⟨by rw [q0b he], by rw [q0b he], by rw [q0b he], trivial⟩, fun he => ⟨⟨Int.le_refl _, hn, by rw [qeh]; rfl⟩, fun x ⟨i0, i1, i2⟩ => ⟨fun hlt => ⟨⟨i0, hlt⟩, fun h11 => ⟨fun _ => ?_, fun hneg => absurd i0 (by omega)⟩, fun hne => ?_⟩, fun hge => ?_⟩⟩⟩
  · rw [qh1 i0 hlt, if_pos h11] at i2
    rw [zab he (by omega)]
    exact ⟨rfl, rfl, rfl, trivial⟩
  · rw [qh1 i0 hlt, if_neg hne] at i2
    refine ⟨by omega, trivial, trivial, trivial, trivial, ⟨by omega, by omega, i2⟩, ?_⟩
    simp only [qgf]; omega
  · rw [qs5 hge] at i2
    have ht : qln a1 < 0 := by omega
    refine ⟨fun h => ?_, fun h16 => ⟨fun h => ?_, fun h60 => ⟨fun h => ?_, fun h1 => ⟨fun h => ?_, fun h12 => ?_⟩⟩⟩⟩
    iterate 4
      · rw [q6x he ht (by omega)]; exact ⟨rfl, rfl, rfl, trivial⟩
    have g : qx6 a0 a1 a2 a3 := ⟨he, ht, h16, h60, h1, h12⟩
    refine ⟨by omega, q4y, fun s n pages c k hi => ⟨fun hs => ⟨q4z hi hs h1, fun s2 m page c2 k2 hj => ?_⟩, fun hs => ?_⟩⟩
    · have hL := zbw hj
      have hfb : 0 ≤ qj s2 (a2 - ln (c2 ++ k2)) (decide (m = a3)) ∧ qj s2 (a2 - ln (c2 ++ k2)) (decide (m = a3)) ≤ ln s2 := q1s
      have hp' := qo page
      have hu := qhu hfb.1 hfb.2
      have hr := qf4 hfb.1 hfb.2
      have hap : ln ((c2 ++ k2) ++ upto s2 (qj s2 (a2 - ln (c2 ++ k2)) (decide (m = a3)))) = ln (c2 ++ k2) + ln (upto s2 (qj s2 (a2 - ln (c2 ++ k2)) (decide (m = a3)))) := qbq _ _
      have hq' := qo pages
      unhygienic (repeat' (first | exact trivial | exact And.intro (by omega) trivial | apply And.intro | intro))
      all_goals first
        | omega
        | (have := q40 (by assumption); omega)
        | exact q41 hj
        | (exact q8p hj hfb.1 hfb.2 (by assumption) (by assumption))
        | (rw [zbx g hj (by assumption) (by assumption) (by omega)]; done)
        | (exact q8o hj (by assumption) (by assumption) rfl (by assumption) (by assumption) (by assumption))
        | (exact (q04 hj h1 (by first | exact .inl (by assumption) | exact .inr (by assumption))).1)
        | (exact qgr (by have := qhu hfb.1 hfb.2; omega))
        | (exact qhf (by omega))
        | (have := q40 (by assumption); simp only [qc6]; omega)
        | (simp only [j7]; omega)
        | (have := (q04 hj h1 (by first | exact .inl (by assumption) | exact .inr (by assumption))).2; simp only [j6, qas]; omega)
        | skip
    · obtain ⟨q1, q2, q3⟩ := zbv g hi hs
      exact ⟨q1, q2, q3, trivial⟩
end
section
set_option maxHeartbeats 4000000 in
theorem q8v (a0 a1 a2 a3 : Int) (a4 : Bool) (a5 : Int) (a6 a7 : Bool) (a8 a9 a10 a11 : Int) (a12 : Bool) (a13 a14 a15 a16 : Int) : qvh a0 a1 a2 a3 a4 a5 a6 a7 a8 a9 a10 a11 a12 a13 a14 a15 a16 := by
  unfold qvh
  unhygienic (repeat' (first | exact trivial | apply And.intro | intro))
  all_goals try omega
  all_goals grind (splits := 40) [qqe, qii, qe6, qil]
end
end Go.Proofs.YtlkfjinaiepocaaDoor
