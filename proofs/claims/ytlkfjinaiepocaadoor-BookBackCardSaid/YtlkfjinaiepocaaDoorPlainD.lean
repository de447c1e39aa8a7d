/- THE LAWS ON BOOKS: what Check, Back, Turns answer for the book of a well made part. Plain Lean; no program in sight. -/
import Derived.Test.YtlkfjinaiepocaaDoorPlainC
import Derived.Test.YtlkfjinaiepocaaDoorOksT
namespace Go.Proofs.YtlkfjinaiepocaaDoor
open Go Go.E2 Go.E3

theorem q7y {l : List Sign} {i j : Int} (h0 : 0 ≤ i) (hij : i < j) (hj : j ≤ ln l) : sub l i j = ix l i :: sub l (i + 1) j := by
  rw [qkb h0 (by omega), qbc h0 (by omega), qkb (by omega) (by omega)]
  unfold upto
  rw [show (j - i).toNat = (j - (i + 1)).toNat + 1 by omega]
  rfl
theorem q2f {l : List Sign} {i : Int} (h0 : 0 ≤ i) : sub l i i = [] := by
  rw [qkb h0 (Int.le_refl i), Int.sub_self]; rfl
theorem zas {l : List Sign} {i j : Int} (h0 : 0 ≤ i) (hij : i ≤ j) : sub l i j ++ fr l j = fr l i := by
  have : fr l j = fr (fr l i) (j - i) := by rw [q55 h0 (by omega)]; congr 1; omega
  rw [qkb h0 hij, this]
  exact List.take_append_drop _ _
theorem q7z {l : List Sign} {i j k : Int} (h0 : 0 ≤ i) (hij : i ≤ j) (hjk : j ≤ k) : sub l i j ++ sub l j k = sub l i k := by
  rw [qkb h0 hij, qkb (by omega) hjk, qkb h0 (by omega)]
  have : fr l j = fr (fr l i) (j - i) := by rw [q55 h0 (by omega)]; congr 1; omega
  rw [this]
  unfold upto fr
  rw [show (k - i).toNat = (j - i).toNat + (k - j).toNat by omega, List.take_add]
theorem qrt {l : List Sign} {i j : Int} (h0 : 0 ≤ i) (hij : i ≤ j) (hj : j ≤ ln l) : ln (stf l i j).Signs = ln (qal l i) + (j - i) := by
  show ln (qal l i ++ sub l i j) = _
  rw [qdt, zcm h0 hij hj]
theorem q19 {l : List Sign} {i j : Int} : qoe (stf l i j) = sub l i j := by
  show fr (qal l i ++ sub l i j) (ln (qal l i)) = _
  simp [fr, ln]
theorem q6k {l : List Sign} {i j : Int} (h0 : 0 ≤ i) (hij : i ≤ j) (hj : j ≤ ln l) : qib (stf l i j) := by
  refine ⟨qx _, ?_⟩
  rw [qrt h0 hij hj]
  show ln (qal l i) ≤ _
  omega
theorem qt5 {l : List Sign} {i j : Int} (h0 : 0 ≤ i) (hij : i ≤ j) (hj : j ≤ ln l) : qvo (qas l i) (sub l i j) = qas l j := by
  by_cases hc : i < j
  · rw [q7y h0 hc hj]
    show qvo (kc (qas l i).1 (qas l i).2 (ix l i)) (sub l (i + 1) j) = _
    rw [← qrd h0]
    exact qt5 (by omega) (by omega) hj
  · have : i = j := by omega
    subst this
    rw [q2f h0]; rfl
 termination_by (j - i).toNat
 decreasing_by omega
theorem q0n {l : List Sign} {w i j : Int} (h0 : 0 ≤ i) (hij : i < j) (hj : j ≤ ln l) (hw : ln (qal l i) + (j - i) ≤ w) (hw60 : w ≤ 60) : kg (stf l i j) (qas l i).1 (qas l i).2 = 0 := by
  have e := qrt h0 (Int.le_of_lt hij) hj
  have hn := qx (qal l i)
  unfold kg
  rw [if_neg (by omega), if_neg (show ¬ (stf l i j).Lead < 0 by show ¬ ln (qal l i) < 0; omega), if_neg (show ¬ ln (stf l i j).Signs ≤ (stf l i j).Lead by rw [e]; show ¬ _ ≤ ln (qal l i); omega), if_pos]
  show upto (qal l i ++ sub l i j) (ln (qal l i)) = qal l i
  simp [upto, ln]

/-! ### Of staves -/
theorem Stw.part {l : List Sign} {w i j : Int} {r : List Staff} (h : Stw l w i j r) (h0 : 0 ≤ i) : qdc r = sub l i j := by
  induction h with
  | nil => rw [q2f h0]; rfl
  | @cons i j k r a b c d e hr ih =>
    have := hr.le
    have := qx r
    show qoe (stf l i j) ++ qdc r = _
    rw [q19, ih (by omega), q7z a (by omega) (by omega)]
theorem Stw.leads {l : List Sign} {w i j : Int} {r : List Staff} (h : Stw l w i j r) : ∀ s ∈ r, qib s := by
  induction h with
  | nil => intro s hs; cases hs
  | cons a b c d e _ ih =>
    intro s hs
    rcases List.mem_cons.1 hs with hs | hs
    · rw [hs]; exact q6k a (by omega) d
    · exact ih s hs
theorem Stw.wide {l : List Sign} {w i j : Int} {r : List Staff} (h : Stw l w i j r) : ∀ s ∈ r, ln s.Signs ≤ w := by
  induction h with
  | nil => intro s hs; cases hs
  | cons a b c d e _ ih =>
    intro s hs
    rcases List.mem_cons.1 hs with hs | hs
    · rw [hs, qrt a (by omega) d]; exact e
    · exact ih s hs
theorem Stw.page {l : List Sign} {w i k : Int} {r : List Staff} (h : Stw l w i k r) (hw : w ≤ 60) (n j : Int) (hj : j + ln r ≤ 12) : qck (qas l i) n j r = (0, qas l k, n + ln r) := by
  induction h generalizing n j with
  | nil => simp [qck, ln]
  | @cons i j' k r a b c d e _ ih =>
    rw [qiv] at hj
    have hr := qx r
    simp only [qck]
    rw [if_neg (by omega), if_neg (by rw [q0n a c d e hw]; simp), q19, qt5 a (by omega) d, ih _ _ (by omega), qiv]
    simp only [Prod.mk.injEq, true_and]
    omega
theorem Stw.cat {l : List Sign} {w i k : Int} {r : List Staff} (h : Stw l w i k r) (n : Int) : qpz l r n i = (0, 0) := by
  induction h generalizing n with
  | nil => rfl
  | @cons i j k r a b c d e _ ih =>
    have e1 : i + (ln (stf l i j).Signs - (stf l i j).Lead) = j := by
      rw [qrt a (by omega) d]; show i + (_ - ln (qal l i)) = j; omega
    simp only [qpz]
    rw [e1, if_pos ⟨rfl, rfl⟩]
    exact ih _
theorem Stw.own {l : List Sign} {w i k : Int} {r : List Staff} (h : Stw l w i k r) (n x y : Int) (hx : Ch l i x) (hxl : x < ln l) (hxy : x ≤ y) (hy : y < gE l x) : qr4 r n (x - i) = qr4 r n (y - i) := by
  induction h generalizing n with
  | nil => rfl
  | @cons i j k r a b c d e _ ih =>
    have e1 : ln (stf l i j).Signs - (stf l i j).Lead = j - i := by
      rw [qrt a (by omega) d]; show _ - ln (qal l i) = _; omega
    have hix := hx.le
    simp only [qr4]
    rw [e1]
    by_cases hxj : x < j
    · have h1 := q5s hx b (by omega)
      have h2 : gE l x ≤ j := by
        cases h1 with
        | refl => omega
        | step _ h2 => exact h2.le
      rw [if_pos (by omega), if_pos (by omega)]
    · rw [if_neg (by omega), if_neg (by omega), show x - i - (j - i) = x - j by omega, show y - i - (j - i) = y - j by omega]
      exact ih _ (q5s b hx (by omega))
theorem q1v {l : List Sign} {w x : Int} {g : List Page} (h : Stw l w 0 (ln l) (qb g)) (hx : Ch l 0 x) : qjv g l x = (0, 0) := by
  by_cases hc : x < ln l
  · have hg := qhz hc
    have := hx.le
    have h2 := h.own 0 x (gE l x - 1) hx hc (by omega) (by omega)
    rw [qt9 hc (by unfold zf; simpa using h2)]
    exact q1v h (hx.trans (.step hc (.refl _)))
  · exact qx4 (by omega)
 termination_by (ln l - x).toNat
 decreasing_by omega

/-! ### Of pages -/
theorem Pgs.book {l : List Sign} {w h i : Int} {g : List Page} (hp : Pgs l w h i g) (hw : w ≤ 60) (hh : h ≤ 12) (n : Int) : qad (qas l i) n false g = (0, n + ln (qb g), false) := by
  induction hp generalizing n with
  | nil => simp [qad, qb, ln]
  | @cons i j k r g a hs b c d e f _ ih =>
    rw [qox (by simp), hs.page hw n 0 (by omega)]
    unfold qtw
    rw [if_neg (by simp), ih, qps]
    have hla := qdt (r ++ [stf l k j]) (qb g)
    simp only [Prod.mk.injEq, true_and, and_true]
    omega
theorem Pgs.len {l : List Sign} {w h i : Int} {g : List Page} (hp : Pgs l w h i g) : i + ln g ≤ ln l := by
  induction hp with
  | nil => simp [ln]
  | cons a hs b c d e f _ ih => rw [qiv]; omega
theorem Pgs.sm {l : List Sign} {w h i : Int} {g : List Page} (hp : Pgs l w h i g) (hw : w ≤ 60) : ∀ p ∈ g, p.Staves ≠ [] ∧ ln p.Staves ≤ h ∧ ∀ s ∈ p.Staves, ln s.Signs ≤ w := by
  induction hp with
  | nil => intro p hp; cases hp
  | cons a hs b c d e f _ ih =>
    intro p hp
    rcases List.mem_cons.1 hp with hp | hp
    · rw [hp]; exact ⟨by simp, d, hs.wide⟩
    · exact ih p hp
structure BookOk (nm : List UInt8) (l : List Sign) (w h : Int) (g : List Page) : Prop where
  pgs : Pgs l w h 0 g
  made : mkB nm l w h = (nm, g, 0)
  part : qc g = l
  check : kk nm g = (0, 0)
  sm : smB g
theorem q8v {nm : List UInt8} {l : List Sign} {w h : Int} (hp : PartOk nm l) (hw : 16 ≤ w) (hw' : w ≤ 60) (hh : 1 ≤ h) (hh' : h ≤ 12) : ∃ g, BookOk nm l w h g := by
  obtain ⟨g, g1, g2⟩ := qzl (l := l) (w := w) (h := h) (i := 0) (i0 := 0) (page := []) (pages := []) (Int.le_refl 0) (qx l) hw hp.u (Int.le_refl 0) (.nil 0) (by rw [qvx]; omega) (.inr ⟨rfl, rfl⟩)
  rw [List.nil_append] at g1
  have hc := q5t hp
  have ht : qla l = -1 := q72 hp.t 0
  have hst := g2.stw
  have hpart : qc g = l := by
    show qdc (qb g) = l
    rw [hst.part (Int.le_refl 0), ← List.append_nil (sub l 0 (ln l)), ← qin (Int.le_refl (ln l)), zas (Int.le_refl 0) (qx l), qe1]
  have hn := hp.n
  have hlen := g2.len
  have hsm := g2.sm hw'
  refine ⟨g, g2, ?_, hpart, ?_, ⟨by omega, fun p hp' => ⟨by have := (hsm p hp').2.1; omega, fun s hs => by have := (hsm p hp').2.2 s hs; omega⟩⟩⟩
  · unfold mkB
    rw [hc, if_neg (by simp), ht, if_neg (by decide), if_neg (by omega), g1]
  · have hb := g2.book hw' hh' 0
    rw [qzx] at hb
    unfold kk
    rw [if_neg (by simp [hp.name]), hb, if_neg (by simp), if_neg (by simp)]
    unfold za
    rw [hpart, hc, if_neg (by simp), ht, if_neg (by decide), q1v hst (.refl 0), if_neg (by simp)]
    exact hst.cat 0

/-! ### Turns -/
/-- A page that isn't the last, as Turns sees it. -/
structure TurnOk (l : List Sign) (p : Page) (s : Int) (r : Bool) : Prop where
  ne : ln p.Staves ≠ 0
  lo : 0 ≤ s
  hi : s < ln l
  rest : (ix p.Staves (ln p.Staves - 1)).Signs.any (fun s => decide (s.Kind = 2)) = true → r = true
end Go.Proofs.YtlkfjinaiepocaaDoor
