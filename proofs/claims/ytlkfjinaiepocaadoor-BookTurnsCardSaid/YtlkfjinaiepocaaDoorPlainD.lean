/- THE LAWS ON BOOKS: what Check, Back, Turns answer for the book of a well made part. Plain Lean; no program in sight. -/
import Derived.Test.YtlkfjinaiepocaaDoorPlainC
import Derived.Test.YtlkfjinaiepocaaDoorOksT
namespace Go.Proofs.YtlkfjinaiepocaaDoor
open Go Go.E2 Go.E3

theorem qnq {l : List Sign} {i j : Int} (h0 : 0 ≤ i) (hij : i < j) (hj : j ≤ ln l) : sub l i j = ix l i :: sub l (i + 1) j := by
  rw [qkp h0 (by omega), qa0 h0 (by omega), qkp (by omega) (by omega)]
  unfold upto
  rw [show (j - i).toNat = (j - (i + 1)).toNat + 1 by omega]
  rfl
theorem qqm {l : List Sign} {i : Int} (h0 : 0 ≤ i) : sub l i i = [] := by
  rw [qkp h0 (Int.le_refl i), Int.sub_self]; rfl
theorem zav {l : List Sign} {i j : Int} (h0 : 0 ≤ i) (hij : i ≤ j) : sub l i j ++ fr l j = fr l i := by
  have : fr l j = fr (fr l i) (j - i) := by rw [q6b h0 (by omega)]; congr 1; omega
  rw [qkp h0 hij, this]
  exact List.take_append_drop _ _
theorem qy8 {l : List Sign} {i j k : Int} (h0 : 0 ≤ i) (hij : i ≤ j) (hjk : j ≤ k) : sub l i j ++ sub l j k = sub l i k := by
  rw [qkp h0 hij, qkp (by omega) hjk, qkp h0 (by omega)]
  have : fr l j = fr (fr l i) (j - i) := by rw [q6b h0 (by omega)]; congr 1; omega
  rw [this]
  unfold upto fr
  rw [show (k - i).toNat = (j - i).toNat + (k - j).toNat by omega, List.take_add]
theorem qr5 {l : List Sign} {i j : Int} (h0 : 0 ≤ i) (hij : i ≤ j) (hj : j ≤ ln l) : ln (stf l i j).Signs = ln (qao l i) + (j - i) := by
  show ln (qao l i ++ sub l i j) = _
  rw [qbq, q6s h0 hij hj]
theorem q2e {l : List Sign} {i j : Int} : qh7 (stf l i j) = sub l i j := by
  show fr (qao l i ++ sub l i j) (ln (qao l i)) = _
  simp [fr, ln]
theorem q6q {l : List Sign} {i j : Int} (h0 : 0 ≤ i) (hij : i ≤ j) (hj : j ≤ ln l) : qh2 (stf l i j) := by
  refine ⟨qo _, ?_⟩
  rw [qr5 h0 hij hj]
  show ln (qao l i) ≤ _
  omega
theorem quf {l : List Sign} {i j : Int} (h0 : 0 ≤ i) (hij : i ≤ j) (hj : j ≤ ln l) : qvv (qa2 l i) (sub l i j) = qa2 l j := by
  by_cases hc : i < j
  · rw [qnq h0 hc hj]
    show qvv (kh (qa2 l i).1 (qa2 l i).2 (ix l i)) (sub l (i + 1) j) = _
    rw [← qrq h0]
    exact quf (by omega) (by omega) hj
  · have : i = j := by omega
    subst this
    rw [qqm h0]; rfl
 termination_by (j - i).toNat
 decreasing_by omega
theorem q0s {l : List Sign} {w i j : Int} (h0 : 0 ≤ i) (hij : i < j) (hj : j ≤ ln l) (hw : ln (qao l i) + (j - i) ≤ w) (hw60 : w ≤ 60) : kp (stf l i j) (qa2 l i).1 (qa2 l i).2 = 0 := by
  have e := qr5 h0 (Int.le_of_lt hij) hj
  have hn := qo (qao l i)
  unfold kp
  rw [if_neg (by omega), if_neg (show ¬ (stf l i j).Lead < 0 by show ¬ ln (qao l i) < 0; omega), if_neg (show ¬ ln (stf l i j).Signs ≤ (stf l i j).Lead by rw [e]; show ¬ _ ≤ ln (qao l i); omega), if_pos]
  show upto (qao l i ++ sub l i j) (ln (qao l i)) = qao l i
  simp [upto, ln]

/-! ### Of staves -/
theorem Stw.part {l : List Sign} {w i j : Int} {r : List Staff} (h : Stw l w i j r) (h0 : 0 ≤ i) : kl r = sub l i j := by
  induction h with
  | nil => rw [qqm h0]; rfl
  | @cons i j k r a b c d e hr ih =>
    have := hr.le
    have := qo r
    show qh7 (stf l i j) ++ kl r = _
    rw [q2e, ih (by omega), qy8 a (by omega) (by omega)]
theorem Stw.leads {l : List Sign} {w i j : Int} {r : List Staff} (h : Stw l w i j r) : ∀ s ∈ r, qh2 s := by
  induction h with
  | nil => intro s hs; cases hs
  | cons a b c d e _ ih =>
    intro s hs
    rcases List.mem_cons.1 hs with hs | hs
    · rw [hs]; exact q6q a (by omega) d
    · exact ih s hs
theorem Stw.wide {l : List Sign} {w i j : Int} {r : List Staff} (h : Stw l w i j r) : ∀ s ∈ r, ln s.Signs ≤ w := by
  induction h with
  | nil => intro s hs; cases hs
  | cons a b c d e _ ih =>
    intro s hs
    rcases List.mem_cons.1 hs with hs | hs
    · rw [hs, qr5 a (by omega) d]; exact e
    · exact ih s hs
theorem Stw.page {l : List Sign} {w i k : Int} {r : List Staff} (h : Stw l w i k r) (hw : w ≤ 60) (n j : Int) (hj : j + ln r ≤ 12) : qcx (qa2 l i) n j r = (0, qa2 l k, n + ln r) := by
  induction h generalizing n j with
  | nil => simp [qcx, ln]
  | @cons i j' k r a b c d e _ ih =>
    rw [qek] at hj
    have hr := qo r
    simp only [qcx]
    rw [if_neg (by omega), if_neg (by rw [q0s a c d e hw]; simp), q2e, quf a (by omega) d, ih _ _ (by omega), qek]
    simp only [Prod.mk.injEq, true_and]
    omega
theorem Stw.cat {l : List Sign} {w i k : Int} {r : List Staff} (h : Stw l w i k r) (n : Int) : qqb l r n i = (0, 0) := by
  induction h generalizing n with
  | nil => rfl
  | @cons i j k r a b c d e _ ih =>
    have e1 : i + (ln (stf l i j).Signs - (stf l i j).Lead) = j := by
      rw [qr5 a (by omega) d]; show i + (_ - ln (qao l i)) = j; omega
    simp only [qqb]
    rw [e1, if_pos ⟨rfl, rfl⟩]
    exact ih _
theorem Stw.own {l : List Sign} {w i k : Int} {r : List Staff} (h : Stw l w i k r) (n x y : Int) (hx : Ch l i x) (hxl : x < ln l) (hxy : x ≤ y) (hy : y < gE l x) : qsf r n (x - i) = qsf r n (y - i) := by
  induction h generalizing n with
  | nil => rfl
  | @cons i j k r a b c d e _ ih =>
    have e1 : ln (stf l i j).Signs - (stf l i j).Lead = j - i := by
      rw [qr5 a (by omega) d]; show _ - ln (qao l i) = _; omega
    have hix := hx.le
    simp only [qsf]
    rw [e1]
    by_cases hxj : x < j
    · have h1 := q5y hx b (by omega)
      have h2 : gE l x ≤ j := by
        cases h1 with
        | refl => omega
        | step _ h2 => exact h2.le
      rw [if_pos (by omega), if_pos (by omega)]
    · rw [if_neg (by omega), if_neg (by omega), show x - i - (j - i) = x - j by omega, show y - i - (j - i) = y - j by omega]
      exact ih _ (q5y b hx (by omega))
theorem q1y {l : List Sign} {w x : Int} {g : List Page} (h : Stw l w 0 (ln l) (qc g)) (hx : Ch l 0 x) : qj8 g l x = (0, 0) := by
  by_cases hc : x < ln l
  · have hg := qie hc
    have := hx.le
    have h2 := h.own 0 x (gE l x - 1) hx hc (by omega) (by omega)
    rw [quj hc (by unfold zj; simpa using h2)]
    exact q1y h (hx.trans (.step hc (.refl _)))
  · exact qx8 (by omega)
 termination_by (ln l - x).toNat
 decreasing_by omega

/-! ### Of pages -/
theorem Pgs.book {l : List Sign} {w h i : Int} {g : List Page} (hp : Pgs l w h i g) (hw : w ≤ 60) (hh : h ≤ 12) (n : Int) : qak (qa2 l i) n false g = (0, n + ln (qc g), false) := by
  induction hp generalizing n with
  | nil => simp [qak, qc, ln]
  | @cons i j k r g a hs b c d e f _ ih =>
    rw [qpa (by simp), hs.page hw n 0 (by omega)]
    unfold qt6
    rw [if_neg (by simp), ih, qp4]
    have hla := qbq (r ++ [stf l k j]) (qc g)
    simp only [Prod.mk.injEq, true_and, and_true]
    omega
theorem Pgs.len {l : List Sign} {w h i : Int} {g : List Page} (hp : Pgs l w h i g) : i + ln g ≤ ln l := by
  induction hp with
  | nil => simp [ln]
  | cons a hs b c d e f _ ih => rw [qek]; omega
theorem Pgs.sm {l : List Sign} {w h i : Int} {g : List Page} (hp : Pgs l w h i g) (hw : w ≤ 60) : ∀ p ∈ g, p.Staves ≠ [] ∧ ln p.Staves ≤ h ∧ ∀ s ∈ p.Staves, ln s.Signs ≤ w := by
  induction hp with
  | nil => intro p hp; cases hp
  | cons a hs b c d e f _ ih =>
    intro p hp
    rcases List.mem_cons.1 hp with hp | hp
    · rw [hp]; exact ⟨by simp, d, hs.wide⟩
    · exact ih p hp
structure BookOk (nm : List UInt8) (l : List Sign) (w h : Int) (g : List Page) : Prop where
  pgs : Pgs l w h 0 g
  made : mkB nm l w h = (nm, g, 0)
  part : qd g = l
  check : jb nm g = (0, 0)
  sm : smB g
theorem q80 {nm : List UInt8} {l : List Sign} {w h : Int} (hp : PartOk nm l) (hw : 16 ≤ w) (hw' : w ≤ 60) (hh : 1 ≤ h) (hh' : h ≤ 12) : ∃ g, BookOk nm l w h g := by
  obtain ⟨g, g1, g2⟩ := qzr (l := l) (w := w) (h := h) (i := 0) (i0 := 0) (page := []) (pages := []) (Int.le_refl 0) (qo l) hw hp.u (Int.le_refl 0) (.nil 0) (by rw [qv4]; omega) (.inr ⟨rfl, rfl⟩)
  rw [List.nil_append] at g1
  have hc := q5z hp
  have ht : qln l = -1 := q77 hp.t 0
  have hst := g2.stw
  have hpart : qd g = l := by
    show kl (qc g) = l
    rw [hst.part (Int.le_refl 0), ← List.append_nil (sub l 0 (ln l)), ← qfy (Int.le_refl (ln l)), zav (Int.le_refl 0) (qo l), qeh]
  have hn := hp.n
  have hlen := g2.len
  have hsm := g2.sm hw'
  refine ⟨g, g2, ?_, hpart, ?_, ⟨by omega, fun p hp' => ⟨by have := (hsm p hp').2.1; omega, fun s hs => by have := (hsm p hp').2.2 s hs; omega⟩⟩⟩
  · unfold mkB
    rw [hc, if_neg (by simp), ht, if_neg (by decide), if_neg (by omega), g1]
  · have hb := g2.book hw' hh' 0
    rw [qz3] at hb
    unfold jb
    rw [if_neg (by simp [hp.name]), hb, if_neg (by simp), if_neg (by simp)]
    unfold za
    rw [hpart, hc, if_neg (by simp), ht, if_neg (by decide), q1y hst (.refl 0), if_neg (by simp)]
    exact hst.cat 0

/-! ### Turns -/
theorem qvc : ∀ {g : List Page} {a : Int} {q : Bool}, g ≠ [] → ln (zy a q g).1 = ln g - 1 ∧ ln (zy a q g).2 = ln g - 1
  | [], _, _, h => absurd rfl h
  | p :: g, a, q, _ => by
    by_cases hg : g = []
    · subst hg; simp [zy, ln]
    · have := qvc (g := g) (a := a + ln (kl p.Staves)) (q := qcy q (kl p.Staves)) hg
      rw [qjk hg, qek, qek, qek]
      omega
theorem qsm {l : List Sign} {q : Bool} {i j : Int} (h0 : 0 ≤ i) (hij : i ≤ j) (hj : j ≤ ln l) (h : ∀ x, i ≤ x → x < j → (ix l x).Kind = 3) : qcy q (sub l i j) = q := by
  by_cases hc : i < j
  · rw [qnq h0 hc hj]
    show qcy (if (ix l i).Kind = 1 ∨ (ix l i).Kind = 4 ∨ (ix l i).Kind = 2 then _ else q) _ = q
    rw [if_neg (by have := h i (Int.le_refl i) hc; omega)]
    exact qsm (by omega) (by omega) hj fun x a b => h x (by omega) b
  · have : i = j := by omega
    subst this
    rw [qqm h0]; rfl
 termination_by (j - i).toNat
 decreasing_by omega
theorem q0o {l : List Sign} {q : Bool} {i j b : Int} (h0 : 0 ≤ i) (hib : i ≤ b) (hbj : b < j) (hj : j ≤ ln l) (hk : (ix l b).Kind = 2) (h : ∀ x, b + 1 ≤ x → x < j → (ix l x).Kind = 3) : qcy q (sub l i j) = true := by
  rw [← qy8 h0 hib (Int.le_of_lt hbj), qu5, qnq (by omega) hbj hj]
  show qcy (if (ix l b).Kind = 1 ∨ (ix l b).Kind = 4 ∨ (ix l b).Kind = 2 then decide ((ix l b).Kind = 2) else _) _ = true
  rw [if_pos (by omega), qsm (by omega) (by omega) hj h]
  simp [hk]
theorem q3r (l : List Sign) (i : Int) : ∀ s ∈ qao l i, s.Kind = 7 ∨ s.Kind = 8 := by
  have : ∀ n, (∀ s ∈ (qi1 l n).1, s.Kind = 7) ∧ (∀ s ∈ (qi1 l n).2, s.Kind = 8) := by
    intro n
    induction n with
    | zero => exact ⟨fun s h => (by cases h), fun s h => (by cases h)⟩
    | succ n ih =>
      simp only [qi1, kh]
      split
      · rename_i hk
        exact ⟨fun s h => by rw [List.mem_singleton.1 h]; exact hk, ih.2⟩
      · split
        · rename_i hk
          exact ⟨ih.1, fun s h => by rw [List.mem_singleton.1 h]; exact hk⟩
        · exact ih
  intro s hs
  rcases List.mem_append.1 hs with hs | hs
  · exact .inl ((this _).1 s hs)
  · exact .inr ((this _).2 s hs)
theorem q19 {l : List Sign} {i j : Int} (h0 : 0 ≤ i) (hij : i ≤ j) (hj : j ≤ ln l) {s : Sign} (h : s ∈ sub l i j) : ∃ x, i ≤ x ∧ x < j ∧ ix l x = s := by
  by_cases hc : i < j
  · rw [qnq h0 hc hj] at h
    rcases List.mem_cons.1 h with h | h
    · exact ⟨i, Int.le_refl i, hc, h.symm⟩
    · obtain ⟨x, a, b, c⟩ := q19 (by omega) (by omega) hj h
      exact ⟨x, by omega, b, c⟩
  · have : i = j := by omega
    subst this
    rw [qqm h0] at h; cases h
 termination_by (j - i).toNat
 decreasing_by omega
/-- A page that isn't the last, as Turns sees it. -/
structure TurnOk (l : List Sign) (p : Page) (s : Int) (r : Bool) : Prop where
  ne : ln p.Staves ≠ 0
  lo : 0 ≤ s
  hi : s < ln l
  rest : (ix p.Staves (ln p.Staves - 1)).Signs.any (fun s => decide (s.Kind = 2)) = true → r = true
theorem q91 {α : Type} [Inhabited α] (r : List α) (a : α) : ix (r ++ [a]) (ln (r ++ [a]) - 1) = a := by
  rw [qas, show ln r + 1 - 1 = ln r by omega]
  simp [ix, ln]
theorem zay {l : List Sign} {w h i : Int} {g : List Page} (hp : Pgs l w h i g) : ∀ {q : Bool} {n : Int}, 0 ≤ n → n + 1 < ln g → TurnOk l (ix g n) (ix (zy (i - 1) q g).1 n) (ix (zy (i - 1) q g).2 n) := by
  induction hp with
  | nil => intro q n h0 h1; simp [ln] at h1; omega
  | @cons i j k r g a hs b c d e f hg ih =>
    intro q n h0 h1
    rw [qek] at h1
    have hne : g ≠ [] := by intro hh; subst hh; simp [ln] at h1; omega
    have hjl : j < ln l := by
      cases hg with
      | nil => exact absurd rfl hne
      | cons a' hs' b' c' d' e' f' _ => omega
    have hpt := hs.part a
    have hlen : i - 1 + ln (kl (r ++ [stf l k j])) = j - 1 := by rw [hpt, q6s a (by omega) f]; omega
    rw [qjk hne]
    dsimp only
    rw [hlen]
    by_cases hn : n = 0
    · subst hn
      refine ⟨?_, ?_, ?_, ?_⟩
      · show ln (r ++ [_]) ≠ 0; rw [qas]; have := qo r; omega
      · show 0 ≤ j - 1; omega
      · show j - 1 < ln l; omega
      · show (ix (r ++ [stf l k j]) (ln (r ++ [stf l k j]) - 1)).Signs.any _ = true → qcy q (kl (r ++ [stf l k j])) = true
        rw [q91, hpt]
        intro hany
        obtain ⟨s, s1, s2⟩ := List.any_eq_true.1 hany
        have s2 : s.Kind = 2 := by simpa using s2
        rcases List.mem_append.1 s1 with s1 | s1
        · rcases q3r l k s s1 with q1 | q1 <;> omega
        · obtain ⟨x, x0, x1, x2⟩ := q19 (by omega) (by omega) f s1
          rcases e with e | ⟨_, e | e | ⟨y, y0, y1, y2, y3⟩⟩
          · omega
          · omega
          · exact absurd (by rw [x2]; exact s2) (e x x0 x1)
          · exact q0o a (by omega) y1 f y2 y3
    · have h2 := ih (q := qcy q (kl (r ++ [stf l k j]))) (n := n - 1) (by omega) (by omega)
      have e1 : ∀ {α : Type} [Inhabited α] (u : α) (v : List α), ix (u :: v) n = ix v (n - 1) := by
        intro α _ u v
        have := qm6 (a := u) (l := v) (i := n - 1) (by omega)
        rw [show n - 1 + 1 = n by omega] at this
        exact this
      rw [e1, e1, e1]
      exact h2
end Go.Proofs.YtlkfjinaiepocaaDoor
