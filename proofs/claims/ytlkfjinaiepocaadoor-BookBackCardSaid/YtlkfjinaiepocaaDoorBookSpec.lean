/- WHAT THE FUNCTIONS ON PARTS AND BOOKS COMPUTE, in plain Lean; no program in sight. -/
import Derived.Test.YtlkfjinaiepocaaDoorSignSpec
namespace Go.Proofs.YtlkfjinaiepocaaDoor
open Go Go.E2 Go.E3

theorem qsk (s : Sign) : Sign.mk s.Kind s.Value s.Place s.Acc s.Color s.Stem s.Oblique s.Last s.MensMax s.MensMod s.MensTem s.MensPro s.Stroke s.N s.D s.ClefStep s.ClefLine = s := rfl
theorem quy (s : Staff) : Staff.mk s.Signs s.Lead s.Catch s.Custos = s := rfl

/-! ### The signs of a part -/
/-- Is one inside a ligature, before a sign? -/
def ins (l : List Sign) (i : Int) : Bool := decide (0 < i) && (decide ((ix l (i - 1)).Kind = 4) && !(ix l (i - 1)).Last)
def q5n (l : List Sign) (i : Int) : Prop :=
  (ix l i).Kind = 4 ∧ (((ix l i).Last = true ∧ ins l i = false) ∨ ((ix l i).Last = false ∧ (ln l ≤ i + 1 ∨ (ix l (i + 1)).Kind ≠ 4)))
instance (l : List Sign) (i : Int) : Decidable (q5n l i) := by unfold q5n; infer_instance
def qmm (l : List Sign) (i : Int) : Int := if qp2 (ix l i) ≠ 0 then qp2 (ix l i) else if q5n l i then 3 else 0
def qg6 (l : List Sign) (i : Int) : Int × Int := if h : i < ln l then (if qmm l i ≠ 0 then (qmm l i, i) else qg6 l (i + 1)) else (0, 0)
 termination_by (ln l - i).toNat
 decreasing_by omega
def zh (nm : List UInt8) (l : List Sign) : Int × Int := if jm nm = false then (7, 0) else if 400 < ln l then (11, 0) else qg6 l 0
theorem qfa {l : List Sign} {i : Int} (h : i < ln l) (he : qmm l i = 0) : qg6 l i = qg6 l (i + 1) := by
  rw [qg6, dif_pos h, if_neg (by simp [he])]
theorem q08 {l : List Sign} {i : Int} (h : i < ln l) (he : qmm l i ≠ 0) : qg6 l i = (qmm l i, i) := by
  rw [qg6, dif_pos h, if_pos he]
theorem qvi {l : List Sign} {i : Int} (h : ln l ≤ i) : qg6 l i = (0, 0) := by
  rw [qg6, dif_neg (by omega)]

/-! ### The kit -/
theorem qy0 (a b : Sign) : (a.Kind = b.Kind ∧ a.Value = b.Value ∧ a.Place = b.Place ∧ a.Acc = b.Acc ∧ a.Color = b.Color ∧ a.Stem = b.Stem ∧ a.Oblique = b.Oblique ∧ a.Last = b.Last ∧ a.MensMax = b.MensMax ∧ a.MensMod = b.MensMod ∧ a.MensTem = b.MensTem ∧ a.MensPro = b.MensPro ∧ a.Stroke = b.Stroke ∧ a.N = b.N ∧ a.D = b.D ∧ a.ClefStep = b.ClefStep ∧ a.ClefLine = b.ClefLine) ↔ a = b := by
  cases a; cases b; simp only [Sign.mk.injEq]
instance : DecidableEq Sign := fun a b => decidable_of_iff _ (qy0 a b)
theorem q4d (a b : Staff) : (a.Signs = b.Signs ∧ a.Lead = b.Lead ∧ a.Catch = b.Catch ∧ a.Custos = b.Custos) ↔ a = b := by
  cases a; cases b; simp only [Staff.mk.injEq]
instance : DecidableEq Staff := fun a b => decidable_of_iff _ (q4d a b)
theorem q7n (a b : Page) : (a.Staves = b.Staves) ↔ a = b := by
  cases a; cases b; simp only [Page.mk.injEq]
instance : DecidableEq Page := fun a b => decidable_of_iff _ (q7n a b)
def qh7 (a b : List Sign) : Bool := decide (a = b)
def z6 (n : List UInt8) (a : List Sign) (m : List UInt8) (b : List Sign) : Bool := decide (n = m ∧ a = b)
/-! ### Groups -/
def tT (l : List Sign) (to : Int) : Int := if h : to < ln l ∧ (ix l (to - 1)).Kind = 4 ∧ (ix l (to - 1)).Last = false then tT l (to + 1) else to
 termination_by (ln l - to).toNat
 decreasing_by omega
theorem qhm {l : List Sign} {to : Int} (h : to < ln l ∧ (ix l (to - 1)).Kind = 4 ∧ (ix l (to - 1)).Last = false) : tT l to = tT l (to + 1) := by rw [tT, dif_pos h]
theorem qe6 {l : List Sign} {to : Int} (h : ¬ (to < ln l ∧ (ix l (to - 1)).Kind = 4 ∧ (ix l (to - 1)).Last = false)) : tT l to = to := by rw [tT, dif_neg h]
theorem q70 {l : List Sign} {to : Int} (h : to ≤ ln l) : to ≤ tT l to ∧ tT l to ≤ ln l := by
  by_cases hc : to < ln l ∧ (ix l (to - 1)).Kind = 4 ∧ (ix l (to - 1)).Last = false
  · have := q70 (l := l) (to := to + 1) (by omega)
    rw [qhm hc]; omega
  · rw [qe6 hc]; omega
 termination_by (ln l - to).toNat
 decreasing_by omega
def gE (l : List Sign) (i : Int) : Int := if tT l (i + 1) < ln l ∧ (ix l (tT l (i + 1))).Kind = 3 then tT l (i + 1) + 1 else tT l (i + 1)
theorem qhz {l : List Sign} {i : Int} (h : i < ln l) : i + 1 ≤ gE l i ∧ gE l i ≤ ln l := by
  have := q70 (l := l) (to := i + 1) (by omega)
  unfold gE; split <;> omega
theorem zbl {l : List Sign} {at_ to : Int} (h0 : 0 ≤ at_) (h1 : at_ ≤ ln l) (h2 : 1 ≤ to) : at_ + tT (fr l at_) to = tT l (at_ + to) := by
  have hl := qgv h0 h1
  have hx : ix (fr l at_) (to - 1) = ix l (at_ + to - 1) := by rw [q1z h0 (by omega)]; congr 1; omega
  by_cases hc : to < ln (fr l at_) ∧ (ix (fr l at_) (to - 1)).Kind = 4 ∧ (ix (fr l at_) (to - 1)).Last = false
  · rw [qhm hc, qhm (l := l) (by rw [← hx]; exact ⟨by omega, hc.2⟩), zbl h0 h1 (by omega)]
    congr 1; omega
  · rw [qe6 hc, qe6 (l := l)]
    rw [← hx]
    exact fun h => hc ⟨by omega, h.2⟩
 termination_by (ln l - to).toNat
 decreasing_by omega
theorem zdf {l : List Sign} {at_ i : Int} (h0 : 0 ≤ at_) (h1 : at_ ≤ ln l) (h2 : 0 ≤ i) : at_ + gE (fr l at_) i = gE l (at_ + i) := by
  have hl := qgv h0 h1
  have ht := zbl h0 h1 (to := i + 1) (by omega)
  have hb : i + 1 ≤ tT (fr l at_) (i + 1) := by
    by_cases hi : i + 1 ≤ ln (fr l at_)
    · exact (q70 hi).1
    · rw [qe6 (by omega)]; exact Int.le_refl _
  have hx : ix (fr l at_) (tT (fr l at_) (i + 1)) = ix l (tT l (at_ + i + 1)) := by
    rw [q1z h0 (by omega), ht]; congr 1; congr 1; omega
  have e : at_ + i + 1 = at_ + (i + 1) := by omega
  rw [e] at hx
  unfold gE
  rw [hx, e, ← ht]
  by_cases hc : tT (fr l at_) (i + 1) < ln (fr l at_) ∧ (ix l (at_ + tT (fr l at_) (i + 1))).Kind = 3
  · rw [if_pos hc, if_pos ⟨by omega, hc.2⟩]; omega
  · rw [if_neg hc, if_neg (fun h => hc ⟨by omega, h.2⟩)]

/-! ### What is in force -/
def kc (c k : List Sign) (s : Sign) : List Sign × List Sign := if s.Kind = 7 then ([s], k) else if s.Kind = 8 then (c, [s]) else (c, k)
def qnx (l : List Sign) : Nat → List Sign × List Sign
  | 0 => ([], [])
  | n + 1 => kc (qnx l n).1 (qnx l n).2 (ix l (n : Int))
def qas (l : List Sign) (i : Int) : List Sign × List Sign := qnx l i.toNat
def qal (l : List Sign) (i : Int) : List Sign := (qas l i).1 ++ (qas l i).2
theorem qzx (l : List Sign) : qas l 0 = ([], []) := rfl
theorem qrd {l : List Sign} {i : Int} (h : 0 ≤ i) : qas l (i + 1) = kc (qas l i).1 (qas l i).2 (ix l i) := by
  unfold qas
  have : (i + 1).toNat = i.toNat + 1 := by omega
  have e : ((i.toNat : Nat) : Int) = i := by omega
  rw [this, qnx, e]
theorem qtq {c k : List Sign} {s : Sign} (hc : ln c ≤ 1) (hk : ln k ≤ 1) : ln (kc c k s).1 ≤ 1 ∧ ln (kc c k s).2 ≤ 1 := by
  unfold kc
  split
  · exact ⟨by simp [ln], hk⟩
  · split
    · exact ⟨hc, by simp [ln]⟩
    · exact ⟨hc, hk⟩
theorem qt4 (l : List Sign) (i : Int) : ln (qas l i).1 ≤ 1 ∧ ln (qas l i).2 ≤ 1 := by
  unfold qas
  induction i.toNat with
  | zero => exact ⟨by simp [qnx, ln], by simp [qnx, ln]⟩
  | succ n ih => exact qtq ih.1 ih.2
theorem q6j (l : List Sign) (i : Int) : 0 ≤ ln (qal l i) ∧ ln (qal l i) ≤ 2 := by
  have := qt4 l i
  have h0 := qx (qal l i)
  unfold qal at *
  rw [qdt] at *
  omega
/-! ### The custos, page turns -/
def zj : List Sign → Bool × Int
  | [] => (false, 0)
  | s :: l => if s.Kind = 1 ∨ s.Kind = 4 then (true, s.Place) else zj l
def qqu (l : List Sign) (i : Int) : Bool × Int := zj (fr l i)
def qhx : List Sign → Int → Int
  | [], _ => -1
  | s :: l, i => if s.Kind = 11 then i else qhx l (i + 1)
theorem qho {l : List Sign} {i : Int} (h0 : 0 ≤ i) (h : i < ln l) : qhx (fr l i) i = if (ix l i).Kind = 11 then i else qhx (fr l (i + 1)) (i + 1) := by rw [qbc h0 h, qhx]
theorem qst {l : List Sign} {i : Int} (h : ln l ≤ i) : qhx (fr l i) i = -1 := by rw [qin h]; rfl
def qla (l : List Sign) : Int := qhx l 0

/-! ### How a staff is filled -/
def fA (l : List Sign) (lim i rest : Int) : Int × Int := if h : i < ln l ∧ gE l i ≤ lim then fA l lim (gE l i) (if (ix l i).Kind = 2 then gE l i else rest) else (i, rest)
 termination_by (ln l - i).toNat
 decreasing_by have := qhz h.1; omega
theorem qkh {l : List Sign} {lim i rest : Int} (h : i < ln l) (h' : gE l i ≤ lim) : fA l lim i rest = fA l lim (gE l i) (if (ix l i).Kind = 2 then gE l i else rest) := by rw [fA, dif_pos ⟨h, h'⟩]
theorem qmn {l : List Sign} {lim i rest : Int} (h : ln l ≤ i ∨ lim < gE l i) : fA l lim i rest = (i, rest) := by rw [fA, dif_neg (by omega)]
def qi (l : List Sign) (room : Int) (last : Bool) : Int := if last = true ∧ (fA l room 0 0).1 < ln l ∧ 0 < (fA l room 0 0).2 then (fA l room 0 0).2 else (fA l room 0 0).1
def qmy (l : List Sign) (w i : Int) : Int := i + (w - ln (qal l i))
def nxt (l : List Sign) (w i : Int) (last : Bool) : Int :=
  if last = true ∧ (fA l (qmy l w i) i i).1 < ln l ∧ i < (fA l (qmy l w i) i i).2 then (fA l (qmy l w i) i i).2 else (fA l (qmy l w i) i i).1
theorem qxr {l : List Sign} {lim i rest : Int} (h0 : 0 ≤ i) (h : i ≤ ln l) (hr : rest ≤ i) : i ≤ (fA l lim i rest).1 ∧ (fA l lim i rest).1 ≤ ln l ∧ rest ≤ (fA l lim i rest).2 ∧ (fA l lim i rest).2 ≤ (fA l lim i rest).1 := by
  by_cases hc : i < ln l ∧ gE l i ≤ lim
  · have hb := qhz hc.1
    have := qxr (l := l) (lim := lim) (i := gE l i) (rest := if (ix l i).Kind = 2 then gE l i else rest) (by omega) hb.2 (by split <;> omega)
    rw [qkh hc.1 hc.2]
    have h2 : rest ≤ (if (ix l i).Kind = 2 then gE l i else rest) := by split <;> omega
    omega
  · rw [qmn (by omega)]; exact ⟨Int.le_refl _, h, Int.le_refl _, hr⟩
 termination_by (ln l - i).toNat
 decreasing_by omega
theorem zba {l : List Sign} {a lim i rest : Int} (h0 : 0 ≤ a) (h1 : a ≤ ln l) (h2 : 0 ≤ i) : fA l (a + lim) (a + i) (a + rest) = (a + (fA (fr l a) lim i rest).1, a + (fA (fr l a) lim i rest).2) := by
  have hl := qgv h0 h1
  have hg := zdf h0 h1 h2
  by_cases hc : i < ln (fr l a) ∧ gE (fr l a) i ≤ lim
  · have hb := qhz hc.1
    rw [qkh hc.1 hc.2, qkh (l := l) (by omega) (by omega), ← hg, ← q1z h0 h2, ← zba h0 h1 (by omega)]
    congr 1
    split <;> rfl
  · rw [qmn (l := fr l a) (by omega), qmn (l := l) (by omega)]
 termination_by (ln (fr l a) - i).toNat
 decreasing_by omega
theorem q5z {l : List Sign} {w a : Int} {last : Bool} (h0 : 0 ≤ a) (h1 : a ≤ ln l) : a + qi (fr l a) (w - ln (qal l a)) last = nxt l w a last := by
  have h := zba (l := l) (a := a) (lim := w - ln (qal l a)) (i := 0) (rest := 0) h0 h1 (Int.le_refl _)
  rw [Int.add_zero] at h
  have hl := qgv h0 h1
  unfold qi nxt qmy
  rw [h]
  by_cases hc : last = true ∧ (fA (fr l a) (w - ln (qal l a)) 0 0).1 < ln (fr l a) ∧ 0 < (fA (fr l a) (w - ln (qal l a)) 0 0).2
  · rw [if_pos hc, if_pos ⟨hc.1, by dsimp only; omega, by dsimp only; omega⟩]
  · rw [if_neg hc, if_neg (fun hh => hc ⟨hh.1, by have := hh.2.1; dsimp only at this; omega, by have := hh.2.2; dsimp only at this; omega⟩)]
theorem q1p {l : List Sign} {room : Int} {last : Bool} : 0 ≤ qi l room last ∧ qi l room last ≤ ln l := by
  have := qxr (l := l) (lim := room) (i := 0) (rest := 0) (Int.le_refl _) (qx l) (Int.le_refl _)
  unfold qi; split <;> omega

/-! ### The book -/
def stf (l : List Sign) (i j : Int) : Staff := Staff.mk (qal l i ++ sub l i j) (ln (qal l i)) (qqu l j).1 (qqu l j).2
def bk (l : List Sign) (w h i : Int) (page : List Staff) (pages : List Page) : Option (List Page) :=
  if hl : i < ln l then
    if hn : nxt l w i (decide (ln page + 1 = h)) ≤ i then none
    else if ln page + 1 = h ∨ ln l ≤ nxt l w i (decide (ln page + 1 = h)) then bk l w h (nxt l w i (decide (ln page + 1 = h))) [] (pages ++ [Page.mk (page ++ [stf l i (nxt l w i (decide (ln page + 1 = h)))])])
    else bk l w h (nxt l w i (decide (ln page + 1 = h))) (page ++ [stf l i (nxt l w i (decide (ln page + 1 = h)))]) pages
  else some pages
 termination_by (ln l - i).toNat
 decreasing_by all_goals omega
theorem q5p {l : List Sign} {w h i : Int} {page : List Staff} {pages : List Page} (hl : ln l ≤ i) : bk l w h i page pages = some pages := by rw [bk, dif_neg (by omega)]
theorem q5q {l : List Sign} {w h i : Int} {page : List Staff} {pages : List Page} (hl : i < ln l) (hn : nxt l w i (decide (ln page + 1 = h)) ≤ i) : bk l w h i page pages = none := by rw [bk, dif_pos hl, dif_pos hn]
theorem q05 {l : List Sign} {w h i j : Int} {page : List Staff} {pages : List Page} (hl : i < ln l) (hj : j = nxt l w i (decide (ln page + 1 = h))) (hn : i < j) (ht : ln page + 1 = h ∨ ln l ≤ j) : bk l w h i page pages = bk l w h j [] (pages ++ [Page.mk (page ++ [stf l i j])]) := by
  subst hj
  rw [bk, dif_pos hl, dif_neg (by omega), if_pos ht]
theorem za7 {l : List Sign} {w h i j : Int} {page : List Staff} {pages : List Page} (hl : i < ln l) (hj : j = nxt l w i (decide (ln page + 1 = h))) (hn : i < j) (ht : ¬ (ln page + 1 = h ∨ ln l ≤ j)) : bk l w h i page pages = bk l w h j (page ++ [stf l i j]) pages := by
  subst hj
  rw [bk, dif_pos hl, dif_neg (by omega), if_neg ht]
def mkB (nm : List UInt8) (l : List Sign) (w h : Int) : List UInt8 × List Page × Int :=
  if (zh nm l).1 ≠ 0 then ([], [], (zh nm l).1) else if 0 ≤ qla l then ([], [], 8) else if w < 16 ∨ 60 < w ∨ h < 1 ∨ 12 < h then ([], [], 2) else
  match bk l w h 0 [] [] with
  | none => ([], [], 11)
  | some g => (nm, g, 0)

/-! ### The list of groups -/
/-- One comes from group to group. -/
inductive Ch (l : List Sign) : Int → Int → Prop
  | refl (a : Int) : Ch l a a
  | step {a b : Int} (ha : a < ln l) (h : Ch l (gE l a) b) : Ch l a b
theorem Ch.le {l : List Sign} {a b : Int} (h : Ch l a b) : a ≤ b := by
  induction h with
  | refl => exact Int.le_refl _
  | step ha _ ih => have := qhz ha; omega
/-- What is known of the list of groups from a place on. -/
structure GrpOk (l : List Sign) (i : Int) (g : List Group) : Prop where
  len : ln g ≤ ln l - i
  at0 : 0 < ln g → (ix g 0).fro = i
  none : ln g ≤ 0 → ln l ≤ i
  bd : ∀ k, 0 ≤ k → k < ln g → i ≤ (ix g k).fro ∧ (ix g k).fro < ln l ∧ (ix g k).to = gE l (ix g k).fro ∧ Ch l i (ix g k).fro
  next : ∀ k, 0 ≤ k → k + 1 < ln g → (ix g (k + 1)).fro = (ix g k).to
  last : ∀ k, 0 ≤ k → k + 1 = ln g → (ix g k).to = ln l
/-! ### A group that doesn't fit -/
/-! ### A book isn't too great -/
end Go.Proofs.YtlkfjinaiepocaaDoor
