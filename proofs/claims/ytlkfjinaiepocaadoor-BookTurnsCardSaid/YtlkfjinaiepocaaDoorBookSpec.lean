/- WHAT THE FUNCTIONS ON PARTS AND BOOKS COMPUTE, in plain Lean; no program in sight. -/
import Derived.Test.YtlkfjinaiepocaaDoorSignSpec
namespace Go.Proofs.YtlkfjinaiepocaaDoor
open Go Go.E2 Go.E3

theorem qsw (s : Sign) : Sign.mk s.Kind s.Value s.Place s.Acc s.Color s.Stem s.Oblique s.Last s.MensMax s.MensMod s.MensTem s.MensPro s.Stroke s.N s.D s.ClefStep s.ClefLine = s := rfl
theorem qu8 (s : Staff) : Staff.mk s.Signs s.Lead s.Catch s.Custos = s := rfl

/-! ### The signs of a part -/
/-- Is one inside a ligature, before a sign? -/
def ins (l : List Sign) (i : Int) : Bool := decide (0 < i) && (decide ((ix l (i - 1)).Kind = 4) && !(ix l (i - 1)).Last)
def q5t (l : List Sign) (i : Int) : Prop :=
  (ix l i).Kind = 4 ∧ (((ix l i).Last = true ∧ ins l i = false) ∨ ((ix l i).Last = false ∧ (ln l ≤ i + 1 ∨ (ix l (i + 1)).Kind ≠ 4)))
instance (l : List Sign) (i : Int) : Decidable (q5t l i) := by unfold q5t; infer_instance
def qmw (l : List Sign) (i : Int) : Int := if qqe (ix l i) ≠ 0 then qqe (ix l i) else if q5t l i then 3 else 0
def qhi (l : List Sign) (i : Int) : Int × Int := if h : i < ln l then (if qmw l i ≠ 0 then (qmw l i, i) else qhi l (i + 1)) else (0, 0)
 termination_by (ln l - i).toNat
 decreasing_by omega
def zl (nm : List UInt8) (l : List Sign) : Int × Int := if ju nm = false then (7, 0) else if 400 < ln l then (11, 0) else qhi l 0
theorem qfk {l : List Sign} {i : Int} (h : i < ln l) (he : qmw l i = 0) : qhi l i = qhi l (i + 1) := by
  rw [qhi, dif_pos h, if_neg (by simp [he])]
theorem q1d {l : List Sign} {i : Int} (h : i < ln l) (he : qmw l i ≠ 0) : qhi l i = (qmw l i, i) := by
  rw [qhi, dif_pos h, if_pos he]
theorem qvp {l : List Sign} {i : Int} (h : ln l ≤ i) : qhi l i = (0, 0) := by
  rw [qhi, dif_neg (by omega)]

/-! ### The kit -/
theorem qy4 (a b : Sign) : (a.Kind = b.Kind ∧ a.Value = b.Value ∧ a.Place = b.Place ∧ a.Acc = b.Acc ∧ a.Color = b.Color ∧ a.Stem = b.Stem ∧ a.Oblique = b.Oblique ∧ a.Last = b.Last ∧ a.MensMax = b.MensMax ∧ a.MensMod = b.MensMod ∧ a.MensTem = b.MensTem ∧ a.MensPro = b.MensPro ∧ a.Stroke = b.Stroke ∧ a.N = b.N ∧ a.D = b.D ∧ a.ClefStep = b.ClefStep ∧ a.ClefLine = b.ClefLine) ↔ a = b := by
  cases a; cases b; simp only [Sign.mk.injEq]
instance : DecidableEq Sign := fun a b => decidable_of_iff _ (qy4 a b)
theorem q4l (a b : Staff) : (a.Signs = b.Signs ∧ a.Lead = b.Lead ∧ a.Catch = b.Catch ∧ a.Custos = b.Custos) ↔ a = b := by
  cases a; cases b; simp only [Staff.mk.injEq]
instance : DecidableEq Staff := fun a b => decidable_of_iff _ (q4l a b)
theorem q7u (a b : Page) : (a.Staves = b.Staves) ↔ a = b := by
  cases a; cases b; simp only [Page.mk.injEq]
instance : DecidableEq Page := fun a b => decidable_of_iff _ (q7u a b)
def jy (n : List UInt8) (a : List Sign) (m : List UInt8) (b : List Sign) : Bool := decide (n = m ∧ a = b)
/-! ### Groups -/
def tT (l : List Sign) (to : Int) : Int := if h : to < ln l ∧ (ix l (to - 1)).Kind = 4 ∧ (ix l (to - 1)).Last = false then tT l (to + 1) else to
 termination_by (ln l - to).toNat
 decreasing_by omega
theorem qhz {l : List Sign} {to : Int} (h : to < ln l ∧ (ix l (to - 1)).Kind = 4 ∧ (ix l (to - 1)).Last = false) : tT l to = tT l (to + 1) := by rw [tT, dif_pos h]
theorem qfg {l : List Sign} {to : Int} (h : ¬ (to < ln l ∧ (ix l (to - 1)).Kind = 4 ∧ (ix l (to - 1)).Last = false)) : tT l to = to := by rw [tT, dif_neg h]
theorem q75 {l : List Sign} {to : Int} (h : to ≤ ln l) : to ≤ tT l to ∧ tT l to ≤ ln l := by
  by_cases hc : to < ln l ∧ (ix l (to - 1)).Kind = 4 ∧ (ix l (to - 1)).Last = false
  · have := q75 (l := l) (to := to + 1) (by omega)
    rw [qhz hc]; omega
  · rw [qfg hc]; omega
 termination_by (ln l - to).toNat
 decreasing_by omega
def gE (l : List Sign) (i : Int) : Int := if tT l (i + 1) < ln l ∧ (ix l (tT l (i + 1))).Kind = 3 then tT l (i + 1) + 1 else tT l (i + 1)
theorem qie {l : List Sign} {i : Int} (h : i < ln l) : i + 1 ≤ gE l i ∧ gE l i ≤ ln l := by
  have := q75 (l := l) (to := i + 1) (by omega)
  unfold gE; split <;> omega
theorem zbp {l : List Sign} {at_ to : Int} (h0 : 0 ≤ at_) (h1 : at_ ≤ ln l) (h2 : 1 ≤ to) : at_ + tT (fr l at_) to = tT l (at_ + to) := by
  have hl := qf4 h0 h1
  have hx : ix (fr l at_) (to - 1) = ix l (at_ + to - 1) := by rw [q13 h0 (by omega)]; congr 1; omega
  by_cases hc : to < ln (fr l at_) ∧ (ix (fr l at_) (to - 1)).Kind = 4 ∧ (ix (fr l at_) (to - 1)).Last = false
  · rw [qhz hc, qhz (l := l) (by rw [← hx]; exact ⟨by omega, hc.2⟩), zbp h0 h1 (by omega)]
    congr 1; omega
  · rw [qfg hc, qfg (l := l)]
    rw [← hx]
    exact fun h => hc ⟨by omega, h.2⟩
 termination_by (ln l - to).toNat
 decreasing_by omega
theorem zdh {l : List Sign} {at_ i : Int} (h0 : 0 ≤ at_) (h1 : at_ ≤ ln l) (h2 : 0 ≤ i) : at_ + gE (fr l at_) i = gE l (at_ + i) := by
  have hl := qf4 h0 h1
  have ht := zbp h0 h1 (to := i + 1) (by omega)
  have hb : i + 1 ≤ tT (fr l at_) (i + 1) := by
    by_cases hi : i + 1 ≤ ln (fr l at_)
    · exact (q75 hi).1
    · rw [qfg (by omega)]; exact Int.le_refl _
  have hx : ix (fr l at_) (tT (fr l at_) (i + 1)) = ix l (tT l (at_ + i + 1)) := by
    rw [q13 h0 (by omega), ht]; congr 1; congr 1; omega
  have e : at_ + i + 1 = at_ + (i + 1) := by omega
  rw [e] at hx
  unfold gE
  rw [hx, e, ← ht]
  by_cases hc : tT (fr l at_) (i + 1) < ln (fr l at_) ∧ (ix l (at_ + tT (fr l at_) (i + 1))).Kind = 3
  · rw [if_pos hc, if_pos ⟨by omega, hc.2⟩]; omega
  · rw [if_neg hc, if_neg (fun h => hc ⟨by omega, h.2⟩)]

/-! ### What is in force -/
def kh (c k : List Sign) (s : Sign) : List Sign × List Sign := if s.Kind = 7 then ([s], k) else if s.Kind = 8 then (c, [s]) else (c, k)
def qi1 (l : List Sign) : Nat → List Sign × List Sign
  | 0 => ([], [])
  | n + 1 => kh (qi1 l n).1 (qi1 l n).2 (ix l (n : Int))
def qa2 (l : List Sign) (i : Int) : List Sign × List Sign := qi1 l i.toNat
def qao (l : List Sign) (i : Int) : List Sign := (qa2 l i).1 ++ (qa2 l i).2
theorem qz3 (l : List Sign) : qa2 l 0 = ([], []) := rfl
theorem qrq {l : List Sign} {i : Int} (h : 0 ≤ i) : qa2 l (i + 1) = kh (qa2 l i).1 (qa2 l i).2 (ix l i) := by
  unfold qa2
  have : (i + 1).toNat = i.toNat + 1 := by omega
  have e : ((i.toNat : Nat) : Int) = i := by omega
  rw [this, qi1, e]
theorem qt0 {c k : List Sign} {s : Sign} (hc : ln c ≤ 1) (hk : ln k ≤ 1) : ln (kh c k s).1 ≤ 1 ∧ ln (kh c k s).2 ≤ 1 := by
  unfold kh
  split
  · exact ⟨by simp [ln], hk⟩
  · split
    · exact ⟨hc, by simp [ln]⟩
    · exact ⟨hc, hk⟩
theorem que (l : List Sign) (i : Int) : ln (qa2 l i).1 ≤ 1 ∧ ln (qa2 l i).2 ≤ 1 := by
  unfold qa2
  induction i.toNat with
  | zero => exact ⟨by simp [qi1, ln], by simp [qi1, ln]⟩
  | succ n ih => exact qt0 ih.1 ih.2
theorem q6p (l : List Sign) (i : Int) : 0 ≤ ln (qao l i) ∧ ln (qao l i) ≤ 2 := by
  have := que l i
  have h0 := qo (qao l i)
  unfold qao at *
  rw [qbq] at *
  omega
/-! ### The custos, page turns -/
def zo : List Sign → Bool × Int
  | [] => (false, 0)
  | s :: l => if s.Kind = 1 ∨ s.Kind = 4 then (true, s.Place) else zo l
def qq7 (l : List Sign) (i : Int) : Bool × Int := zo (fr l i)
def qic : List Sign → Int → Int
  | [], _ => -1
  | s :: l, i => if s.Kind = 11 then i else qic l (i + 1)
theorem qh1 {l : List Sign} {i : Int} (h0 : 0 ≤ i) (h : i < ln l) : qic (fr l i) i = if (ix l i).Kind = 11 then i else qic (fr l (i + 1)) (i + 1) := by rw [qa0 h0 h, qic]
theorem qs5 {l : List Sign} {i : Int} (h : ln l ≤ i) : qic (fr l i) i = -1 := by rw [qfy h]; rfl
def qln (l : List Sign) : Int := qic l 0

/-! ### How a staff is filled -/
def fA (l : List Sign) (lim i rest : Int) : Int × Int := if h : i < ln l ∧ gE l i ≤ lim then fA l lim (gE l i) (if (ix l i).Kind = 2 then gE l i else rest) else (i, rest)
 termination_by (ln l - i).toNat
 decreasing_by have := qie h.1; omega
theorem qkv {l : List Sign} {lim i rest : Int} (h : i < ln l) (h' : gE l i ≤ lim) : fA l lim i rest = fA l lim (gE l i) (if (ix l i).Kind = 2 then gE l i else rest) := by rw [fA, dif_pos ⟨h, h'⟩]
theorem qmx {l : List Sign} {lim i rest : Int} (h : ln l ≤ i ∨ lim < gE l i) : fA l lim i rest = (i, rest) := by rw [fA, dif_neg (by omega)]
def qj (l : List Sign) (room : Int) (last : Bool) : Int := if last = true ∧ (fA l room 0 0).1 < ln l ∧ 0 < (fA l room 0 0).2 then (fA l room 0 0).2 else (fA l room 0 0).1
def qna (l : List Sign) (w i : Int) : Int := i + (w - ln (qao l i))
def nxt (l : List Sign) (w i : Int) (last : Bool) : Int :=
  if last = true ∧ (fA l (qna l w i) i i).1 < ln l ∧ i < (fA l (qna l w i) i i).2 then (fA l (qna l w i) i i).2 else (fA l (qna l w i) i i).1
theorem qxv {l : List Sign} {lim i rest : Int} (h0 : 0 ≤ i) (h : i ≤ ln l) (hr : rest ≤ i) : i ≤ (fA l lim i rest).1 ∧ (fA l lim i rest).1 ≤ ln l ∧ rest ≤ (fA l lim i rest).2 ∧ (fA l lim i rest).2 ≤ (fA l lim i rest).1 := by
  by_cases hc : i < ln l ∧ gE l i ≤ lim
  · have hb := qie hc.1
    have := qxv (l := l) (lim := lim) (i := gE l i) (rest := if (ix l i).Kind = 2 then gE l i else rest) (by omega) hb.2 (by split <;> omega)
    rw [qkv hc.1 hc.2]
    have h2 : rest ≤ (if (ix l i).Kind = 2 then gE l i else rest) := by split <;> omega
    omega
  · rw [qmx (by omega)]; exact ⟨Int.le_refl _, h, Int.le_refl _, hr⟩
 termination_by (ln l - i).toNat
 decreasing_by omega
theorem zbe {l : List Sign} {a lim i rest : Int} (h0 : 0 ≤ a) (h1 : a ≤ ln l) (h2 : 0 ≤ i) : fA l (a + lim) (a + i) (a + rest) = (a + (fA (fr l a) lim i rest).1, a + (fA (fr l a) lim i rest).2) := by
  have hl := qf4 h0 h1
  have hg := zdh h0 h1 h2
  by_cases hc : i < ln (fr l a) ∧ gE (fr l a) i ≤ lim
  · have hb := qie hc.1
    rw [qkv hc.1 hc.2, qkv (l := l) (by omega) (by omega), ← hg, ← q13 h0 h2, ← zbe h0 h1 (by omega)]
    congr 1
    split <;> rfl
  · rw [qmx (l := fr l a) (by omega), qmx (l := l) (by omega)]
 termination_by (ln (fr l a) - i).toNat
 decreasing_by omega
theorem q55 {l : List Sign} {w a : Int} {last : Bool} (h0 : 0 ≤ a) (h1 : a ≤ ln l) : a + qj (fr l a) (w - ln (qao l a)) last = nxt l w a last := by
  have h := zbe (l := l) (a := a) (lim := w - ln (qao l a)) (i := 0) (rest := 0) h0 h1 (Int.le_refl _)
  rw [Int.add_zero] at h
  have hl := qf4 h0 h1
  unfold qj nxt qna
  rw [h]
  by_cases hc : last = true ∧ (fA (fr l a) (w - ln (qao l a)) 0 0).1 < ln (fr l a) ∧ 0 < (fA (fr l a) (w - ln (qao l a)) 0 0).2
  · rw [if_pos hc, if_pos ⟨hc.1, by dsimp only; omega, by dsimp only; omega⟩]
  · rw [if_neg hc, if_neg (fun hh => hc ⟨hh.1, by have := hh.2.1; dsimp only at this; omega, by have := hh.2.2; dsimp only at this; omega⟩)]
theorem q1s {l : List Sign} {room : Int} {last : Bool} : 0 ≤ qj l room last ∧ qj l room last ≤ ln l := by
  have := qxv (l := l) (lim := room) (i := 0) (rest := 0) (Int.le_refl _) (qo l) (Int.le_refl _)
  unfold qj; split <;> omega

/-! ### The book -/
def stf (l : List Sign) (i j : Int) : Staff := Staff.mk (qao l i ++ sub l i j) (ln (qao l i)) (qq7 l j).1 (qq7 l j).2
def bk (l : List Sign) (w h i : Int) (page : List Staff) (pages : List Page) : Option (List Page) :=
  if hl : i < ln l then
    if hn : nxt l w i (decide (ln page + 1 = h)) ≤ i then none
    else if ln page + 1 = h ∨ ln l ≤ nxt l w i (decide (ln page + 1 = h)) then bk l w h (nxt l w i (decide (ln page + 1 = h))) [] (pages ++ [Page.mk (page ++ [stf l i (nxt l w i (decide (ln page + 1 = h)))])])
    else bk l w h (nxt l w i (decide (ln page + 1 = h))) (page ++ [stf l i (nxt l w i (decide (ln page + 1 = h)))]) pages
  else some pages
 termination_by (ln l - i).toNat
 decreasing_by all_goals omega
theorem q5v {l : List Sign} {w h i : Int} {page : List Staff} {pages : List Page} (hl : ln l ≤ i) : bk l w h i page pages = some pages := by rw [bk, dif_neg (by omega)]
theorem q5w {l : List Sign} {w h i : Int} {page : List Staff} {pages : List Page} (hl : i < ln l) (hn : nxt l w i (decide (ln page + 1 = h)) ≤ i) : bk l w h i page pages = none := by rw [bk, dif_pos hl, dif_pos hn]
theorem q1a {l : List Sign} {w h i j : Int} {page : List Staff} {pages : List Page} (hl : i < ln l) (hj : j = nxt l w i (decide (ln page + 1 = h))) (hn : i < j) (ht : ln page + 1 = h ∨ ln l ≤ j) : bk l w h i page pages = bk l w h j [] (pages ++ [Page.mk (page ++ [stf l i j])]) := by
  subst hj
  rw [bk, dif_pos hl, dif_neg (by omega), if_pos ht]
theorem zbb {l : List Sign} {w h i j : Int} {page : List Staff} {pages : List Page} (hl : i < ln l) (hj : j = nxt l w i (decide (ln page + 1 = h))) (hn : i < j) (ht : ¬ (ln page + 1 = h ∨ ln l ≤ j)) : bk l w h i page pages = bk l w h j (page ++ [stf l i j]) pages := by
  subst hj
  rw [bk, dif_pos hl, dif_neg (by omega), if_neg ht]
def mkB (nm : List UInt8) (l : List Sign) (w h : Int) : List UInt8 × List Page × Int :=
  if (zl nm l).1 ≠ 0 then ([], [], (zl nm l).1) else if 0 ≤ qln l then ([], [], 8) else if w < 16 ∨ 60 < w ∨ h < 1 ∨ 12 < h then ([], [], 2) else
  match bk l w h 0 [] [] with
  | none => ([], [], 11)
  | some g => (nm, g, 0)

/-! ### The list of groups -/
/-- One comes from group to group. -/
inductive Ch (l : List Sign) : Int → Int → Prop
  | refl (a : Int) : Ch l a a
  | step {a b : Int} (ha : a < ln l) (h : Ch l (gE l a) b) : Ch l a b
theorem Ch.le {l : List Sign} {a b : Int} (h : Ch l a b) : a ≤ b := by
  induction h with
  | refl => exact Int.le_refl _
  | step ha _ ih => have := qie ha; omega
/-- What is known of the list of groups from a place on. -/
structure GrpOk (l : List Sign) (i : Int) (g : List Group) : Prop where
  len : ln g ≤ ln l - i
  at0 : 0 < ln g → (ix g 0).fro = i
  none : ln g ≤ 0 → ln l ≤ i
  bd : ∀ k, 0 ≤ k → k < ln g → i ≤ (ix g k).fro ∧ (ix g k).fro < ln l ∧ (ix g k).to = gE l (ix g k).fro ∧ Ch l i (ix g k).fro
  next : ∀ k, 0 ≤ k → k + 1 < ln g → (ix g (k + 1)).fro = (ix g k).to
  last : ∀ k, 0 ≤ k → k + 1 = ln g → (ix g k).to = ln l
/-! ### A group that doesn't fit -/
/-! ### A book isn't too great -/
end Go.Proofs.YtlkfjinaiepocaaDoor
