/- WHAT THE FUNCTIONS ON PARTS AND BOOKS COMPUTE, in plain Lean; no program in sight. -/
import Derived.Test.YtlkfjinaiepocaaDoorSignSpec
namespace Go.Proofs.YtlkfjinaiepocaaDoor
open Go Go.E2 Go.E3

theorem sign_eta (s : Sign) : Sign.mk s.Kind s.Value s.Place s.Acc s.Color s.Stem s.Oblique s.Last s.MensMax s.MensMod s.MensTem s.MensPro s.Stroke s.N s.D s.ClefStep s.ClefLine = s := rfl
theorem staff_eta (s : Staff) : Staff.mk s.Signs s.Lead s.Catch s.Custos = s := rfl

/-! ### The signs of a part -/
def usedS (s : Sign) : Sign where
  Kind := s.Kind
  Value := if s.Kind = 1 ∨ s.Kind = 2 then s.Value else 0
  Place := if s.Kind = 1 ∨ s.Kind = 4 then s.Place else 0
  Acc := if s.Kind = 1 ∨ s.Kind = 4 then s.Acc else 0
  Color := if s.Kind = 1 ∨ s.Kind = 4 then s.Color else false
  Stem := if s.Kind = 4 then s.Stem else 0
  Oblique := if s.Kind = 4 then s.Oblique else false
  Last := if s.Kind = 4 then s.Last else false
  MensMax := if s.Kind = 5 then s.MensMax else 0
  MensMod := if s.Kind = 5 then s.MensMod else 0
  MensTem := if s.Kind = 5 then s.MensTem else 0
  MensPro := if s.Kind = 5 then s.MensPro else 0
  Stroke := if s.Kind = 5 then s.Stroke else false
  N := if s.Kind = 6 ∨ s.Kind = 8 ∨ s.Kind = 10 then s.N else 0
  D := if s.Kind = 6 then s.D else 0
  ClefStep := if s.Kind = 7 then s.ClefStep else 0
  ClefLine := if s.Kind = 7 then s.ClefLine else 0

/-- Is one inside a ligature, before a sign? -/
def ins (l : List Sign) (i : Int) : Bool := decide (0 < i) && (decide ((ix l (i - 1)).Kind = 4) && !(ix l (i - 1)).Last)
def badT (l : List Sign) (i : Int) : Prop :=
  (ix l i).Kind = 4 ∧ (((ix l i).Last = true ∧ ins l i = false) ∨ ((ix l i).Last = false ∧ (ln l ≤ i + 1 ∨ (ix l (i + 1)).Kind ≠ 4)))
instance (l : List Sign) (i : Int) : Decidable (badT l i) := by unfold badT; infer_instance
def errAt (l : List Sign) (i : Int) : Int := if oneC (ix l i) ≠ 0 then oneC (ix l i) else if badT l i then 3 else 0
def chkGo (l : List Sign) (i : Int) : Int × Int := if h : i < ln l then (if errAt l i ≠ 0 then (errAt l i, i) else chkGo l (i + 1)) else (0, 0)
 termination_by (ln l - i).toNat
 decreasing_by omega
def checkC (nm : List UInt8) (l : List Sign) : Int × Int := if nameB nm = false then (7, 0) else if 400 < ln l then (11, 0) else chkGo l 0
theorem chk_step {l : List Sign} {i : Int} (h : i < ln l) (he : errAt l i = 0) : chkGo l i = chkGo l (i + 1) := by
  rw [chkGo, dif_pos h, if_neg (by simp [he])]
theorem chk_err {l : List Sign} {i : Int} (h : i < ln l) (he : errAt l i ≠ 0) : chkGo l i = (errAt l i, i) := by
  rw [chkGo, dif_pos h, if_pos he]
theorem chk_end {l : List Sign} {i : Int} (h : ln l ≤ i) : chkGo l i = (0, 0) := by
  rw [chkGo, dif_neg (by omega)]

/-! ### The kit -/
def lightP (nm : List UInt8) (l : List Sign) (m : Int) : Bool := decide (ln nm ≤ 100) && (decide (ln l ≤ m) || (decide (400 < ln l) && decide (ln l ≤ 420)))
theorem sign_iff (a b : Sign) : (a.Kind = b.Kind ∧ a.Value = b.Value ∧ a.Place = b.Place ∧ a.Acc = b.Acc ∧ a.Color = b.Color ∧ a.Stem = b.Stem ∧ a.Oblique = b.Oblique ∧ a.Last = b.Last ∧ a.MensMax = b.MensMax ∧ a.MensMod = b.MensMod ∧ a.MensTem = b.MensTem ∧ a.MensPro = b.MensPro ∧ a.Stroke = b.Stroke ∧ a.N = b.N ∧ a.D = b.D ∧ a.ClefStep = b.ClefStep ∧ a.ClefLine = b.ClefLine) ↔ a = b := by
  cases a; cases b; simp only [Sign.mk.injEq]
instance : DecidableEq Sign := fun a b => decidable_of_iff _ (sign_iff a b)
theorem staff_iff (a b : Staff) : (a.Signs = b.Signs ∧ a.Lead = b.Lead ∧ a.Catch = b.Catch ∧ a.Custos = b.Custos) ↔ a = b := by
  cases a; cases b; simp only [Staff.mk.injEq]
instance : DecidableEq Staff := fun a b => decidable_of_iff _ (staff_iff a b)
theorem page_iff (a b : Page) : (a.Staves = b.Staves) ↔ a = b := by
  cases a; cases b; simp only [Page.mk.injEq]
instance : DecidableEq Page := fun a b => decidable_of_iff _ (page_iff a b)
def sameS (a b : List Sign) : Bool := decide (a = b)
def sameP (n : List UInt8) (a : List Sign) (m : List UInt8) (b : List Sign) : Bool := decide (n = m ∧ a = b)
def sameSt (a b : Staff) : Bool := decide (a = b)
def sameB (n : List UInt8) (a : List Page) (m : List UInt8) (b : List Page) : Bool := decide (n = m ∧ a = b)
/-- A book that isn't too great to be compared. -/
def okB (b : List Page) : Prop := ∀ p ∈ b, ln p.Staves ≤ 1000000000 ∧ ∀ s ∈ p.Staves, ln s.Signs ≤ 10000000

/-! ### Groups -/
def tT (l : List Sign) (to : Int) : Int := if h : to < ln l ∧ (ix l (to - 1)).Kind = 4 ∧ (ix l (to - 1)).Last = false then tT l (to + 1) else to
 termination_by (ln l - to).toNat
 decreasing_by omega
theorem tT_step {l : List Sign} {to : Int} (h : to < ln l ∧ (ix l (to - 1)).Kind = 4 ∧ (ix l (to - 1)).Last = false) : tT l to = tT l (to + 1) := by rw [tT, dif_pos h]
theorem tT_stop {l : List Sign} {to : Int} (h : ¬ (to < ln l ∧ (ix l (to - 1)).Kind = 4 ∧ (ix l (to - 1)).Last = false)) : tT l to = to := by rw [tT, dif_neg h]
theorem tT_bd {l : List Sign} {to : Int} (h : to ≤ ln l) : to ≤ tT l to ∧ tT l to ≤ ln l := by
  by_cases hc : to < ln l ∧ (ix l (to - 1)).Kind = 4 ∧ (ix l (to - 1)).Last = false
  · have := tT_bd (l := l) (to := to + 1) (by omega)
    rw [tT_step hc]; omega
  · rw [tT_stop hc]; omega
 termination_by (ln l - to).toNat
 decreasing_by omega
def gE (l : List Sign) (i : Int) : Int := if tT l (i + 1) < ln l ∧ (ix l (tT l (i + 1))).Kind = 3 then tT l (i + 1) + 1 else tT l (i + 1)
theorem gE_bd {l : List Sign} {i : Int} (h : i < ln l) : i + 1 ≤ gE l i ∧ gE l i ≤ ln l := by
  have := tT_bd (l := l) (to := i + 1) (by omega)
  unfold gE; split <;> omega
theorem tT_fr {l : List Sign} {at_ to : Int} (h0 : 0 ≤ at_) (h1 : at_ ≤ ln l) (h2 : 1 ≤ to) : at_ + tT (fr l at_) to = tT l (at_ + to) := by
  have hl := ln_fr h0 h1
  have hx : ix (fr l at_) (to - 1) = ix l (at_ + to - 1) := by rw [ix_fr h0 (by omega)]; congr 1; omega
  by_cases hc : to < ln (fr l at_) ∧ (ix (fr l at_) (to - 1)).Kind = 4 ∧ (ix (fr l at_) (to - 1)).Last = false
  · rw [tT_step hc, tT_step (l := l) (by rw [← hx]; exact ⟨by omega, hc.2⟩), tT_fr h0 h1 (by omega)]
    congr 1; omega
  · rw [tT_stop hc, tT_stop (l := l)]
    rw [← hx]
    exact fun h => hc ⟨by omega, h.2⟩
 termination_by (ln l - to).toNat
 decreasing_by omega
theorem gE_fr {l : List Sign} {at_ i : Int} (h0 : 0 ≤ at_) (h1 : at_ ≤ ln l) (h2 : 0 ≤ i) : at_ + gE (fr l at_) i = gE l (at_ + i) := by
  have hl := ln_fr h0 h1
  have ht := tT_fr h0 h1 (to := i + 1) (by omega)
  have hb : i + 1 ≤ tT (fr l at_) (i + 1) := by
    by_cases hi : i + 1 ≤ ln (fr l at_)
    · exact (tT_bd hi).1
    · rw [tT_stop (by omega)]; exact Int.le_refl _
  have hx : ix (fr l at_) (tT (fr l at_) (i + 1)) = ix l (tT l (at_ + i + 1)) := by
    rw [ix_fr h0 (by omega), ht]; congr 1; congr 1; omega
  have e : at_ + i + 1 = at_ + (i + 1) := by omega
  rw [e] at hx
  unfold gE
  rw [hx, e, ← ht]
  by_cases hc : tT (fr l at_) (i + 1) < ln (fr l at_) ∧ (ix l (at_ + tT (fr l at_) (i + 1))).Kind = 3
  · rw [if_pos hc, if_pos ⟨by omega, hc.2⟩]; omega
  · rw [if_neg hc, if_neg (fun h => hc ⟨by omega, h.2⟩)]

/-! ### What is in force -/
def afterF (c k : List Sign) (s : Sign) : List Sign × List Sign := if s.Kind = 7 then ([s], k) else if s.Kind = 8 then (c, [s]) else (c, k)
def forceN (l : List Sign) : Nat → List Sign × List Sign
  | 0 => ([], [])
  | n + 1 => afterF (forceN l n).1 (forceN l n).2 (ix l (n : Int))
def forceI (l : List Sign) (i : Int) : List Sign × List Sign := forceN l i.toNat
def leadL (l : List Sign) (i : Int) : List Sign := (forceI l i).1 ++ (forceI l i).2
theorem force_zero (l : List Sign) : forceI l 0 = ([], []) := rfl
theorem force_succ {l : List Sign} {i : Int} (h : 0 ≤ i) : forceI l (i + 1) = afterF (forceI l i).1 (forceI l i).2 (ix l i) := by
  unfold forceI
  have : (i + 1).toNat = i.toNat + 1 := by omega
  have e : ((i.toNat : Nat) : Int) = i := by omega
  rw [this, forceN, e]
theorem after_len {c k : List Sign} {s : Sign} (hc : ln c ≤ 1) (hk : ln k ≤ 1) : ln (afterF c k s).1 ≤ 1 ∧ ln (afterF c k s).2 ≤ 1 := by
  unfold afterF
  split
  · exact ⟨by simp [ln], hk⟩
  · split
    · exact ⟨hc, by simp [ln]⟩
    · exact ⟨hc, hk⟩
theorem force_len (l : List Sign) (i : Int) : ln (forceI l i).1 ≤ 1 ∧ ln (forceI l i).2 ≤ 1 := by
  unfold forceI
  induction i.toNat with
  | zero => exact ⟨by simp [forceN, ln], by simp [forceN, ln]⟩
  | succ n ih => exact after_len ih.1 ih.2
theorem lead_len (l : List Sign) (i : Int) : 0 ≤ ln (leadL l i) ∧ ln (leadL l i) ≤ 2 := by
  have := force_len l i
  have h0 := ln_nonneg (leadL l i)
  unfold leadL at *
  rw [ln_append] at *
  omega
theorem lead_mono {l : List Sign} {i : Int} (h : 0 ≤ i) : ∀ n : Nat, ln (leadL l (i + n)) ≤ ln (leadL l i) + n := by
  intro n
  induction n with
  | zero => simp
  | succ n ih =>
    have e : i + ((n + 1 : Nat) : Int) = (i + n) + 1 := by omega
    rw [e]
    have h2 : ln (leadL l ((i + n) + 1)) ≤ ln (leadL l (i + n)) + 1 := by
      unfold leadL
      rw [force_succ (by omega), ln_append, ln_append]
      have a := ln_nonneg (forceI l (i + n)).1
      have b := ln_nonneg (forceI l (i + n)).2
      unfold afterF
      split
      · simp only [ln, List.length_singleton] at *; omega
      · split
        · simp only [ln, List.length_singleton] at *; omega
        · dsimp only; omega
    omega

/-! ### The custos, page turns -/
def catchL : List Sign → Bool × Int
  | [] => (false, 0)
  | s :: l => if s.Kind = 1 ∨ s.Kind = 4 then (true, s.Place) else catchL l
def catchP (l : List Sign) (i : Int) : Bool × Int := catchL (fr l i)
def turnGo : List Sign → Int → Int
  | [], _ => -1
  | s :: l, i => if s.Kind = 11 then i else turnGo l (i + 1)
theorem turnGo_step {l : List Sign} {i : Int} (h0 : 0 ≤ i) (h : i < ln l) : turnGo (fr l i) i = if (ix l i).Kind = 11 then i else turnGo (fr l (i + 1)) (i + 1) := by rw [fr_cons h0 h, turnGo]
theorem turnGo_end {l : List Sign} {i : Int} (h : ln l ≤ i) : turnGo (fr l i) i = -1 := by rw [fr_all h]; rfl
def turnI (l : List Sign) : Int := turnGo l 0

/-! ### How a staff is filled -/
def fA (l : List Sign) (lim i rest : Int) : Int × Int := if h : i < ln l ∧ gE l i ≤ lim then fA l lim (gE l i) (if (ix l i).Kind = 2 then gE l i else rest) else (i, rest)
 termination_by (ln l - i).toNat
 decreasing_by have := gE_bd h.1; omega
theorem fA_step {l : List Sign} {lim i rest : Int} (h : i < ln l) (h' : gE l i ≤ lim) : fA l lim i rest = fA l lim (gE l i) (if (ix l i).Kind = 2 then gE l i else rest) := by rw [fA, dif_pos ⟨h, h'⟩]
theorem fA_stop {l : List Sign} {lim i rest : Int} (h : ln l ≤ i ∨ lim < gE l i) : fA l lim i rest = (i, rest) := by rw [fA, dif_neg (by omega)]
def fillL (l : List Sign) (room : Int) (last : Bool) : Int := if last = true ∧ (fA l room 0 0).1 < ln l ∧ 0 < (fA l room 0 0).2 then (fA l room 0 0).2 else (fA l room 0 0).1
def limP (l : List Sign) (w i : Int) : Int := i + (w - ln (leadL l i))
def nxt (l : List Sign) (w i : Int) (last : Bool) : Int :=
  if last = true ∧ (fA l (limP l w i) i i).1 < ln l ∧ i < (fA l (limP l w i) i i).2 then (fA l (limP l w i) i i).2 else (fA l (limP l w i) i i).1
theorem fA_bd {l : List Sign} {lim i rest : Int} (h0 : 0 ≤ i) (h : i ≤ ln l) (hr : rest ≤ i) : i ≤ (fA l lim i rest).1 ∧ (fA l lim i rest).1 ≤ ln l ∧ rest ≤ (fA l lim i rest).2 ∧ (fA l lim i rest).2 ≤ (fA l lim i rest).1 := by
  by_cases hc : i < ln l ∧ gE l i ≤ lim
  · have hb := gE_bd hc.1
    have := fA_bd (l := l) (lim := lim) (i := gE l i) (rest := if (ix l i).Kind = 2 then gE l i else rest) (by omega) hb.2 (by split <;> omega)
    rw [fA_step hc.1 hc.2]
    have h2 : rest ≤ (if (ix l i).Kind = 2 then gE l i else rest) := by split <;> omega
    omega
  · rw [fA_stop (by omega)]; exact ⟨Int.le_refl _, h, Int.le_refl _, hr⟩
 termination_by (ln l - i).toNat
 decreasing_by omega
theorem fA_fr {l : List Sign} {a lim i rest : Int} (h0 : 0 ≤ a) (h1 : a ≤ ln l) (h2 : 0 ≤ i) : fA l (a + lim) (a + i) (a + rest) = (a + (fA (fr l a) lim i rest).1, a + (fA (fr l a) lim i rest).2) := by
  have hl := ln_fr h0 h1
  have hg := gE_fr h0 h1 h2
  by_cases hc : i < ln (fr l a) ∧ gE (fr l a) i ≤ lim
  · have hb := gE_bd hc.1
    rw [fA_step hc.1 hc.2, fA_step (l := l) (by omega) (by omega), ← hg, ← ix_fr h0 h2, ← fA_fr h0 h1 (by omega)]
    congr 1
    split <;> rfl
  · rw [fA_stop (l := fr l a) (by omega), fA_stop (l := l) (by omega)]
 termination_by (ln (fr l a) - i).toNat
 decreasing_by omega
theorem fill_nxt {l : List Sign} {w a : Int} {last : Bool} (h0 : 0 ≤ a) (h1 : a ≤ ln l) : a + fillL (fr l a) (w - ln (leadL l a)) last = nxt l w a last := by
  have h := fA_fr (l := l) (a := a) (lim := w - ln (leadL l a)) (i := 0) (rest := 0) h0 h1 (Int.le_refl _)
  rw [Int.add_zero] at h
  have hl := ln_fr h0 h1
  unfold fillL nxt limP
  rw [h]
  by_cases hc : last = true ∧ (fA (fr l a) (w - ln (leadL l a)) 0 0).1 < ln (fr l a) ∧ 0 < (fA (fr l a) (w - ln (leadL l a)) 0 0).2
  · rw [if_pos hc, if_pos ⟨hc.1, by dsimp only; omega, by dsimp only; omega⟩]
  · rw [if_neg hc, if_neg (fun hh => hc ⟨hh.1, by have := hh.2.1; dsimp only at this; omega, by have := hh.2.2; dsimp only at this; omega⟩)]
theorem nxt_bd {l : List Sign} {w a : Int} {last : Bool} (h0 : 0 ≤ a) (h1 : a ≤ ln l) : a ≤ nxt l w a last ∧ nxt l w a last ≤ ln l := by
  have := fA_bd (l := l) (lim := limP l w a) (i := a) (rest := a) h0 h1 (Int.le_refl _)
  unfold nxt; split <;> omega
theorem fill_bd {l : List Sign} {room : Int} {last : Bool} : 0 ≤ fillL l room last ∧ fillL l room last ≤ ln l := by
  have := fA_bd (l := l) (lim := room) (i := 0) (rest := 0) (Int.le_refl _) (ln_nonneg l) (Int.le_refl _)
  unfold fillL; split <;> omega

/-! ### The book -/
def stf (l : List Sign) (i j : Int) : Staff := Staff.mk (leadL l i ++ sub l i j) (ln (leadL l i)) (catchP l j).1 (catchP l j).2
def bk (l : List Sign) (w h i : Int) (page : List Staff) (pages : List Page) : Option (List Page) :=
  if hl : i < ln l then
    if hn : nxt l w i (decide (ln page + 1 = h)) ≤ i then none
    else if ln page + 1 = h ∨ ln l ≤ nxt l w i (decide (ln page + 1 = h)) then bk l w h (nxt l w i (decide (ln page + 1 = h))) [] (pages ++ [Page.mk (page ++ [stf l i (nxt l w i (decide (ln page + 1 = h)))])])
    else bk l w h (nxt l w i (decide (ln page + 1 = h))) (page ++ [stf l i (nxt l w i (decide (ln page + 1 = h)))]) pages
  else some pages
 termination_by (ln l - i).toNat
 decreasing_by all_goals omega
theorem bk_end {l : List Sign} {w h i : Int} {page : List Staff} {pages : List Page} (hl : ln l ≤ i) : bk l w h i page pages = some pages := by rw [bk, dif_neg (by omega)]
theorem bk_none0 {l : List Sign} {w h i : Int} {page : List Staff} {pages : List Page} (hl : i < ln l) (hn : nxt l w i (decide (ln page + 1 = h)) ≤ i) : bk l w h i page pages = none := by rw [bk, dif_pos hl, dif_pos hn]
theorem bk_turn {l : List Sign} {w h i j : Int} {page : List Staff} {pages : List Page} (hl : i < ln l) (hj : j = nxt l w i (decide (ln page + 1 = h))) (hn : i < j) (ht : ln page + 1 = h ∨ ln l ≤ j) : bk l w h i page pages = bk l w h j [] (pages ++ [Page.mk (page ++ [stf l i j])]) := by
  subst hj
  rw [bk, dif_pos hl, dif_neg (by omega), if_pos ht]
theorem bk_go {l : List Sign} {w h i j : Int} {page : List Staff} {pages : List Page} (hl : i < ln l) (hj : j = nxt l w i (decide (ln page + 1 = h))) (hn : i < j) (ht : ¬ (ln page + 1 = h ∨ ln l ≤ j)) : bk l w h i page pages = bk l w h j (page ++ [stf l i j]) pages := by
  subst hj
  rw [bk, dif_pos hl, dif_neg (by omega), if_neg ht]
def mkB (nm : List UInt8) (l : List Sign) (w h : Int) : List UInt8 × List Page × Int :=
  if (checkC nm l).1 ≠ 0 then ([], [], (checkC nm l).1) else if 0 ≤ turnI l then ([], [], 8) else if w < 16 ∨ 60 < w ∨ h < 1 ∨ 12 < h then ([], [], 2) else
  match bk l w h 0 [] [] with
  | none => ([], [], 11)
  | some g => (nm, g, 0)

/-! ### The list of groups -/
def grpL (l : List Sign) (i : Int) : List Group := if h : i < ln l then Group.mk i (gE l i) :: grpL l (gE l i) else []
 termination_by (ln l - i).toNat
 decreasing_by have := gE_bd h; omega
def groupsL (l : List Sign) : List Group := grpL l 0
theorem grp_step {l : List Sign} {i : Int} (h : i < ln l) : grpL l i = Group.mk i (gE l i) :: grpL l (gE l i) := by rw [grpL, dif_pos h]
theorem grp_end {l : List Sign} {i : Int} (h : ln l ≤ i) : grpL l i = [] := by rw [grpL, dif_neg (by omega)]
/-- One comes from group to group. -/
inductive Ch (l : List Sign) : Int → Int → Prop
  | refl (a : Int) : Ch l a a
  | step {a b : Int} (ha : a < ln l) (h : Ch l (gE l a) b) : Ch l a b
theorem Ch.le {l : List Sign} {a b : Int} (h : Ch l a b) : a ≤ b := by
  induction h with
  | refl => exact Int.le_refl _
  | step ha _ ih => have := gE_bd ha; omega
/-- What is known of the list of groups from a place on. -/
structure GrpOk (l : List Sign) (i : Int) (g : List Group) : Prop where
  len : ln g ≤ ln l - i
  at0 : 0 < ln g → (ix g 0).fro = i
  none : ln g ≤ 0 → ln l ≤ i
  bd : ∀ k, 0 ≤ k → k < ln g → i ≤ (ix g k).fro ∧ (ix g k).fro < ln l ∧ (ix g k).to = gE l (ix g k).fro ∧ Ch l i (ix g k).fro
  next : ∀ k, 0 ≤ k → k + 1 < ln g → (ix g (k + 1)).fro = (ix g k).to
  last : ∀ k, 0 ≤ k → k + 1 = ln g → (ix g k).to = ln l
theorem grp_ok {l : List Sign} {i : Int} (h : i ≤ ln l) : GrpOk l i (grpL l i) := by
  by_cases hc : i < ln l
  · have hb := gE_bd hc
    have ih := grp_ok (l := l) (i := gE l i) hb.2
    rw [grp_step hc]
    have hlen : ln (Group.mk i (gE l i) :: grpL l (gE l i)) = ln (grpL l (gE l i)) + 1 := ln_cons _ _
    have e0 : ix (Group.mk i (gE l i) :: grpL l (gE l i)) 0 = Group.mk i (gE l i) := rfl
    have e1 : ∀ k, 0 ≤ k → ix (Group.mk i (gE l i) :: grpL l (gE l i)) (k + 1) = ix (grpL l (gE l i)) k := fun k hk => ix_cons_succ hk
    have i1 := ih.len
    refine ⟨by omega, fun _ => by rw [e0], fun hh => by have := ln_nonneg (grpL l (gE l i)); omega, fun k h0 hk => ?_, fun k h0 hk => ?_, fun k h0 hk => ?_⟩
    · by_cases hz : k = 0
      · subst hz; rw [e0]; exact ⟨Int.le_refl _, hc, rfl, .refl _⟩
      · have hk' := ih.bd (k - 1) (by omega) (by omega)
        have := e1 (k - 1) (by omega)
        rw [show k - 1 + 1 = k by omega] at this
        rw [this]
        exact ⟨by omega, hk'.2.1, hk'.2.2.1, .step hc hk'.2.2.2⟩
    · by_cases hz : k = 0
      · subst hz
        have := e1 0 (by omega)
        rw [this, e0]
        exact ih.at0 (by omega)
      · have hk' := ih.next (k - 1) (by omega) (by omega)
        have a := e1 (k - 1) (by omega)
        have b := e1 k (by omega)
        rw [show k - 1 + 1 = k by omega] at a hk'
        rw [a, b]
        exact hk'
    · by_cases hz : k = 0
      · subst hz
        rw [e0]
        have := ih.none (by omega)
        show gE l i = ln l
        omega
      · have hk' := ih.last (k - 1) (by omega) (by omega)
        have a := e1 (k - 1) (by omega)
        rw [show k - 1 + 1 = k by omega] at a
        rw [a]
        exact hk'
  · rw [grp_end (by omega)]
    exact ⟨by simp [ln]; omega, fun h => absurd h (by simp [ln]), fun _ => by omega, fun k h0 hk => absurd hk (by simp [ln]; omega), fun k h0 hk => absurd hk (by simp [ln]; omega), fun k h0 hk => absurd hk (by simp [ln]; omega)⟩
 termination_by (ln l - i).toNat
 decreasing_by omega
theorem groups_ok (l : List Sign) : GrpOk l 0 (groupsL l) := grp_ok (ln_nonneg l)

/-! ### A group that doesn't fit -/
theorem fA_ch {l : List Sign} {lim i rest b : Int} (hc : Ch l i b) (hb : lim < gE l b) (hr : rest ≤ i) {i0 : Int} (hr0 : rest ≤ i0 ∨ Ch l rest b) : Ch l (fA l lim i rest).1 b ∧ ((fA l lim i rest).2 ≤ i0 ∨ Ch l (fA l lim i rest).2 b) := by
  induction hc generalizing rest with
  | refl a => rw [fA_stop (.inr hb)]; exact ⟨.refl _, hr0⟩
  | @step a b ha hh ih =>
    have hg := gE_bd ha
    by_cases hl : gE l a ≤ lim
    · rw [fA_step ha hl]
      refine ih hb (by split <;> omega) ?_
      split
      · exact .inr hh
      · exact hr0
    · rw [fA_stop (.inr (by omega))]
      exact ⟨.step ha hh, hr0⟩
theorem bk_none {l : List Sign} {w h b i : Int} {page : List Staff} {pages : List Page} (h0 : 0 ≤ i) (hc : Ch l i b) (hb : b < ln l) (hw : w < ln (leadL l b) + gE l b - b) : bk l w h i page pages = none := by
  have hib := hc.le
  have hil : i < ln l := by omega
  by_cases hn : nxt l w i (decide (ln page + 1 = h)) ≤ i
  · exact bk_none0 hil hn
  · have hm := lead_mono (l := l) h0 (b - i).toNat
    rw [show i + ((b - i).toNat : Int) = b by omega] at hm
    have hlim : limP l w i < gE l b := by unfold limP; omega
    have hf := fA_ch (rest := i) hc hlim (Int.le_refl _) (i0 := i) (.inl (Int.le_refl _))
    have hch : Ch l (nxt l w i (decide (ln page + 1 = h))) b := by
      unfold nxt at hn ⊢
      split
      · rename_i hh
        rcases hf.2 with h2 | h2
        · omega
        · exact h2
      · exact hf.1
    rw [bk, dif_pos hil, dif_neg hn]
    split
    · exact bk_none (by omega) hch hb hw
    · exact bk_none (by omega) hch hb hw
 termination_by (ln l - i).toNat
 decreasing_by all_goals omega

/-! ### A book isn't too great -/
theorem bk_ok {l : List Sign} {w h i : Int} {page : List Staff} {pages g : List Page} (h0 : 0 ≤ i) (hi : i ≤ ln l) (hb : ln l ≤ 1000000) (hp : ln pages ≤ i) (hq : ln page ≤ i) (ho : okB pages) (hs : ∀ s ∈ page, ln s.Signs ≤ 10000000)
    (he : bk l w h i page pages = some g) : ln g ≤ ln l ∧ okB g := by
  by_cases hl : i < ln l
  · by_cases hn : nxt l w i (decide (ln page + 1 = h)) ≤ i
    · rw [bk_none0 hl hn] at he; cases he
    · have hx := nxt_bd (l := l) (w := w) (a := i) (last := decide (ln page + 1 = h)) h0 hi
      have hst : ∀ s ∈ page ++ [stf l i (nxt l w i (decide (ln page + 1 = h)))], ln s.Signs ≤ 10000000 := by
        intro s hm
        rcases List.mem_append.1 hm with hm | hm
        · exact hs s hm
        · rw [List.mem_singleton.1 hm]
          show ln (leadL l i ++ sub l i _) ≤ _
          have := lead_len l i
          rw [ln_append, ln_sub h0 hx.1 hx.2]
          omega
      have hlen : ln (page ++ [stf l i (nxt l w i (decide (ln page + 1 = h)))]) = ln page + 1 := ln_snoc _ _
      by_cases ht : ln page + 1 = h ∨ ln l ≤ nxt l w i (decide (ln page + 1 = h))
      · rw [bk_turn hl rfl (by omega) ht] at he
        refine bk_ok (by omega) hx.2 hb (by rw [ln_snoc]; omega) (by rw [ln_nil]; omega) (fun p hm => ?_) (fun s hm => by cases hm) he
        rcases List.mem_append.1 hm with hm | hm
        · exact ho p hm
        · rw [List.mem_singleton.1 hm]
          exact ⟨by show ln (page ++ [stf l i _]) ≤ _; omega, hst⟩
      · rw [bk_go hl rfl (by omega) ht] at he
        exact bk_ok (by omega) hx.2 hb (by omega) (by omega) ho hst he
  · rw [bk_end (by omega)] at he
    cases he
    exact ⟨by omega, ho⟩
 termination_by (ln l - i).toNat
 decreasing_by all_goals omega
theorem mk_ok (nm : List UInt8) {l : List Sign} (w h : Int) (hl : ln l ≤ 500) : ln (mkB nm l w h).2.1 ≤ 500 ∧ okB (mkB nm l w h).2.1 := by
  have hz : ln ([] : List Page) ≤ 500 ∧ okB [] := ⟨by simp [ln], fun p hp => by cases hp⟩
  unfold mkB
  split
  · exact hz
  · split
    · exact hz
    · split
      · exact hz
      · split
        · exact hz
        · rename_i g he
          have := bk_ok (Int.le_refl 0) (ln_nonneg l) (by omega) (by simp [ln]) (by simp [ln]) (fun p hp => by cases hp) (fun s hs => by cases hs) he
          exact ⟨by dsimp only; omega, this.2⟩
end Go.Proofs.YtlkfjinaiepocaaDoor
