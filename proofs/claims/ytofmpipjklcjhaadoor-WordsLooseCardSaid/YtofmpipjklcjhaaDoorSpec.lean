/- WHAT THE FUNCTIONS OF THE CHAPTER 2 ON ROWS COMPUTE, in plain Lean; no program in sight. -/
import Derived.Test.YtofmpipjklcjhaaDoorNat
import Derived.Test.YtofmpipjklcjhaaDoorM6
namespace Go.Proofs.YtofmpipjklcjhaaDoor
open Go Go.E2 Go.E3

/-! ### Bytes -/
def classI (b : Int) : Int := if b < 32 ∨ 126 < b then 120 else if b = 32 then 32 else if b = 34 then 113 else if b = 59 then 99 else 112
def plainI (b : Int) : Bool := decide (33 ≤ b) && decide (b ≤ 126) && !decide (b = 59) && !decide (b = 34)
def insideI (b : Int) : Bool := decide (32 ≤ b) && decide (b ≤ 126) && !decide (b = 34)
def blankI (b : Int) : Bool := decide (b = 32)
def quotedB (s : List UInt8) : Bool := s.all fun b => insideI b.toNat

theorem plainI_iff {b : Int} : plainI b = true ↔ 33 ≤ b ∧ b ≤ 126 ∧ b ≠ 59 ∧ b ≠ 34 := by simp [plainI, and_assoc]
theorem plainI_not {b : Int} : plainI b = false ↔ (b < 33 ∨ 126 < b ∨ b = 59 ∨ b = 34) := by
  rw [← Bool.not_eq_true, plainI_iff]; omega
theorem insideI_iff {b : Int} : insideI b = true ↔ 32 ≤ b ∧ b ≤ 126 ∧ b ≠ 34 := by simp [insideI, and_assoc]
theorem insideI_not {b : Int} : insideI b = false ↔ (b < 32 ∨ 126 < b ∨ b = 34) := by
  rw [← Bool.not_eq_true, insideI_iff]; omega
theorem blankI_iff {b : Int} : blankI b = true ↔ b = 32 := by simp [blankI]
theorem blankI_not {b : Int} : blankI b = false ↔ b ≠ 32 := by simp [blankI]
theorem class_x {b : Int} : classI b = 120 ↔ b < 32 ∨ 126 < b := by unfold classI; split <;> (try split) <;> (try split) <;> (try split) <;> omega
theorem class_q {b : Int} : classI b = 113 ↔ b = 34 := by unfold classI; split <;> (try split) <;> (try split) <;> (try split) <;> omega
theorem class_p {b : Int} : classI b = 112 ↔ plainI b = true := by rw [plainI_iff]; unfold classI; split <;> (try split) <;> (try split) <;> (try split) <;> omega

theorem quotedB_iff {s : List UInt8} : quotedB s = true ↔ ∀ i, 0 ≤ i → i < ln s → insideI (bx s i) = true := by
  simp only [quotedB, List.all_eq_true]
  constructor
  · intro h i h0 h1
    exact h _ (ix_mem h0 h1)
  · intro h b hb
    obtain ⟨i, h0, h1, rfl⟩ := mem_ix hb
    exact h i h0 h1
theorem quotedB_not {s : List UInt8} {i : Int} (h0 : 0 ≤ i) (h1 : i < ln s) (h : insideI (bx s i) = false) : quotedB s = false := by
  rw [← Bool.not_eq_true, quotedB_iff]
  intro hq
  rw [hq i h0 h1] at h
  cases h

/-! ### A quoted word -/
def endsAt (l : List UInt8) (i : Int) : Prop := ln l ≤ i ∨ bx l i = 32 ∨ bx l i = 59
instance (l : List UInt8) (i : Int) : Decidable (endsAt l i) := by unfold endsAt; infer_instance
/-- Where a quoted word that begins at a place ends, behind its second quote; -1 if there is none. -/
def quotedI (l : List UInt8) (a : Int) : Int :=
  if (0 < a ∧ bx l (a - 1) ≠ 32) ∨ ln l ≤ runTo insideI l (a + 1) ∨ bx l (runTo insideI l (a + 1)) ≠ 34 ∨ ¬ endsAt l (runTo insideI l (a + 1) + 1) then -1 else runTo insideI l (a + 1) + 1

theorem quotedI_bd {l : List UInt8} {a : Int} (h0 : 0 ≤ a) (h1 : a < ln l) : quotedI l a = -1 ∨ (a + 2 ≤ quotedI l a ∧ quotedI l a ≤ ln l) := by
  unfold quotedI
  split
  · exact .inl rfl
  · have := runTo_ge (p := insideI) (s := l) (i := a + 1)
    right; omega

/-! ### The words of a line -/
/-- The words from a place on, and where something is wrong; -1 if nothing is. -/
def cutS (l : List UInt8) (from_ : Int) (i : Int) : List Word × Int :=
  if ln l ≤ runTo blankI l i ∨ bx l (runTo blankI l i) = 59 then ([], -1)
  else if bx l (runTo blankI l i) = 34 then
    (if h : runTo blankI l i < quotedI l (runTo blankI l i) ∧ quotedI l (runTo blankI l i) ≤ ln l then
      (if (cutS l from_ (quotedI l (runTo blankI l i))).2 < 0 then (⟨from_ + runTo blankI l i, sub l (runTo blankI l i + 1) (quotedI l (runTo blankI l i) - 1), true⟩ :: (cutS l from_ (quotedI l (runTo blankI l i))).1, -1)
        else ([], (cutS l from_ (quotedI l (runTo blankI l i))).2)) else ([], runTo blankI l i))
  else if plainI (bx l (runTo blankI l i)) = true then
    (if h : runTo blankI l i < runTo plainI l (runTo blankI l i) ∧ runTo plainI l (runTo blankI l i) ≤ ln l then
      (if (cutS l from_ (runTo plainI l (runTo blankI l i))).2 < 0 then (⟨from_ + runTo blankI l i, sub l (runTo blankI l i) (runTo plainI l (runTo blankI l i)), false⟩ :: (cutS l from_ (runTo plainI l (runTo blankI l i))).1, -1)
        else ([], (cutS l from_ (runTo plainI l (runTo blankI l i))).2)) else ([], runTo blankI l i))
  else ([], runTo blankI l i)
 termination_by (ln l - i).toNat
 decreasing_by all_goals (have := runTo_ge (p := blankI) (s := l) (i := i); omega)

theorem cut_blank {l : List UInt8} {f x : Int} (h0 : 0 ≤ x) (h1 : x < ln l) (h : bx l x = 32) : cutS l f x = cutS l f (x + 1) := by
  rw [cutS, runTo_step h0 h1 (blankI_iff.2 h)]
  exact (cutS.eq_1 l f (x + 1)).symm
theorem blank_stop {l : List UInt8} {x : Int} (h : ln l ≤ x ∨ bx l x ≠ 32) : runTo blankI l x = x :=
  runTo_stop (h.imp id fun h => blankI_not.2 h)
theorem cut_end {l : List UInt8} {f x : Int} (h : ln l ≤ x ∨ bx l x = 59) : cutS l f x = ([], -1) := by
  rw [cutS, blank_stop (by omega), if_pos h]
theorem cut_bad {l : List UInt8} {f x : Int} (h1 : x < ln l) (h2 : bx l x ≠ 59) (h : (bx l x = 34 ∧ quotedI l x < 0) ∨ (bx l x ≠ 34 ∧ bx l x ≠ 32 ∧ plainI (bx l x) = false)) (h0 : 0 ≤ x) : cutS l f x = ([], x) := by
  rw [cutS, blank_stop (by omega), if_neg (by omega)]
  rcases h with ⟨h3, h4⟩ | ⟨h3, h4, h5⟩
  · rw [if_pos h3, dif_neg (by omega)]
  · rw [if_neg h3, if_neg (by rw [h5]; exact Bool.false_ne_true)]
theorem cut_quote {l : List UInt8} {f x e : Int} (h0 : 0 ≤ x) (h1 : x < ln l) (h : bx l x = 34) (he : quotedI l x = e) (h3 : 0 ≤ e) :
    cutS l f x = if (cutS l f e).2 < 0 then (⟨f + x, sub l (x + 1) (e - 1), true⟩ :: (cutS l f e).1, -1) else ([], (cutS l f e).2) := by
  have hb := quotedI_bd h0 h1
  rw [cutS, blank_stop (by omega), if_neg (by omega), if_pos h, he, dif_pos (by omega)]
theorem cut_plain {l : List UInt8} {f x e : Int} (h0 : 0 ≤ x) (h1 : x < ln l) (h : plainI (bx l x) = true) (he : runTo plainI l x = e) :
    cutS l f x = if (cutS l f e).2 < 0 then (⟨f + x, sub l x e, false⟩ :: (cutS l f e).1, -1) else ([], (cutS l f e).2) := by
  have hp := plainI_iff.1 h
  have h2 := runTo_step h0 h1 h
  have h3 := runTo_ge (p := plainI) (s := l) (i := x + 1)
  have h4 := runTo_le (p := plainI) (s := l) (i := x) (by omega)
  rw [cutS, blank_stop (by omega), if_neg (by omega), if_neg (by omega), if_pos h, he, dif_pos (by omega)]

/-! ### The rows of a text -/
def rowsS : List (List UInt8) → Int → List Row × Int × Int
  | [], _ => ([], 0, 0)
  | l :: ls, at_ =>
    if 1000 < ln l then ([], 4, at_)
    else if 0 ≤ (cutS l at_ 0).2 then ([], 3, at_ + (cutS l at_ 0).2)
    else if (rowsS ls (at_ + ln l + 1)).2.1 = 0 then (if (cutS l at_ 0).1 = [] then (rowsS ls (at_ + ln l + 1)).1 else ⟨at_, (cutS l at_ 0).1⟩ :: (rowsS ls (at_ + ln l + 1)).1, 0, 0)
    else ([], (rowsS ls (at_ + ln l + 1)).2)
def rowsR (text : List UInt8) : List Row × Int × Int := if 20000 < ln text then ([], 4, 20000) else rowsS (splitI 10 text) 0

/-! ### Rows that are alike -/
def sameWord (off : Bool) (x y : Word) : Bool := decide (x.Text = y.Text) && (x.Quoted == y.Quoted) && (!off || decide (x.At = y.At))
def sameAll {α : Type} (p : α → α → Bool) : List α → List α → Bool
  | [], [] => true
  | a :: as, b :: bs => p a b && sameAll p as bs
  | _, _ => false
def sameRow (off : Bool) (x y : Row) : Bool := decide (ln x.Words = ln y.Words) && (!off || decide (x.At = y.At)) && sameAll (sameWord off) x.Words y.Words
def sameR (a b : List Row) (off : Bool) : Bool := sameAll (sameRow off) a b

/-! ### The text of rows -/
def plainB (s : List UInt8) : Bool := (s.all fun b => plainI b.toNat) && decide (s ≠ [])
def wordT (w : Word) : List UInt8 := if w.Quoted then (([34] : List UInt8) ++ w.Text) ++ ([34] : List UInt8) else w.Text
def okW (w : Word) : Bool := if w.Quoted then quotedB w.Text else plainB w.Text
def tailT (ws : List Word) : List UInt8 := ws.flatMap fun w => 32 :: wordT w
def joinT : List Word → List UInt8
  | [] => []
  | w :: ws => wordT w ++ tailT ws
def textGo (out : List UInt8) : List Row → List UInt8 × Int
  | [] => (out, 0)
  | r :: rs => if r.Words = [] then ([], 3) else if r.Words.all okW = false then ([], 3) else if 1000 < ln (joinT r.Words) then ([], 4)
    else if 20000 < ln ((out ++ joinT r.Words) ++ ([10] : List UInt8)) then ([], 4) else textGo ((out ++ joinT r.Words) ++ ([10] : List UInt8)) rs
def textW (rows : List Row) : List UInt8 × Int := textGo [] rows
def fitW (w : Word) : Prop := ln w.Text ≤ 100000
def fitR (rows : List Row) : Prop := ln rows ≤ 1000000 ∧ ∀ r ∈ rows, ln r.Words ≤ 1000 ∧ ∀ w ∈ r.Words, fitW w

theorem plainB_iff {s : List UInt8} : plainB s = true ↔ (∀ i, 0 ≤ i → i < ln s → plainI (bx s i) = true) ∧ s ≠ [] := by
  simp only [plainB, Bool.and_eq_true, List.all_eq_true, decide_eq_true_eq]
  refine and_congr_left fun _ => ?_
  constructor
  · intro h i h0 h1
    exact h _ (ix_mem h0 h1)
  · intro h b hb
    obtain ⟨i, h0, h1, rfl⟩ := mem_ix hb
    exact h i h0 h1
theorem plainB_not {s : List UInt8} {i : Int} (h0 : 0 ≤ i) (h1 : i < ln s) (h : plainI (bx s i) = false) : plainB s = false := by
  rw [← Bool.not_eq_true, plainB_iff]
  intro hq
  rw [hq.1 i h0 h1] at h
  cases h

theorem joinT_snoc {ws : List Word} {w : Word} (h : ws ≠ []) : joinT (ws ++ [w]) = joinT ws ++ 32 :: wordT w := by
  cases ws with
  | nil => exact absurd rfl h
  | cons a l => simp [joinT, tailT, List.append_assoc]
theorem wordT_bd {w : Word} (h : fitW w) : ln (wordT w) ≤ 100002 := by
  unfold fitW at h
  unfold wordT
  split
  · rw [ln_append, ln_append]
    have : ln ([34] : List UInt8) = 1 := rfl
    omega
  · omega
theorem tailT_bd : ∀ {ws : List Word}, (∀ w ∈ ws, fitW w) → ln (tailT ws) ≤ 100003 * ln ws
  | [], _ => by decide
  | w :: ws, h => by
    have h1 := wordT_bd (h w List.mem_cons_self)
    have h2 := tailT_bd (ws := ws) fun x hx => h x (List.mem_cons_of_mem _ hx)
    have h3 : tailT (w :: ws) = (32 :: wordT w) ++ tailT ws := rfl
    rw [h3, ln_append, ln_cons, ln_cons]
    omega
theorem joinT_bd {ws : List Word} (h : ∀ w ∈ ws, fitW w) : ln (joinT ws) ≤ 100003 * ln ws := by
  cases ws with
  | nil => decide
  | cons w ws =>
    have h1 := wordT_bd (h w List.mem_cons_self)
    have h2 := tailT_bd (ws := ws) fun x hx => h x (List.mem_cons_of_mem _ hx)
    simp only [joinT]
    rw [ln_append, ln_cons]
    omega

/-! ### Rows made of numbers -/
/-- What an argument of numbers is. -/
def goodL (l : List Int) : Prop := ln l ≤ 9223372036854775807 ∧ ∀ n ∈ l, I64 n
def modI (a b : Int) : Int := if b < 1 then 0 else if Int.tmod a b < 0 then Int.tmod a b + b else Int.tmod a b
def texts13 : List (List UInt8) := [([97] : List UInt8), ([98, 52] : List UInt8), ([115, 45, 50, 42] : List UInt8), ([40, 79, 41, 124] : List UInt8), ([51, 47, 50] : List UInt8), ([35] : List UInt8), ([126] : List UInt8), ([67, 97, 110, 116, 117, 115] : List UInt8), ([120, 59] : List UInt8), ([97, 32, 98] : List UInt8), ([] : List UInt8), ([92] : List UInt8), ([125] : List UInt8)]
def txt (n : Int) : List UInt8 := ix texts13 (modI n (ln texts13))
def madeW (n : Int) : Word := ⟨0, txt n, decide (txt n = []) || decide (txt n = [97, 32, 98]) || decide (txt n = [120, 59]) || decide (modI (Int.tdiv n 16) 4 = 0)⟩
def madeGo (out : List Row) (ws : List Word) : List Int → List Row
  | [] => if ws = [] then out else out ++ [⟨0, ws⟩]
  | n :: ns => if 12 ≤ ln out then (if ws = [] then out else out ++ [⟨0, ws⟩])
    else if ln (ws ++ [madeW n]) = 8 ∨ modI (Int.tdiv n 64) 3 = 0 then madeGo (out ++ [⟨0, ws ++ [madeW n]⟩]) [] ns else madeGo out (ws ++ [madeW n]) ns
def madeR (ns : List Int) : List Row := madeGo [] [] ns

end Go.Proofs.YtofmpipjklcjhaaDoor
