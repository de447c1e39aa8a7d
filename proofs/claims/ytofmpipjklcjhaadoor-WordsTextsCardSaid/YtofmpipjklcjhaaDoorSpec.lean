/- WHAT THE FUNCTIONS OF THE CHAPTER 2 ON ROWS COMPUTE, in plain Lean; no program in sight. -/
import Derived.Test.YtofmpipjklcjhaaDoorNat
import Derived.Test.YtofmpipjklcjhaaDoorM6
namespace Go.Proofs.YtofmpipjklcjhaaDoor
open Go Go.E2 Go.E3

/-! ### Bytes -/
def jt (b : Int) : Int := if b < 32 ∨ 126 < b then 120 else if b = 32 then 32 else if b = 34 then 113 else if b = 59 then 99 else 112
def zg (b : Int) : Bool := decide (33 ≤ b) && decide (b ≤ 126) && !decide (b = 59) && !decide (b = 34)
def za (b : Int) : Bool := decide (32 ≤ b) && decide (b ≤ 126) && !decide (b = 34)
def zk (b : Int) : Bool := decide (b = 32)
def qi7 (b : Int) : Bool := !decide (b = 10)
def qx (s : List UInt8) : Bool := s.all fun b => za b.toNat

theorem qh0 {b : Int} : zg b = true ↔ 33 ≤ b ∧ b ≤ 126 ∧ b ≠ 59 ∧ b ≠ 34 := by simp [zg, and_assoc]
theorem qza {b : Int} : zg b = false ↔ (b < 33 ∨ 126 < b ∨ b = 59 ∨ b = 34) := by
  rw [← Bool.not_eq_true, qh0]; omega
theorem qnx {b : Int} : za b = true ↔ 32 ≤ b ∧ b ≤ 126 ∧ b ≠ 34 := by simp [za, and_assoc]
theorem qny {b : Int} : za b = false ↔ (b < 32 ∨ 126 < b ∨ b = 34) := by
  rw [← Bool.not_eq_true, qnx]; omega
theorem qya {b : Int} : zk b = true ↔ b = 32 := by simp [zk]
theorem qyb {b : Int} : zk b = false ↔ b ≠ 32 := by simp [zk]
theorem q2g {b : Int} : qi7 b = true ↔ b ≠ 10 := by simp [qi7]
theorem qs1 {b : Int} : qi7 b = false ↔ b = 10 := by simp [qi7]

theorem qov {b : Int} : jt b = 120 ↔ b < 32 ∨ 126 < b := by unfold jt; split <;> (try split) <;> (try split) <;> (try split) <;> omega
theorem qt9 {b : Int} : jt b = 113 ↔ b = 34 := by unfold jt; split <;> (try split) <;> (try split) <;> (try split) <;> omega
theorem qt8 {b : Int} : jt b = 112 ↔ zg b = true := by rw [qh0]; unfold jt; split <;> (try split) <;> (try split) <;> (try split) <;> omega

theorem qet {s : List UInt8} : qx s = true ↔ ∀ i, 0 ≤ i → i < ln s → za (bx s i) = true := by
  simp only [qx, List.all_eq_true]
  constructor
  · intro h i h0 h1
    exact h _ (qcc h0 h1)
  · intro h b hb
    obtain ⟨i, h0, h1, rfl⟩ := qqd hb
    exact h i h0 h1
theorem qjb {s : List UInt8} {i : Int} (h0 : 0 ≤ i) (h1 : i < ln s) (h : za (bx s i) = false) : qx s = false := by
  rw [← Bool.not_eq_true, qet]
  intro hq
  rw [hq i h0 h1] at h
  cases h

/-! ### A quoted word -/
def qyk (l : List UInt8) (i : Int) : Prop := ln l ≤ i ∨ bx l i = 32 ∨ bx l i = 59
instance (l : List UInt8) (i : Int) : Decidable (qyk l i) := by unfold qyk; infer_instance
/-- Where a quoted word that begins at a place ends, behind its second quote; -1 if there is none. -/
def kz (l : List UInt8) (a : Int) : Int :=
  if (0 < a ∧ bx l (a - 1) ≠ 32) ∨ ln l ≤ qu za l (a + 1) ∨ bx l (qu za l (a + 1)) ≠ 34 ∨ ¬ qyk l (qu za l (a + 1) + 1) then -1 else qu za l (a + 1) + 1

theorem qzf {l : List UInt8} {a : Int} (h0 : 0 ≤ a) (h1 : a < ln l) : kz l a = -1 ∨ (a + 2 ≤ kz l a ∧ kz l a ≤ ln l) := by
  unfold kz
  split
  · exact .inl rfl
  · have := qbd (p := za) (s := l) (i := a + 1)
    right; omega

/-! ### The words of a line -/
/-- The words from a place on, and where something is wrong; -1 if nothing is. -/
def zw (l : List UInt8) (from_ : Int) (i : Int) : List Word × Int :=
  if ln l ≤ qu zk l i ∨ bx l (qu zk l i) = 59 then ([], -1)
  else if bx l (qu zk l i) = 34 then
    (if h : qu zk l i < kz l (qu zk l i) ∧ kz l (qu zk l i) ≤ ln l then
      (if (zw l from_ (kz l (qu zk l i))).2 < 0 then (⟨from_ + qu zk l i, sub l (qu zk l i + 1) (kz l (qu zk l i) - 1), true⟩ :: (zw l from_ (kz l (qu zk l i))).1, -1)
        else ([], (zw l from_ (kz l (qu zk l i))).2)) else ([], qu zk l i))
  else if zg (bx l (qu zk l i)) = true then
    (if h : qu zk l i < qu zg l (qu zk l i) ∧ qu zg l (qu zk l i) ≤ ln l then
      (if (zw l from_ (qu zg l (qu zk l i))).2 < 0 then (⟨from_ + qu zk l i, sub l (qu zk l i) (qu zg l (qu zk l i)), false⟩ :: (zw l from_ (qu zg l (qu zk l i))).1, -1)
        else ([], (zw l from_ (qu zg l (qu zk l i))).2)) else ([], qu zk l i))
  else ([], qu zk l i)
 termination_by (ln l - i).toNat
 decreasing_by all_goals (have := qbd (p := zk) (s := l) (i := i); omega)

theorem q1g {l : List UInt8} {f x : Int} (h0 : 0 ≤ x) (h1 : x < ln l) (h : bx l x = 32) : zw l f x = zw l f (x + 1) := by
  rw [zw, qkv h0 h1 (qya.2 h)]
  exact (zw.eq_1 l f (x + 1)).symm
theorem qdx {l : List UInt8} {x : Int} (h : ln l ≤ x ∨ bx l x ≠ 32) : qu zk l x = x :=
  qqu (h.imp id fun h => qyb.2 h)
theorem q7d {l : List UInt8} {f x : Int} (h : ln l ≤ x ∨ bx l x = 59) : zw l f x = ([], -1) := by
  rw [zw, qdx (by omega), if_pos h]
theorem q7c {l : List UInt8} {f x : Int} (h1 : x < ln l) (h2 : bx l x ≠ 59) (h : (bx l x = 34 ∧ kz l x < 0) ∨ (bx l x ≠ 34 ∧ bx l x ≠ 32 ∧ zg (bx l x) = false)) (h0 : 0 ≤ x) : zw l f x = ([], x) := by
  rw [zw, qdx (by omega), if_neg (by omega)]
  rcases h with ⟨h3, h4⟩ | ⟨h3, h4, h5⟩
  · rw [if_pos h3, dif_neg (by omega)]
  · rw [if_neg h3, if_neg (by rw [h5]; exact Bool.false_ne_true)]
theorem q1i {l : List UInt8} {f x e : Int} (h0 : 0 ≤ x) (h1 : x < ln l) (h : bx l x = 34) (he : kz l x = e) (h3 : 0 ≤ e) :
    zw l f x = if (zw l f e).2 < 0 then (⟨f + x, sub l (x + 1) (e - 1), true⟩ :: (zw l f e).1, -1) else ([], (zw l f e).2) := by
  have hb := qzf h0 h1
  rw [zw, qdx (by omega), if_neg (by omega), if_pos h, he, dif_pos (by omega)]
theorem q1h {l : List UInt8} {f x e : Int} (h0 : 0 ≤ x) (h1 : x < ln l) (h : zg (bx l x) = true) (he : qu zg l x = e) :
    zw l f x = if (zw l f e).2 < 0 then (⟨f + x, sub l x e, false⟩ :: (zw l f e).1, -1) else ([], (zw l f e).2) := by
  have hp := qh0.1 h
  have h2 := qkv h0 h1 h
  have h3 := qbd (p := zg) (s := l) (i := x + 1)
  have h4 := qew (p := zg) (s := l) (i := x) (by omega)
  rw [zw, qdx (by omega), if_neg (by omega), if_neg (by omega), if_pos h, he, dif_pos (by omega)]

/-! ### The rows of a text -/
def qal : List (List UInt8) → Int → List Row × Int × Int
  | [], _ => ([], 0, 0)
  | l :: ls, at_ =>
    if 1000 < ln l then ([], 4, at_)
    else if 0 ≤ (zw l at_ 0).2 then ([], 3, at_ + (zw l at_ 0).2)
    else if (qal ls (at_ + ln l + 1)).2.1 = 0 then (if (zw l at_ 0).1 = [] then (qal ls (at_ + ln l + 1)).1 else ⟨at_, (zw l at_ 0).1⟩ :: (qal ls (at_ + ln l + 1)).1, 0, 0)
    else ([], (qal ls (at_ + ln l + 1)).2)
def qqs (text : List UInt8) : List Row × Int × Int := if 20000 < ln text then ([], 4, 20000) else qal (zh 10 text) 0

/-! ### Rows that are alike -/
def ji (off : Bool) (x y : Word) : Bool := decide (x.Text = y.Text) && (x.Quoted == y.Quoted) && (!off || decide (x.At = y.At))
def jx {α : Type} (p : α → α → Bool) : List α → List α → Bool
  | [], [] => true
  | a :: as, b :: bs => p a b && jx p as bs
  | _, _ => false
def qa7 (off : Bool) (x y : Row) : Bool := decide (ln x.Words = ln y.Words) && (!off || decide (x.At = y.At)) && jx (ji off) x.Words y.Words
def j9 (a b : List Row) (off : Bool) : Bool := jx (qa7 off) a b

/-! ### The text of rows -/
def zd (s : List UInt8) : Bool := (s.all fun b => zg b.toNat) && decide (s ≠ [])
def qdq (w : Word) : List UInt8 := if w.Quoted then (([34] : List UInt8) ++ w.Text) ++ ([34] : List UInt8) else w.Text
def okW (w : Word) : Bool := if w.Quoted then qx w.Text else zd w.Text
def qq8 (ws : List Word) : List UInt8 := ws.flatMap fun w => 32 :: qdq w
def qdh : List Word → List UInt8
  | [] => []
  | w :: ws => qdq w ++ qq8 ws
def qd8 (out : List UInt8) : List Row → List UInt8 × Int
  | [] => (out, 0)
  | r :: rs => if r.Words = [] then ([], 3) else if r.Words.all okW = false then ([], 3) else if 1000 < ln (qdh r.Words) then ([], 4)
    else if 20000 < ln ((out ++ qdh r.Words) ++ ([10] : List UInt8)) then ([], 4) else qd8 ((out ++ qdh r.Words) ++ ([10] : List UInt8)) rs
def qf (rows : List Row) : List UInt8 × Int := qd8 [] rows
def q4d (w : Word) : Prop := ln w.Text ≤ 100000
def qez (rows : List Row) : Prop := ln rows ≤ 1000000 ∧ ∀ r ∈ rows, ln r.Words ≤ 1000 ∧ ∀ w ∈ r.Words, q4d w

theorem qqi {s : List UInt8} : zd s = true ↔ (∀ i, 0 ≤ i → i < ln s → zg (bx s i) = true) ∧ s ≠ [] := by
  simp only [zd, Bool.and_eq_true, List.all_eq_true, decide_eq_true_eq]
  refine and_congr_left fun _ => ?_
  constructor
  · intro h i h0 h1
    exact h _ (qcc h0 h1)
  · intro h b hb
    obtain ⟨i, h0, h1, rfl⟩ := qqd hb
    exact h i h0 h1
theorem qqj {s : List UInt8} {i : Int} (h0 : 0 ≤ i) (h1 : i < ln s) (h : zg (bx s i) = false) : zd s = false := by
  rw [← Bool.not_eq_true, qqi]
  intro hq
  rw [hq.1 i h0 h1] at h
  cases h

theorem qqa {ws : List Word} {w : Word} (h : ws ≠ []) : qdh (ws ++ [w]) = qdh ws ++ 32 :: qdq w := by
  cases ws with
  | nil => exact absurd rfl h
  | cons a l => simp [qdh, qq8, List.append_assoc]
theorem qxz {w : Word} (h : q4d w) : ln (qdq w) ≤ 100002 := by
  unfold q4d at h
  unfold qdq
  split
  · rw [k8, k8]
    have : ln ([34] : List UInt8) = 1 := rfl
    omega
  · omega
theorem qxu : ∀ {ws : List Word}, (∀ w ∈ ws, q4d w) → ln (qq8 ws) ≤ 100003 * ln ws
  | [], _ => by decide
  | w :: ws, h => by
    have h1 := qxz (h w List.mem_cons_self)
    have h2 := qxu (ws := ws) fun x hx => h x (List.mem_cons_of_mem _ hx)
    have h3 : qq8 (w :: ws) = (32 :: qdq w) ++ qq8 ws := rfl
    rw [h3, k8, qan, qan]
    omega
theorem q4w {ws : List Word} (h : ∀ w ∈ ws, q4d w) : ln (qdh ws) ≤ 100003 * ln ws := by
  cases ws with
  | nil => decide
  | cons w ws =>
    have h1 := qxz (h w List.mem_cons_self)
    have h2 := qxu (ws := ws) fun x hx => h x (List.mem_cons_of_mem _ hx)
    simp only [qdh]
    rw [k8, qan]
    omega

/-! ### Rows made of numbers -/
/-- What an argument of numbers is. -/
def q81 (l : List Int) : Prop := ln l ≤ 9223372036854775807 ∧ ∀ n ∈ l, I64 n
def qfh (a b : Int) : Int := if b < 1 then 0 else if Int.tmod a b < 0 then Int.tmod a b + b else Int.tmod a b
def z8 : List (List UInt8) := [([97] : List UInt8), ([98, 52] : List UInt8), ([115, 45, 50, 42] : List UInt8), ([40, 79, 41, 124] : List UInt8), ([51, 47, 50] : List UInt8), ([35] : List UInt8), ([126] : List UInt8), ([67, 97, 110, 116, 117, 115] : List UInt8), ([120, 59] : List UInt8), ([97, 32, 98] : List UInt8), ([] : List UInt8), ([92] : List UInt8), ([125] : List UInt8)]
def txt (n : Int) : List UInt8 := ix z8 (qfh n (ln z8))
def qgy (n : Int) : Word := ⟨0, txt n, decide (txt n = []) || decide (txt n = [97, 32, 98]) || decide (txt n = [120, 59]) || decide (qfh (Int.tdiv n 16) 4 = 0)⟩
def qko (out : List Row) (ws : List Word) : List Int → List Row
  | [] => if ws = [] then out else out ++ [⟨0, ws⟩]
  | n :: ns => if 12 ≤ ln out then (if ws = [] then out else out ++ [⟨0, ws⟩])
    else if ln (ws ++ [qgy n]) = 8 ∨ qfh (Int.tdiv n 64) 3 = 0 then qko (out ++ [⟨0, ws ++ [qgy n]⟩]) [] ns else qko out (ws ++ [qgy n]) ns
def q0m (ns : List Int) : List Row := qko [] [] ns

end Go.Proofs.YtofmpipjklcjhaaDoor
