/- THE GENERATOR OF PARTS, in plain Lean; no program in sight. -/
import Derived.Test.YtlkfjinaiepocaaDoorBookSpec
namespace Go.Proofs.YtlkfjinaiepocaaDoor
open Go Go.E2 Go.E3

def zbk (l : List Int) : Prop := ln l ≤ 9223372036854775807 ∧ ∀ n ∈ l, I64 n
def qa (a b : Int) : Int := if b < 1 then 0 else if Int.tmod a b < 0 then Int.tmod a b + b else Int.tmod a b
def atI (l : List Int) (i : Int) : Int := if i < 0 ∨ ln l ≤ i then 0 else ix l i
theorem qzb {a b : Int} (hb : 0 < b) : -b < Int.tmod a b ∧ Int.tmod a b < b := by
  by_cases h : 0 ≤ a
  · exact ⟨by have := Int.tmod_nonneg b h; omega, Int.tmod_lt_of_pos a hb⟩
  · have h1 : Int.tmod a b = -Int.tmod (-a) b := by rw [Int.neg_tmod, Int.neg_neg]
    have h2 := Int.tmod_nonneg b (show 0 ≤ -a by omega)
    have h3 := Int.tmod_lt_of_pos (-a) hb
    omega
theorem qen {a b : Int} (hb : 0 < b) : 0 ≤ qa a b ∧ qa a b < b := by
  have := qzb (a := a) hb
  unfold qa
  split
  · omega
  · split <;> omega
/-- Is a perfect value greater than v? -/
def qco (a b c d v : Int) : Bool := (decide (a = 3) && decide (1 < v)) || (decide (b = 3) && decide (2 < v)) || (decide (c = 3) && decide (3 < v)) || (decide (d = 3) && decide (4 < v))

structure Mk where
  nm : List UInt8
  S : List Sign
  m0 : Int
  m1 : Int
  m2 : Int
  m3 : Int
  place : Int
  opn : Bool
  dots : Bool

def qtn (x : Mk) (s : Sign) (d : Bool) : Mk := { x with S := x.S ++ [s], dots := d }
def qr6 (n : Int) : Int := 2 + Int.tdiv (qa n 16) 8
def qr7 (n : Int) : Int := 2 + Int.tmod (Int.tdiv (qa n 16) 4) 2
def ql6 (n : Int) : Int := 2 + Int.tmod (Int.tdiv (qa n 16) 2) 2
def qr8 (n : Int) : Int := 2 + Int.tmod (qa n 16) 2
def qne (n : Int) (st : Bool) : Sign := Sign.mk 5 0 0 0 false 0 false false (qr6 n) (qr7 n) (ql6 n) (qr8 n) st 0 0 0 0

def qdw (x : Mk) (n : Int) : Mk :=
  if Int.tmod n 6 = 0 then (if x.opn = false then { x with S := x.S ++ [qne (Int.tdiv n 6) (decide (Int.tmod (Int.tdiv n 96) 2 = 0))], m0 := qr6 (Int.tdiv n 6), m1 := qr7 (Int.tdiv n 6), m2 := ql6 (Int.tdiv n 6), m3 := qr8 (Int.tdiv n 6), dots := false } else x)
  else if Int.tmod n 6 = 1 then (if x.opn = false then qtn x (Sign.mk 6 0 0 0 false 0 false false 0 0 0 0 false (1 + Int.tmod (Int.tdiv n 6) 4) (1 + Int.tmod (Int.tdiv n 24) 4) 0 0) false else x)
  else if Int.tmod n 6 = 2 then qtn x (Sign.mk 7 0 0 0 false 0 false false 0 0 0 0 false 0 0 (ix [0, 3, 4] (Int.tmod (Int.tdiv n 6) 3)) (1 + Int.tmod (Int.tdiv n 18) 5)) x.dots
  else if Int.tmod n 6 = 3 then qtn x (Sign.mk 8 0 0 0 false 0 false false 0 0 0 0 false (Int.tmod (Int.tdiv n 6) 3) 0 0 0) x.dots
  else if Int.tmod n 6 = 4 then qtn x (Sign.mk (ix [11, 12] (Int.tmod (Int.tdiv n 6) 2)) 0 0 0 false 0 false false 0 0 0 0 false 0 0 0 0) x.dots
  else if x.opn = true then { x with S := x.S ++ [Sign.mk 10 0 0 0 false 0 false false 0 0 0 0 false (2 + Int.tmod (Int.tdiv n 6) 3) 0 0 0], opn := !x.opn, dots := false }
  else { x with S := x.S ++ [Sign.mk 9 0 0 0 false 0 false false 0 0 0 0 false 0 0 0 0], opn := !x.opn, dots := false }

def qij (n p : Int) : Int := if ((p + 1) + Int.tmod (Int.tdiv n 32) 3) - 4 * Int.tmod (Int.tdiv n 128) 2 < -4 then 7 else if 12 < ((p + 1) + Int.tmod (Int.tdiv n 32) 3) - 4 * Int.tmod (Int.tdiv n 128) 2 then 7 else ((p + 1) + Int.tmod (Int.tdiv n 32) 3) - 4 * Int.tmod (Int.tdiv n 128) 2
def qv3 (n many j p : Int) : Sign := Sign.mk 4 0 p 0 (decide (Int.tmod (Int.tdiv n 16) 5 = 0)) 0 false (decide (j + 1 = many)) 0 0 0 0 false 0 0 0 0
def qht (n many j : Int) (x : Mk) : Mk :=
  if h : j < many then qht n many (j + 1) { x with S := x.S ++ [qv3 n many j x.place], place := qij n x.place, dots := decide (j + 1 = many) } else x
 termination_by (many - j).toNat
 decreasing_by omega
theorem qfq {n many j : Int} {x : Mk} (h : j < many) : qht n many j x = qht n many (j + 1) { x with S := x.S ++ [qv3 n many j x.place], place := qij n x.place, dots := decide (j + 1 = many) } := by rw [qht, dif_pos h]
theorem qkx {n many j : Int} {x : Mk} (h : many ≤ j) : qht n many j x = x := by rw [qht, dif_neg (by omega)]
def q95 (x : Mk) (n : Int) : Mk := qht n (2 + Int.tmod n 2) 0 { x with place := 2 + Int.tmod (Int.tdiv n 2) 5 }

def qf3 (n p : Int) : Int := if (p + qa n 5) - 2 < -4 then 4 else if 12 < (p + qa n 5) - 2 then 4 else (p + qa n 5) - 2
def qsc (v n p : Int) : Sign := Sign.mk 1 v p (ix [0, 0, 0, 0, (-1), 1, 2] (Int.tmod (Int.tdiv n 5) 7)) (decide (Int.tmod (Int.tdiv n 35) 6 = 0)) 0 false false 0 0 0 0 false 0 0 0 0
def zbo (x : Mk) (v n : Int) : Mk := { x with S := x.S ++ [qsc v n (qf3 n x.place)], place := qf3 n x.place, dots := true }
def ql9 (v : Int) : Sign := Sign.mk 2 v 0 0 false 0 false false 0 0 0 0 false 0 0 0 0

def jw (x : Mk) (n : Int) : Mk :=
  if Int.tmod n 16 = 0 ∨ Int.tmod n 16 = 1 then qdw x (Int.tdiv n 16)
  else if Int.tmod n 16 = 2 then q95 x (Int.tdiv n 16)
  else if Int.tmod n 16 = 3 ∨ Int.tmod n 16 = 4 then qtn x (ql9 (2 + Int.tmod (Int.tdiv n 16) 6)) (qco x.m0 x.m1 x.m2 x.m3 (2 + Int.tmod (Int.tdiv n 16) 6))
  else if Int.tmod n 16 = 5 ∨ Int.tmod n 16 = 6 ∨ Int.tmod n 16 = 7 then (if x.dots = true then qtn x (Sign.mk 3 0 0 0 false 0 false false 0 0 0 0 false 0 0 0 0) false else x)
  else zbo x (2 + Int.tmod (Int.tdiv n 16) 6) (Int.tdiv n 96)

def qdd (l : List Int) (i : Int) (x : Mk) : Mk := if h : i < ln l ∧ ln x.S < 55 then qdd l (i + 1) (jw x (qa (ix l i) 1048576)) else x
 termination_by (ln l - i).toNat
 decreasing_by omega
theorem qoe {l : List Int} {i : Int} {x : Mk} (h : i < ln l) (h' : ln x.S < 55) : qdd l i x = qdd l (i + 1) (jw x (qa (ix l i) 1048576)) := by rw [qdd, dif_pos ⟨h, h'⟩]
theorem qrs {l : List Int} {i : Int} {x : Mk} (h : ln l ≤ i ∨ 55 ≤ ln x.S) : qdd l i x = x := by rw [qdd, dif_neg (by omega)]
def zbc (n : Int) : Sign := Sign.mk 7 0 0 0 false 0 false false 0 0 0 0 false 0 0 (ix [0, 4, 3] (Int.tmod (Int.tdiv n 320) 3)) 3
def qvl (n : Int) : Mk where
  nm := [UInt8.ofNat (Int.toNat (97 + Int.tmod (Int.tdiv n 16) 20))]
  S := (([] : List Sign) ++ [zbc n]) ++ [qne n (decide (Int.tmod (Int.tdiv n 960) 3 = 0))]
  m0 := qr6 n
  m1 := qr7 n
  m2 := ql6 n
  m3 := qr8 n
  place := 4
  opn := false
  dots := false
def qg4 (l : List Int) : Mk := qdd l 1 (qvl (qa (atI l 0) 1048576))
def zb2 : Sign := Sign.mk 10 0 0 0 false 0 false false 0 0 0 0 false 2 0 0 0
def qw (l : List Int) : List UInt8 × List Sign := if (qg4 l).opn = true then ((qg4 l).nm, (qg4 l).S ++ [zb2]) else ((qg4 l).nm, (qg4 l).S)
def jx (l : List Sign) : List Sign := l.filter fun s => !decide (s.Kind = 11)
def qb (l : List Int) : List UInt8 × List Sign := ((qw l).1, jx (qw l).2)

/-! ### Bounds -/
structure GB (x : Mk) : Prop where
  p0 : -4 ≤ x.place
  p1 : x.place ≤ 12
theorem qfp {n p : Int} : -4 ≤ qij n p ∧ qij n p ≤ 12 := by unfold qij; split <;> (try split) <;> omega
theorem qk4 {n p : Int} : -4 ≤ qf3 n p ∧ qf3 n p ≤ 12 := by unfold qf3; split <;> (try split) <;> omega
theorem qyh {n many j : Int} {x : Mk} (h : GB x) (hm : many ≤ 3) (hj : 0 ≤ j) (hjm : j ≤ many) : GB (qht n many j x) ∧ ln (qht n many j x).S = ln x.S + (many - j) := by
  by_cases hc : j < many
  · obtain ⟨h1, h2⟩ := qyh (n := n) (many := many) (j := j + 1) (x := { x with S := x.S ++ [qv3 n many j x.place], place := qij n x.place, dots := decide (j + 1 = many) }) ⟨qfp.1, qfp.2⟩ hm (by omega) (by omega)
    rw [qfq hc]
    refine ⟨h1, ?_⟩
    rw [h2, qas]
    omega
  · rw [qkx (by omega)]
    exact ⟨h, by omega⟩
 termination_by (many - j).toNat
 decreasing_by omega
theorem k9 {a b : Int} (ha : 0 ≤ a) (hb : 0 < b) : 0 ≤ Int.tmod a b ∧ Int.tmod a b < b := ⟨Int.tmod_nonneg _ ha, Int.tmod_lt_of_pos a hb⟩
theorem qa1 {a b : Int} (ha : 0 ≤ a) (hb : 0 < b) : 0 ≤ Int.tdiv a b ∧ Int.tdiv a b ≤ a := by
  rw [Int.tdiv_eq_ediv_of_nonneg ha]
  exact ⟨Int.ediv_nonneg ha (by omega), Int.ediv_le_self b ha⟩
theorem qj5 {x : Mk} {n : Int} (h : GB x) (hn : 0 ≤ n) : GB (jw x n) ∧ ln x.S ≤ ln (jw x n).S ∧ ln (jw x n).S ≤ ln x.S + 3 := by
  have h16 := qa1 hn (show (0 : Int) < 16 by decide)
  unfold jw
  split
  · unfold qdw qtn
    (repeat' split) <;> first
      | (refine ⟨⟨h.p0, h.p1⟩, ?_, ?_⟩ <;> simp only [qas] <;> omega)
      | (refine ⟨⟨h.p0, h.p1⟩, ?_, ?_⟩ <;> omega)
  · split
    · have h2 := k9 h16.1 (show (0 : Int) < 2 by decide)
      have h5 := k9 (qa1 h16.1 (show (0 : Int) < 2 by decide)).1 (show (0 : Int) < 5 by decide)
      obtain ⟨a, b⟩ := qyh (n := Int.tdiv n 16) (many := 2 + Int.tmod (Int.tdiv n 16) 2) (j := 0) (x := { x with place := 2 + Int.tmod (Int.tdiv (Int.tdiv n 16) 2) 5 }) ⟨by dsimp only; omega, by dsimp only; omega⟩ (by omega) (by omega) (by omega)
      refine ⟨a, ?_, ?_⟩
      · show _ ≤ ln (qht _ _ _ _).S
        rw [b]; dsimp only; omega
      · show ln (qht _ _ _ _).S ≤ _
        rw [b]; dsimp only; omega
    · split
      · unfold qtn; refine ⟨⟨h.p0, h.p1⟩, ?_, ?_⟩ <;> simp only [qas] <;> omega
      · split
        · split
          · unfold qtn; refine ⟨⟨h.p0, h.p1⟩, ?_, ?_⟩ <;> simp only [qas] <;> omega
          · refine ⟨h, ?_, ?_⟩ <;> omega
        · unfold zbo; refine ⟨⟨qk4.1, qk4.2⟩, ?_, ?_⟩ <;> simp only [qas] <;> omega
theorem qod {l : List Int} {i : Int} {x : Mk} (h : GB x) (hs : ln x.S ≤ 57) : GB (qdd l i x) ∧ ln (qdd l i x).S ≤ 57 ∧ ln x.S ≤ ln (qdd l i x).S := by
  by_cases hc : i < ln l ∧ ln x.S < 55
  · obtain ⟨a, b, c⟩ := qj5 (n := qa (ix l i) 1048576) h (qen (by decide)).1
    obtain ⟨d, e, f⟩ := qod (l := l) (i := i + 1) a (by omega)
    rw [qoe hc.1 hc.2]
    exact ⟨d, e, by omega⟩
  · rw [qrs (by omega)]
    exact ⟨h, hs, Int.le_refl _⟩
 termination_by (ln l - i).toNat
 decreasing_by omega
end Go.Proofs.YtlkfjinaiepocaaDoor
