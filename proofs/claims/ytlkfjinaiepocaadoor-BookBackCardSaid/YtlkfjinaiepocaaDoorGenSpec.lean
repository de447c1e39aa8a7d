/- THE GENERATOR OF PARTS, in plain Lean; no program in sight. -/
import Derived.Test.YtlkfjinaiepocaaDoorBookSpec
namespace Go.Proofs.YtlkfjinaiepocaaDoor
open Go Go.E2 Go.E3

def zbg (l : List Int) : Prop := ln l ≤ 9223372036854775807 ∧ ∀ n ∈ l, I64 n
def qa (a b : Int) : Int := if b < 1 then 0 else if Int.tmod a b < 0 then Int.tmod a b + b else Int.tmod a b
def atI (l : List Int) (i : Int) : Int := if i < 0 ∨ ln l ≤ i then 0 else ix l i
theorem qy6 {a b : Int} (hb : 0 < b) : -b < Int.tmod a b ∧ Int.tmod a b < b := by
  by_cases h : 0 ≤ a
  · exact ⟨by have := Int.tmod_nonneg b h; omega, Int.tmod_lt_of_pos a hb⟩
  · have h1 : Int.tmod a b = -Int.tmod (-a) b := by rw [Int.neg_tmod, Int.neg_neg]
    have h2 := Int.tmod_nonneg b (show 0 ≤ -a by omega)
    have h3 := Int.tmod_lt_of_pos (-a) hb
    omega
theorem qec {a b : Int} (hb : 0 < b) : 0 ≤ qa a b ∧ qa a b < b := by
  have := qy6 (a := a) hb
  unfold qa
  split
  · omega
  · split <;> omega
/-- Is a perfect value greater than v? -/
def qcc (a b c d v : Int) : Bool := (decide (a = 3) && decide (1 < v)) || (decide (b = 3) && decide (2 < v)) || (decide (c = 3) && decide (3 < v)) || (decide (d = 3) && decide (4 < v))

structure Mk where
  nm : List UInt8
  S : List Sign
  m0 : Int
  m1 : Int
  m2 : Int
  m3 : Int
  place : Int
  opn : Bool
  dots : Bool

def qtc (x : Mk) (s : Sign) (d : Bool) : Mk := { x with S := x.S ++ [s], dots := d }
def qrv (n : Int) : Int := 2 + Int.tdiv (qa n 16) 8
def qrw (n : Int) : Int := 2 + Int.tmod (Int.tdiv (qa n 16) 4) 2
def qlu (n : Int) : Int := 2 + Int.tmod (Int.tdiv (qa n 16) 2) 2
def qrx (n : Int) : Int := 2 + Int.tmod (qa n 16) 2
def qm2 (n : Int) (st : Bool) : Sign := Sign.mk 5 0 0 0 false 0 false false (qrv n) (qrw n) (qlu n) (qrx n) st 0 0 0 0

def qdm (x : Mk) (n : Int) : Mk :=
  if Int.tmod n 6 = 0 then (if x.opn = false then { x with S := x.S ++ [qm2 (Int.tdiv n 6) (decide (Int.tmod (Int.tdiv n 96) 2 = 0))], m0 := qrv (Int.tdiv n 6), m1 := qrw (Int.tdiv n 6), m2 := qlu (Int.tdiv n 6), m3 := qrx (Int.tdiv n 6), dots := false } else x)
  else if Int.tmod n 6 = 1 then (if x.opn = false then qtc x (Sign.mk 6 0 0 0 false 0 false false 0 0 0 0 false (1 + Int.tmod (Int.tdiv n 6) 4) (1 + Int.tmod (Int.tdiv n 24) 4) 0 0) false else x)
  else if Int.tmod n 6 = 2 then qtc x (Sign.mk 7 0 0 0 false 0 false false 0 0 0 0 false 0 0 (ix [0, 3, 4] (Int.tmod (Int.tdiv n 6) 3)) (1 + Int.tmod (Int.tdiv n 18) 5)) x.dots
  else if Int.tmod n 6 = 3 then qtc x (Sign.mk 8 0 0 0 false 0 false false 0 0 0 0 false (Int.tmod (Int.tdiv n 6) 3) 0 0 0) x.dots
  else if Int.tmod n 6 = 4 then qtc x (Sign.mk (ix [11, 12] (Int.tmod (Int.tdiv n 6) 2)) 0 0 0 false 0 false false 0 0 0 0 false 0 0 0 0) x.dots
  else if x.opn = true then { x with S := x.S ++ [Sign.mk 10 0 0 0 false 0 false false 0 0 0 0 false (2 + Int.tmod (Int.tdiv n 6) 3) 0 0 0], opn := !x.opn, dots := false }
  else { x with S := x.S ++ [Sign.mk 9 0 0 0 false 0 false false 0 0 0 0 false 0 0 0 0], opn := !x.opn, dots := false }

def qh4 (n p : Int) : Int := if ((p + 1) + Int.tmod (Int.tdiv n 32) 3) - 4 * Int.tmod (Int.tdiv n 128) 2 < -4 then 7 else if 12 < ((p + 1) + Int.tmod (Int.tdiv n 32) 3) - 4 * Int.tmod (Int.tdiv n 128) 2 then 7 else ((p + 1) + Int.tmod (Int.tdiv n 32) 3) - 4 * Int.tmod (Int.tdiv n 128) 2
def qvw (n many j p : Int) : Sign := Sign.mk 4 0 p 0 (decide (Int.tmod (Int.tdiv n 16) 5 = 0)) 0 false (decide (j + 1 = many)) 0 0 0 0 false 0 0 0 0
def qhh (n many j : Int) (x : Mk) : Mk :=
  if h : j < many then qhh n many (j + 1) { x with S := x.S ++ [qvw n many j x.place], place := qh4 n x.place, dots := decide (j + 1 = many) } else x
 termination_by (many - j).toNat
 decreasing_by omega
theorem qfg {n many j : Int} {x : Mk} (h : j < many) : qhh n many j x = qhh n many (j + 1) { x with S := x.S ++ [qvw n many j x.place], place := qh4 n x.place, dots := decide (j + 1 = many) } := by rw [qhh, dif_pos h]
theorem qkj {n many j : Int} {x : Mk} (h : many ≤ j) : qhh n many j x = x := by rw [qhh, dif_neg (by omega)]
def q91 (x : Mk) (n : Int) : Mk := qhh n (2 + Int.tmod n 2) 0 { x with place := 2 + Int.tmod (Int.tdiv n 2) 5 }

def qfr (n p : Int) : Int := if (p + qa n 5) - 2 < -4 then 4 else if 12 < (p + qa n 5) - 2 then 4 else (p + qa n 5) - 2
def qr1 (v n p : Int) : Sign := Sign.mk 1 v p (ix [0, 0, 0, 0, (-1), 1, 2] (Int.tmod (Int.tdiv n 5) 7)) (decide (Int.tmod (Int.tdiv n 35) 6 = 0)) 0 false false 0 0 0 0 false 0 0 0 0
def zbk (x : Mk) (v n : Int) : Mk := { x with S := x.S ++ [qr1 v n (qfr n x.place)], place := qfr n x.place, dots := true }
def qlx (v : Int) : Sign := Sign.mk 2 v 0 0 false 0 false false 0 0 0 0 false 0 0 0 0

def jo (x : Mk) (n : Int) : Mk :=
  if Int.tmod n 16 = 0 ∨ Int.tmod n 16 = 1 then qdm x (Int.tdiv n 16)
  else if Int.tmod n 16 = 2 then q91 x (Int.tdiv n 16)
  else if Int.tmod n 16 = 3 ∨ Int.tmod n 16 = 4 then qtc x (qlx (2 + Int.tmod (Int.tdiv n 16) 6)) (qcc x.m0 x.m1 x.m2 x.m3 (2 + Int.tmod (Int.tdiv n 16) 6))
  else if Int.tmod n 16 = 5 ∨ Int.tmod n 16 = 6 ∨ Int.tmod n 16 = 7 then (if x.dots = true then qtc x (Sign.mk 3 0 0 0 false 0 false false 0 0 0 0 false 0 0 0 0) false else x)
  else zbk x (2 + Int.tmod (Int.tdiv n 16) 6) (Int.tdiv n 96)

def qc0 (l : List Int) (i : Int) (x : Mk) : Mk := if h : i < ln l ∧ ln x.S < 55 then qc0 l (i + 1) (jo x (qa (ix l i) 1048576)) else x
 termination_by (ln l - i).toNat
 decreasing_by omega
theorem qn0 {l : List Int} {i : Int} {x : Mk} (h : i < ln l) (h' : ln x.S < 55) : qc0 l i x = qc0 l (i + 1) (jo x (qa (ix l i) 1048576)) := by rw [qc0, dif_pos ⟨h, h'⟩]
theorem qrf {l : List Int} {i : Int} {x : Mk} (h : ln l ≤ i ∨ 55 ≤ ln x.S) : qc0 l i x = x := by rw [qc0, dif_neg (by omega)]
def za8 (n : Int) : Sign := Sign.mk 7 0 0 0 false 0 false false 0 0 0 0 false 0 0 (ix [0, 4, 3] (Int.tmod (Int.tdiv n 320) 3)) 3
def qve (n : Int) : Mk where
  nm := [UInt8.ofNat (Int.toNat (97 + Int.tmod (Int.tdiv n 16) 20))]
  S := (([] : List Sign) ++ [za8 n]) ++ [qm2 n (decide (Int.tmod (Int.tdiv n 960) 3 = 0))]
  m0 := qrv n
  m1 := qrw n
  m2 := qlu n
  m3 := qrx n
  place := 4
  opn := false
  dots := false
def qgr (l : List Int) : Mk := qc0 l 1 (qve (qa (atI l 0) 1048576))
def zby : Sign := Sign.mk 10 0 0 0 false 0 false false 0 0 0 0 false 2 0 0 0
def qu (l : List Int) : List UInt8 × List Sign := if (qgr l).opn = true then ((qgr l).nm, (qgr l).S ++ [zby]) else ((qgr l).nm, (qgr l).S)
def jq (l : List Sign) : List Sign := l.filter fun s => !decide (s.Kind = 11)
def qm (l : List Int) : List UInt8 × List Sign := ((qu l).1, jq (qu l).2)

/-! ### Bounds -/
structure GB (x : Mk) : Prop where
  p0 : -4 ≤ x.place
  p1 : x.place ≤ 12
theorem qff {n p : Int} : -4 ≤ qh4 n p ∧ qh4 n p ≤ 12 := by unfold qh4; split <;> (try split) <;> omega
theorem qkr {n p : Int} : -4 ≤ qfr n p ∧ qfr n p ≤ 12 := by unfold qfr; split <;> (try split) <;> omega
theorem qyb {n many j : Int} {x : Mk} (h : GB x) (hm : many ≤ 3) (hj : 0 ≤ j) (hjm : j ≤ many) : GB (qhh n many j x) ∧ ln (qhh n many j x).S = ln x.S + (many - j) := by
  by_cases hc : j < many
  · obtain ⟨h1, h2⟩ := qyb (n := n) (many := many) (j := j + 1) (x := { x with S := x.S ++ [qvw n many j x.place], place := qh4 n x.place, dots := decide (j + 1 = many) }) ⟨qff.1, qff.2⟩ hm (by omega) (by omega)
    rw [qfg hc]
    refine ⟨h1, ?_⟩
    rw [h2, qbq]
    omega
  · rw [qkj (by omega)]
    exact ⟨h, by omega⟩
 termination_by (many - j).toNat
 decreasing_by omega
theorem ky {a b : Int} (ha : 0 ≤ a) (hb : 0 < b) : 0 ≤ Int.tmod a b ∧ Int.tmod a b < b := ⟨Int.tmod_nonneg _ ha, Int.tmod_lt_of_pos a hb⟩
theorem qar {a b : Int} (ha : 0 ≤ a) (hb : 0 < b) : 0 ≤ Int.tdiv a b ∧ Int.tdiv a b ≤ a := by
  rw [Int.tdiv_eq_ediv_of_nonneg ha]
  exact ⟨Int.ediv_nonneg ha (by omega), Int.ediv_le_self b ha⟩
theorem qjs {x : Mk} {n : Int} (h : GB x) (hn : 0 ≤ n) : GB (jo x n) ∧ ln x.S ≤ ln (jo x n).S ∧ ln (jo x n).S ≤ ln x.S + 3 := by
  have h16 := qar hn (show (0 : Int) < 16 by decide)
  unfold jo
  split
  · unfold qdm qtc
    (repeat' split) <;> first
      | (refine ⟨⟨h.p0, h.p1⟩, ?_, ?_⟩ <;> simp only [qbq] <;> omega)
      | (refine ⟨⟨h.p0, h.p1⟩, ?_, ?_⟩ <;> omega)
  · split
    · have h2 := ky h16.1 (show (0 : Int) < 2 by decide)
      have h5 := ky (qar h16.1 (show (0 : Int) < 2 by decide)).1 (show (0 : Int) < 5 by decide)
      obtain ⟨a, b⟩ := qyb (n := Int.tdiv n 16) (many := 2 + Int.tmod (Int.tdiv n 16) 2) (j := 0) (x := { x with place := 2 + Int.tmod (Int.tdiv (Int.tdiv n 16) 2) 5 }) ⟨by dsimp only; omega, by dsimp only; omega⟩ (by omega) (by omega) (by omega)
      refine ⟨a, ?_, ?_⟩
      · show _ ≤ ln (qhh _ _ _ _).S
        rw [b]; dsimp only; omega
      · show ln (qhh _ _ _ _).S ≤ _
        rw [b]; dsimp only; omega
    · split
      · unfold qtc; refine ⟨⟨h.p0, h.p1⟩, ?_, ?_⟩ <;> simp only [qbq] <;> omega
      · split
        · split
          · unfold qtc; refine ⟨⟨h.p0, h.p1⟩, ?_, ?_⟩ <;> simp only [qbq] <;> omega
          · refine ⟨h, ?_, ?_⟩ <;> omega
        · unfold zbk; refine ⟨⟨qkr.1, qkr.2⟩, ?_, ?_⟩ <;> simp only [qbq] <;> omega
theorem qnz {l : List Int} {i : Int} {x : Mk} (h : GB x) (hs : ln x.S ≤ 57) : GB (qc0 l i x) ∧ ln (qc0 l i x).S ≤ 57 ∧ ln x.S ≤ ln (qc0 l i x).S := by
  by_cases hc : i < ln l ∧ ln x.S < 55
  · obtain ⟨a, b, c⟩ := qjs (n := qa (ix l i) 1048576) h (qec (by decide)).1
    obtain ⟨d, e, f⟩ := qnz (l := l) (i := i + 1) a (by omega)
    rw [qn0 hc.1 hc.2]
    exact ⟨d, e, by omega⟩
  · rw [qrf (by omega)]
    exact ⟨h, hs, Int.le_refl _⟩
 termination_by (ln l - i).toNat
 decreasing_by omega
end Go.Proofs.YtlkfjinaiepocaaDoor
