/- THE LOOPS' INVARIANTS AND MEASURES of the functions of the chapter 2. -/
import Derived.Test.YtofmpipjklcjhaaDoorSpec
namespace Go.Proofs.YtofmpipjklcjhaaDoor
open Go Go.E2 Go.E3

def qg1 (out : List Word) (r : List Word × Int) : List Word × Int := if r.2 < 0 then (out ++ r.1, -1) else ([], r.2)
def qgl (out : List Row) (r : List Row × Int × Int) : List Row × Int × Int := if r.2.1 = 0 then (out ++ r.1, 0, 0) else ([], r.2)

def qfd (a0 : List UInt8) (x : Int) : Prop := 0 ≤ x ∧ x ≤ ln a0 ∧ ∀ j, 0 ≤ j → j < x → za (bx a0 j) = true
def qeh (a0 : List UInt8) (x : Int) : Nat := (ln a0 - x).toNat

def qga (a0 a1 : List UInt8) (_ _ : Int) (x : List UInt8) (i : Int) (l : List (List UInt8)) : Prop := 0 ≤ i ∧ ln l = qlf a0 (bx a1 0) + 1 ∧ i + ln (zh (bx a1 0) x) = qlf a0 (bx a1 0) + 1 ∧ upto l i ++ zh (bx a1 0) x = zh (bx a1 0) a0 ∧ ln x ≤ ln a0
def q3f (a0 a1 : List UInt8) (_ _ : Int) (_ : List UInt8) (i : Int) (_ : List (List UInt8)) : Nat := (qlf a0 (bx a1 0) + 1 - i).toNat

def q6t (a0 : List UInt8) (a1 : Int) (x : Int) : Prop := a1 + 1 ≤ x ∧ x ≤ ln a0 ∧ qu za a0 (a1 + 1) = qu za a0 x
def q46 (a0 : List UInt8) (_ : Int) (x : Int) : Nat := (ln a0 - x).toNat

def zad (a0 : List UInt8) (a1 : Int) (out : List Word) (x : Int) : Prop := 0 ≤ x ∧ x ≤ ln a0 ∧ ln out ≤ x ∧ zw a0 a1 0 = qg1 out (zw a0 a1 x)
def q9e (a0 : List UInt8) (_ : Int) (_ : List Word) (x : Int) : Nat := (ln a0 - x).toNat
def zae (a0 : List UInt8) (_ : Int) (y : Int) (x : Int) : Prop := x ≤ y ∧ y ≤ ln a0 ∧ qu zg a0 x = qu zg a0 y
def q9f (a0 : List UInt8) (_ : Int) (y : Int) (_ : Int) : Nat := (ln a0 - y).toNat

def q83 (a0 : List UInt8) (out : List Row) (x : Int) : Prop := 0 ≤ x ∧ x ≤ ln a0 + 1 ∧ ln out ≤ x ∧ qal (zh 10 a0) 0 = if x ≤ ln a0 then qgl out (qal (zh 10 (fr a0 x)) x) else (out, 0, 0)
def q7u (a0 : List UInt8) (_ : List Row) (x : Int) : Nat := (ln a0 + 1 - x).toNat
def q84 (a0 : List UInt8) (y : Int) (x : Int) : Prop := x ≤ y ∧ y ≤ ln a0 ∧ qu qi7 a0 x = qu qi7 a0 y
def q7v (a0 : List UInt8) (y : Int) (_ : Int) : Nat := (ln a0 - y).toNat

def q85 (a0 : List UInt8) (out : List Row) (at_ : Int) (k : Int) : Prop := 0 ≤ k ∧ k ≤ ln (zh 10 a0) ∧ 0 ≤ at_ ∧ at_ ≤ 1001 * k ∧ ln out ≤ k ∧ qal (zh 10 a0) 0 = qgl out (qal (fr (zh 10 a0) k) at_)
def q7w (a0 : List UInt8) (_ : List Row) (_ : Int) (k : Int) : Nat := (ln (zh 10 a0) - k).toNat
def q86 (_ : List UInt8) (out : List Word) (x : Int) (begin : Int) (line : List UInt8) : Prop := 0 ≤ x ∧ x ≤ ln line ∧ ln out ≤ x ∧ zw line begin 0 = qg1 out (zw line begin x)
def q7x (_ : List UInt8) (_ : List Word) (x : Int) (_ : Int) (line : List UInt8) : Nat := (ln line - x).toNat
def q87 (_ : List UInt8) (y : Int) (line : List UInt8) (x : Int) : Prop := x ≤ y ∧ y ≤ ln line ∧ qu zk line x = qu zk line y
def q7y (_ : List UInt8) (y : Int) (line : List UInt8) (_ : Int) : Nat := (ln line - y).toNat
def q88 (_ : List UInt8) (y : Int) (line : List UInt8) (x : Int) : Prop := x ≤ y ∧ y ≤ ln line ∧ qu zg line x = qu zg line y
def q7z (_ : List UInt8) (y : Int) (line : List UInt8) (_ : Int) : Nat := (ln line - y).toNat

def qb4 (a0 a1 : List Row) (a2 : Bool) (x : Int) : Prop := 0 ≤ x ∧ x ≤ ln a0 ∧ j9 a0 a1 a2 = j9 (fr a0 x) (fr a1 x) a2
def qbi (a0 _ : List Row) (_ : Bool) (x : Int) : Nat := (ln a0 - x).toNat
def qae (a0 a1 : List Row) (a2 : Bool) (y : Int) (x : Int) : Prop := 0 ≤ y ∧ y ≤ ln (ix a0 x).Words ∧ jx (ji a2) (ix a0 x).Words (ix a1 x).Words = jx (ji a2) (fr (ix a0 x).Words y) (fr (ix a1 x).Words y)
def qbj (a0 _ : List Row) (_ : Bool) (y : Int) (x : Int) : Nat := (ln (ix a0 x).Words - y).toNat
def qfc (a0 : List UInt8) (x : Int) : Prop := 0 ≤ x ∧ x ≤ ln a0 ∧ ∀ j, 0 ≤ j → j < x → zg (bx a0 j) = true
def qeg (a0 : List UInt8) (x : Int) : Nat := (ln a0 - x).toNat
def qm (a0 : List Row) (i : Int) (x : List UInt8) : Prop := 0 ≤ i ∧ i ≤ ln a0 ∧ ln x ≤ 20000 ∧ qd8 x (fr a0 i) = qf a0
def qz (a0 : List Row) (i : Int) (_ : List UInt8) : Nat := (ln a0 - i).toNat
def qa (a0 : List Row) (k : Int) (x : List UInt8) (i b : Int) : Prop := 0 ≤ i ∧ i < ln a0 ∧ 1 ≤ k ∧ k ≤ ln (ix a0 i).Words ∧ 0 ≤ b ∧ b ≤ 20000 ∧ ∃ out, ln out = b ∧ qd8 out (fr a0 i) = qf a0 ∧ x = out ++ qdh (upto (ix a0 i).Words k) ∧ (upto (ix a0 i).Words k).all okW = true
def qb (a0 : List Row) (k : Int) (_ : List UInt8) (i _ : Int) : Nat := (ln (ix a0 i).Words - k).toNat
def k7 (a0 : List Int) (i : Int) (out : List Row) (ws : List Word) : Prop := 0 ≤ i ∧ i ≤ ln a0 ∧ ln out ≤ 12 ∧ ln ws ≤ 7 ∧ qko out ws (fr a0 i) = q0m a0
def qi5 (a0 : List Int) (i : Int) (_ : List Row) (_ : List Word) : Nat := (ln a0 - i).toNat
end Go.Proofs.YtofmpipjklcjhaaDoor
