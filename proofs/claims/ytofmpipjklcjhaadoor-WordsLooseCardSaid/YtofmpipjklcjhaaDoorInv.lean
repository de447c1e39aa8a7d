/- THE LOOPS' INVARIANTS AND MEASURES of the functions of the chapter 2. -/
import Derived.Test.YtofmpipjklcjhaaDoorSpec
namespace Go.Proofs.YtofmpipjklcjhaaDoor
open Go Go.E2 Go.E3

def withW (out : List Word) (r : List Word × Int) : List Word × Int := if r.2 < 0 then (out ++ r.1, -1) else ([], r.2)
def withR (out : List Row) (r : List Row × Int × Int) : List Row × Int × Int := if r.2.1 = 0 then (out ++ r.1, 0, 0) else ([], r.2)

def inv_quoted_0 (a0 : List UInt8) (x : Int) : Prop := 0 ≤ x ∧ x ≤ ln a0 ∧ ∀ j, 0 ≤ j → j < x → insideI (bx a0 j) = true
def minv_quoted_0 (a0 : List UInt8) (x : Int) : Nat := (ln a0 - x).toNat

def inv_genSplit_0 (a0 a1 : List UInt8) (_ _ : Int) (x : List UInt8) (i : Int) (l : List (List UInt8)) : Prop := 0 ≤ i ∧ ln l = cntB a0 (bx a1 0) + 1 ∧ i + ln (splitI (bx a1 0) x) = cntB a0 (bx a1 0) + 1 ∧ upto l i ++ splitI (bx a1 0) x = splitI (bx a1 0) a0 ∧ ln x ≤ ln a0
def minv_genSplit_0 (a0 a1 : List UInt8) (_ _ : Int) (_ : List UInt8) (i : Int) (_ : List (List UInt8)) : Nat := (cntB a0 (bx a1 0) + 1 - i).toNat

def inv_RowsW_0 (a0 : List UInt8) (out : List Row) (at_ : Int) (k : Int) : Prop := 0 ≤ k ∧ k ≤ ln (splitI 10 a0) ∧ 0 ≤ at_ ∧ at_ ≤ 1001 * k ∧ ln out ≤ k ∧ rowsS (splitI 10 a0) 0 = withR out (rowsS (fr (splitI 10 a0) k) at_)
def minv_RowsW_0 (a0 : List UInt8) (_ : List Row) (_ : Int) (k : Int) : Nat := (ln (splitI 10 a0) - k).toNat
def inv_RowsW_1 (_ : List UInt8) (out : List Word) (x : Int) (begin : Int) (line : List UInt8) : Prop := 0 ≤ x ∧ x ≤ ln line ∧ ln out ≤ x ∧ cutS line begin 0 = withW out (cutS line begin x)
def minv_RowsW_1 (_ : List UInt8) (_ : List Word) (x : Int) (_ : Int) (line : List UInt8) : Nat := (ln line - x).toNat
def inv_RowsW_2 (_ : List UInt8) (y : Int) (line : List UInt8) (x : Int) : Prop := x ≤ y ∧ y ≤ ln line ∧ runTo blankI line x = runTo blankI line y
def minv_RowsW_2 (_ : List UInt8) (y : Int) (line : List UInt8) (_ : Int) : Nat := (ln line - y).toNat
def inv_RowsW_3 (_ : List UInt8) (y : Int) (line : List UInt8) (x : Int) : Prop := x ≤ y ∧ y ≤ ln line ∧ runTo plainI line x = runTo plainI line y
def minv_RowsW_3 (_ : List UInt8) (y : Int) (line : List UInt8) (_ : Int) : Nat := (ln line - y).toNat

def inv_sameR__0 (a0 a1 : List Row) (a2 : Bool) (x : Int) : Prop := 0 ≤ x ∧ x ≤ ln a0 ∧ sameR a0 a1 a2 = sameR (fr a0 x) (fr a1 x) a2
def minv_sameR__0 (a0 _ : List Row) (_ : Bool) (x : Int) : Nat := (ln a0 - x).toNat
def inv_sameR__1 (a0 a1 : List Row) (a2 : Bool) (y : Int) (x : Int) : Prop := 0 ≤ y ∧ y ≤ ln (ix a0 x).Words ∧ sameAll (sameWord a2) (ix a0 x).Words (ix a1 x).Words = sameAll (sameWord a2) (fr (ix a0 x).Words y) (fr (ix a1 x).Words y)
def minv_sameR__1 (a0 _ : List Row) (_ : Bool) (y : Int) (x : Int) : Nat := (ln (ix a0 x).Words - y).toNat
def inv_plainW_0 (a0 : List UInt8) (x : Int) : Prop := 0 ≤ x ∧ x ≤ ln a0 ∧ ∀ j, 0 ≤ j → j < x → plainI (bx a0 j) = true
def minv_plainW_0 (a0 : List UInt8) (x : Int) : Nat := (ln a0 - x).toNat
def inv_TextW_0 (a0 : List Row) (i : Int) (x : List UInt8) : Prop := 0 ≤ i ∧ i ≤ ln a0 ∧ ln x ≤ 20000 ∧ textGo x (fr a0 i) = textW a0
def minv_TextW_0 (a0 : List Row) (i : Int) (_ : List UInt8) : Nat := (ln a0 - i).toNat
def inv_TextW_1 (a0 : List Row) (k : Int) (x : List UInt8) (i b : Int) : Prop := 0 ≤ i ∧ i < ln a0 ∧ 1 ≤ k ∧ k ≤ ln (ix a0 i).Words ∧ 0 ≤ b ∧ b ≤ 20000 ∧ ∃ out, ln out = b ∧ textGo out (fr a0 i) = textW a0 ∧ x = out ++ joinT (upto (ix a0 i).Words k) ∧ (upto (ix a0 i).Words k).all okW = true
def minv_TextW_1 (a0 : List Row) (k : Int) (_ : List UInt8) (i _ : Int) : Nat := (ln (ix a0 i).Words - k).toNat
def inv_made_0 (a0 : List Int) (i : Int) (out : List Row) (ws : List Word) : Prop := 0 ≤ i ∧ i ≤ ln a0 ∧ ln out ≤ 12 ∧ ln ws ≤ 7 ∧ madeGo out ws (fr a0 i) = madeR a0
def minv_made_0 (a0 : List Int) (i : Int) (_ : List Row) (_ : List Word) : Nat := (ln a0 - i).toNat
end Go.Proofs.YtofmpipjklcjhaaDoor
