/- THE LOOPS' INVARIANTS AND MEASURES of the functions on signs, parts, books. -/
import Derived.Test.YtlkfjinaiepocaaDoorBookSpec
namespace Go.Proofs.YtlkfjinaiepocaaDoor
open Go Go.E2 Go.E3

def j3 (a0 : List UInt8) (i : Int) : Prop := 0 ≤ i ∧ i ≤ ln a0 ∧ ∀ j, 0 ≤ j → j < i → qk3 (bx a0 j) = true
def zt (a0 : List UInt8) (i : Int) : Nat := (ln a0 - i).toNat
def kx (a0 a1 a2 a3 i : Int) : Prop := 0 ≤ i ∧ i ≤ 4 ∧ (i < 1 ∨ a0 = 2 ∨ a0 = 3) ∧ (i < 2 ∨ a1 = 2 ∨ a1 = 3) ∧ (i < 3 ∨ a2 = 2 ∨ a2 = 3) ∧ (i < 4 ∨ a3 = 2 ∨ a3 = 3)
def zi (_ _ _ _ i : Int) : Nat := (4 - i).toNat
def qa2 (_ : List UInt8) (l : List Sign) (b : Bool) (i : Int) : Prop := 0 ≤ i ∧ i ≤ ln l ∧ qg6 l i = qg6 l 0 ∧ b = ins l i ∧ (b = true → i < ln l ∧ (ix l i).Kind = 4)
def j4 (_ : List UInt8) (l : List Sign) (_ : Bool) (i : Int) : Nat := (ln l - i).toNat
def qdg (a0 a1 : List Sign) (i : Int) : Prop := 0 ≤ i ∧ i ≤ ln a0 ∧ ∀ j, 0 ≤ j → j < i → ix a0 j = ix a1 j
def qct (a0 _ : List Sign) (i : Int) : Nat := (ln a0 - i).toNat
def qfx (a0 : List Sign) (i : Int) : Prop := 0 ≤ i ∧ i ≤ ln a0 ∧ zj (fr a0 i) = zj a0
def qe5 (a0 : List Sign) (i : Int) : Nat := (ln a0 - i).toNat
def zm (l : List Sign) (room : Int) (_ : Bool) (i full rest : Int) : Prop := 0 ≤ i ∧ i ≤ ln l ∧ full = i ∧ 0 ≤ rest ∧ rest ≤ i ∧ fA l room i rest = fA l room 0 0
def qp (l : List Sign) (_ : Int) (_ : Bool) (i _ _ : Int) : Nat := (ln l - i).toNat
def qgu (l : List Sign) (_ : Int) (_ : Bool) (to i : Int) : Prop := i + 1 ≤ to ∧ to ≤ ln l ∧ tT l to = tT l (i + 1)
def qhj (l : List Sign) (_ : Int) (_ : Bool) (to _ : Int) : Nat := (ln l - to).toNat
/-! ### The book -/
/-- What holds, behind a name. -/
structure Hold (p : Prop) : Prop where
  out : p
def qhe (_ : List UInt8) (l : List Sign) (_ _ : Int) (i : Int) : Prop := 0 ≤ i ∧ i ≤ ln l ∧ qhx (fr l i) i = qla l
def qf2 (_ : List UInt8) (l : List Sign) (_ _ : Int) (i : Int) : Nat := (ln l - i).toNat
def k8 (nm : List UInt8) (l : List Sign) (w h : Int) (s : List Sign) (n : List UInt8) (pages : List Page) (c k : List Sign) : Prop :=
  ∃ i, 0 ≤ i ∧ i ≤ ln l ∧ s = fr l i ∧ n = nm ∧ (c, k) = qas l i ∧ bk l w h i [] pages = bk l w h 0 [] [] ∧ ln pages ≤ i
def ju (_ : List UInt8) (l : List Sign) (_ _ : Int) (_ : List Sign) (_ : List UInt8) (pages : List Page) (_ _ : List Sign) : Nat := (ln l - ln pages).toNat
def zs (nm : List UInt8) (l : List Sign) (w h : Int) (s : List Sign) (m : Int) (page : List Staff) (c k : List Sign) (n : List UInt8) (pages : List Page) : Prop :=
  ∃ i, 0 ≤ i ∧ i ≤ ln l ∧ s = fr l i ∧ n = nm ∧ (c, k) = qas l i ∧ m = ln page + 1 ∧ m ≤ h + 1 ∧ ln pages ≤ i ∧ (1 < m → ln pages + 1 ≤ i) ∧ (m = 1 → i < ln l) ∧ ln page ≤ i ∧
    (i < ln l → m ≤ h → bk l w h i page pages = bk l w h 0 [] []) ∧ (ln l ≤ i ∨ h < m → bk l w h i [] (pages ++ [Page.mk page]) = bk l w h 0 [] [])
def jv (_ : List UInt8) (_ : List Sign) (_ h : Int) (_ : List Sign) (m : Int) (_ : List Staff) (_ _ : List Sign) (_ : List UInt8) (_ : List Page) : Nat := (h + 1 - m).toNat
def jk (_ : List UInt8) (l : List Sign) (_ _ : Int) (j : Int) (c k s u : List Sign) : Prop := Hold (0 ≤ j ∧ j ≤ ln u ∧ (c, k) = qas l (ln l - ln s + j))
def qcs (_ : List UInt8) (_ : List Sign) (_ _ : Int) (j : Int) (_ _ _ u : List Sign) : Nat := (ln u - j).toNat
end Go.Proofs.YtlkfjinaiepocaaDoor
