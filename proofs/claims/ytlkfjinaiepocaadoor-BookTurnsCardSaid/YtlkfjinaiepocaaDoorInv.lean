/- THE LOOPS' INVARIANTS AND MEASURES of the functions on signs, parts, books. -/
import Derived.Test.YtlkfjinaiepocaaDoorBookSpec
namespace Go.Proofs.YtlkfjinaiepocaaDoor
open Go Go.E2 Go.E3

def qab (a0 : List UInt8) (i : Int) : Prop := 0 ≤ i ∧ i ≤ ln a0 ∧ ∀ j, 0 ≤ j → j < i → qlg (bx a0 j) = true
def zx (a0 : List UInt8) (i : Int) : Nat := (ln a0 - i).toNat
def k8 (a0 a1 a2 a3 i : Int) : Prop := 0 ≤ i ∧ i ≤ 4 ∧ (i < 1 ∨ a0 = 2 ∨ a0 = 3) ∧ (i < 2 ∨ a1 = 2 ∨ a1 = 3) ∧ (i < 3 ∨ a2 = 2 ∨ a2 = 3) ∧ (i < 4 ∨ a3 = 2 ∨ a3 = 3)
def zm (_ _ _ _ i : Int) : Nat := (4 - i).toNat
def qbc (_ : List UInt8) (l : List Sign) (b : Bool) (i : Int) : Prop := 0 ≤ i ∧ i ≤ ln l ∧ qhi l i = qhi l 0 ∧ b = ins l i ∧ (b = true → i < ln l ∧ (ix l i).Kind = 4)
def qac (_ : List UInt8) (l : List Sign) (_ : Bool) (i : Int) : Nat := (ln l - i).toNat
def qga (a0 : List Sign) (i : Int) : Prop := 0 ≤ i ∧ i ≤ ln a0 ∧ zo (fr a0 i) = zo a0
def qff (a0 : List Sign) (i : Int) : Nat := (ln a0 - i).toNat
def zr (l : List Sign) (room : Int) (_ : Bool) (i full rest : Int) : Prop := 0 ≤ i ∧ i ≤ ln l ∧ full = i ∧ 0 ≤ rest ∧ rest ≤ i ∧ fA l room i rest = fA l room 0 0
def qq (l : List Sign) (_ : Int) (_ : Bool) (i _ _ : Int) : Nat := (ln l - i).toNat
def qg7 (l : List Sign) (_ : Int) (_ : Bool) (to i : Int) : Prop := i + 1 ≤ to ∧ to ≤ ln l ∧ tT l to = tT l (i + 1)
def qhw (l : List Sign) (_ : Int) (_ : Bool) (to _ : Int) : Nat := (ln l - to).toNat
/-! ### The book -/
/-- What holds, behind a name. -/
structure Hold (p : Prop) : Prop where
  out : p
def qhq (_ : List UInt8) (l : List Sign) (_ _ : Int) (i : Int) : Prop := 0 ≤ i ∧ i ≤ ln l ∧ qic (fr l i) i = qln l
def qgf (_ : List UInt8) (l : List Sign) (_ _ : Int) (i : Int) : Nat := (ln l - i).toNat
def jf (nm : List UInt8) (l : List Sign) (w h : Int) (s : List Sign) (n : List UInt8) (pages : List Page) (c k : List Sign) : Prop :=
  ∃ i, 0 ≤ i ∧ i ≤ ln l ∧ s = fr l i ∧ n = nm ∧ (c, k) = qa2 l i ∧ bk l w h i [] pages = bk l w h 0 [] [] ∧ ln pages ≤ i
def j6 (_ : List UInt8) (l : List Sign) (_ _ : Int) (_ : List Sign) (_ : List UInt8) (pages : List Page) (_ _ : List Sign) : Nat := (ln l - ln pages).toNat
def zw (nm : List UInt8) (l : List Sign) (w h : Int) (s : List Sign) (m : Int) (page : List Staff) (c k : List Sign) (n : List UInt8) (pages : List Page) : Prop :=
  ∃ i, 0 ≤ i ∧ i ≤ ln l ∧ s = fr l i ∧ n = nm ∧ (c, k) = qa2 l i ∧ m = ln page + 1 ∧ m ≤ h + 1 ∧ ln pages ≤ i ∧ (1 < m → ln pages + 1 ≤ i) ∧ (m = 1 → i < ln l) ∧ ln page ≤ i ∧
    (i < ln l → m ≤ h → bk l w h i page pages = bk l w h 0 [] []) ∧ (ln l ≤ i ∨ h < m → bk l w h i [] (pages ++ [Page.mk page]) = bk l w h 0 [] [])
def j7 (_ : List UInt8) (_ : List Sign) (_ h : Int) (_ : List Sign) (m : Int) (_ : List Staff) (_ _ : List Sign) (_ : List UInt8) (_ : List Page) : Nat := (h + 1 - m).toNat
def js (_ : List UInt8) (l : List Sign) (_ _ : Int) (j : Int) (c k s u : List Sign) : Prop := Hold (0 ≤ j ∧ j ≤ ln u ∧ (c, k) = qa2 l (ln l - ln s + j))
def qc6 (_ : List UInt8) (_ : List Sign) (_ _ : Int) (j : Int) (_ _ _ u : List Sign) : Nat := (ln u - j).toNat
end Go.Proofs.YtlkfjinaiepocaaDoor
