/- THE LOOPS' INVARIANTS AND MEASURES of the functions on signs, parts, books. -/
import Derived.Test.YtlkfjinaiepocaaDoorBookSpec
namespace Go.Proofs.YtlkfjinaiepocaaDoor
open Go Go.E2 Go.E3

def inv_NameW_0 (a0 : List UInt8) (i : Int) : Prop := 0 ≤ i ∧ i ≤ ln a0 ∧ ∀ j, 0 ≤ j → j < i → nameI (bx a0 j) = true
def minv_NameW_0 (a0 : List UInt8) (i : Int) : Nat := (ln a0 - i).toNat
def inv_NameR_0 (a0 : List UInt8) (i : Int) : Prop := 0 ≤ i ∧ i ≤ ln a0 ∧ ∀ j, 0 ≤ j → j < i → nameI (bx a0 j) = true
def minv_NameR_0 (a0 : List UInt8) (i : Int) : Nat := (ln a0 - i).toNat
def ok23 (l : List Int) (i : Int) : Prop := 0 ≤ i ∧ i ≤ 4 ∧ ∀ j, 0 ≤ j → j < i → (ix l j = 2 ∨ ix l j = 3)
def inv_CheckM_0 (a0 a1 a2 a3 i : Int) : Prop := 0 ≤ i ∧ i ≤ 4 ∧ (i < 1 ∨ a0 = 2 ∨ a0 = 3) ∧ (i < 2 ∨ a1 = 2 ∨ a1 = 3) ∧ (i < 3 ∨ a2 = 2 ∨ a2 = 3) ∧ (i < 4 ∨ a3 = 2 ∨ a3 = 3)
def minv_CheckM_0 (_ _ _ _ i : Int) : Nat := (4 - i).toNat
def inv_CheckMR_0 (a0 a1 a2 a3 i : Int) : Prop := ok23 [a0, a1, a2, a3] i
def minv_CheckMR_0 (_ _ _ _ i : Int) : Nat := (4 - i).toNat
def inv_CheckSg_0 (_ : List UInt8) (l : List Sign) (b : Bool) (i : Int) : Prop := 0 ≤ i ∧ i ≤ ln l ∧ chkGo l i = chkGo l 0 ∧ b = ins l i ∧ (b = true → i < ln l ∧ (ix l i).Kind = 4)
def minv_CheckSg_0 (_ : List UInt8) (l : List Sign) (_ : Bool) (i : Int) : Nat := (ln l - i).toNat
def inv_CheckSR_0 (_ : List UInt8) (l : List Sign) (i : Int) : Prop := 0 ≤ i ∧ i ≤ ln l ∧ chkGo l i = chkGo l 0
def minv_CheckSR_0 (_ : List UInt8) (l : List Sign) (i : Int) : Nat := (ln l - i).toNat
def inv_SameSigns_0 (a0 a1 : List Sign) (i : Int) : Prop := 0 ≤ i ∧ i ≤ ln a0 ∧ ∀ j, 0 ≤ j → j < i → ix a0 j = ix a1 j
def minv_SameSigns_0 (a0 _ : List Sign) (i : Int) : Nat := (ln a0 - i).toNat
def inv_sameBk_0 (_ : List UInt8) (a1 : List Page) (_ : List UInt8) (a3 : List Page) (i : Int) : Prop := 0 ≤ i ∧ i ≤ ln a1 ∧ ∀ j, 0 ≤ j → j < i → ix a1 j = ix a3 j
def minv_sameBk_0 (_ : List UInt8) (a1 : List Page) (_ : List UInt8) (_ : List Page) (i : Int) : Nat := (ln a1 - i).toNat
def inv_sameBk_1 (_ : List UInt8) (a1 : List Page) (_ : List UInt8) (a3 : List Page) (k i : Int) : Prop := 0 ≤ k ∧ k ≤ ln (ix a1 i).Staves ∧ ∀ j, 0 ≤ j → j < k → ix (ix a1 i).Staves j = ix (ix a3 i).Staves j
def minv_sameBk_1 (_ : List UInt8) (a1 : List Page) (_ : List UInt8) (_ : List Page) (k i : Int) : Nat := (ln (ix a1 i).Staves - k).toNat
def inv_catch__0 (a0 : List Sign) (i : Int) : Prop := 0 ≤ i ∧ i ≤ ln a0 ∧ catchL (fr a0 i) = catchL a0
def minv_catch__0 (a0 : List Sign) (i : Int) : Nat := (ln a0 - i).toNat
def inv_custos_0 (a0 : List Sign) (a1 : Int) (i : Int) : Prop := 0 ≤ i ∧ i ≤ ln a0 ∧ catchL (fr a0 i) = catchP a0 a1
def minv_custos_0 (a0 : List Sign) (_ : Int) (i : Int) : Nat := (ln a0 - i).toNat
def inv_turn_0 (a0 : List Sign) (i : Int) : Prop := 0 ≤ i ∧ i ≤ ln a0 ∧ turnGo (fr a0 i) i = turnI a0
def minv_turn_0 (a0 : List Sign) (i : Int) : Nat := (ln a0 - i).toNat
def inv_fill_0 (l : List Sign) (room : Int) (_ : Bool) (i full rest : Int) : Prop := 0 ≤ i ∧ i ≤ ln l ∧ full = i ∧ 0 ≤ rest ∧ rest ≤ i ∧ fA l room i rest = fA l room 0 0
def minv_fill_0 (l : List Sign) (_ : Int) (_ : Bool) (i _ _ : Int) : Nat := (ln l - i).toNat
def inv_fill_1 (l : List Sign) (_ : Int) (_ : Bool) (to i : Int) : Prop := i + 1 ≤ to ∧ to ≤ ln l ∧ tT l to = tT l (i + 1)
def minv_fill_1 (l : List Sign) (_ : Int) (_ : Bool) (to _ : Int) : Nat := (ln l - to).toNat
def inv_groupsR_0 (l : List Sign) (g : List Group) (i : Int) : Prop := 0 ≤ i ∧ i ≤ ln l ∧ g ++ grpL l i = groupsL l ∧ ln g ≤ i
def minv_groupsR_0 (l : List Sign) (_ : List Group) (i : Int) : Nat := (ln l - i).toNat
def inv_groupsR_1 (l : List Sign) (to i : Int) : Prop := i + 1 ≤ to ∧ to ≤ ln l ∧ tT l to = tT l (i + 1)
def minv_groupsR_1 (l : List Sign) (to _ : Int) : Nat := (ln l - to).toNat
def inv_leadR_0 (l : List Sign) (a : Int) (c k : List Sign) (i : Int) : Prop := 0 ≤ i ∧ i ≤ a ∧ (c, k) = forceI l i
def minv_leadR_0 (_ : List Sign) (a : Int) (_ _ : List Sign) (i : Int) : Nat := (a - i).toNat

/-! ### The book -/
/-- What holds, behind a name. -/
structure Hold (p : Prop) : Prop where
  out : p
def inv_MakeB_0 (_ : List UInt8) (l : List Sign) (_ _ : Int) (i : Int) : Prop := 0 ≤ i ∧ i ≤ ln l ∧ turnGo (fr l i) i = turnI l
def minv_MakeB_0 (_ : List UInt8) (l : List Sign) (_ _ : Int) (i : Int) : Nat := (ln l - i).toNat
def inv_MakeB_1 (nm : List UInt8) (l : List Sign) (w h : Int) (s : List Sign) (n : List UInt8) (pages : List Page) (c k : List Sign) : Prop :=
  ∃ i, 0 ≤ i ∧ i ≤ ln l ∧ s = fr l i ∧ n = nm ∧ (c, k) = forceI l i ∧ bk l w h i [] pages = bk l w h 0 [] [] ∧ ln pages ≤ i
def minv_MakeB_1 (_ : List UInt8) (l : List Sign) (_ _ : Int) (_ : List Sign) (_ : List UInt8) (pages : List Page) (_ _ : List Sign) : Nat := (ln l - ln pages).toNat
def inv_MakeB_2 (nm : List UInt8) (l : List Sign) (w h : Int) (s : List Sign) (m : Int) (page : List Staff) (c k : List Sign) (n : List UInt8) (pages : List Page) : Prop :=
  ∃ i, 0 ≤ i ∧ i ≤ ln l ∧ s = fr l i ∧ n = nm ∧ (c, k) = forceI l i ∧ m = ln page + 1 ∧ m ≤ h + 1 ∧ ln pages ≤ i ∧ (1 < m → ln pages + 1 ≤ i) ∧ (m = 1 → i < ln l) ∧ ln page ≤ i ∧
    (i < ln l → m ≤ h → bk l w h i page pages = bk l w h 0 [] []) ∧ (ln l ≤ i ∨ h < m → bk l w h i [] (pages ++ [Page.mk page]) = bk l w h 0 [] [])
def minv_MakeB_2 (_ : List UInt8) (_ : List Sign) (_ h : Int) (_ : List Sign) (m : Int) (_ : List Staff) (_ _ : List Sign) (_ : List UInt8) (_ : List Page) : Nat := (h + 1 - m).toNat
def inv_MakeB_3 (_ : List UInt8) (l : List Sign) (_ _ : Int) (j : Int) (c k s u : List Sign) : Prop := Hold (0 ≤ j ∧ j ≤ ln u ∧ (c, k) = forceI l (ln l - ln s + j))
def minv_MakeB_3 (_ : List UInt8) (_ : List Sign) (_ _ : Int) (j : Int) (_ _ _ u : List Sign) : Nat := (ln u - j).toNat
def posG (l : List Sign) (k : Int) : Int := if k < ln (groupsL l) then (ix (groupsL l) k).fro else ln l
def fitG (l : List Sign) (w : Int) (j : Int) : Prop := ln (leadL l (ix (groupsL l) j).fro) + (ix (groupsL l) j).to - (ix (groupsL l) j).fro ≤ w
def noRest (l : List Sign) (i k : Int) : Prop := ∀ j, i ≤ j → j < k → (ix l (ix (groupsL l) j).fro).Kind ≠ 2
def RestOk (l : List Sign) (g k rest : Int) : Prop := (rest = posG l g ∧ noRest l g k) ∨ ∃ j, g ≤ j ∧ j < k ∧ (ix l (ix (groupsL l) j).fro).Kind = 2 ∧ rest = (ix (groupsL l) j).to ∧ noRest l (j + 1) k
def inv_MakeR_0 (_ : List UInt8) (l : List Sign) (w _ : Int) (i : Int) : Prop := 0 ≤ i ∧ i ≤ ln (groupsL l) ∧ ∀ j, 0 ≤ j → j < i → fitG l w j
def minv_MakeR_0 (_ : List UInt8) (l : List Sign) (_ _ : Int) (i : Int) : Nat := (ln (groupsL l) - i).toNat
def inv_MakeR_1 (nm : List UInt8) (l : List Sign) (w h : Int) (g : Int) (n : List UInt8) (pages : List Page) (page : List Staff) : Prop := Hold (0 ≤ g ∧ g ≤ ln (groupsL l) ∧ n = nm ∧ bk l w h (posG l g) page pages = bk l w h 0 [] [] ∧ ln page ≤ g ∧ ln pages ≤ g)
def minv_MakeR_1 (_ : List UInt8) (l : List Sign) (_ _ : Int) (g : Int) (_ : List UInt8) (_ : List Page) (_ : List Staff) : Nat := (ln (groupsL l) - g).toNat
def inv_MakeR_2 (_ : List UInt8) (l : List Sign) (w _ : Int) (n k g : Int) : Prop := Hold (g ≤ k ∧ k ≤ ln (groupsL l) ∧ n = ln (leadL l (posG l g)) + posG l k - posG l g ∧ ∃ rest, fA l (limP l w (posG l g)) (posG l k) rest = fA l (limP l w (posG l g)) (posG l g) (posG l g) ∧ RestOk l g k rest)
def minv_MakeR_2 (_ : List UInt8) (l : List Sign) (_ _ : Int) (_ k _ : Int) : Nat := (ln (groupsL l) - k).toNat
def inv_MakeR_3 (_ : List UInt8) (l : List Sign) (w h : Int) (k g : Int) (page : List Staff) : Prop := Hold (g < k ∧ k ≤ ln (groupsL l) ∧ posG l k = nxt l w (posG l g) (decide (ln page + 1 = h)))
def inv_MakeR_4 (_ : List UInt8) (l : List Sign) (w _ : Int) (k i g : Int) : Prop := Hold (g < k ∧ k < ln (groupsL l) ∧ g - 1 ≤ i ∧ i < k ∧ (∃ rest, fA l (limP l w (posG l g)) (posG l g) (posG l g) = (posG l k, rest) ∧ RestOk l g k rest) ∧ noRest l (i + 1) k)
def minv_MakeR_4 (_ : List UInt8) (_ : List Sign) (_ _ : Int) (_ i g : Int) : Nat := (i + 1 - g).toNat
end Go.Proofs.YtlkfjinaiepocaaDoor
