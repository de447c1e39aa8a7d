/- THE LOOPS' INVARIANTS AND MEASURES of the functions on times and voices. -/
import Derived.Test.YtjbefleabibmmaaGreatDoorSpec
namespace Go.Proofs.YtjbefleabibmmaaGreatDoor
open Go Go.E2 Go.E3

def inv_gcdR_0 (a0 a1 : Int) (x y : Int) : Prop := 0 ≤ x ∧ 0 ≤ y ∧ gcdI x y = gcdI a0 a1
def minv_gcdR_0 (_ _ : Int) (_ y : Int) : Nat := y.toNat
def inv_firstS_0 (a0 : List Time) (i : Int) : Prop := 0 ≤ i ∧ i ≤ ln a0 ∧ firstT (fr a0 i) = firstT a0
def minv_firstS_0 (a0 : List Time) (i : Int) : Nat := (ln a0 - i).toNat
def inv_oneS_0 (a0 a1 a2 a3 _ _ _ : Int) (_ : Bool) (_ _ : Int) (i : Int) : Prop := 0 ≤ i ∧ i ≤ 2 ∧ (1 ≤ i → checkT a0 a1 = 0) ∧ (2 ≤ i → checkT a2 a3 = 0)
def minv_oneS_0 (_ _ _ _ _ _ _ : Int) (_ : Bool) (_ _ : Int) (i : Int) : Nat := (2 - i).toNat
def inv_CheckE_0 (a0 : List Event) (i n d : Int) : Prop := 0 ≤ i ∧ i ≤ ln a0 ∧ checkGo (fr a0 i) i n d = checkGo a0 0 0 1
def minv_CheckE_0 (a0 : List Event) (i _ _ : Int) : Nat := (ln a0 - i).toNat
def inv_CheckER_0 (a0 : List Event) (i n d : Int) : Prop := 0 ≤ i ∧ i ≤ ln a0 ∧ checkGo (fr a0 i) i n d = checkGo a0 0 0 1
def minv_CheckER_0 (a0 : List Event) (i _ _ : Int) : Nat := (ln a0 - i).toNat
def inv_AtE_0 (a0 : List Event) (a1 a2 : Int) (i j : Int) : Prop := 0 ≤ i ∧ i ≤ j ∧ j ≤ ln a0 ∧ (∀ k, 0 ≤ k → k < i → cm a0 a1 a2 k < 0) ∧ ∀ k, j ≤ k → k < ln a0 → 0 ≤ cm a0 a1 a2 k
def minv_AtE_0 (_ : List Event) (_ _ : Int) (i j : Int) : Nat := (j - i).toNat
def inv_AtER_0 (a0 : List Event) (a1 a2 : Int) (n i : Int) : Prop := 0 ≤ i ∧ i ≤ ln a0 ∧ scanGo a1 a2 (fr a0 i) i n = scanGo a1 a2 a0 0 0
def minv_AtER_0 (a0 : List Event) (_ _ : Int) (_ i : Int) : Nat := (ln a0 - i).toNat
def inv_SameEvents_0 (a0 a1 : List Event) (i : Int) : Prop := 0 ≤ i ∧ i ≤ ln a0 ∧ ∀ j, 0 ≤ j → j < i → ix a0 j = ix a1 j
def minv_SameEvents_0 (a0 _ : List Event) (i : Int) : Nat := (ln a0 - i).toNat
end Go.Proofs.YtjbefleabibmmaaGreatDoor
