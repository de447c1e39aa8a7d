/- INVARIANTS of the law WordsLoose. -/
import Derived.Test.YtofmpipjklcjhaaDoorInv
import Derived.Test.YtofmpipjklcjhaaDoorSpecL
namespace Go.Proofs.YtofmpipjklcjhaaDoor
open Go Go.E2 Go.E3
def qjo (a0 : List Row) (i : Int) (out : List Row) : Prop := 0 ≤ i ∧ i ≤ ln a0 ∧ out = qie (upto a0 i)
def qkp (a0 : List Row) (i : Int) (_ : List Row) : Nat := (ln a0 - i).toNat
def q4s (_ _ a2 : List Int) (i : Int) (x : List UInt8) (l _ : List Row) : Prop := 0 ≤ i ∧ i ≤ ln l ∧ ln x ≤ 200 * i ∧ x ++ qy2 a2 i (fr l i) = qy2 a2 0 l
def q3g (_ _ _ : List Int) (i : Int) (_ : List UInt8) (l _ : List Row) : Nat := (ln l - i).toNat
end Go.Proofs.YtofmpipjklcjhaaDoor
