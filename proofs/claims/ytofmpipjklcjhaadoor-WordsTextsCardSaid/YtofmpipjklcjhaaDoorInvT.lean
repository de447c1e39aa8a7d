/- THE LOOPS' INVARIANTS of tactusref02.Text and of the law WordsTexts. -/
import Derived.Test.YtofmpipjklcjhaaDoorInv
import Derived.Test.YtofmpipjklcjhaaDoorInvL
import Derived.Test.YtofmpipjklcjhaaDoorSpecT
namespace Go.Proofs.YtofmpipjklcjhaaDoor
open Go Go.E2 Go.E3
structure HoldT (p : Prop) : Prop where
  get : p
def inI (q : Bool) (b : Int) : Bool := if q then za b else zg b
def qaf (_ : Int) (t : List UInt8) (q : Bool) (i : Int) : Prop := HoldT (0 ≤ i ∧ i ≤ ln t ∧ ∀ j, 0 ≤ j → j < i → inI q (bx t j) = true)
def qa4 (_ : Int) (t : List UInt8) (_ : Bool) (i : Int) : Nat := (ln t - i).toNat
def qax (a0 : List Row) (out : List UInt8) (i : Int) : Prop := HoldT (0 ≤ i ∧ i ≤ ln a0 ∧ ln out ≤ 20000 ∧ qd8 out (fr a0 i) = qf a0)
def qfg (a0 : List Row) (_ : List UInt8) (i : Int) : Nat := (ln a0 - i).toNat
def qay (a0 : List Row) (line : List UInt8) (k : Int) (_ : List UInt8) (i : Int) : Prop := HoldT (0 ≤ k ∧ k ≤ ln (ix a0 i).Words ∧ line = qdh (upto (ix a0 i).Words k) ∧ (∀ w ∈ upto (ix a0 i).Words k, okW w = true) ∧ ln line ≤ 200000 * k)
def qa3 (a0 : List Row) (_ : List UInt8) (k : Int) (_ : List UInt8) (i : Int) : Nat := (ln (ix a0 i).Words - k).toNat
def qfa (a0 : List Row) (n i : Int) : Prop := HoldT (0 ≤ i ∧ i ≤ ln a0 ∧ 0 ≤ n ∧ n ≤ 100000 * i ∧ qj6 n (fr a0 i) = qj6 0 a0)
def qee (a0 : List Row) (_ i : Int) : Nat := (ln a0 - i).toNat
def qfb (a0 : List Row) (n k i : Int) : Prop := HoldT (0 ≤ k ∧ k ≤ ln (ix a0 i).Words ∧ 0 ≤ n ∧ n ≤ 100000 * i + 300 + 30 * k ∧ q8y (fun m => qj6 m (fr a0 (i + 1))) (qk1 n (fr (ix a0 i).Words k)) = qj6 0 a0)
def qef (a0 : List Row) (_ k i : Int) : Nat := (ln (ix a0 i).Words - k).toNat
end Go.Proofs.YtofmpipjklcjhaaDoor
