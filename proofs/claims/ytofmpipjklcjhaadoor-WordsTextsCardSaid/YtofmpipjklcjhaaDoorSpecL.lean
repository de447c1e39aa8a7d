/- GAPS between rows: what the law WordsLoose writes. -/
import Derived.Test.YtofmpipjklcjhaaDoorSpec
namespace Go.Proofs.YtofmpipjklcjhaaDoor
open Go Go.E2 Go.E3
def zel : List (List UInt8) := [([] : List UInt8), ([32, 32] : List UInt8), ([32, 59, 10, 10] : List UInt8), ([59, 32, 34, 97, 10, 32, 32, 32] : List UInt8), ([10] : List UInt8)]
def zem : List (List UInt8) := [([] : List UInt8), ([32] : List UInt8), ([32, 32, 59, 32, 120, 59, 34] : List UInt8), ([32, 59] : List UInt8), ([59, 255] : List UInt8)]
def atI (l : List Int) (i : Int) : Int := if i < 0 ∨ ln l ≤ i then 0 else ix l i
def qie (l : List Row) : List Row := l.map fun r => ⟨r.At, ([] : List Word) ++ r.Words⟩
def q9q (g : List Int) (i : Int) (r : Row) : List UInt8 := ((ix zel (qfh (atI g i) 5) ++ qdh r.Words) ++ ix zem (qfh (atI g (i + 7)) 5)) ++ ([10] : List UInt8)
def qy2 (g : List Int) (i : Int) : List Row → List UInt8
  | [] => []
  | r :: rs => q9q g i r ++ qy2 g (i + 1) rs
end Go.Proofs.YtofmpipjklcjhaaDoor
