/- THE PLAIN LAW: the program's reading of a word, kind by kind, and the specification's, by the first byte, are one. -/
import Derived.Test.YtbopmiclcimjgaaGreatDoorOksF
import Derived.Test.YtbopmiclcimjgaaGreatDoorOksN
namespace Go.Proofs.YtbopmiclcimjgaaGreatDoor
open Go Go.E2 Go.E3
set_option maxRecDepth 100000

section
variable {w:List UInt8} {i:Int} {c:UInt8}
/-! ### Numbers -/
end

/-! ### Kind by kind -/
/-! ### Mensurations -/
/-! ### Proportions -/
/-! ### All kinds -/
end Go.Proofs.YtbopmiclcimjgaaGreatDoor
