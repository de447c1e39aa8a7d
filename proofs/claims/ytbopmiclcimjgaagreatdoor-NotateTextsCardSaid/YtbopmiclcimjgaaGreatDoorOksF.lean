/- THE CONDITION of the specification's reading of a word holds. -/
import Derived.Test.YtbopmiclcimjgaaGreatDoorOksA
import Derived.Test.YtbopmiclcimjgaaGreatDoorVcsF
namespace Go.Proofs.YtbopmiclcimjgaaGreatDoor
open Go Go.E2 Go.E3
set_option maxRecDepth 100000

/-! ### The head of a note -/
/-! ### By the first byte -/
section
variable {w:List UInt8} (n0:w≠[]) (n1:w≠[46]) (n2:w≠[91]) (n3:w≠[116,117,114,110]) (n4:w≠[115,105,103])
 include n0 n1 n2 n3 n4
end

end Go.Proofs.YtbopmiclcimjgaaGreatDoor
