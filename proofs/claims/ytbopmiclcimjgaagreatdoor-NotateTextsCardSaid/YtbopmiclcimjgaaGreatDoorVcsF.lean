/- CONDITIONS, as E3 computes them. Made by program (vc.py). -/
import Derived.Test.YtbopmiclcimjgaaGreatDoorCts
namespace Go.Proofs.YtbopmiclcimjgaaGreatDoor
open Go Go.E2 Go.E3
set_option maxRecDepth 100000
variable {sp:Nat->Option (List V->Heap->Option (CR×Heap))}

end Go.Proofs.YtbopmiclcimjgaaGreatDoor
