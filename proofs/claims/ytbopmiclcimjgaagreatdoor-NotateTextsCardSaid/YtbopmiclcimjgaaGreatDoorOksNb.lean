/- THE CONDITION of the program's reading of a word holds. Printed by okn.py. -/
import Derived.Test.YtbopmiclcimjgaaGreatDoorOksN
namespace Go.Proofs.YtbopmiclcimjgaaGreatDoor
open Go Go.E2 Go.E3
set_option maxRecDepth 100000

end Go.Proofs.YtbopmiclcimjgaaGreatDoor
