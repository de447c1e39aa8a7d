/- THE CHECKED PROGRAM's TABLES, as E2 asks for them. Made by program. No condition. -/
import Derived.Test.YtbopmiclcimjgaaGreatDoorM2
import Derived.Test.YtbopmiclcimjgaaGreatDoorRows
namespace Go.Proofs.YtbopmiclcimjgaaGreatDoor.notateAwake
open Go
set_option maxRecDepth 100000
theorem tables:E2.qly Tryz.prog=true:=by kernel_rfl
end Go.Proofs.YtbopmiclcimjgaaGreatDoor.notateAwake
