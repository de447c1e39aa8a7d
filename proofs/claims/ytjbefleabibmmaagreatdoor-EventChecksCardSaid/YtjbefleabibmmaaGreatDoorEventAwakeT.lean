/- THE CHECKED PROGRAM's TABLES, as E2 asks for them. Made by program. No condition. -/
import Derived.Test.YtjbefleabibmmaaGreatDoorM2
import Derived.Test.YtjbefleabibmmaaGreatDoorRows
namespace Go.Proofs.YtjbefleabibmmaaGreatDoor.eventAwake
open Go
set_option maxRecDepth 100000
theorem tables : E2.progOk Tryz.prog = true := by kernel_rfl
end Go.Proofs.YtjbefleabibmmaaGreatDoor.eventAwake
