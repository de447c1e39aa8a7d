/- THE CHECKED PROGRAM's TABLES, as E2 asks for them. No condition. -/
import Derived.Test.YteoomgmjbhcepaaGreatDoorE2z
import Derived.Test.YteoomgmjbhcepaaGreatDoorRows
namespace Go.Proofs.YteoomgmjbhcepaaGreatDoor.collateKnown
open Go
set_option maxRecDepth 100000
theorem tables : E2.progOk Tryz.prog = true := by kernel_rfl
end Go.Proofs.YteoomgmjbhcepaaGreatDoor.collateKnown
