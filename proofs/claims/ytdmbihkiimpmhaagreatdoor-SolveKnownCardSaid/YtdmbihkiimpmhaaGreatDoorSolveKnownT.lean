/- THE CHECKED PROGRAM's TABLES, as E2 asks for them. No condition. -/
import Derived.Test.YtdmbihkiimpmhaaGreatDoorE2z
import Derived.Test.YtdmbihkiimpmhaaGreatDoorRows
namespace Go.Proofs.YtdmbihkiimpmhaaGreatDoor.solveKnown
open Go
set_option maxRecDepth 100000
theorem tables : E2.progOk Tryz.prog = true := by kernel_rfl
end Go.Proofs.YtdmbihkiimpmhaaGreatDoor.solveKnown
