/- THE CHECKED PROGRAM's TABLES, as E2 asks for them. No condition. -/
import Derived.Test.YthmjalcblddfkaaGreatDoorE2z
import Derived.Test.YthmjalcblddfkaaGreatDoorRows
namespace Go.Proofs.YthmjalcblddfkaaGreatDoor.canonKnown
open Go
set_option maxRecDepth 100000
theorem tables : E2.progOk Tryz.prog = true := by kernel_rfl
end Go.Proofs.YthmjalcblddfkaaGreatDoor.canonKnown
