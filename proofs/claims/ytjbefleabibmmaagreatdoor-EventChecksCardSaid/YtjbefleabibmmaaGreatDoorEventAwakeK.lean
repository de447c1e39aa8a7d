/- THE RUN OF THE LAW EventAwake, by the kernel over E2, its greater calls by facts. Made by program. No condition. -/
import Derived.Test.YtjbefleabibmmaaGreatDoorRows
import Derived.Test.YtjbefleabibmmaaGreatDoorEventAwakeD
import Derived.Test.YtjbefleabibmmaaGreatDoorEventGlob
namespace Go.Proofs.YtjbefleabibmmaaGreatDoor.eventAwake
open Go
set_option maxRecDepth 100000
def awakeF : E2.Fact := { f := 5, args := [], pre := glob, next := 9, ro := 9, glob := 9, ret := .bool true, post := [], next' := 1395 }
theorem awakeRun : E2.Fact.ok2 awakeF (E2.envOf Tryz.prog (E2.specR [fact4, fact7, fact6])) 1000 = true := by kernel_rfl
end Go.Proofs.YtjbefleabibmmaaGreatDoor.eventAwake
