/- CALLS THAT THE LAW EventAwake MAKES: run by the kernel over E2, part 2. Made by program. No condition. -/
import Derived.Test.YtjbefleabibmmaaGreatDoorRows
import Derived.Test.YtjbefleabibmmaaGreatDoorEventAwakeD
namespace Go.Proofs.YtjbefleabibmmaaGreatDoor.eventAwake
open Go
set_option maxRecDepth 100000
theorem run7 : E2.Fact.ok2 fact7 (E2.envOf Tryz.prog (E2.specR [])) 1000 = true := by kernel_rfl
end Go.Proofs.YtjbefleabibmmaaGreatDoor.eventAwake
