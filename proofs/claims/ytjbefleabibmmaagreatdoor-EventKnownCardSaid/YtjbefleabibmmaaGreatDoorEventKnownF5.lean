/- CALLS THAT THE LAW EventKnown MAKES: run by the kernel over E2, part 5. Made by program. No condition. -/
import Derived.Test.YtjbefleabibmmaaGreatDoorRows
import Derived.Test.YtjbefleabibmmaaGreatDoorEventKnownD
namespace Go.Proofs.YtjbefleabibmmaaGreatDoor.eventKnown
open Go
set_option maxRecDepth 100000
theorem run28 : E2.Fact.ok2 fact28 (E2.envOf Tryz.prog (E2.specR [fact26, fact27])) 1000 = true := by kernel_rfl
theorem run29 : E2.Fact.ok2 fact29 (E2.envOf Tryz.prog (E2.specR [fact28, fact26, fact22, fact27])) 1000 = true := by kernel_rfl
theorem run30 : E2.Fact.ok2 fact30 (E2.envOf Tryz.prog (E2.specR [fact22, fact23, fact25, fact29])) 1000 = true := by kernel_rfl
theorem run31 : E2.Fact.ok2 fact31 (E2.envOf Tryz.prog (E2.specR [])) 1000 = true := by kernel_rfl
theorem run32 : E2.Fact.ok2 fact32 (E2.envOf Tryz.prog (E2.specR [fact31])) 1000 = true := by kernel_rfl
theorem run33 : E2.Fact.ok2 fact33 (E2.envOf Tryz.prog (E2.specR [])) 1000 = true := by kernel_rfl
theorem run34 : E2.Fact.ok2 fact34 (E2.envOf Tryz.prog (E2.specR [])) 1000 = true := by kernel_rfl
end Go.Proofs.YtjbefleabibmmaaGreatDoor.eventKnown
