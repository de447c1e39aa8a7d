/- CALLS THAT THE LAW EventKnown MAKES: run by the kernel over E2, part 4. Made by program. No condition. -/
import Derived.Test.YtjbefleabibmmaaGreatDoorRows
import Derived.Test.YtjbefleabibmmaaGreatDoorEventKnownD
namespace Go.Proofs.YtjbefleabibmmaaGreatDoor.eventKnown
open Go
set_option maxRecDepth 100000
theorem run20 : E2.Fact.ok2 fact20 (E2.envOf Tryz.prog (E2.specR [fact9])) 1000 = true := by kernel_rfl
theorem run21 : E2.Fact.ok2 fact21 (E2.envOf Tryz.prog (E2.specR [fact9])) 1000 = true := by kernel_rfl
theorem run22 : E2.Fact.ok2 fact22 (E2.envOf Tryz.prog (E2.specR [])) 1000 = true := by kernel_rfl
theorem run23 : E2.Fact.ok2 fact23 (E2.envOf Tryz.prog (E2.specR [fact22])) 1000 = true := by kernel_rfl
theorem run24 : E2.Fact.ok2 fact24 (E2.envOf Tryz.prog (E2.specR [])) 1000 = true := by kernel_rfl
theorem run25 : E2.Fact.ok2 fact25 (E2.envOf Tryz.prog (E2.specR [fact24])) 1000 = true := by kernel_rfl
theorem run26 : E2.Fact.ok2 fact26 (E2.envOf Tryz.prog (E2.specR [fact22])) 1000 = true := by kernel_rfl
theorem run27 : E2.Fact.ok2 fact27 (E2.envOf Tryz.prog (E2.specR [fact22])) 1000 = true := by kernel_rfl
end Go.Proofs.YtjbefleabibmmaaGreatDoor.eventKnown
