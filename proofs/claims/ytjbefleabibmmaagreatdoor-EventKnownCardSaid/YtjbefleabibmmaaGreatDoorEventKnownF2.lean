/- CALLS THAT THE LAW EventKnown MAKES: run by the kernel over E2, part 2. Made by program. No condition. -/
import Derived.Test.YtjbefleabibmmaaGreatDoorRows
import Derived.Test.YtjbefleabibmmaaGreatDoorEventKnownD
namespace Go.Proofs.YtjbefleabibmmaaGreatDoor.eventKnown
open Go
set_option maxRecDepth 100000
theorem run7 : E2.Fact.ok2 fact7 (E2.envOf Tryz.prog (E2.specR [fact0])) 1000 = true := by kernel_rfl
theorem run8 : E2.Fact.ok2 fact8 (E2.envOf Tryz.prog (E2.specR [fact6, fact5, fact0, fact7])) 1000 = true := by kernel_rfl
theorem run9 : E2.Fact.ok2 fact9 (E2.envOf Tryz.prog (E2.specR [])) 1000 = true := by kernel_rfl
theorem run10 : E2.Fact.ok2 fact10 (E2.envOf Tryz.prog (E2.specR [fact0])) 1000 = true := by kernel_rfl
theorem run11 : E2.Fact.ok2 fact11 (E2.envOf Tryz.prog (E2.specR [fact10, fact0])) 1000 = true := by kernel_rfl
theorem run12 : E2.Fact.ok2 fact12 (E2.envOf Tryz.prog (E2.specR [])) 1000 = true := by kernel_rfl
theorem run13 : E2.Fact.ok2 fact13 (E2.envOf Tryz.prog (E2.specR [fact12])) 1000 = true := by kernel_rfl
end Go.Proofs.YtjbefleabibmmaaGreatDoor.eventKnown
