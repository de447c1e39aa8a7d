/- CALLS THAT THE LAW EventAwake MAKES: run by the kernel over E2, part 1. Made by program. No condition. -/
import Derived.Test.YtjbefleabibmmaaGreatDoorRows
import Derived.Test.YtjbefleabibmmaaGreatDoorEventAwakeD
namespace Go.Proofs.YtjbefleabibmmaaGreatDoor.eventAwake
open Go
set_option maxRecDepth 100000
theorem run0 : E2.Fact.ok2 fact0 (E2.envOf Tryz.prog (E2.specR [])) 1000 = true := by kernel_rfl
theorem run1 : E2.Fact.ok2 fact1 (E2.envOf Tryz.prog (E2.specR [fact0])) 1000 = true := by kernel_rfl
theorem run2 : E2.Fact.ok2 fact2 (E2.envOf Tryz.prog (E2.specR [fact1, fact0])) 1000 = true := by kernel_rfl
theorem run3 : E2.Fact.ok2 fact3 (E2.envOf Tryz.prog (E2.specR [fact0])) 1000 = true := by kernel_rfl
theorem run4 : E2.Fact.ok2 fact4 (E2.envOf Tryz.prog (E2.specR [fact2, fact1, fact0, fact3])) 1000 = true := by kernel_rfl
theorem run5 : E2.Fact.ok2 fact5 (E2.envOf Tryz.prog (E2.specR [])) 1000 = true := by kernel_rfl
theorem run6 : E2.Fact.ok2 fact6 (E2.envOf Tryz.prog (E2.specR [fact5])) 1000 = true := by kernel_rfl
end Go.Proofs.YtjbefleabibmmaaGreatDoor.eventAwake
