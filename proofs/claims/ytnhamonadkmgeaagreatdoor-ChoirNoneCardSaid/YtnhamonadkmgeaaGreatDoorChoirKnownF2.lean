/- CALLS THAT THE LAW ChoirKnown MAKES: run by the kernel over E2, part 2. Made by program. No condition. -/
import Derived.Test.YtnhamonadkmgeaaGreatDoorRows
import Derived.Test.YtnhamonadkmgeaaGreatDoorChoirKnownD
namespace Go.Proofs.YtnhamonadkmgeaaGreatDoor.choirKnown
open Go
set_option maxRecDepth 100000
theorem run8 : E2.Fact.ok2 fact8 (E2.envOf Tryz.prog (E2.specR [fact0])) 1000 = true := by kernel_rfl
theorem run9 : E2.Fact.ok2 fact9 (E2.envOf Tryz.prog (E2.specR [fact8, fact0])) 1000 = true := by kernel_rfl
theorem run10 : E2.Fact.ok2 fact10 (E2.envOf Tryz.prog (E2.specR [fact0])) 1000 = true := by kernel_rfl
theorem run11 : E2.Fact.ok2 fact11 (E2.envOf Tryz.prog (E2.specR [fact9, fact8, fact0, fact10])) 1000 = true := by kernel_rfl
theorem run12 : E2.Fact.ok2 fact12 (E2.envOf Tryz.prog (E2.specR [])) 1000 = true := by kernel_rfl
theorem run13 : E2.Fact.ok2 fact13 (E2.envOf Tryz.prog (E2.specR [fact1])) 1000 = true := by kernel_rfl
theorem run14 : E2.Fact.ok2 fact14 (E2.envOf Tryz.prog (E2.specR [fact1])) 1000 = true := by kernel_rfl
end Go.Proofs.YtnhamonadkmgeaaGreatDoor.choirKnown
