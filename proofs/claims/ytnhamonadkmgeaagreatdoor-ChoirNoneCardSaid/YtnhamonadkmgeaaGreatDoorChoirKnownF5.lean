/- CALLS THAT THE LAW ChoirKnown MAKES: run by the kernel over E2, part 5. Made by program. No condition. -/
import Derived.Test.YtnhamonadkmgeaaGreatDoorRows
import Derived.Test.YtnhamonadkmgeaaGreatDoorChoirKnownD
namespace Go.Proofs.YtnhamonadkmgeaaGreatDoor.choirKnown
open Go
set_option maxRecDepth 100000
theorem run27 : E2.Fact.ok2 fact27 (E2.envOf Tryz.prog (E2.specR [fact2, fact26])) 1000 = true := by kernel_rfl
theorem run28 : E2.Fact.ok2 fact28 (E2.envOf Tryz.prog (E2.specR [])) 1000 = true := by kernel_rfl
theorem run29 : E2.Fact.ok2 fact29 (E2.envOf Tryz.prog (E2.specR [])) 1000 = true := by kernel_rfl
theorem run30 : E2.Fact.ok2 fact30 (E2.envOf Tryz.prog (E2.specR [])) 1000 = true := by kernel_rfl
theorem run31 : E2.Fact.ok2 fact31 (E2.envOf Tryz.prog (E2.specR [])) 1000 = true := by kernel_rfl
theorem run32 : E2.Fact.ok2 fact32 (E2.envOf Tryz.prog (E2.specR [fact31])) 1000 = true := by kernel_rfl
theorem run33 : E2.Fact.ok2 fact33 (E2.envOf Tryz.prog (E2.specR [])) 1000 = true := by kernel_rfl
theorem run34 : E2.Fact.ok2 fact34 (E2.envOf Tryz.prog (E2.specR [fact33])) 1000 = true := by kernel_rfl
theorem run35 : E2.Fact.ok2 fact35 (E2.envOf Tryz.prog (E2.specR [fact34])) 1000 = true := by kernel_rfl
theorem run36 : E2.Fact.ok2 fact36 (E2.envOf Tryz.prog (E2.specR [fact35])) 1000 = true := by kernel_rfl
theorem run37 : E2.Fact.ok2 fact37 (E2.envOf Tryz.prog (E2.specR [])) 1000 = true := by kernel_rfl
theorem run38 : E2.Fact.ok2 fact38 (E2.envOf Tryz.prog (E2.specR [fact37])) 1000 = true := by kernel_rfl
theorem run39 : E2.Fact.ok2 fact39 (E2.envOf Tryz.prog (E2.specR [fact38])) 1000 = true := by kernel_rfl
theorem run40 : E2.Fact.ok2 fact40 (E2.envOf Tryz.prog (E2.specR [fact39])) 1000 = true := by kernel_rfl
end Go.Proofs.YtnhamonadkmgeaaGreatDoor.choirKnown
