/- CALLS THAT THE LAW ChoirKnown MAKES: run by the kernel over E2, part 3. Made by program. No condition. -/
import Derived.Test.YtnhamonadkmgeaaGreatDoorRows
import Derived.Test.YtnhamonadkmgeaaGreatDoorChoirKnownD
namespace Go.Proofs.YtnhamonadkmgeaaGreatDoor.choirKnown
open Go
set_option maxRecDepth 100000
theorem run15 : E2.Fact.ok2 fact15 (E2.envOf Tryz.prog (E2.specR [])) 1000 = true := by kernel_rfl
theorem run16 : E2.Fact.ok2 fact16 (E2.envOf Tryz.prog (E2.specR [])) 1000 = true := by kernel_rfl
theorem run17 : E2.Fact.ok2 fact17 (E2.envOf Tryz.prog (E2.specR [fact15, fact16])) 1000 = true := by kernel_rfl
theorem run18 : E2.Fact.ok2 fact18 (E2.envOf Tryz.prog (E2.specR [fact1])) 1000 = true := by kernel_rfl
theorem run19 : E2.Fact.ok2 fact19 (E2.envOf Tryz.prog (E2.specR [fact1])) 1000 = true := by kernel_rfl
theorem run20 : E2.Fact.ok2 fact20 (E2.envOf Tryz.prog (E2.specR [fact18, fact19])) 1000 = true := by kernel_rfl
end Go.Proofs.YtnhamonadkmgeaaGreatDoor.choirKnown
