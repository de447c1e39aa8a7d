/- CALLS THAT THE LAW EventKnown MAKES: run by the kernel over E2, part 3. Made by program. No condition. -/
import Derived.Test.YtjbefleabibmmaaGreatDoorRows
import Derived.Test.YtjbefleabibmmaaGreatDoorEventKnownD
namespace Go.Proofs.YtjbefleabibmmaaGreatDoor.eventKnown
open Go
set_option maxRecDepth 100000
theorem run14 : E2.Fact.ok2 fact14 (E2.envOf Tryz.prog (E2.specR [fact12])) 1000 = true := by kernel_rfl
theorem run15 : E2.Fact.ok2 fact15 (E2.envOf Tryz.prog (E2.specR [fact14, fact12])) 1000 = true := by kernel_rfl
theorem run16 : E2.Fact.ok2 fact16 (E2.envOf Tryz.prog (E2.specR [fact12, fact13, fact4, fact15, fact14])) 1000 = true := by kernel_rfl
theorem run17 : E2.Fact.ok2 fact17 (E2.envOf Tryz.prog (E2.specR [fact0])) 1000 = true := by kernel_rfl
theorem run18 : E2.Fact.ok2 fact18 (E2.envOf Tryz.prog (E2.specR [fact17, fact0])) 1000 = true := by kernel_rfl
theorem run19 : E2.Fact.ok2 fact19 (E2.envOf Tryz.prog (E2.specR [fact18, fact17, fact0, fact7])) 1000 = true := by kernel_rfl
end Go.Proofs.YtjbefleabibmmaaGreatDoor.eventKnown
