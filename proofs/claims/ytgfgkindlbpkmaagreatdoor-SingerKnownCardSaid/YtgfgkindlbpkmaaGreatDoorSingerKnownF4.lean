/- CALLS THAT THE LAW SingerKnown MAKES: run by the kernel over E2, part 4. Made by program. No condition. -/
import Derived.Test.YtgfgkindlbpkmaaGreatDoorRows
import Derived.Test.YtgfgkindlbpkmaaGreatDoorSingerKnownD
namespace Go.Proofs.YtgfgkindlbpkmaaGreatDoor.singerKnown
open Go
set_option maxRecDepth 100000
theorem run12 : E2.Fact.ok2 fact12 (E2.envOf Tryz.prog (E2.specR [])) 1000 = true := by kernel_rfl
theorem run13 : E2.Fact.ok2 fact13 (E2.envOf Tryz.prog (E2.specR [fact12])) 1000 = true := by kernel_rfl
theorem run14 : E2.Fact.ok2 fact14 (E2.envOf Tryz.prog (E2.specR [fact12])) 1000 = true := by kernel_rfl
theorem run15 : E2.Fact.ok2 fact15 (E2.envOf Tryz.prog (E2.specR [])) 1000 = true := by kernel_rfl
theorem run16 : E2.Fact.ok2 fact16 (E2.envOf Tryz.prog (E2.specR [fact10, fact11, fact13, fact14, fact15])) 1000 = true := by kernel_rfl
theorem run17 : E2.Fact.ok2 fact17 (E2.envOf Tryz.prog (E2.specR [fact16])) 1000 = true := by kernel_rfl
theorem run18 : E2.Fact.ok2 fact18 (E2.envOf Tryz.prog (E2.specR [])) 1000 = true := by kernel_rfl
end Go.Proofs.YtgfgkindlbpkmaaGreatDoor.singerKnown
