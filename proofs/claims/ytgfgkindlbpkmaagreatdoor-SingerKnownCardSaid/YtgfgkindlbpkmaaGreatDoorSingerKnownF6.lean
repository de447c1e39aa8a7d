/- CALLS THAT THE LAW SingerKnown MAKES: run by the kernel over E2, part 6. Made by program. No condition. -/
import Derived.Test.YtgfgkindlbpkmaaGreatDoorRows
import Derived.Test.YtgfgkindlbpkmaaGreatDoorSingerKnownD
namespace Go.Proofs.YtgfgkindlbpkmaaGreatDoor.singerKnown
open Go
set_option maxRecDepth 100000
theorem run26 : E2.Fact.ok2 fact26 (E2.envOf Tryz.prog (E2.specR [fact18, fact21, fact25])) 1000 = true := by kernel_rfl
theorem run27 : E2.Fact.ok2 fact27 (E2.envOf Tryz.prog (E2.specR [])) 1000 = true := by kernel_rfl
theorem run28 : E2.Fact.ok2 fact28 (E2.envOf Tryz.prog (E2.specR [fact18, fact21, fact25, fact27])) 1000 = true := by kernel_rfl
theorem run29 : E2.Fact.ok2 fact29 (E2.envOf Tryz.prog (E2.specR [])) 1000 = true := by kernel_rfl
theorem run30 : E2.Fact.ok2 fact30 (E2.envOf Tryz.prog (E2.specR [fact18, fact21, fact25, fact27, fact29])) 1000 = true := by kernel_rfl
end Go.Proofs.YtgfgkindlbpkmaaGreatDoor.singerKnown
