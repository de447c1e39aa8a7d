/- CALLS THAT THE LAW SingerKnown MAKES: run by the kernel over E2, part 11. Made by program. No condition. -/
import Derived.Test.YtgfgkindlbpkmaaGreatDoorRows
import Derived.Test.YtgfgkindlbpkmaaGreatDoorSingerKnownD
namespace Go.Proofs.YtgfgkindlbpkmaaGreatDoor.singerKnown
open Go
set_option maxRecDepth 100000
theorem run41 : E2.Fact.ok2 fact41 (E2.envOf Tryz.prog (E2.specR [])) 1000 = true := by kernel_rfl
theorem run42 : E2.Fact.ok2 fact42 (E2.envOf Tryz.prog (E2.specR [fact1, fact39])) 1000 = true := by kernel_rfl
theorem run43 : E2.Fact.ok2 fact43 (E2.envOf Tryz.prog (E2.specR [])) 1000 = true := by kernel_rfl
theorem run44 : E2.Fact.ok2 fact44 (E2.envOf Tryz.prog (E2.specR [fact41, fact43])) 1000 = true := by kernel_rfl
theorem run45 : E2.Fact.ok2 fact45 (E2.envOf Tryz.prog (E2.specR [])) 1000 = true := by kernel_rfl
theorem run46 : E2.Fact.ok2 fact46 (E2.envOf Tryz.prog (E2.specR [fact42])) 1000 = true := by kernel_rfl
end Go.Proofs.YtgfgkindlbpkmaaGreatDoor.singerKnown
