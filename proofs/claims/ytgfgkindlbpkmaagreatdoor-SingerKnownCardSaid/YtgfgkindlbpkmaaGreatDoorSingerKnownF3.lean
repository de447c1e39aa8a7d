/- CALLS THAT THE LAW SingerKnown MAKES: run by the kernel over E2, part 3. Made by program. No condition. -/
import Derived.Test.YtgfgkindlbpkmaaGreatDoorRows
import Derived.Test.YtgfgkindlbpkmaaGreatDoorSingerKnownD
namespace Go.Proofs.YtgfgkindlbpkmaaGreatDoor.singerKnown
open Go
set_option maxRecDepth 100000
theorem run8 : E2.Fact.ok2 fact8 (E2.envOf Tryz.prog (E2.specR [fact7])) 1000 = true := by kernel_rfl
theorem run9 : E2.Fact.ok2 fact9 (E2.envOf Tryz.prog (E2.specR [])) 1000 = true := by kernel_rfl
theorem run10 : E2.Fact.ok2 fact10 (E2.envOf Tryz.prog (E2.specR [])) 1000 = true := by kernel_rfl
theorem run11 : E2.Fact.ok2 fact11 (E2.envOf Tryz.prog (E2.specR [])) 1000 = true := by kernel_rfl
end Go.Proofs.YtgfgkindlbpkmaaGreatDoor.singerKnown
