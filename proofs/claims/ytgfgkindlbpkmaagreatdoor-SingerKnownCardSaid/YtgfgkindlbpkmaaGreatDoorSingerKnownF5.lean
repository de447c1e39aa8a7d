/- CALLS THAT THE LAW SingerKnown MAKES: run by the kernel over E2, part 5. Made by program. No condition. -/
import Derived.Test.YtgfgkindlbpkmaaGreatDoorRows
import Derived.Test.YtgfgkindlbpkmaaGreatDoorSingerKnownD
namespace Go.Proofs.YtgfgkindlbpkmaaGreatDoor.singerKnown
open Go
set_option maxRecDepth 100000
theorem run19 : E2.Fact.ok2 fact19 (E2.envOf Tryz.prog (E2.specR [fact16, fact18])) 1000 = true := by kernel_rfl
theorem run20 : E2.Fact.ok2 fact20 (E2.envOf Tryz.prog (E2.specR [fact18])) 1000 = true := by kernel_rfl
theorem run21 : E2.Fact.ok2 fact21 (E2.envOf Tryz.prog (E2.specR [])) 1000 = true := by kernel_rfl
theorem run22 : E2.Fact.ok2 fact22 (E2.envOf Tryz.prog (E2.specR [fact18, fact21])) 1000 = true := by kernel_rfl
theorem run23 : E2.Fact.ok2 fact23 (E2.envOf Tryz.prog (E2.specR [])) 1000 = true := by kernel_rfl
theorem run24 : E2.Fact.ok2 fact24 (E2.envOf Tryz.prog (E2.specR [])) 1000 = true := by kernel_rfl
theorem run25 : E2.Fact.ok2 fact25 (E2.envOf Tryz.prog (E2.specR [fact23, fact24])) 1000 = true := by kernel_rfl
end Go.Proofs.YtgfgkindlbpkmaaGreatDoor.singerKnown
