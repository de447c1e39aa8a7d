/- CALLS THAT THE LAW SingerKnown MAKES: run by the kernel over E2, part 7. Made by program. No condition. -/
import Derived.Test.YtgfgkindlbpkmaaGreatDoorRows
import Derived.Test.YtgfgkindlbpkmaaGreatDoorSingerKnownD
namespace Go.Proofs.YtgfgkindlbpkmaaGreatDoor.singerKnown
open Go
set_option maxRecDepth 100000
theorem run31 : E2.Fact.ok2 fact31 (E2.envOf Tryz.prog (E2.specR [fact16, fact17, fact19, fact20, fact21, fact22, fact25, fact26, fact27, fact28, fact29, fact30])) 1000 = true := by kernel_rfl
theorem run32 : E2.Fact.ok2 fact32 (E2.envOf Tryz.prog (E2.specR [fact18, fact21, fact25, fact27, fact29])) 1000 = true := by kernel_rfl
theorem run33 : E2.Fact.ok2 fact33 (E2.envOf Tryz.prog (E2.specR [fact6, fact8, fact9, fact31, fact16, fact32])) 1000 = true := by kernel_rfl
end Go.Proofs.YtgfgkindlbpkmaaGreatDoor.singerKnown
