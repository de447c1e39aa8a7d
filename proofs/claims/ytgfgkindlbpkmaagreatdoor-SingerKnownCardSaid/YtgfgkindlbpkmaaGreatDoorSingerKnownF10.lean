/- CALLS THAT THE LAW SingerKnown MAKES: run by the kernel over E2, part 10. Made by program. No condition. -/
import Derived.Test.YtgfgkindlbpkmaaGreatDoorRows
import Derived.Test.YtgfgkindlbpkmaaGreatDoorSingerKnownD
namespace Go.Proofs.YtgfgkindlbpkmaaGreatDoor.singerKnown
open Go
set_option maxRecDepth 100000
theorem run38 : E2.Fact.ok2 fact38 (E2.envOf Tryz.prog (E2.specR [fact36, fact34, fact2, fact4, fact37])) 1000 = true := by kernel_rfl
theorem run39 : E2.Fact.ok2 fact39 (E2.envOf Tryz.prog (E2.specR [fact3, fact2, fact4, fact5, fact33, fact38])) 1000 = true := by kernel_rfl
theorem run40 : E2.Fact.ok2 fact40 (E2.envOf Tryz.prog (E2.specR [])) 1000 = true := by kernel_rfl
end Go.Proofs.YtgfgkindlbpkmaaGreatDoor.singerKnown
