/- CALLS THAT THE LAW SingerKnown MAKES: run by the kernel over E2, part 9. Made by program. No condition. -/
import Derived.Test.YtgfgkindlbpkmaaGreatDoorRows
import Derived.Test.YtgfgkindlbpkmaaGreatDoorSingerKnownD
namespace Go.Proofs.YtgfgkindlbpkmaaGreatDoor.singerKnown
open Go
set_option maxRecDepth 100000
theorem run36 : E2.Fact.ok2 fact36 (E2.envOf Tryz.prog (E2.specR [fact34, fact35])) 1000 = true := by kernel_rfl
theorem run37 : E2.Fact.ok2 fact37 (E2.envOf Tryz.prog (E2.specR [fact2, fact4, fact35])) 1000 = true := by kernel_rfl
end Go.Proofs.YtgfgkindlbpkmaaGreatDoor.singerKnown
