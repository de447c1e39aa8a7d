/- CALLS THAT THE LAW SingerKnown MAKES: run by the kernel over E2, part 2. Made by program. No condition. -/
import Derived.Test.YtgfgkindlbpkmaaGreatDoorRows
import Derived.Test.YtgfgkindlbpkmaaGreatDoorSingerKnownD
namespace Go.Proofs.YtgfgkindlbpkmaaGreatDoor.singerKnown
open Go
set_option maxRecDepth 100000
theorem run3 : E2.Fact.ok2 fact3 (E2.envOf Tryz.prog (E2.specR [fact2])) 1000 = true := by kernel_rfl
theorem run4 : E2.Fact.ok2 fact4 (E2.envOf Tryz.prog (E2.specR [fact2])) 1000 = true := by kernel_rfl
theorem run5 : E2.Fact.ok2 fact5 (E2.envOf Tryz.prog (E2.specR [fact4])) 1000 = true := by kernel_rfl
theorem run6 : E2.Fact.ok2 fact6 (E2.envOf Tryz.prog (E2.specR [])) 1000 = true := by kernel_rfl
theorem run7 : E2.Fact.ok2 fact7 (E2.envOf Tryz.prog (E2.specR [fact6])) 1000 = true := by kernel_rfl
end Go.Proofs.YtgfgkindlbpkmaaGreatDoor.singerKnown
