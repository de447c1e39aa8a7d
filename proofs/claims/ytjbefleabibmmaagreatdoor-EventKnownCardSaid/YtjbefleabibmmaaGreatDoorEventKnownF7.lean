/- CALLS THAT THE LAW EventKnown MAKES: run by the kernel over E2, part 7. Made by program. No condition. -/
import Derived.Test.YtjbefleabibmmaaGreatDoorRows
import Derived.Test.YtjbefleabibmmaaGreatDoorEventKnownD
namespace Go.Proofs.YtjbefleabibmmaaGreatDoor.eventKnown
open Go
set_option maxRecDepth 100000
theorem run41 : E2.Fact.ok2 fact41 (E2.envOf Tryz.prog (E2.specR [fact9])) 1000 = true := by kernel_rfl
theorem run42 : E2.Fact.ok2 fact42 (E2.envOf Tryz.prog (E2.specR [fact9])) 1000 = true := by kernel_rfl
theorem run43 : E2.Fact.ok2 fact43 (E2.envOf Tryz.prog (E2.specR [])) 1000 = true := by kernel_rfl
theorem run44 : E2.Fact.ok2 fact44 (E2.envOf Tryz.prog (E2.specR [])) 1000 = true := by kernel_rfl
theorem run45 : E2.Fact.ok2 fact45 (E2.envOf Tryz.prog (E2.specR [fact0])) 1000 = true := by kernel_rfl
theorem run46 : E2.Fact.ok2 fact46 (E2.envOf Tryz.prog (E2.specR [fact0])) 1000 = true := by kernel_rfl
theorem run47 : E2.Fact.ok2 fact47 (E2.envOf Tryz.prog (E2.specR [fact45, fact46, fact1, fact4])) 1000 = true := by kernel_rfl
theorem run48 : E2.Fact.ok2 fact48 (E2.envOf Tryz.prog (E2.specR [])) 1000 = true := by kernel_rfl
theorem run49 : E2.Fact.ok2 fact49 (E2.envOf Tryz.prog (E2.specR [])) 1000 = true := by kernel_rfl
theorem run50 : E2.Fact.ok2 fact50 (E2.envOf Tryz.prog (E2.specR [])) 1000 = true := by kernel_rfl
theorem run51 : E2.Fact.ok2 fact51 (E2.envOf Tryz.prog (E2.specR [])) 1000 = true := by kernel_rfl
theorem run52 : E2.Fact.ok2 fact52 (E2.envOf Tryz.prog (E2.specR [fact45, fact46, fact51])) 1000 = true := by kernel_rfl
theorem run53 : E2.Fact.ok2 fact53 (E2.envOf Tryz.prog (E2.specR [fact19, fact48, fact20, fact21])) 1000 = true := by kernel_rfl
theorem run54 : E2.Fact.ok2 fact54 (E2.envOf Tryz.prog (E2.specR [])) 1000 = true := by kernel_rfl
end Go.Proofs.YtjbefleabibmmaaGreatDoor.eventKnown
