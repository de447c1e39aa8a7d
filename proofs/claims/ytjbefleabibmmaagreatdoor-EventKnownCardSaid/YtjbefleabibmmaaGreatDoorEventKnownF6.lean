/- CALLS THAT THE LAW EventKnown MAKES: run by the kernel over E2, part 6. Made by program. No condition. -/
import Derived.Test.YtjbefleabibmmaaGreatDoorRows
import Derived.Test.YtjbefleabibmmaaGreatDoorEventKnownD
namespace Go.Proofs.YtjbefleabibmmaaGreatDoor.eventKnown
open Go
set_option maxRecDepth 100000
theorem run35 : E2.Fact.ok2 fact35 (E2.envOf Tryz.prog (E2.specR [fact31, fact32, fact33, fact34])) 1000 = true := by kernel_rfl
theorem run36 : E2.Fact.ok2 fact36 (E2.envOf Tryz.prog (E2.specR [fact31])) 1000 = true := by kernel_rfl
theorem run37 : E2.Fact.ok2 fact37 (E2.envOf Tryz.prog (E2.specR [fact31])) 1000 = true := by kernel_rfl
theorem run38 : E2.Fact.ok2 fact38 (E2.envOf Tryz.prog (E2.specR [fact36, fact37])) 1000 = true := by kernel_rfl
theorem run39 : E2.Fact.ok2 fact39 (E2.envOf Tryz.prog (E2.specR [fact38, fact36, fact31, fact37])) 1000 = true := by kernel_rfl
theorem run40 : E2.Fact.ok2 fact40 (E2.envOf Tryz.prog (E2.specR [])) 1000 = true := by kernel_rfl
end Go.Proofs.YtjbefleabibmmaaGreatDoor.eventKnown
