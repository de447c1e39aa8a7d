/- CALLS THAT THE LAW ChoirKnown MAKES: run by the kernel over E2, part 4. Made by program. No condition. -/
import Derived.Test.YtnhamonadkmgeaaGreatDoorRows
import Derived.Test.YtnhamonadkmgeaaGreatDoorChoirKnownD
namespace Go.Proofs.YtnhamonadkmgeaaGreatDoor.choirKnown
open Go
set_option maxRecDepth 100000
theorem run21 : E2.Fact.ok2 fact21 (E2.envOf Tryz.prog (E2.specR [fact1])) 1000 = true := by kernel_rfl
theorem run22 : E2.Fact.ok2 fact22 (E2.envOf Tryz.prog (E2.specR [fact20, fact18, fact21, fact1, fact19])) 1000 = true := by kernel_rfl
theorem run23 : E2.Fact.ok2 fact23 (E2.envOf Tryz.prog (E2.specR [fact1, fact14, fact17, fact22])) 1000 = true := by kernel_rfl
theorem run24 : E2.Fact.ok2 fact24 (E2.envOf Tryz.prog (E2.specR [fact13, fact23])) 1000 = true := by kernel_rfl
theorem run25 : E2.Fact.ok2 fact25 (E2.envOf Tryz.prog (E2.specR [])) 1000 = true := by kernel_rfl
theorem run26 : E2.Fact.ok2 fact26 (E2.envOf Tryz.prog (E2.specR [fact3, fact7, fact11, fact12, fact24, fact13, fact23, fact25])) 1000 = true := by kernel_rfl
end Go.Proofs.YtnhamonadkmgeaaGreatDoor.choirKnown
