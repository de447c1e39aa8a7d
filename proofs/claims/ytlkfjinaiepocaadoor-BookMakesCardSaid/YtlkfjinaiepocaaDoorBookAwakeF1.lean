/- CALLS THAT THE LAW BookAwake MAKES: run by the kernel over E2, part 1. Made by program. No condition. -/
import Derived.Test.YtlkfjinaiepocaaDoorRows
import Derived.Test.YtlkfjinaiepocaaDoorBookAwakeD
namespace Go.Proofs.YtlkfjinaiepocaaDoor.bookAwake
open Go
set_option maxRecDepth 100000
theorem run0 : E2.Fact.ok2 fact0 (E2.envOf Tryd.prog (E2.specR [])) 1000 = true := by kernel_rfl
theorem run1 : E2.Fact.ok2 fact1 (E2.envOf Tryd.prog (E2.specR [])) 1000 = true := by kernel_rfl
theorem run2 : E2.Fact.ok2 fact2 (E2.envOf Tryd.prog (E2.specR [fact0, fact1])) 1000 = true := by kernel_rfl
theorem run3 : E2.Fact.ok2 fact3 (E2.envOf Tryd.prog (E2.specR [])) 1000 = true := by kernel_rfl
end Go.Proofs.YtlkfjinaiepocaaDoor.bookAwake
