/- CALLS THAT THE LAW BookAwake MAKES: run by the kernel over E2, part 2. Made by program. No condition. -/
import Derived.Test.YtlkfjinaiepocaaDoorRows
import Derived.Test.YtlkfjinaiepocaaDoorBookAwakeD
namespace Go.Proofs.YtlkfjinaiepocaaDoor.bookAwake
open Go
set_option maxRecDepth 100000
theorem run4 : E2.Fact.ok2 fact4 (E2.envOf Tryd.prog (E2.specR [fact3])) 1000 = true := by kernel_rfl
end Go.Proofs.YtlkfjinaiepocaaDoor.bookAwake
