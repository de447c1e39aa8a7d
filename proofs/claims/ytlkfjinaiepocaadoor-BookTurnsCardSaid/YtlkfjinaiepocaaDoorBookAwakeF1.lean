/- CALLS THAT THE LAW BookAwake MAKES: run by the kernel over E2, part 1. Made by program. No condition. -/
import Derived.Test.YtlkfjinaiepocaaDoorRows
import Derived.Test.YtlkfjinaiepocaaDoorBookAwakeD
namespace Go.Proofs.YtlkfjinaiepocaaDoor.bookAwake
open Go
set_option maxRecDepth 100000
theorem zen : E2.Fact.ok2 qrl (E2.qx Tryd.prog (E2.qhg [])) 1000 = true := by kernel_rfl
theorem zeo : E2.Fact.ok2 qxw (E2.qx Tryd.prog (E2.qhg [])) 1000 = true := by kernel_rfl
theorem zep : E2.Fact.ok2 q1p (E2.qx Tryd.prog (E2.qhg [])) 1000 = true := by kernel_rfl
theorem zeq : E2.Fact.ok2 qt8 (E2.qx Tryd.prog (E2.qhg [qrl, q1p])) 1000 = true := by kernel_rfl
theorem zer : E2.Fact.ok2 q1q (E2.qx Tryd.prog (E2.qhg [])) 1000 = true := by kernel_rfl
theorem zes : E2.Fact.ok2 qxx (E2.qx Tryd.prog (E2.qhg [qrl, q1q])) 1000 = true := by kernel_rfl
end Go.Proofs.YtlkfjinaiepocaaDoor.bookAwake
