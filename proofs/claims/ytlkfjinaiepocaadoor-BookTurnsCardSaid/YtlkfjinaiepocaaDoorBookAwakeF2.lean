/- CALLS THAT THE LAW BookAwake MAKES: run by the kernel over E2, part 2. Made by program. No condition. -/
import Derived.Test.YtlkfjinaiepocaaDoorRows
import Derived.Test.YtlkfjinaiepocaaDoorBookAwakeD
namespace Go.Proofs.YtlkfjinaiepocaaDoor.bookAwake
open Go
set_option maxRecDepth 100000
theorem zet : E2.Fact.ok2 q1r (E2.qx Tryd.prog (E2.qhg [])) 1000 = true := by kernel_rfl
theorem zeu : E2.Fact.ok2 qrm (E2.qx Tryd.prog (E2.qhg [q1r])) 1000 = true := by kernel_rfl
theorem zev : E2.Fact.ok2 qxy (E2.qx Tryd.prog (E2.qhg [qrm])) 1000 = true := by kernel_rfl
theorem zew : E2.Fact.ok2 qxz (E2.qx Tryd.prog (E2.qhg [qt8, qrm])) 1000 = true := by kernel_rfl
end Go.Proofs.YtlkfjinaiepocaaDoor.bookAwake
