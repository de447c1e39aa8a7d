/- THE RUN OF THE LAW BookAwake, by the kernel over E2, its greater calls by facts. Made by program. No condition. -/
import Derived.Test.YtlkfjinaiepocaaDoorRows
import Derived.Test.YtlkfjinaiepocaaDoorBookAwakeD
import Derived.Test.YtlkfjinaiepocaaDoorBookGlob
namespace Go.Proofs.YtlkfjinaiepocaaDoor.bookAwake
open Go
set_option maxRecDepth 100000
def qn4 : E2.Fact := { f := 28, args := [], pre := ze, next := 1, ro := 1, ze := 1, ret := .bool true, post := [], next' := 3660 }
theorem q5s : E2.Fact.ok2 qn4 (E2.qx Tryd.prog (E2.qhg [qrl, qxw, qt8, qxx, qxy, qrm, qxz])) 1000 = true := by kernel_rfl
end Go.Proofs.YtlkfjinaiepocaaDoor.bookAwake
