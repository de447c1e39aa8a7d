/- THE RUN OF THE LAW BookAwake, by the kernel over E2, its greater calls by facts. Made by program. No condition. -/
import Derived.Test.YtlkfjinaiepocaaDoorRows
import Derived.Test.YtlkfjinaiepocaaDoorBookAwakeD
import Derived.Test.YtlkfjinaiepocaaDoorBookGlob
namespace Go.Proofs.YtlkfjinaiepocaaDoor.bookAwake
open Go
set_option maxRecDepth 100000
def qnp : E2.Fact := { f := 28, args := [], pre := zd, next := 1, ro := 1, zd := 1, ret := .bool true, post := [], next' := 3660 }
theorem q5m : E2.Fact.ok2 qnp (E2.qw Tryd.prog (E2.qg4 [qq8, qxs, qty, qxt, qxu, qq9, qxv])) 1000 = true := by kernel_rfl
end Go.Proofs.YtlkfjinaiepocaaDoor.bookAwake
