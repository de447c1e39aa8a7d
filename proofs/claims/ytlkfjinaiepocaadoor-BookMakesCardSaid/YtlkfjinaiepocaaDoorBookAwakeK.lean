/- THE RUN OF THE LAW BookAwake, by the kernel over E2, its greater calls by facts. Made by program. No condition. -/
import Derived.Test.YtlkfjinaiepocaaDoorRows
import Derived.Test.YtlkfjinaiepocaaDoorBookAwakeD
import Derived.Test.YtlkfjinaiepocaaDoorBookGlob
namespace Go.Proofs.YtlkfjinaiepocaaDoor.bookAwake
open Go
set_option maxRecDepth 100000
def awakeF : E2.Fact := { f := 8, args := [], pre := glob, next := 1, ro := 1, glob := 1, ret := .bool true, post := [], next' := 848 }
theorem awakeRun : E2.Fact.ok2 awakeF (E2.envOf Tryd.prog (E2.specR [fact2, fact4])) 1000 = true := by kernel_rfl
end Go.Proofs.YtlkfjinaiepocaaDoor.bookAwake
