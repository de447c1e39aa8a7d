/- THE CHECKED PROGRAM's TABLES, as E2 asks for them. Made by program. No condition. -/
import Derived.Test.YtlkfjinaiepocaaDoorM2
import Derived.Test.YtlkfjinaiepocaaDoorRows
namespace Go.Proofs.YtlkfjinaiepocaaDoor.bookAwake
open Go
set_option maxRecDepth 100000
theorem tables : E2.qjg Tryd.prog = true := by kernel_rfl
end Go.Proofs.YtlkfjinaiepocaaDoor.bookAwake
