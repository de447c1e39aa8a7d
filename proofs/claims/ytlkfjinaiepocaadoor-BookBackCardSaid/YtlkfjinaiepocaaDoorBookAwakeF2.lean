/- CALLS THAT THE LAW BookAwake MAKES: run by the kernel over E2, part 2. Made by program. No condition. -/
import Derived.Test.YtlkfjinaiepocaaDoorRows
import Derived.Test.YtlkfjinaiepocaaDoorBookAwakeD
namespace Go.Proofs.YtlkfjinaiepocaaDoor.bookAwake
open Go
set_option maxRecDepth 100000
theorem zep : E2.Fact.ok2 q1o (E2.qw Tryd.prog (E2.qg4 [])) 1000 = true := by kernel_rfl
theorem zeq : E2.Fact.ok2 qq9 (E2.qw Tryd.prog (E2.qg4 [q1o])) 1000 = true := by kernel_rfl
theorem zer : E2.Fact.ok2 qxu (E2.qw Tryd.prog (E2.qg4 [qq9])) 1000 = true := by kernel_rfl
theorem zes : E2.Fact.ok2 qxv (E2.qw Tryd.prog (E2.qg4 [qty, qq9])) 1000 = true := by kernel_rfl
end Go.Proofs.YtlkfjinaiepocaaDoor.bookAwake
