/- CALLS THAT THE LAW BookAwake MAKES: run by the kernel over E2, part 1. Made by program. No condition. -/
import Derived.Test.YtlkfjinaiepocaaDoorRows
import Derived.Test.YtlkfjinaiepocaaDoorBookAwakeD
namespace Go.Proofs.YtlkfjinaiepocaaDoor.bookAwake
open Go
set_option maxRecDepth 100000
theorem zej : E2.Fact.ok2 qq8 (E2.qw Tryd.prog (E2.qg4 [])) 1000 = true := by kernel_rfl
theorem zek : E2.Fact.ok2 qxs (E2.qw Tryd.prog (E2.qg4 [])) 1000 = true := by kernel_rfl
theorem zel : E2.Fact.ok2 q1m (E2.qw Tryd.prog (E2.qg4 [])) 1000 = true := by kernel_rfl
theorem zem : E2.Fact.ok2 qty (E2.qw Tryd.prog (E2.qg4 [qq8, q1m])) 1000 = true := by kernel_rfl
theorem zen : E2.Fact.ok2 q1n (E2.qw Tryd.prog (E2.qg4 [])) 1000 = true := by kernel_rfl
theorem zeo : E2.Fact.ok2 qxt (E2.qw Tryd.prog (E2.qg4 [qq8, q1n])) 1000 = true := by kernel_rfl
end Go.Proofs.YtlkfjinaiepocaaDoor.bookAwake
