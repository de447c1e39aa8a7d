/- CALLS THAT THE LAW NotateAwake MAKES: run by the kernel over E2, part 2. Made by program. No condition. -/
import Derived.Test.YtbopmiclcimjgaaGreatDoorRows
import Derived.Test.YtbopmiclcimjgaaGreatDoorNotateAwakeD
namespace Go.Proofs.YtbopmiclcimjgaaGreatDoor.notateAwake
open Go
set_option maxRecDepth 100000
theorem zmp:E2.Fact.ok2 q6a (E2.qz Tryz.prog (E2.qgk [])) 1000=true:=by kernel_rfl
theorem zmq:E2.Fact.ok2 q0q (E2.qz Tryz.prog (E2.qgk [q55,q57,q58,q59,q6a])) 1000=true:=by kernel_rfl
theorem zmr:E2.Fact.ok2 q6b (E2.qz Tryz.prog (E2.qgk [])) 1000=true:=by kernel_rfl
theorem zms:E2.Fact.ok2 q0r (E2.qz Tryz.prog (E2.qgk [q6b])) 1000=true:=by kernel_rfl
theorem zmt:E2.Fact.ok2 q0s (E2.qz Tryz.prog (E2.qgk [])) 1000=true:=by kernel_rfl
end Go.Proofs.YtbopmiclcimjgaaGreatDoor.notateAwake
