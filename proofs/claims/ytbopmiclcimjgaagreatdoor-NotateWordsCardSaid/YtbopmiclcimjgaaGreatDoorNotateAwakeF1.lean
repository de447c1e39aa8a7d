/- CALLS THAT THE LAW NotateAwake MAKES: run by the kernel over E2, part 1. Made by program. No condition. -/
import Derived.Test.YtbopmiclcimjgaaGreatDoorRows
import Derived.Test.YtbopmiclcimjgaaGreatDoorNotateAwakeD
namespace Go.Proofs.YtbopmiclcimjgaaGreatDoor.notateAwake
open Go
set_option maxRecDepth 100000
theorem zmk:E2.Fact.ok2 q55 (E2.qz Tryz.prog (E2.qgk [])) 1000=true:=by kernel_rfl
theorem zml:E2.Fact.ok2 q56 (E2.qz Tryz.prog (E2.qgk [])) 1000=true:=by kernel_rfl
theorem zmm:E2.Fact.ok2 q57 (E2.qz Tryz.prog (E2.qgk [q56])) 1000=true:=by kernel_rfl
theorem zmn:E2.Fact.ok2 q58 (E2.qz Tryz.prog (E2.qgk [])) 1000=true:=by kernel_rfl
theorem zmo:E2.Fact.ok2 q59 (E2.qz Tryz.prog (E2.qgk [])) 1000=true:=by kernel_rfl
end Go.Proofs.YtbopmiclcimjgaaGreatDoor.notateAwake
