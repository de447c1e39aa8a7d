import Derived.Test.YtbopmiclcimjgaaGreatDoorRows
import Derived.Test.YtbopmiclcimjgaaGreatDoorNotateAwakeD
namespace Go.Proofs.YtbopmiclcimjgaaGreatDoor.notateAwake
open Go
set_option maxRecDepth 100000
theorem zum:E2.Fact.ok2 zbo (E2.za Tryz.prog (E2.qhr [])) 1000=true:=by kernel_rfl
theorem zun:E2.Fact.ok2 zbp (E2.za Tryz.prog (E2.qhr [])) 1000=true:=by kernel_rfl
theorem zuo:E2.Fact.ok2 zbq (E2.za Tryz.prog (E2.qhr [zbp])) 1000=true:=by kernel_rfl
theorem zup:E2.Fact.ok2 zbr (E2.za Tryz.prog (E2.qhr [])) 1000=true:=by kernel_rfl
theorem zuq:E2.Fact.ok2 zbs (E2.za Tryz.prog (E2.qhr [])) 1000=true:=by kernel_rfl
end Go.Proofs.YtbopmiclcimjgaaGreatDoor.notateAwake
