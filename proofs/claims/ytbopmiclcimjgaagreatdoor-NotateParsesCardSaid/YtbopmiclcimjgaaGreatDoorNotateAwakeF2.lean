import Derived.Test.YtbopmiclcimjgaaGreatDoorRows
import Derived.Test.YtbopmiclcimjgaaGreatDoorNotateAwakeD
namespace Go.Proofs.YtbopmiclcimjgaaGreatDoor.notateAwake
open Go
set_option maxRecDepth 100000
theorem zur:E2.Fact.ok2 zbt (E2.za Tryz.prog (E2.qhr [])) 1000=true:=by kernel_rfl
theorem zus:E2.Fact.ok2 q5e (E2.za Tryz.prog (E2.qhr [zbo,zbq,zbr,zbs,zbt])) 1000=true:=by kernel_rfl
theorem zut:E2.Fact.ok2 zbu (E2.za Tryz.prog (E2.qhr [])) 1000=true:=by kernel_rfl
theorem zuu:E2.Fact.ok2 q5f (E2.za Tryz.prog (E2.qhr [zbu])) 1000=true:=by kernel_rfl
theorem zuv:E2.Fact.ok2 q5g (E2.za Tryz.prog (E2.qhr [])) 1000=true:=by kernel_rfl
end Go.Proofs.YtbopmiclcimjgaaGreatDoor.notateAwake
