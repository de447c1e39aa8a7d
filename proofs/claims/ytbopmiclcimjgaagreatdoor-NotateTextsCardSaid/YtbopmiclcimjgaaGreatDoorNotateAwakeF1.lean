/- CALLS THAT THE LAW NotateAwake MAKES: run by the kernel over E2, part 1. Made by program. No condition. -/
import Derived.Test.YtbopmiclcimjgaaGreatDoorRows
import Derived.Test.YtbopmiclcimjgaaGreatDoorNotateAwakeD
namespace Go.Proofs.YtbopmiclcimjgaaGreatDoor.notateAwake
open Go
set_option maxRecDepth 100000
theorem zgd:E2.Fact.ok2 q20 (E2.qt Tryz.prog (E2.qfe [])) 1000=true:=by kernel_rfl
theorem zge:E2.Fact.ok2 q21 (E2.qt Tryz.prog (E2.qfe [])) 1000=true:=by kernel_rfl
theorem zgf:E2.Fact.ok2 q22 (E2.qt Tryz.prog (E2.qfe [q21])) 1000=true:=by kernel_rfl
theorem zgg:E2.Fact.ok2 q23 (E2.qt Tryz.prog (E2.qfe [])) 1000=true:=by kernel_rfl
theorem zgh:E2.Fact.ok2 q24 (E2.qt Tryz.prog (E2.qfe [])) 1000=true:=by kernel_rfl
end Go.Proofs.YtbopmiclcimjgaaGreatDoor.notateAwake
