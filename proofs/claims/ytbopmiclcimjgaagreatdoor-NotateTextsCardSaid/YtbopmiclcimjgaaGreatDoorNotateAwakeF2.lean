/- CALLS THAT THE LAW NotateAwake MAKES: run by the kernel over E2, part 2. Made by program. No condition. -/
import Derived.Test.YtbopmiclcimjgaaGreatDoorRows
import Derived.Test.YtbopmiclcimjgaaGreatDoorNotateAwakeD
namespace Go.Proofs.YtbopmiclcimjgaaGreatDoor.notateAwake
open Go
set_option maxRecDepth 100000
theorem zgi:E2.Fact.ok2 q25 (E2.qt Tryz.prog (E2.qfe [])) 1000=true:=by kernel_rfl
theorem zgj:E2.Fact.ok2 qyb (E2.qt Tryz.prog (E2.qfe [q20,q22,q23,q24,q25])) 1000=true:=by kernel_rfl
theorem zgk:E2.Fact.ok2 q26 (E2.qt Tryz.prog (E2.qfe [])) 1000=true:=by kernel_rfl
theorem zgl:E2.Fact.ok2 qyc (E2.qt Tryz.prog (E2.qfe [q26])) 1000=true:=by kernel_rfl
theorem zgm:E2.Fact.ok2 qyd (E2.qt Tryz.prog (E2.qfe [])) 1000=true:=by kernel_rfl
end Go.Proofs.YtbopmiclcimjgaaGreatDoor.notateAwake
