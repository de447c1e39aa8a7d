/- THE RUN OF THE LAW NotateAwake, by the kernel over E2, its greater calls by facts. Made by program. No condition. -/
import Derived.Test.YtbopmiclcimjgaaGreatDoorRows
import Derived.Test.YtbopmiclcimjgaaGreatDoorNotateAwakeD
namespace Go.Proofs.YtbopmiclcimjgaaGreatDoor.notateAwake
open Go
set_option maxRecDepth 100000
def qnd:E2.Fact:={f:=9,args:=[],pre:=qx,next:=7,ro:=7,qx:=7,ret:=.bool true,post:=[],next':=485}
theorem q64:E2.Fact.ok2 qnd (E2.qt Tryz.prog (E2.qfe [qyb,qyc,qyd])) 1000=true:=by kernel_rfl
end Go.Proofs.YtbopmiclcimjgaaGreatDoor.notateAwake
