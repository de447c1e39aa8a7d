/- THE RUN OF THE LAW NotateAwake, by the kernel over E2, its greater calls by facts. Made by program. No condition. -/
import Derived.Test.YtbopmiclcimjgaaGreatDoorRows
import Derived.Test.YtbopmiclcimjgaaGreatDoorNotateAwakeD
namespace Go.Proofs.YtbopmiclcimjgaaGreatDoor.notateAwake
open Go
set_option maxRecDepth 100000
def qpe:E2.Fact:={f:=9,args:=[],pre:=zd,next:=7,ro:=7,zd:=7,ret:=.bool true,post:=[],next':=485}
theorem zav:E2.Fact.ok2 qpe (E2.qz Tryz.prog (E2.qgk [q0q,q0r,q0s])) 1000=true:=by kernel_rfl
end Go.Proofs.YtbopmiclcimjgaaGreatDoor.notateAwake
