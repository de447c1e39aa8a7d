/- THE RUN OF THE LAW NotateAwake, by the kernel over E2, its greater calls by facts. Made by program. No condition. -/
import Derived.Test.YtbopmiclcimjgaaGreatDoorRows
import Derived.Test.YtbopmiclcimjgaaGreatDoorNotateAwakeD
namespace Go.Proofs.YtbopmiclcimjgaaGreatDoor.notateAwake
open Go
set_option maxRecDepth 100000
def qse:E2.Fact:={f:=20,args:=[],pre:=qz,next:=7,ro:=7,qz:=7,ret:=.bool true,post:=[],next':=1692}
theorem zhr:E2.Fact.ok2 qse (E2.qp Tryz.prog (E2.qba [q5w,q5x,q5y,q5z,q50,q51,q52,q53,q54,qw9,qxa,qxb,qxc,qxd,qxe,qxf,qxg,qxh,qxi,qxj,qxk])) 1000=true:=by kernel_rfl
end Go.Proofs.YtbopmiclcimjgaaGreatDoor.notateAwake
