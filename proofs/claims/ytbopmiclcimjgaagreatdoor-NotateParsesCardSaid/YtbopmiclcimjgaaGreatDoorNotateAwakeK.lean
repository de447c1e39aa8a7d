import Derived.Test.YtbopmiclcimjgaaGreatDoorRows
import Derived.Test.YtbopmiclcimjgaaGreatDoorNotateAwakeD
namespace Go.Proofs.YtbopmiclcimjgaaGreatDoor.notateAwake
open Go
set_option maxRecDepth 100000
def qrr:E2.Fact:={f:=9,args:=[],pre:=zf,next:=7,ro:=7,zf:=7,ret:=.bool true,post:=[],next':=485}
theorem zhb:E2.Fact.ok2 qrr (E2.za Tryz.prog (E2.qhr [q5e,q5f,q5g])) 1000=true:=by kernel_rfl
end Go.Proofs.YtbopmiclcimjgaaGreatDoor.notateAwake
