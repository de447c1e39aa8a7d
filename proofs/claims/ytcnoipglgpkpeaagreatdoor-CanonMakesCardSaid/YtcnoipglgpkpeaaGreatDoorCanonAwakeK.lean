import Derived.Test.YtcnoipglgpkpeaaGreatDoorRows
import Derived.Test.YtcnoipglgpkpeaaGreatDoorCanonAwakeD
namespace Go.Proofs.YtcnoipglgpkpeaaGreatDoor.canonAwake
open Go
set_option maxRecDepth 100000
def qq2:E2.Fact:={f:=10,args:=[],pre:=zb,next:=4,ro:=4,zb:=4,ret:=.bool true,post:=[],next':=5425}
theorem zhp:E2.Fact.ok2 qq2 (E2.qy Tryz.prog (E2.jt [qvc,qve])) 1000=true:=by kernel_rfl
end Go.Proofs.YtcnoipglgpkpeaaGreatDoor.canonAwake
