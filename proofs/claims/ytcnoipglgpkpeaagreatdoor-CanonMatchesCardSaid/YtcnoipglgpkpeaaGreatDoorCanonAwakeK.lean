import Derived.Test.YtcnoipglgpkpeaaGreatDoorRows
import Derived.Test.YtcnoipglgpkpeaaGreatDoorCanonAwakeD
namespace Go.Proofs.YtcnoipglgpkpeaaGreatDoor.canonAwake
open Go
set_option maxRecDepth 100000
def qp3:E2.Fact:={f:=10,args:=[],pre:=qt,next:=4,ro:=4,qt:=4,ret:=.bool true,post:=[],next':=5425}
theorem zcn:E2.Fact.ok2 qp3 (E2.qq Tryz.prog (E2.jk [qto,qtq])) 1000=true:=by kernel_rfl
end Go.Proofs.YtcnoipglgpkpeaaGreatDoor.canonAwake
