import Derived.Test.YtcnoipglgpkpeaaGreatDoorRows
import Derived.Test.YtcnoipglgpkpeaaGreatDoorCanonAwakeD
namespace Go.Proofs.YtcnoipglgpkpeaaGreatDoor.canonAwake
open Go
set_option maxRecDepth 100000
def qop:E2.Fact:={f:=10,args:=[],pre:=qw,next:=4,ro:=4,qw:=4,ret:=.bool true,post:=[],next':=5425}
theorem q8w:E2.Fact.ok2 qop (E2.qq Tryz.prog (E2.k9 [qrx,qrz])) 1000=true:=by kernel_rfl
end Go.Proofs.YtcnoipglgpkpeaaGreatDoor.canonAwake
