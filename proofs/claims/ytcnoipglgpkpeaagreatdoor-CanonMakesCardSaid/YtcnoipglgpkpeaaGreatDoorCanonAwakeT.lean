import Derived.Test.YtcnoipglgpkpeaaGreatDoorM2
import Derived.Test.YtcnoipglgpkpeaaGreatDoorRows
namespace Go.Proofs.YtcnoipglgpkpeaaGreatDoor.canonAwake
open Go
set_option maxRecDepth 100000
theorem tables:E2.qky Tryz.prog=true:=by kernel_rfl
end Go.Proofs.YtcnoipglgpkpeaaGreatDoor.canonAwake
