import Derived.Test.YtpdphcekmhajdaaGreatDoorM2
import Derived.Test.YtpdphcekmhajdaaGreatDoorRows
namespace Go.Proofs.YtpdphcekmhajdaaGreatDoor.bookAwake
open Go
set_option maxRecDepth 100000
theorem tables:E2.qnx Tryz.prog=true:=by kernel_rfl
end Go.Proofs.YtpdphcekmhajdaaGreatDoor.bookAwake
