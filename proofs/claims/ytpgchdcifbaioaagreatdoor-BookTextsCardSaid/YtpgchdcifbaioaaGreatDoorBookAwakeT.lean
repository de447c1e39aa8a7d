import Derived.Test.YtpgchdcifbaioaaGreatDoorM2
import Derived.Test.YtpgchdcifbaioaaGreatDoorRows
namespace Go.Proofs.YtpgchdcifbaioaaGreatDoor.bookAwake
open Go
set_option maxRecDepth 100000
theorem tables:E2.qo9 Tryz.prog=true:=by kernel_rfl
end Go.Proofs.YtpgchdcifbaioaaGreatDoor.bookAwake
