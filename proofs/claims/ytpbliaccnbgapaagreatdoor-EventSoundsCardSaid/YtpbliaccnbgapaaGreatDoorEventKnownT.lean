import Derived.Test.YtpbliaccnbgapaaGreatDoorM2
import Derived.Test.YtpbliaccnbgapaaGreatDoorRows
namespace Go.Proofs.YtpbliaccnbgapaaGreatDoor.eventKnown
open Go
set_option maxRecDepth 100000
theorem tables:E2.qkp Tryz.prog=true:=by kernel_rfl
end Go.Proofs.YtpbliaccnbgapaaGreatDoor.eventKnown
