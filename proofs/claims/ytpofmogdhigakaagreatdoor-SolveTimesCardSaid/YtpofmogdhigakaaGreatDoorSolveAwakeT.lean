import Derived.Test.YtpofmogdhigakaaGreatDoorM2
import Derived.Test.YtpofmogdhigakaaGreatDoorRows
namespace Go.Proofs.YtpofmogdhigakaaGreatDoor.solveAwake
open Go
set_option maxRecDepth 100000
theorem tables:E2.qme Tryz.prog=true:=by kernel_rfl
end Go.Proofs.YtpofmogdhigakaaGreatDoor.solveAwake
