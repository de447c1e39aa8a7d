import Derived.Test.YtpofmogdhigakaaGreatDoorRows
import Derived.Test.YtpofmogdhigakaaGreatDoorSolveAwakeD
namespace Go.Proofs.YtpofmogdhigakaaGreatDoor.solveAwake
open Go
set_option maxRecDepth 100000
theorem zvi:E2.Fact.ok2 q5h (E2.qw Tryz.prog (E2.qci [])) 1000=true:=by kernel_rfl
theorem zvj:E2.Fact.ok2 q9w (E2.qw Tryz.prog (E2.qci [q5h])) 1000=true:=by kernel_rfl
theorem zvk:E2.Fact.ok2 q9x (E2.qw Tryz.prog (E2.qci [q5h])) 1000=true:=by kernel_rfl
theorem zvl:E2.Fact.ok2 q5i (E2.qw Tryz.prog (E2.qci [q9w,q9x])) 1000=true:=by kernel_rfl
theorem zvm:E2.Fact.ok2 qxt (E2.qw Tryz.prog (E2.qci [])) 1000=true:=by kernel_rfl
theorem zvn:E2.Fact.ok2 q9y (E2.qw Tryz.prog (E2.qci [qxt])) 1000=true:=by kernel_rfl
theorem zvo:E2.Fact.ok2 q9z (E2.qw Tryz.prog (E2.qci [])) 1000=true:=by kernel_rfl
end Go.Proofs.YtpofmogdhigakaaGreatDoor.solveAwake
namespace Go.Proofs.YtpofmogdhigakaaGreatDoor.solveAwake
open Go
set_option maxRecDepth 100000
theorem zvp:E2.Fact.ok2 q90 (E2.qw Tryz.prog (E2.qci [])) 1000=true:=by kernel_rfl
theorem zvq:E2.Fact.ok2 q91 (E2.qw Tryz.prog (E2.qci [])) 1000=true:=by kernel_rfl
theorem zvr:E2.Fact.ok2 q92 (E2.qw Tryz.prog (E2.qci [])) 1000=true:=by kernel_rfl
theorem ztz:E2.Fact.ok2 qqy (E2.qw Tryz.prog (E2.qci [q91,q92])) 1000=true:=by kernel_rfl
theorem zt0:E2.Fact.ok2 q2n (E2.qw Tryz.prog (E2.qci [qqy])) 1000=true:=by kernel_rfl
theorem zt1:E2.Fact.ok2 qt2 (E2.qw Tryz.prog (E2.qci [])) 1000=true:=by kernel_rfl
theorem zt2:E2.Fact.ok2 qt3 (E2.qw Tryz.prog (E2.qci [])) 1000=true:=by kernel_rfl
theorem zt3:E2.Fact.ok2 q2o (E2.qw Tryz.prog (E2.qci [qqy,qt2,qt3])) 1000=true:=by kernel_rfl
end Go.Proofs.YtpofmogdhigakaaGreatDoor.solveAwake
namespace Go.Proofs.YtpofmogdhigakaaGreatDoor.solveAwake
open Go
set_option maxRecDepth 100000
theorem zt4:E2.Fact.ok2 q2p (E2.qw Tryz.prog (E2.qci [qt2,qt3])) 1000=true:=by kernel_rfl
theorem zt5:E2.Fact.ok2 q2q (E2.qw Tryz.prog (E2.qci [qqy,q2p])) 1000=true:=by kernel_rfl
theorem zt6:E2.Fact.ok2 q2r (E2.qw Tryz.prog (E2.qci [qt2,qt3])) 1000=true:=by kernel_rfl
theorem zt7:E2.Fact.ok2 q2s (E2.qw Tryz.prog (E2.qci [qqy,q2n,q2o,q2q,q2r])) 1000=true:=by kernel_rfl
theorem zt8:E2.Fact.ok2 q2t (E2.qw Tryz.prog (E2.qci [q9z,q90,q2s])) 1000=true:=by kernel_rfl
theorem zt9:E2.Fact.ok2 q2u (E2.qw Tryz.prog (E2.qci [qxt])) 1000=true:=by kernel_rfl
end Go.Proofs.YtpofmogdhigakaaGreatDoor.solveAwake
