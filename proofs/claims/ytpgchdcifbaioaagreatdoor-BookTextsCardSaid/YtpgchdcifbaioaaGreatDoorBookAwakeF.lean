import Derived.Test.YtpgchdcifbaioaaGreatDoorRows
import Derived.Test.YtpgchdcifbaioaaGreatDoorBookAwakeD
namespace Go.Proofs.YtpgchdcifbaioaaGreatDoor.bookAwake
open Go
set_option maxRecDepth 100000
theorem z9i:E2.Fact.ok2 zjz (E2.zr Tryz.prog (E2.qpj [])) 1000=true:=by kernel_rfl
theorem z9j:E2.Fact.ok2 zj0 (E2.zr Tryz.prog (E2.qpj [])) 1000=true:=by kernel_rfl
theorem z9k:E2.Fact.ok2 zcl (E2.zr Tryz.prog (E2.qpj [zjz,zj0])) 1000=true:=by kernel_rfl
theorem z9l:E2.Fact.ok2 zj1 (E2.zr Tryz.prog (E2.qpj [])) 1000=true:=by kernel_rfl
end Go.Proofs.YtpgchdcifbaioaaGreatDoor.bookAwake
namespace Go.Proofs.YtpgchdcifbaioaaGreatDoor.bookAwake
open Go
set_option maxRecDepth 100000
theorem z9m:E2.Fact.ok2 zcm (E2.zr Tryz.prog (E2.qpj [zj1])) 1000=true:=by kernel_rfl
end Go.Proofs.YtpgchdcifbaioaaGreatDoor.bookAwake
