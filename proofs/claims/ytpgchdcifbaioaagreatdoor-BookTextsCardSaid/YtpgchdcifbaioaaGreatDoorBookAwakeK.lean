import Derived.Test.YtpgchdcifbaioaaGreatDoorRows
import Derived.Test.YtpgchdcifbaioaaGreatDoorBookAwakeD
namespace Go.Proofs.YtpgchdcifbaioaaGreatDoor.bookAwake
open Go
set_option maxRecDepth 100000
def qwv:E2.Fact:={f:=5,args:=[],pre:=zm,next:=7,ro:=7,zm:=7,ret:=.bool true,post:=[],next':=854}
theorem zt5:E2.Fact.ok2 qwv (E2.zr Tryz.prog (E2.qpj [zcl,zcm])) 1000=true:=by kernel_rfl
end Go.Proofs.YtpgchdcifbaioaaGreatDoor.bookAwake
