import Derived.Test.YtpdphcekmhajdaaGreatDoorRows
import Derived.Test.YtpdphcekmhajdaaGreatDoorBookAwakeD
namespace Go.Proofs.YtpdphcekmhajdaaGreatDoor.bookAwake
open Go
set_option maxRecDepth 100000
def qur:E2.Fact:={f:=4,args:=[],pre:=zf,next:=7,ro:=7,zf:=7,ret:=.bool true,post:=[],next':=3666}
theorem zmr:E2.Fact.ok2 qur (E2.zj Tryz.prog (E2.qi7 [qyt,q8m,q2z,q8n,q8o,qyu,q8p])) 1000=true:=by kernel_rfl
end Go.Proofs.YtpdphcekmhajdaaGreatDoor.bookAwake
