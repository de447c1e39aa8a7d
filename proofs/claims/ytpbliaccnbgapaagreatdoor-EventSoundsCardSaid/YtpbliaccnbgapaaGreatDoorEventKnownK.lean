import Derived.Test.YtpbliaccnbgapaaGreatDoorRows
import Derived.Test.YtpbliaccnbgapaaGreatDoorEventKnownD
namespace Go.Proofs.YtpbliaccnbgapaaGreatDoor.eventKnown
open Go
set_option maxRecDepth 100000
def qq7:E2.Fact:={f:=12,args:=[],pre:=qy,next:=9,ro:=9,qy:=9,ret:=.bool true,post:=[],next':=9557}
theorem zg2:E2.Fact.ok2 qq7 (E2.qo Tryz.prog (E2.ja [qh6,q4n,qy9,q4q,qpf,qva,qvc,qve,qvf,qvg,qvj,qvk,qvn,qvo,qvp,qvq,qvr,qvs])) 1000=true:=by kernel_rfl
end Go.Proofs.YtpbliaccnbgapaaGreatDoor.eventKnown
