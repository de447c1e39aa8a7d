import Derived.Test.YtpgchdcifbaioaaGreatDoorM2
namespace Go.Proofs.YtpgchdcifbaioaaGreatDoor.bookAwake
open Go
set_option maxRecDepth 100000
abbrev i (n:Int):E2.V:=.int .i64 n
abbrev u (n:Int):E2.V:=.int .u64 n
abbrev f:E2.V:=.bool false
abbrev t:E2.V:=.bool true
def g0:E2.O:=.row [f,f,f,f,f,f,f,f,f,f,f,f,t,t,t,t,f,f,f,f,f,f,f,f,t,f,f,f,f,f,f,f,f,f,f,f,f,f,f,f,f,f,f,f,f,f,f,f,f,t,t,t,t,t,t,f,f,f,f,f,f,f,f,f,f,f,f,t,t,f,f,f,f,f,f,f,f,f,f,f,f,t,t,f,f,f,f,f,f,f,f,f,f,f,f,t,f,f,f,f,f,f,f,f,f,t,f,f,f,f,f,f,f,f,f,f,f,f,f,f,f,f,f,f,f,f,f,f,f,t,f,f,f,f,f,f,f,f,f,f,f,f,f,f,f,f,f,f,f,f,f,f,f,f,f,f] 133 0 0 0 true
def g1:E2.O:=.row [u 1,u 10,u 100,u 1000,u 10000,u 100000,u 1000000,u 10000000,u 100000000,u 1000000000,u 10000000000,u 100000000000,u 1000000000000,u 10000000000000,u 100000000000000,u 1000000000000000,u 10000000000000000,u 100000000000000000,u 1000000000000000000,u 10000000000000000000] 187 0 0 0 true
def zm:List (Nat×E2.O):=[(0,g0),(1,g1)]
end Go.Proofs.YtpgchdcifbaioaaGreatDoor.bookAwake
