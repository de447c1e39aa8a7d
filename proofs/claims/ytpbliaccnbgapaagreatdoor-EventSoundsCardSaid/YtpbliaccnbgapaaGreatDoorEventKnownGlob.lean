import Derived.Test.YtpbliaccnbgapaaGreatDoorM2
namespace Go.Proofs.YtpbliaccnbgapaaGreatDoor.eventKnown
open Go
set_option maxRecDepth 100000
abbrev i (n:Int):E2.V:=.int .i64 n
abbrev u (n:Int):E2.V:=.int .u64 n
abbrev f:E2.V:=.bool false
abbrev t:E2.V:=.bool true
def g0:E2.O:=.row [u 1,u 10,u 100,u 1000,u 10000,u 100000,u 1000000,u 10000000,u 100000000,u 1000000000,u 10000000000,u 100000000000,u 1000000000000,u 10000000000000,u 100000000000000,u 1000000000000000,u 10000000000000000,u 100000000000000000,u 1000000000000000000,u 10000000000000000000] 235 0 0 0 true
def g1:E2.O:=.row [f,f,f,f,f,f,f,f,f,f,f,f,t,t,t,t,f,f,f,f,f,f,f,f,t,f,f,f,f,f,f,f,f,f,f,f,f,f,f,f,f,f,f,f,f,f,f,f,f,t,t,t,t,t,t,f,f,f,f,f,f,f,f,f,f,f,f,t,t,f,f,f,f,f,f,f,f,f,f,f,f,t,t,f,f,f,f,f,f,f,f,f,f,f,f,t,f,f,f,f,f,f,f,f,f,t,f,f,f,f,f,f,f,f,f,f,f,f,f,f,f,f,f,f,f,f,f,f,f,t,f,f,f,f,f,f,f,f,f,f,f,f,f,f,f,f,f,f,f,f,f,f,f,f,f,f] 265 0 0 0 true
def g3:E2.O:=.row [i 3,i 2] 39 0 0 0 true
def g8:E2.O:=.row [i 0,i 1,i 1,i 2,i 1,i 3,i 3,i 4,i 4,i 3,i 3,i 4,i 4] 319 0 0 0 true
def qy:List (Nat×E2.O):=[(0,g0),(1,g1),(3,g3),(8,g8)]
end Go.Proofs.YtpbliaccnbgapaaGreatDoor.eventKnown
