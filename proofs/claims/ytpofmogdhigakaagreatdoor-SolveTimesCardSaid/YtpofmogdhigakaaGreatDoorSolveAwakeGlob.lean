import Derived.Test.YtpofmogdhigakaaGreatDoorM2
namespace Go.Proofs.YtpofmogdhigakaaGreatDoor.solveAwake
open Go
set_option maxRecDepth 100000
abbrev i (n:Int):E2.V:=.int .i64 n
abbrev u (n:Int):E2.V:=.int .u64 n
abbrev f:E2.V:=.bool false
abbrev t:E2.V:=.bool true
def g0:E2.O:=.row [f,f,f,f,f,f,f,f,f,f,f,f,t,t,t,t,f,f,f,f,f,f,f,f,t,f,f,f,f,f,f,f,f,f,f,f,f,f,f,f,f,f,f,f,f,f,f,f,f,t,t,t,t,t,t,f,f,f,f,f,f,f,f,f,f,f,f,t,t,f,f,f,f,f,f,f,f,f,f,f,f,t,t,f,f,f,f,f,f,f,f,f,f,f,f,t,f,f,f,f,f,f,f,f,f,t,f,f,f,f,f,f,f,f,f,f,f,f,f,f,f,f,f,f,f,f,f,f,f,t,f,f,f,f,f,f,f,f,f,f,f,f,f,f,f,f,f,f,f,f,f,f,f,f,f,f] 145 0 0 0 true
def g1:E2.O:=.row [i 3,i 2] 35 0 0 0 true
def g2:E2.O:=.row [i 0,i 1,i 1,i 2,i 1,i 3,i 3,i 4,i 4,i 3,i 3,i 4,i 4] 216 0 0 0 true
def qp:List (Nat×E2.O):=[(0,g0),(1,g1),(2,g2)]
end Go.Proofs.YtpofmogdhigakaaGreatDoor.solveAwake
