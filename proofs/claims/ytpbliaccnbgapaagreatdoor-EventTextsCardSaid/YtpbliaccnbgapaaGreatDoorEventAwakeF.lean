import Derived.Test.YtpbliaccnbgapaaGreatDoorM2
import Derived.Test.YtpbliaccnbgapaaGreatDoorRows
import Derived.Test.YtpbliaccnbgapaaGreatDoorEventGlob
namespace Go.Proofs.YtpbliaccnbgapaaGreatDoor.eventAwake
open Go
set_option maxRecDepth 100000
theorem tables:E2.qk2 Tryz.prog=true:=by kernel_rfl
end Go.Proofs.YtpbliaccnbgapaaGreatDoor.eventAwake
namespace Go.Proofs.YtpbliaccnbgapaaGreatDoor.eventAwake
open Go
set_option maxRecDepth 100000
def qvo:E2.Fact:={
  f:=122,args:=[.agg [.str [97],.slice 9 2 0 5 17 none]],
  pre:=[(1,g1),
    (9,.row [i 7,i 0,i 0,i 0,f,i 0,f,f,i 0,i 0,i 0,i 0,f,i 0,i 0,i 0,i 3,i 5,i 0,i 0,i 0,f,i 0,f,f,i 2,i 2,i 2,i 2,f,i 0,i 0,i 0,i 0,i 1,i 4,i 4,i 0,f,i 0,f,f,i 0,i 0,i 0,i 0,f,i 0,i 0,i 0,i 0,i 1,i 4,i 5,i 0,f,i 0,f,f,i 0,i 0,i 0,i 0,f,i 0,i 0,i 0,i 0,i 1,i 3,i 6,i 0,f,i 0,f,f,i 0,i 0,i 0,i 0,f,i 0,i 0,i 0,i 0] 93 2 0 0 false)],
  next:=10,ro:=10,zh:=9,ret:=.tuple [i 0,i 0],
  post:=[],next':=59}
def q4i:E2.Fact:={
  f:=53,args:=[.agg [.str [97],.slice 9 2 0 5 17 none],.slice 10 0 0 3 2 (some 3)],
  pre:=[(1,g1),
    (8,g8),
    (9,.row [i 7,i 0,i 0,i 0,f,i 0,f,f,i 0,i 0,i 0,i 0,f,i 0,i 0,i 0,i 3,i 5,i 0,i 0,i 0,f,i 0,f,f,i 2,i 2,i 2,i 2,f,i 0,i 0,i 0,i 0,i 1,i 4,i 4,i 0,f,i 0,f,f,i 0,i 0,i 0,i 0,f,i 0,i 0,i 0,i 0,i 1,i 4,i 5,i 0,f,i 0,f,f,i 0,i 0,i 0,i 0,f,i 0,i 0,i 0,i 0,i 1,i 3,i 6,i 0,f,i 0,f,f,i 0,i 0,i 0,i 0,f,i 0,i 0,i 0,i 0] 93 2 0 0 false),
    (10,.row [i 2,i 1,i 2,i 1,i 4,i 1] 39 0 0 0 true)],
  next:=11,ro:=11,zh:=9,ret:=.tuple [.slice 250 2 0 3 2 none,i 0],
  post:=[(250,.row [i 2,i 1,i 2,i 1,i 4,i 1] 39 2 0 0 false)],next':=277}
def zap:E2.Fact:={
  f:=52,args:=[.agg [.str [97],.slice 9 2 0 5 17 none],.slice 10 0 0 3 2 (some 3)],
  pre:=[(1,g1),
    (8,g8),
    (9,.row [i 7,i 0,i 0,i 0,f,i 0,f,f,i 0,i 0,i 0,i 0,f,i 0,i 0,i 0,i 3,i 5,i 0,i 0,i 0,f,i 0,f,f,i 2,i 2,i 2,i 2,f,i 0,i 0,i 0,i 0,i 1,i 4,i 4,i 0,f,i 0,f,f,i 0,i 0,i 0,i 0,f,i 0,i 0,i 0,i 0,i 1,i 4,i 5,i 0,f,i 0,f,f,i 0,i 0,i 0,i 0,f,i 0,i 0,i 0,i 0,i 1,i 3,i 6,i 0,f,i 0,f,f,i 0,i 0,i 0,i 0,f,i 0,i 0,i 0,i 0] 93 2 0 0 false),
    (10,.row [i 2,i 1,i 2,i 1,i 4,i 1] 39 0 0 0 true)],
  next:=11,ro:=11,zh:=9,ret:=.tuple [.slice 414 2 0 3 2 none,.agg [i 8,i 1],i 0],
  post:=[(414,.row [i 0,i 1,i 2,i 1,i 4,i 1] 39 2 0 0 false)],next':=445}
def zaq:E2.Fact:={
  f:=57,args:=[.agg [.str [97],.slice 9 2 0 5 17 none]],
  pre:=[(1,g1),
    (8,g8),
    (9,.row [i 7,i 0,i 0,i 0,f,i 0,f,f,i 0,i 0,i 0,i 0,f,i 0,i 0,i 0,i 3,i 5,i 0,i 0,i 0,f,i 0,f,f,i 2,i 2,i 2,i 2,f,i 0,i 0,i 0,i 0,i 1,i 4,i 4,i 0,f,i 0,f,f,i 0,i 0,i 0,i 0,f,i 0,i 0,i 0,i 0,i 1,i 4,i 5,i 0,f,i 0,f,f,i 0,i 0,i 0,i 0,f,i 0,i 0,i 0,i 0,i 1,i 3,i 6,i 0,f,i 0,f,f,i 0,i 0,i 0,i 0,f,i 0,i 0,i 0,i 0] 93 2 0 0 false)],
  next:=10,ro:=10,zh:=9,ret:=.tuple [.slice 224 4 0 3 2 none,i 0],
  post:=[(224,.row [i 2,i 0,i 3,i 0,i 4,i 0,i 0,i 0,i 0,i 0] 122 4 4 0 false)],next':=243}
def q4j:E2.Fact:={
  f:=19,args:=[.agg [.str [97],.slice 9 2 0 5 17 none],.slice 10 0 0 3 2 (some 3)],
  pre:=[(1,g1),
    (8,g8),
    (9,.row [i 7,i 0,i 0,i 0,f,i 0,f,f,i 0,i 0,i 0,i 0,f,i 0,i 0,i 0,i 3,i 5,i 0,i 0,i 0,f,i 0,f,f,i 2,i 2,i 2,i 2,f,i 0,i 0,i 0,i 0,i 1,i 4,i 4,i 0,f,i 0,f,f,i 0,i 0,i 0,i 0,f,i 0,i 0,i 0,i 0,i 1,i 4,i 5,i 0,f,i 0,f,f,i 0,i 0,i 0,i 0,f,i 0,i 0,i 0,i 0,i 1,i 3,i 6,i 0,f,i 0,f,f,i 0,i 0,i 0,i 0,f,i 0,i 0,i 0,i 0] 93 2 0 0 false),
    (10,.row [i 2,i 1,i 2,i 1,i 4,i 1] 39 0 0 0 true)],
  next:=11,ro:=11,zh:=9,ret:=.tuple [.slice 1154 2 0 3 10 none,i 0],
  post:=[(1154,.row [i 0,i 1,i 2,i 1,i 0,i 4,i 0,f,i 2,i 0,i 2,i 1,i 2,i 1,i 1,i 4,i 0,f,i 3,i 0,i 4,i 1,i 4,i 1,i 2,i 4,i 0,f,i 4,i 0] 43 2 0 0 false)],next':=1159}
def q4k:E2.Fact:={
  f:=22,args:=[.slice 9 0 0 3 10 (some 3)],
  pre:=[(9,.row [i 0,i 1,i 2,i 1,i 0,i 4,i 0,f,i 2,i 0,i 2,i 1,i 2,i 1,i 1,i 4,i 0,f,i 3,i 0,i 4,i 1,i 4,i 1,i 2,i 4,i 0,f,i 4,i 0] 43 0 0 0 true)],
  next:=10,ro:=10,zh:=9,ret:=.tuple [i 0,i 0],
  post:=[],next':=69}
def q4l:E2.Fact:={
  f:=6,args:=[.slice 9 0 0 3 10 (some 3)],
  pre:=[(9,.row [i 0,i 1,i 2,i 1,i 0,i 4,i 0,f,i 2,i 0,i 2,i 1,i 2,i 1,i 1,i 4,i 0,f,i 3,i 0,i 4,i 1,i 4,i 1,i 2,i 4,i 0,f,i 4,i 0] 43 0 0 0 true)],
  next:=10,ro:=10,zh:=9,ret:=.tuple [.str [110,111,116,101,32,99,52,32,50,32,50,32,48,10,110,111,116,101,32,100,52,32,50,32,51,32,48,10,110,111,116,101,32,101,52,32,52,32,52,32,48,10],i 0],
  post:=[],next':=104}
def q4m:E2.Fact:={
  f:=14,args:=[.slice 9 0 0 3 10 (some 3),.agg [i 3,i 1]],
  pre:=[(9,.row [i 0,i 1,i 2,i 1,i 0,i 4,i 0,f,i 2,i 0,i 2,i 1,i 2,i 1,i 1,i 4,i 0,f,i 3,i 0,i 4,i 1,i 4,i 1,i 2,i 4,i 0,f,i 4,i 0] 43 0 0 0 true)],
  next:=10,ro:=10,zh:=9,ret:=.tuple [i 1,i 0],
  post:=[],next':=118}
end Go.Proofs.YtpbliaccnbgapaaGreatDoor.eventAwake
namespace Go.Proofs.YtpbliaccnbgapaaGreatDoor.eventAwake
open Go
set_option maxRecDepth 100000
theorem zqu:E2.Fact.ok2 qvo (E2.zf Tryz.prog (E2.qj9 [])) 1000=true:=by kernel_rfl
theorem zqv:E2.Fact.ok2 q4i (E2.zf Tryz.prog (E2.qj9 [qvo])) 1000=true:=by kernel_rfl
theorem zqw:E2.Fact.ok2 zap (E2.zf Tryz.prog (E2.qj9 [q4i,qvo])) 1000=true:=by kernel_rfl
theorem zqx:E2.Fact.ok2 zaq (E2.zf Tryz.prog (E2.qj9 [qvo])) 1000=true:=by kernel_rfl
end Go.Proofs.YtpbliaccnbgapaaGreatDoor.eventAwake
namespace Go.Proofs.YtpbliaccnbgapaaGreatDoor.eventAwake
open Go
set_option maxRecDepth 100000
theorem zqy:E2.Fact.ok2 q4j (E2.zf Tryz.prog (E2.qj9 [zap,q4i,qvo,zaq])) 1000=true:=by kernel_rfl
theorem zqz:E2.Fact.ok2 q4k (E2.zf Tryz.prog (E2.qj9 [])) 1000=true:=by kernel_rfl
theorem zq0:E2.Fact.ok2 q4l (E2.zf Tryz.prog (E2.qj9 [q4k])) 1000=true:=by kernel_rfl
theorem zq1:E2.Fact.ok2 q4m (E2.zf Tryz.prog (E2.qj9 [q4k])) 1000=true:=by kernel_rfl
end Go.Proofs.YtpbliaccnbgapaaGreatDoor.eventAwake
namespace Go.Proofs.YtpbliaccnbgapaaGreatDoor.eventAwake
open Go
set_option maxRecDepth 100000
def qqu:E2.Fact:={f:=5,args:=[],pre:=zh,next:=9,ro:=9,zh:=9,ret:=.bool true,post:=[],next':=1395}
theorem zfv:E2.Fact.ok2 qqu (E2.zf Tryz.prog (E2.qj9 [q4j,q4m,q4l])) 1000=true:=by kernel_rfl
end Go.Proofs.YtpbliaccnbgapaaGreatDoor.eventAwake
namespace Go.Proofs.YtpbliaccnbgapaaGreatDoor.eventAwake
open Go
set_option maxRecDepth 100000
theorem zav:E2.qax Tryz.prog qvo.f qvo.qj2:=E2.qdo Tryz.checked.mixed tables E2.qd3 (by kernel_rfl) zqu
theorem zm3:E2.qax Tryz.prog q4i.f q4i.qj2:=E2.qdo Tryz.checked.mixed tables (E2.qar zav E2.qd3) (by kernel_rfl) zqv
theorem zpo:E2.qax Tryz.prog zap.f zap.qj2:=E2.qdo Tryz.checked.mixed tables (E2.qar zm3 (E2.qar zav E2.qd3)) (by kernel_rfl) zqw
theorem zpp:E2.qax Tryz.prog zaq.f zaq.qj2:=E2.qdo Tryz.checked.mixed tables (E2.qar zav E2.qd3) (by kernel_rfl) zqx
theorem zpq:E2.qax Tryz.prog q4j.f q4j.qj2:=E2.qdo Tryz.checked.mixed tables (E2.qar zpo (E2.qar zm3 (E2.qar zav (E2.qar zpp E2.qd3)))) (by kernel_rfl) zqy
theorem zm4:E2.qax Tryz.prog q4k.f q4k.qj2:=E2.qdo Tryz.checked.mixed tables E2.qd3 (by kernel_rfl) zqz
theorem zpr:E2.qax Tryz.prog q4l.f q4l.qj2:=E2.qdo Tryz.checked.mixed tables (E2.qar zm4 E2.qd3) (by kernel_rfl) zq0
theorem zps:E2.qax Tryz.prog q4m.f q4m.qj2:=E2.qdo Tryz.checked.mixed tables (E2.qar zm4 E2.qd3) (by kernel_rfl) zq1
theorem zpt:∀ F ∈ [q4j,q4m,q4l],E2.qax Tryz.prog F.f F.qj2:=(E2.qar zpq (E2.qar zps (E2.qar zpr E2.qd3)))
end Go.Proofs.YtpbliaccnbgapaaGreatDoor.eventAwake
