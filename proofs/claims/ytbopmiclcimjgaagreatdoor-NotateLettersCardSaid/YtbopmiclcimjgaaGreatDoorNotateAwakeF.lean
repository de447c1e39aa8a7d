/- THE CHECKED PROGRAM's TABLES, as E2 asks for them. Made by program. No condition. -/
import Derived.Test.YtbopmiclcimjgaaGreatDoorM2
import Derived.Test.YtbopmiclcimjgaaGreatDoorRows
import Derived.Test.YtbopmiclcimjgaaGreatDoorNotateGlob
namespace Go.Proofs.YtbopmiclcimjgaaGreatDoor.notateAwake
open Go
set_option maxRecDepth 100000
theorem tables:E2.qf6 Tryz.prog=true:=by kernel_rfl
end Go.Proofs.YtbopmiclcimjgaaGreatDoor.notateAwake
namespace Go.Proofs.YtbopmiclcimjgaaGreatDoor.notateAwake
open Go
set_option maxRecDepth 100000
abbrev i (n:Int):E2.V:=.int .i64 n
abbrev f:E2.V:=.bool false
abbrev t:E2.V:=.bool true
def qvo:E2.Fact:={
  f:=23,args:=[.str [112,97,114,116,32,97,10,40,79,41,32,83,52,32,46,32,59,32,120,10,77,51,10,101,110,100,10]],
  pre:=[],
  next:=7,ro:=7,qk:=7,ret:=.tuple [.slice 22 3 0 4 2 none,.agg [i 0,i 0]],
  post:=[(15,.row [i 0,.str [112,97,114,116],f,i 5,.str [97],f] 100 1 0 0 false),
    (22,.row [i 0,.slice 15 1 0 2 3 none,i 7,.slice 29 2 0 3 3 none,i 20,.slice 45 0 0 1 3 none,i 23,.slice 55 0 0 1 3 none] 56 3 0 0 false),
    (29,.row [i 7,.str [40,79,41],f,i 11,.str [83,52],f,i 14,.str [46],f] 100 2 0 0 false),
    (45,.row [i 20,.str [77,51],f] 100 0 0 0 false),
    (55,.row [i 23,.str [101,110,100],f] 100 0 0 0 false)],next':=64}
def qvp:E2.Fact:={
  f:=78,args:=[.str [79]],
  pre:=[],
  next:=7,ro:=7,qk:=7,ret:=.tuple [.agg [i 2,i 2,i 3,i 2],i 0],
  post:=[],next':=122}
def qvq:E2.Fact:={
  f:=12,args:=[.str [40,79,41]],
  pre:=[(0,uses)],
  next:=7,ro:=7,qk:=7,ret:=.tuple [.agg [i 5,i 0,i 0,i 0,f,i 0,f,f,i 2,i 2,i 3,i 2,f,i 0,i 0,i 0,i 0],i 0],
  post:=[],next':=152}
def qvr:E2.Fact:={
  f:=12,args:=[.str [46]],
  pre:=[(0,uses)],
  next:=7,ro:=7,qk:=7,ret:=.tuple [.agg [i 3,i 0,i 0,i 0,f,i 0,f,f,i 0,i 0,i 0,i 0,f,i 0,i 0,i 0,i 0],i 0],
  post:=[],next':=27}
def qvs:E2.Fact:={
  f:=12,args:=[.str [77,51]],
  pre:=[(0,uses)],
  next:=7,ro:=7,qk:=7,ret:=.tuple [.agg [i 1,i 5,i 3,i 0,f,i 0,f,f,i 0,i 0,i 0,i 0,f,i 0,i 0,i 0,i 0],i 0],
  post:=[],next':=21}
def qvt:E2.Fact:={
  f:=44,args:=[.agg [.str [97],.slice 7 3 0 4 17 none]],
  pre:=[(0,uses),
    (7,.row [i 5,i 0,i 0,i 0,f,i 0,f,f,i 2,i 2,i 3,i 2,f,i 0,i 0,i 0,i 0,i 1,i 4,i 4,i 0,f,i 0,f,f,i 0,i 0,i 0,i 0,f,i 0,i 0,i 0,i 0,i 3,i 0,i 0,i 0,f,i 0,f,f,i 0,i 0,i 0,i 0,f,i 0,i 0,i 0,i 0,i 1,i 5,i 3,i 0,f,i 0,f,f,i 0,i 0,i 0,i 0,f,i 0,i 0,i 0,i 0] 27 3 0 0 false)],
  next:=8,ro:=8,qk:=7,ret:=.tuple [i 0,i 0],
  post:=[],next':=48}
def qst:E2.Fact:={
  f:=18,args:=[.str [112,97,114,116,32,97,10,40,79,41,32,83,52,32,46,32,59,32,120,10,77,51,10,101,110,100,10]],
  pre:=[(0,uses)],
  next:=7,ro:=7,qk:=7,ret:=.tuple [.agg [.str [97],.slice 217 3 0 4 17 none],.agg [i 0,i 0]],
  post:=[(217,.row [i 5,i 0,i 0,i 0,f,i 0,f,f,i 2,i 2,i 3,i 2,f,i 0,i 0,i 0,i 0,i 1,i 4,i 4,i 0,f,i 0,f,f,i 0,i 0,i 0,i 0,f,i 0,i 0,i 0,i 0,i 3,i 0,i 0,i 0,f,i 0,f,f,i 0,i 0,i 0,i 0,f,i 0,i 0,i 0,i 0,i 1,i 5,i 3,i 0,f,i 0,f,f,i 0,i 0,i 0,i 0,f,i 0,i 0,i 0,i 0] 27 3 0 0 false)],next':=322}
def qvu:E2.Fact:={
  f:=44,args:=[.agg [.str [97],.slice 7 0 0 4 17 (some 4)]],
  pre:=[(0,uses),
    (7,.row [i 5,i 0,i 0,i 0,f,i 0,f,f,i 2,i 2,i 3,i 2,f,i 0,i 0,i 0,i 0,i 1,i 4,i 4,i 0,f,i 0,f,f,i 0,i 0,i 0,i 0,f,i 0,i 0,i 0,i 0,i 3,i 0,i 0,i 0,f,i 0,f,f,i 0,i 0,i 0,i 0,f,i 0,i 0,i 0,i 0,i 1,i 5,i 3,i 0,f,i 0,f,f,i 0,i 0,i 0,i 0,f,i 0,i 0,i 0,i 0] 27 0 0 0 true)],
  next:=8,ro:=8,qk:=7,ret:=.tuple [i 0,i 0],
  post:=[],next':=48}
def qsu:E2.Fact:={
  f:=15,args:=[.agg [.str [97],.slice 7 0 0 4 17 (some 4)]],
  pre:=[(0,uses),
    (7,.row [i 5,i 0,i 0,i 0,f,i 0,f,f,i 2,i 2,i 3,i 2,f,i 0,i 0,i 0,i 0,i 1,i 4,i 4,i 0,f,i 0,f,f,i 0,i 0,i 0,i 0,f,i 0,i 0,i 0,i 0,i 3,i 0,i 0,i 0,f,i 0,f,f,i 0,i 0,i 0,i 0,f,i 0,i 0,i 0,i 0,i 1,i 5,i 3,i 0,f,i 0,f,f,i 0,i 0,i 0,i 0,f,i 0,i 0,i 0,i 0] 27 0 0 0 true)],
  next:=8,ro:=8,qk:=7,ret:=.tuple [.str [112,97,114,116,32,97,10,40,79,41,32,83,52,32,46,32,77,51,10,101,110,100,10],i 0],
  post:=[],next':=130}
def qsv:E2.Fact:={
  f:=31,args:=[.agg [i 1,i 4,i (-2),i (-1),t,i 0,f,f,i 0,i 0,i 0,i 0,f,i 0,i 0,i 0,i 0],.str [83,45,50,98,42]],
  pre:=[(0,uses),
    (4,q1q)],
  next:=7,ro:=7,qk:=7,ret:=t,
  post:=[],next':=40}
end Go.Proofs.YtbopmiclcimjgaaGreatDoor.notateAwake
namespace Go.Proofs.YtbopmiclcimjgaaGreatDoor.notateAwake
open Go
set_option maxRecDepth 100000
theorem q3r:E2.Fact.ok2 qvo (E2.ql Tryz.prog (E2.qes [])) 1000=true:=by kernel_rfl
theorem q3s:E2.Fact.ok2 qvp (E2.ql Tryz.prog (E2.qes [])) 1000=true:=by kernel_rfl
theorem q3t:E2.Fact.ok2 qvq (E2.ql Tryz.prog (E2.qes [qvp])) 1000=true:=by kernel_rfl
theorem q3u:E2.Fact.ok2 qvr (E2.ql Tryz.prog (E2.qes [])) 1000=true:=by kernel_rfl
theorem q3v:E2.Fact.ok2 qvs (E2.ql Tryz.prog (E2.qes [])) 1000=true:=by kernel_rfl
end Go.Proofs.YtbopmiclcimjgaaGreatDoor.notateAwake
namespace Go.Proofs.YtbopmiclcimjgaaGreatDoor.notateAwake
open Go
set_option maxRecDepth 100000
theorem q3w:E2.Fact.ok2 qvt (E2.ql Tryz.prog (E2.qes [])) 1000=true:=by kernel_rfl
theorem q3x:E2.Fact.ok2 qst (E2.ql Tryz.prog (E2.qes [qvo,qvq,qvr,qvs,qvt])) 1000=true:=by kernel_rfl
theorem q3y:E2.Fact.ok2 qvu (E2.ql Tryz.prog (E2.qes [])) 1000=true:=by kernel_rfl
theorem q3z:E2.Fact.ok2 qsu (E2.ql Tryz.prog (E2.qes [qvu])) 1000=true:=by kernel_rfl
theorem q30:E2.Fact.ok2 qsv (E2.ql Tryz.prog (E2.qes [])) 1000=true:=by kernel_rfl
end Go.Proofs.YtbopmiclcimjgaaGreatDoor.notateAwake
namespace Go.Proofs.YtbopmiclcimjgaaGreatDoor.notateAwake
open Go
set_option maxRecDepth 100000
def qkj:E2.Fact:={f:=9,args:=[],pre:=qk,next:=7,ro:=7,qk:=7,ret:=.bool true,post:=[],next':=485}
theorem qx9:E2.Fact.ok2 qkj (E2.ql Tryz.prog (E2.qes [qst,qsu,qsv])) 1000=true:=by kernel_rfl
end Go.Proofs.YtbopmiclcimjgaaGreatDoor.notateAwake
namespace Go.Proofs.YtbopmiclcimjgaaGreatDoor.notateAwake
open Go
set_option maxRecDepth 100000
theorem q2r:E2.kb Tryz.prog qvo.f qvo.qet:=E2.jh Tryz.checked.mixed tables E2.jt (by kernel_rfl) q3r
theorem q2s:E2.kb Tryz.prog qvp.f qvp.qet:=E2.jh Tryz.checked.mixed tables E2.jt (by kernel_rfl) q3s
theorem q2t:E2.kb Tryz.prog qvq.f qvq.qet:=E2.jh Tryz.checked.mixed tables (E2.jg q2s E2.jt) (by kernel_rfl) q3t
theorem q2u:E2.kb Tryz.prog qvr.f qvr.qet:=E2.jh Tryz.checked.mixed tables E2.jt (by kernel_rfl) q3u
theorem q2v:E2.kb Tryz.prog qvs.f qvs.qet:=E2.jh Tryz.checked.mixed tables E2.jt (by kernel_rfl) q3v
theorem q2w:E2.kb Tryz.prog qvt.f qvt.qet:=E2.jh Tryz.checked.mixed tables E2.jt (by kernel_rfl) q3w
theorem q2x:E2.kb Tryz.prog qst.f qst.qet:=E2.jh Tryz.checked.mixed tables (E2.jg q2r (E2.jg q2t (E2.jg q2u (E2.jg q2v (E2.jg q2w E2.jt))))) (by kernel_rfl) q3x
theorem q2y:E2.kb Tryz.prog qvu.f qvu.qet:=E2.jh Tryz.checked.mixed tables E2.jt (by kernel_rfl) q3y
theorem q2z:E2.kb Tryz.prog qsu.f qsu.qet:=E2.jh Tryz.checked.mixed tables (E2.jg q2y E2.jt) (by kernel_rfl) q3z
theorem q20:E2.kb Tryz.prog qsv.f qsv.qet:=E2.jh Tryz.checked.mixed tables E2.jt (by kernel_rfl) q30
theorem q21:∀ F ∈ [qst,qsu,qsv],E2.kb Tryz.prog F.f F.qet:=(E2.jg q2x (E2.jg q2z (E2.jg q20 E2.jt)))
end Go.Proofs.YtbopmiclcimjgaaGreatDoor.notateAwake
