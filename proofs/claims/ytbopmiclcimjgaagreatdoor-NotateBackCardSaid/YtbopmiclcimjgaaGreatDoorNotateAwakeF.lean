import Derived.Test.YtbopmiclcimjgaaGreatDoorM2
import Derived.Test.YtbopmiclcimjgaaGreatDoorRows
import Derived.Test.YtbopmiclcimjgaaGreatDoorNotateGlob
namespace Go.Proofs.YtbopmiclcimjgaaGreatDoor.notateAwake
open Go
set_option maxRecDepth 100000
theorem tables:E2.ql9 Tryz.prog=true:=by kernel_rfl
end Go.Proofs.YtbopmiclcimjgaaGreatDoor.notateAwake
namespace Go.Proofs.YtbopmiclcimjgaaGreatDoor.notateAwake
open Go
set_option maxRecDepth 100000
abbrev i (n:Int):E2.V:=.int .i64 n
abbrev f:E2.V:=.bool false
abbrev t:E2.V:=.bool true
def q6g:E2.Fact:={
  f:=31,args:=[.agg [i 2,i 3,i 0,i 0,f,i 0,f,f,i 0,i 0,i 0,i 0,f,i 0,i 0,i 0,i 0],.str [114,66]],
  pre:=[(0,uses)],
  next:=7,ro:=7,za:=7,ret:=t,
  post:=[],next':=41}
def q6h:E2.Fact:={
  f:=12,args:=[.str [116,52,94,33]],
  pre:=[(0,uses)],
  next:=7,ro:=7,za:=7,ret:=.tuple [.agg [i 4,i 0,i 4,i 0,f,i 1,f,t,i 0,i 0,i 0,i 0,f,i 0,i 0,i 0,i 0],i 0],
  post:=[],next':=30}
def zck:E2.Fact:={
  f:=78,args:=[.str [79,46]],
  pre:=[],
  next:=7,ro:=7,za:=7,ret:=.tuple [.agg [i 2,i 2,i 3,i 3],i 0],
  post:=[],next':=122}
def q6i:E2.Fact:={
  f:=12,args:=[.str [40,79,46,41,124]],
  pre:=[(0,uses)],
  next:=7,ro:=7,za:=7,ret:=.tuple [.agg [i 5,i 0,i 0,i 0,f,i 0,f,f,i 2,i 2,i 3,i 3,t,i 0,i 0,i 0,i 0],i 0],
  post:=[],next':=152}
def q6j:E2.Fact:={
  f:=12,args:=[.str [51,47,50]],
  pre:=[(0,uses)],
  next:=7,ro:=7,za:=7,ret:=.tuple [.agg [i 6,i 0,i 0,i 0,f,i 0,f,f,i 0,i 0,i 0,i 0,f,i 3,i 2,i 0,i 0],i 0],
  post:=[],next':=36}
def q6k:E2.Fact:={
  f:=12,args:=[.str [64,67,51]],
  pre:=[(0,uses)],
  next:=7,ro:=7,za:=7,ret:=.tuple [.agg [i 7,i 0,i 0,i 0,f,i 0,f,f,i 0,i 0,i 0,i 0,f,i 0,i 0,i 0,i 3],i 0],
  post:=[],next':=39}
def q6l:E2.Fact:={
  f:=12,args:=[.str [93,50]],
  pre:=[(0,uses)],
  next:=7,ro:=7,za:=7,ret:=.tuple [.agg [i 10,i 0,i 0,i 0,f,i 0,f,f,i 0,i 0,i 0,i 0,f,i 2,i 0,i 0,i 0],i 0],
  post:=[],next':=48}
def q6m:E2.Fact:={
  f:=12,args:=[.str [116,117,114,110]],
  pre:=[(0,uses)],
  next:=7,ro:=7,za:=7,ret:=.tuple [.agg [i 11,i 0,i 0,i 0,f,i 0,f,f,i 0,i 0,i 0,i 0,f,i 0,i 0,i 0,i 0],i 0],
  post:=[],next':=51}
def q6n:E2.Fact:={
  f:=12,args:=[.str [77,48,52]],
  pre:=[],
  next:=7,ro:=7,za:=7,ret:=.tuple [.agg [i 0,i 0,i 0,i 0,f,i 0,f,f,i 0,i 0,i 0,i 0,f,i 0,i 0,i 0,i 0],i 3],
  post:=[],next':=46}
def q6o:E2.Fact:={
  f:=12,args:=[.str [115,52]],
  pre:=[],
  next:=7,ro:=7,za:=7,ret:=.tuple [.agg [i 0,i 0,i 0,i 0,f,i 0,f,f,i 0,i 0,i 0,i 0,f,i 0,i 0,i 0,i 0],i 3],
  post:=[],next':=46}
def qxj:E2.Fact:={
  f:=12,args:=[.str [116,52,33,126]],
  pre:=[],
  next:=7,ro:=7,za:=7,ret:=.tuple [.agg [i 0,i 0,i 0,i 0,f,i 0,f,f,i 0,i 0,i 0,i 0,f,i 0,i 0,i 0,i 0],i 3],
  post:=[],next':=46}
def qxk:E2.Fact:={
  f:=12,args:=[.str [116,52,126,33]],
  pre:=[(0,uses)],
  next:=7,ro:=7,za:=7,ret:=.tuple [.agg [i 0,i 0,i 0,i 0,f,i 0,f,f,i 0,i 0,i 0,i 0,f,i 0,i 0,i 0,i 0],i 3],
  post:=[],next':=30}
def qxl:E2.Fact:={
  f:=12,args:=[.str [48,47,50]],
  pre:=[(0,uses)],
  next:=7,ro:=7,za:=7,ret:=.tuple [.agg [i 0,i 0,i 0,i 0,f,i 0,f,f,i 0,i 0,i 0,i 0,f,i 0,i 0,i 0,i 0],i 2],
  post:=[],next':=36}
def qxm:E2.Fact:={
  f:=12,args:=[.str [91,50]],
  pre:=[],
  next:=7,ro:=7,za:=7,ret:=.tuple [.agg [i 0,i 0,i 0,i 0,f,i 0,f,f,i 0,i 0,i 0,i 0,f,i 0,i 0,i 0,i 0],i 3],
  post:=[],next':=46}
def qxn:E2.Fact:={
  f:=12,args:=[.str [93,49]],
  pre:=[(0,uses)],
  next:=7,ro:=7,za:=7,ret:=.tuple [.agg [i 0,i 0,i 0,i 0,f,i 0,f,f,i 0,i 0,i 0,i 0,f,i 0,i 0,i 0,i 0],i 2],
  post:=[],next':=48}
def q3h:E2.Fact:={
  f:=78,args:=[.str [50,50,79]],
  pre:=[],
  next:=7,ro:=7,za:=7,ret:=.tuple [.agg [i 0,i 0,i 0,i 0],i 3],
  post:=[],next':=122}
def qxo:E2.Fact:={
  f:=12,args:=[.str [40,50,50,79,41]],
  pre:=[],
  next:=7,ro:=7,za:=7,ret:=.tuple [.agg [i 0,i 0,i 0,i 0,f,i 0,f,f,i 0,i 0,i 0,i 0,f,i 0,i 0,i 0,i 0],i 3],
  post:=[],next':=162}
def qxp:E2.Fact:={
  f:=12,args:=[.str [64,68,51]],
  pre:=[],
  next:=7,ro:=7,za:=7,ret:=.tuple [.agg [i 0,i 0,i 0,i 0,f,i 0,f,f,i 0,i 0,i 0,i 0,f,i 0,i 0,i 0,i 0],i 3],
  post:=[],next':=46}
def qxq:E2.Fact:={
  f:=18,args:=[.str [112,97,114,116,32,97,10,83,52,10]],
  pre:=[(0,uses)],
  next:=7,ro:=7,za:=7,ret:=.tuple [.agg [.str [],.nils],.agg [i 9,i 10]],
  post:=[],next':=63}
def q3i:E2.Fact:={
  f:=12,args:=[.str [116,52]],
  pre:=[(0,uses)],
  next:=7,ro:=7,za:=7,ret:=.tuple [.agg [i 4,i 0,i 4,i 0,f,i 0,f,f,i 0,i 0,i 0,i 0,f,i 0,i 0,i 0,i 0],i 0],
  post:=[],next':=30}
def qxr:E2.Fact:={
  f:=18,args:=[.str [112,97,114,116,32,97,10,116,52,32,83,51,10,101,110,100,10]],
  pre:=[(0,uses)],
  next:=7,ro:=7,za:=7,ret:=.tuple [.agg [.str [],.nils],.agg [i 3,i 7]],
  post:=[],next':=117}
def q3j:E2.Fact:={
  f:=23,args:=[.str [112,97,114,116,32,97,10,40,79,41,32,83,52,32,46,32,59,32,120,10,77,51,10,101,110,100,10]],
  pre:=[],
  next:=7,ro:=7,za:=7,ret:=.tuple [.slice 22 3 0 4 2 none,.agg [i 0,i 0]],
  post:=[(15,.row [i 0,.str [112,97,114,116],f,i 5,.str [97],f] 100 1 0 0 false),
    (22,.row [i 0,.slice 15 1 0 2 3 none,i 7,.slice 29 2 0 3 3 none,i 20,.slice 45 0 0 1 3 none,i 23,.slice 55 0 0 1 3 none] 56 3 0 0 false),
    (29,.row [i 7,.str [40,79,41],f,i 11,.str [83,52],f,i 14,.str [46],f] 100 2 0 0 false),
    (45,.row [i 20,.str [77,51],f] 100 0 0 0 false),
    (55,.row [i 23,.str [101,110,100],f] 100 0 0 0 false)],next':=64}
def q3k:E2.Fact:={
  f:=78,args:=[.str [79]],
  pre:=[],
  next:=7,ro:=7,za:=7,ret:=.tuple [.agg [i 2,i 2,i 3,i 2],i 0],
  post:=[],next':=122}
def q3l:E2.Fact:={
  f:=12,args:=[.str [40,79,41]],
  pre:=[(0,uses)],
  next:=7,ro:=7,za:=7,ret:=.tuple [.agg [i 5,i 0,i 0,i 0,f,i 0,f,f,i 2,i 2,i 3,i 2,f,i 0,i 0,i 0,i 0],i 0],
  post:=[],next':=152}
def qxs:E2.Fact:={
  f:=18,args:=[.str [112,97,114,116,32,97,10,40,79,41,32,83,52,32,46,32,59,32,120,10,77,51,10,101,110,100,10]],
  pre:=[(0,uses)],
  next:=7,ro:=7,za:=7,ret:=.tuple [.agg [.str [97],.slice 217 3 0 4 17 none],.agg [i 0,i 0]],
  post:=[(217,.row [i 5,i 0,i 0,i 0,f,i 0,f,f,i 2,i 2,i 3,i 2,f,i 0,i 0,i 0,i 0,i 1,i 4,i 4,i 0,f,i 0,f,f,i 0,i 0,i 0,i 0,f,i 0,i 0,i 0,i 0,i 3,i 0,i 0,i 0,f,i 0,f,f,i 0,i 0,i 0,i 0,f,i 0,i 0,i 0,i 0,i 1,i 5,i 3,i 0,f,i 0,f,f,i 0,i 0,i 0,i 0,f,i 0,i 0,i 0,i 0] 27 3 0 0 false)],next':=322}
def qxt:E2.Fact:={
  f:=15,args:=[.agg [.str [97],.slice 7 0 0 4 17 (some 4)]],
  pre:=[(0,uses),
    (7,.row [i 5,i 0,i 0,i 0,f,i 0,f,f,i 2,i 2,i 3,i 2,f,i 0,i 0,i 0,i 0,i 1,i 4,i 4,i 0,f,i 0,f,f,i 0,i 0,i 0,i 0,f,i 0,i 0,i 0,i 0,i 3,i 0,i 0,i 0,f,i 0,f,f,i 0,i 0,i 0,i 0,f,i 0,i 0,i 0,i 0,i 1,i 5,i 3,i 0,f,i 0,f,f,i 0,i 0,i 0,i 0,f,i 0,i 0,i 0,i 0] 27 0 0 0 true)],
  next:=8,ro:=8,za:=7,ret:=.tuple [.str [112,97,114,116,32,97,10,40,79,41,32,83,52,32,46,32,77,51,10,101,110,100,10],i 0],
  post:=[],next':=130}
def qxu:E2.Fact:={
  f:=31,args:=[.agg [i 1,i 4,i (-2),i (-1),t,i 0,f,f,i 0,i 0,i 0,i 0,f,i 0,i 0,i 0,i 0],.str [83,45,50,98,42]],
  pre:=[(0,uses),
    (4,qu4)],
  next:=7,ro:=7,za:=7,ret:=t,
  post:=[],next':=40}
end Go.Proofs.YtbopmiclcimjgaaGreatDoor.notateAwake
namespace Go.Proofs.YtbopmiclcimjgaaGreatDoor.notateAwake
open Go
set_option maxRecDepth 100000
theorem zxp:E2.Fact.ok2 q6g (E2.qq Tryz.prog (E2.qbe [])) 1000=true:=by kernel_rfl
theorem zxq:E2.Fact.ok2 q6h (E2.qq Tryz.prog (E2.qbe [])) 1000=true:=by kernel_rfl
theorem zxr:E2.Fact.ok2 zck (E2.qq Tryz.prog (E2.qbe [])) 1000=true:=by kernel_rfl
theorem zxs:E2.Fact.ok2 q6i (E2.qq Tryz.prog (E2.qbe [zck])) 1000=true:=by kernel_rfl
theorem zxt:E2.Fact.ok2 q6j (E2.qq Tryz.prog (E2.qbe [])) 1000=true:=by kernel_rfl
theorem zxu:E2.Fact.ok2 q6k (E2.qq Tryz.prog (E2.qbe [])) 1000=true:=by kernel_rfl
end Go.Proofs.YtbopmiclcimjgaaGreatDoor.notateAwake
namespace Go.Proofs.YtbopmiclcimjgaaGreatDoor.notateAwake
open Go
set_option maxRecDepth 100000
theorem zxv:E2.Fact.ok2 q6l (E2.qq Tryz.prog (E2.qbe [])) 1000=true:=by kernel_rfl
theorem zxw:E2.Fact.ok2 q6m (E2.qq Tryz.prog (E2.qbe [])) 1000=true:=by kernel_rfl
theorem zxx:E2.Fact.ok2 q6n (E2.qq Tryz.prog (E2.qbe [])) 1000=true:=by kernel_rfl
theorem zxy:E2.Fact.ok2 q6o (E2.qq Tryz.prog (E2.qbe [])) 1000=true:=by kernel_rfl
theorem zv0:E2.Fact.ok2 qxj (E2.qq Tryz.prog (E2.qbe [])) 1000=true:=by kernel_rfl
end Go.Proofs.YtbopmiclcimjgaaGreatDoor.notateAwake
namespace Go.Proofs.YtbopmiclcimjgaaGreatDoor.notateAwake
open Go
set_option maxRecDepth 100000
theorem zv1:E2.Fact.ok2 qxk (E2.qq Tryz.prog (E2.qbe [])) 1000=true:=by kernel_rfl
theorem zv2:E2.Fact.ok2 qxl (E2.qq Tryz.prog (E2.qbe [])) 1000=true:=by kernel_rfl
theorem zv3:E2.Fact.ok2 qxm (E2.qq Tryz.prog (E2.qbe [])) 1000=true:=by kernel_rfl
theorem zv4:E2.Fact.ok2 qxn (E2.qq Tryz.prog (E2.qbe [])) 1000=true:=by kernel_rfl
theorem zv5:E2.Fact.ok2 q3h (E2.qq Tryz.prog (E2.qbe [])) 1000=true:=by kernel_rfl
theorem zv6:E2.Fact.ok2 qxo (E2.qq Tryz.prog (E2.qbe [q3h])) 1000=true:=by kernel_rfl
end Go.Proofs.YtbopmiclcimjgaaGreatDoor.notateAwake
namespace Go.Proofs.YtbopmiclcimjgaaGreatDoor.notateAwake
open Go
set_option maxRecDepth 100000
theorem zv7:E2.Fact.ok2 qxp (E2.qq Tryz.prog (E2.qbe [])) 1000=true:=by kernel_rfl
theorem zv8:E2.Fact.ok2 qxq (E2.qq Tryz.prog (E2.qbe [])) 1000=true:=by kernel_rfl
theorem zv9:E2.Fact.ok2 q3i (E2.qq Tryz.prog (E2.qbe [])) 1000=true:=by kernel_rfl
theorem zwa:E2.Fact.ok2 qxr (E2.qq Tryz.prog (E2.qbe [q3i])) 1000=true:=by kernel_rfl
theorem zwb:E2.Fact.ok2 q3j (E2.qq Tryz.prog (E2.qbe [])) 1000=true:=by kernel_rfl
end Go.Proofs.YtbopmiclcimjgaaGreatDoor.notateAwake
namespace Go.Proofs.YtbopmiclcimjgaaGreatDoor.notateAwake
open Go
set_option maxRecDepth 100000
theorem zwc:E2.Fact.ok2 q3k (E2.qq Tryz.prog (E2.qbe [])) 1000=true:=by kernel_rfl
theorem zwd:E2.Fact.ok2 q3l (E2.qq Tryz.prog (E2.qbe [q3k])) 1000=true:=by kernel_rfl
theorem zwe:E2.Fact.ok2 qxs (E2.qq Tryz.prog (E2.qbe [q3j,q3l])) 1000=true:=by kernel_rfl
theorem zwf:E2.Fact.ok2 qxt (E2.qq Tryz.prog (E2.qbe [])) 1000=true:=by kernel_rfl
end Go.Proofs.YtbopmiclcimjgaaGreatDoor.notateAwake
namespace Go.Proofs.YtbopmiclcimjgaaGreatDoor.notateAwake
open Go
set_option maxRecDepth 100000
theorem zwg:E2.Fact.ok2 qxu (E2.qq Tryz.prog (E2.qbe [])) 1000=true:=by kernel_rfl
end Go.Proofs.YtbopmiclcimjgaaGreatDoor.notateAwake
namespace Go.Proofs.YtbopmiclcimjgaaGreatDoor.notateAwake
open Go
set_option maxRecDepth 100000
def qsm:E2.Fact:={f:=20,args:=[],pre:=za,next:=7,ro:=7,za:=7,ret:=.bool true,post:=[],next':=1692}
theorem zir:E2.Fact.ok2 qsm (E2.qq Tryz.prog (E2.qbe [q6g,q6h,q6i,q6j,q6k,q6l,q6m,q6n,q6o,qxj,qxk,qxl,qxm,qxn,qxo,qxp,qxq,qxr,qxs,qxt,qxu])) 1000=true:=by kernel_rfl
end Go.Proofs.YtbopmiclcimjgaaGreatDoor.notateAwake
namespace Go.Proofs.YtbopmiclcimjgaaGreatDoor.notateAwake
open Go
set_option maxRecDepth 100000
theorem zuu:E2.kg Tryz.prog q6g.f q6g.qcw:=E2.zq Tryz.checked.mixed tables E2.zr (by kernel_rfl) zxp
theorem zuv:E2.kg Tryz.prog q6h.f q6h.qcw:=E2.zq Tryz.checked.mixed tables E2.zr (by kernel_rfl) zxq
theorem zuw:E2.kg Tryz.prog zck.f zck.qcw:=E2.zq Tryz.checked.mixed tables E2.zr (by kernel_rfl) zxr
theorem zux:E2.kg Tryz.prog q6i.f q6i.qcw:=E2.zq Tryz.checked.mixed tables (E2.zp zuw E2.zr) (by kernel_rfl) zxs
theorem zuy:E2.kg Tryz.prog q6j.f q6j.qcw:=E2.zq Tryz.checked.mixed tables E2.zr (by kernel_rfl) zxt
theorem zuz:E2.kg Tryz.prog q6k.f q6k.qcw:=E2.zq Tryz.checked.mixed tables E2.zr (by kernel_rfl) zxu
theorem zu0:E2.kg Tryz.prog q6l.f q6l.qcw:=E2.zq Tryz.checked.mixed tables E2.zr (by kernel_rfl) zxv
theorem zu1:E2.kg Tryz.prog q6m.f q6m.qcw:=E2.zq Tryz.checked.mixed tables E2.zr (by kernel_rfl) zxw
theorem zu2:E2.kg Tryz.prog q6n.f q6n.qcw:=E2.zq Tryz.checked.mixed tables E2.zr (by kernel_rfl) zxx
theorem zu3:E2.kg Tryz.prog q6o.f q6o.qcw:=E2.zq Tryz.checked.mixed tables E2.zr (by kernel_rfl) zxy
theorem zsd:E2.kg Tryz.prog qxj.f qxj.qcw:=E2.zq Tryz.checked.mixed tables E2.zr (by kernel_rfl) zv0
theorem zse:E2.kg Tryz.prog qxk.f qxk.qcw:=E2.zq Tryz.checked.mixed tables E2.zr (by kernel_rfl) zv1
theorem zsf:E2.kg Tryz.prog qxl.f qxl.qcw:=E2.zq Tryz.checked.mixed tables E2.zr (by kernel_rfl) zv2
theorem zsg:E2.kg Tryz.prog qxm.f qxm.qcw:=E2.zq Tryz.checked.mixed tables E2.zr (by kernel_rfl) zv3
theorem zsh:E2.kg Tryz.prog qxn.f qxn.qcw:=E2.zq Tryz.checked.mixed tables E2.zr (by kernel_rfl) zv4
theorem zsi:E2.kg Tryz.prog q3h.f q3h.qcw:=E2.zq Tryz.checked.mixed tables E2.zr (by kernel_rfl) zv5
theorem zsj:E2.kg Tryz.prog qxo.f qxo.qcw:=E2.zq Tryz.checked.mixed tables (E2.zp zsi E2.zr) (by kernel_rfl) zv6
theorem zsk:E2.kg Tryz.prog qxp.f qxp.qcw:=E2.zq Tryz.checked.mixed tables E2.zr (by kernel_rfl) zv7
theorem zsl:E2.kg Tryz.prog qxq.f qxq.qcw:=E2.zq Tryz.checked.mixed tables E2.zr (by kernel_rfl) zv8
theorem zsm:E2.kg Tryz.prog q3i.f q3i.qcw:=E2.zq Tryz.checked.mixed tables E2.zr (by kernel_rfl) zv9
theorem zsn:E2.kg Tryz.prog qxr.f qxr.qcw:=E2.zq Tryz.checked.mixed tables (E2.zp zsm E2.zr) (by kernel_rfl) zwa
theorem zso:E2.kg Tryz.prog q3j.f q3j.qcw:=E2.zq Tryz.checked.mixed tables E2.zr (by kernel_rfl) zwb
theorem zsp:E2.kg Tryz.prog q3k.f q3k.qcw:=E2.zq Tryz.checked.mixed tables E2.zr (by kernel_rfl) zwc
theorem zsq:E2.kg Tryz.prog q3l.f q3l.qcw:=E2.zq Tryz.checked.mixed tables (E2.zp zsp E2.zr) (by kernel_rfl) zwd
theorem zsr:E2.kg Tryz.prog qxs.f qxs.qcw:=E2.zq Tryz.checked.mixed tables (E2.zp zso (E2.zp zsq E2.zr)) (by kernel_rfl) zwe
theorem zss:E2.kg Tryz.prog qxt.f qxt.qcw:=E2.zq Tryz.checked.mixed tables E2.zr (by kernel_rfl) zwf
theorem zst:E2.kg Tryz.prog qxu.f qxu.qcw:=E2.zq Tryz.checked.mixed tables E2.zr (by kernel_rfl) zwg
theorem zu5:∀ F ∈ [q6g,q6h,q6i,q6j,q6k,q6l,q6m,q6n,q6o,qxj,qxk,qxl,qxm,qxn,qxo,qxp,qxq,qxr,qxs,qxt,qxu],E2.kg Tryz.prog F.f F.qcw:=(E2.zp zuu (E2.zp zuv (E2.zp zux (E2.zp zuy (E2.zp zuz (E2.zp zu0 (E2.zp zu1 (E2.zp zu2 (E2.zp zu3 (E2.zp zsd (E2.zp zse (E2.zp zsf (E2.zp zsg (E2.zp zsh (E2.zp zsj (E2.zp zsk (E2.zp zsl (E2.zp zsn (E2.zp zsr (E2.zp zss (E2.zp zst E2.zr)))))))))))))))))))))
end Go.Proofs.YtbopmiclcimjgaaGreatDoor.notateAwake
