import Derived.Test.YtcnoipglgpkpeaaGreatDoorDall
import Derived.Test.YtcnoipglgpkpeaaGreatDoorCfg
namespace Go.Proofs.YtcnoipglgpkpeaaGreatDoor
open Go Go.E2 Go.E3
set_option maxRecDepth 100000
variable {sp:Nat->Option (List V->Heap->Option (CR×Heap))}
def zdr:Ct KT:=([.one (.int .i64),.one (.int .i64)],fun ns=>match ns with
  | [.i a0,.i a1]=>some ((0<=a0/\0<=a1/\a0<=4611686018427387904/\a1<=4611686018427387904),.int .i64 none (zd a0 a1))
  | _=>none)
def zdo:Ct KT:=([.agg [.int .i64,.int .i64]],fun ns=>match ns with
  | [.i a0,.i a1]=>some (True,.int .i64 none (qd a0 a1))
  | _=>none)
def zdq:Ct KT:=([.one (.list 9 false false)],fun ns=>match ns with
  | [.l 9 a0]=>some ((ln a0<=1000000000),.int .i64 none (qaf a0))
  | _=>none)
def zlj:Ct KT:=([.one (.int .i64),.one (.int .i64)],fun ns=>match ns with
  | [.i a0,.i a1]=>some ((0<=a0/\1<=a1/\a0<=4611686018427387904/\a1<=4611686018427387904),.tuple [.agg [.int .i64 none ((ofT a0 a1).1),.int .i64 none ((ofT a0 a1).2.1)],.int .i64 none ((ofT a0 a1).2.2)])
  | _=>none)
def q0z:Ct KT:=([.agg [.int .i64,.int .i64],.agg [.int .i64,.int .i64]],fun ns=>match ns with
  | [.i a0,.i a1,.i a2,.i a3]=>some (True,.tuple [.agg [.int .i64 none ((zs a0 a1 a2 a3).1),.int .i64 none ((zs a0 a1 a2 a3).2.1)],.int .i64 none ((zs a0 a1 a2 a3).2.2)])
  | _=>none)
def q93:Ct KT:=([.one (.int .i64),.one (.int .i64),.one (.int .i64),.one (.int .i64)],fun ns=>match ns with
  | [.i a0,.i a1,.i a2,.i a3]=>some (qfs a0 a1 a2 a3,.tuple [.agg [.int .i64 none ((ku a0 a1 a2 a3).1),.int .i64 none ((ku a0 a1 a2 a3).2.1)],.int .i64 none ((ku a0 a1 a2 a3).2.2)])
  | _=>none)
def zo0:Ct KT:=([.agg [.int .i64,.int .i64],.agg [.int .i64,.int .i64]],fun ns=>match ns with
  | [.i a0,.i a1,.i a2,.i a3]=>some (True,.tuple [.agg [.int .i64 none ((qal a0 a1 a2 a3).1),.int .i64 none ((qal a0 a1 a2 a3).2.1)],.int .i64 none ((qal a0 a1 a2 a3).2.2)])
  | _=>none)
def ct9:Ct KT:=([.agg [.int .i64,.int .i64,.int .i64]],fun ns=>match ns with
  | [.i a0,.i a1,.i a2]=>some (True,.int .i64 none (qi a0 a1 a2))
  | _=>none)
def zgy:Ct KT:=([.agg [.int .i64,.int .i64,.int .i64],.agg [.int .i64,.int .i64,.int .i64]],fun ns=>match ns with
  | [.i a0,.i a1,.i a2,.i a3,.i a4,.i a5]=>some (True,.tuple [.agg [.int .i64 none ((qa2 a0 a1 a2 a3 a4 a5).1),.int .i64 none ((qa2 a0 a1 a2 a3 a4 a5).2.1),.int .i64 none ((qa2 a0 a1 a2 a3 a4 a5).2.2.1)],.int .i64 none ((qa2 a0 a1 a2 a3 a4 a5).2.2.2)])
  | _=>none)
def zoz:Ct KT:=([.agg [.int .i64,.int .i64,.int .i64],.one (.int .i64)],fun ns=>match ns with
  | [.i a0,.i a1,.i a2,.i a3]=>some (True,.tuple [.agg [.int .i64 none ((qbl a0 a1 a2 a3).1),.int .i64 none ((qbl a0 a1 a2 a3).2.1),.int .i64 none ((qbl a0 a1 a2 a3).2.2.1)],.int .i64 none ((qbl a0 a1 a2 a3).2.2.2)])
  | _=>none)
def zof:Ct KT:=([.agg [.int .i64,.int .i64,.int .i64,.int .i64,.int .i64,.int .i64,.int .i64,.bool,.int .i64,.int .i64]],fun ns=>match ns with
  | [.i a0,.i a1,.i a2,.i a3,.i a4,.i a5,.i a6,.b a7,.i a8,.i a9]=>some (True,.int .i64 none (qcu (Event.mk a0 a1 a2 a3 a4 a5 a6 a7 a8 a9)))
  | _=>none)
def qxn:Ct KT:=([.one (.list 11 false false)],fun ns=>match ns with
  | [.l 11 a0]=>some ((ln a0<=1000000000),.tuple [.int .i64 none ((qe a0).1),.int .i64 none ((qe a0).2)])
  | _=>none)
def zkx:Ct KT:=([.one (.list 11 false false)],fun ns=>match ns with
  | [.l 11 a0]=>some ((ln a0<=1000000000),.list 11 (a0) none)
  | _=>none)
def zll:Ct KT:=([.agg [.int .i64,.int .i64]],fun ns=>match ns with
  | [.i a0,.i a1]=>some (True,.int .i64 none (qhf a0 a1))
  | _=>none)
def q94:Ct KT:=([.one (.list 11 false false)],fun ns=>match ns with
  | [.l 11 a0]=>some ((ln a0<=1000000000),.tuple [.list 11 ((za a0).1) none,.int .i64 none ((za a0).2)])
  | _=>none)
def q95:Ct KT:=([.one (.list 11 false false),.agg [.int .i64,.int .i64,.int .i64]],fun ns=>match ns with
  | [.l 11 a0,.i a1,.i a2,.i a3]=>some ((ln a0<=1000000000),.tuple [.list 11 ((qaz a0 a1 a2 a3).1) none,.int .i64 none ((qaz a0 a1 a2 a3).2)])
  | _=>none)
def zoh:Ct KT:=([.one (.list 11 false false),.one (.int .i64)],fun ns=>match ns with
  | [.l 11 a0,.i a1]=>some ((ln a0<=1000000000),.tuple [.list 11 ((jr a0 a1).1) none,.int .i64 none ((jr a0 a1).2)])
  | _=>none)
def zoi:Ct KT:=([.one (.list 11 false false),.agg [.int .i64,.int .i64]],fun ns=>match ns with
  | [.l 11 a0,.i a1,.i a2]=>some ((ln a0<=1000000000),.tuple [.list 11 ((qbn a0 a1 a2).1) none,.int .i64 none ((qbn a0 a1 a2).2)])
  | _=>none)
def zoj:Ct KT:=([.one (.list 11 false false),.agg [.int .i64,.int .i64]],fun ns=>match ns with
  | [.l 11 a0,.i a1,.i a2]=>some ((ln a0<=1000000000),.tuple [.list 11 ((jq a0 a1 a2).1) none,.int .i64 none ((jq a0 a1 a2).2)])
  | _=>none)
def zog:Ct KT:=([.agg [.int .i64,.int .i64,.int .i64,.int .i64]],fun ns=>match ns with
  | [.i a0,.i a1,.i a2,.i a3]=>some (True,.int .i64 none (qg0 a0 a1 a2 a3))
  | _=>none)
def zn8:Ct KT:=([.agg [.int .i64,.int .i64,.int .i64,.bool,.bool,.int .i64,.int .i64,.int .i64,.int .i64,.int .i64,.int .i64]],fun ns=>match ns with
  | [.i a0,.i a1,.i a2,.b a3,.b a4,.i a5,.i a6,.i a7,.i a8,.i a9,.i a10]=>some (True,.int .i64 none (qjl a0 a1 a2 a5 a6 a7 a8 a9 a10))
  | _=>none)
def zk9:Ct KT:=([.one (.list 11 false false)],fun ns=>match ns with
  | [.l 11 a0]=>some ((ln a0<=1000000000),.tuple [.agg [.int .i64 none ((qc a0).1),.int .i64 none ((qc a0).2.1),.int .i64 none ((qc a0).2.2.1)],.sb 0 false ((qc a0).2.2.2) ((qc a0).2.2.2=true) ((qc a0).2.2.2=false)])
  | _=>none)
def ct8:Ct KT:=([.one (.list 11 false false),.agg [.int .i64,.int .i64,.int .i64,.bool,.bool,.int .i64,.int .i64,.int .i64,.int .i64,.int .i64,.int .i64]],fun ns=>match ns with
  | [.l 11 a0,.i a1,.i a2,.i a3,.b a4,.b a5,.i a6,.i a7,.i a8,.i a9,.i a10,.i a11]=>some ((ln a0<=1000000000),.tuple [.list 11 ((zr a0 a1 a2 a3 a4 a5 a6 a7 a8 a9 a10 a11).1) none,.int .i64 none ((zr a0 a1 a2 a3 a4 a5 a6 a7 a8 a9 a10 a11).2)])
  | _=>none)
def zgw:Ct KT:=([.agg [.int .i64,.int .i64]],fun ns=>match ns with
  | [.i a0,.i a1]=>some (((0:Int)<=a0/\(a0:Int)<=62/\(-1:Int)<=a1/\(a1:Int)<=1),.int .i64 none (qbt a0 a1))
  | _=>none)
def zos:Ct KT:=([.agg [.int .i64,.int .i64],.agg [.int .i64,.int .i64]],fun ns=>match ns with
  | [.i a0,.i a1,.i a2,.i a3]=>some (True,.tuple [.agg [.int .i64 none ((qam a0 a1 a2 a3).1),.int .i64 none ((qam a0 a1 a2 a3).2.1)],.int .i64 none ((qam a0 a1 a2 a3).2.2)])
  | _=>none)
def zot:Ct KT:=([.agg [.int .i64,.int .i64],.agg [.int .i64,.int .i64]],fun ns=>match ns with
  | [.i a0,.i a1,.i a2,.i a3]=>some (True,.tuple [.agg [.int .i64 none ((qbb a0 a1 a2 a3).1),.int .i64 none ((qbb a0 a1 a2 a3).2.1)],.int .i64 none ((qbb a0 a1 a2 a3).2.2)])
  | _=>none)
def zoq:Ct KT:=([.agg [.int .i64,.int .i64,.int .i64],.agg [.int .i64,.int .i64,.int .i64]],fun ns=>match ns with
  | [.i a0,.i a1,.i a2,.i a3,.i a4,.i a5]=>some (True,.tuple [.agg [.int .i64 none ((qa1 a0 a1 a2 a3 a4 a5).1),.int .i64 none ((qa1 a0 a1 a2 a3 a4 a5).2.1)],.int .i64 none ((qa1 a0 a1 a2 a3 a4 a5).2.2)])
  | _=>none)
def zor:Ct KT:=([.one (.list 11 false false)],fun ns=>match ns with
  | [.l 11 a0]=>some ((ln a0<=1000000000),.tuple [.agg [.int .i64 none ((ze a0).1),.int .i64 none ((ze a0).2.1)],.int .i64 none ((ze a0).2.2)])
  | _=>none)
def zod:Ct KT:=([.one (.list 11 false false),.agg [.int .i64,.int .i64,.int .i64,.bool,.bool,.int .i64,.int .i64,.int .i64,.int .i64,.int .i64,.int .i64],.one (.list 11 false false)],fun ns=>match ns with
  | [.l 11 a0,.i a1,.i a2,.i a3,.b a4,.b a5,.i a6,.i a7,.i a8,.i a9,.i a10,.i a11,.l 11 a12]=>some (((qe a0).1=0/\(qe a12).1=0),.tuple [.int .i64 none ((zh a0 a12 a4 a5).1),.sb 0 false ((zh a0 a12 a4 a5).2) ((zh a0 a12 a4 a5).2=true) ((zh a0 a12 a4 a5).2=false)])
  | _=>none)
def zoe:Ct KT:=([.one (.list 11 false false),.one (.list 11 false false),.agg [.int .i64,.int .i64]],fun ns=>match ns with
  | [.l 11 a0,.l 11 a1,.i a2,.i a3]=>some ((ln a0<=1000000000/\ln a1<=1000000000),.tuple [.agg [.int .i64 none ((qm a0 a1 a2 a3).1),.int .i64 none ((qm a0 a1 a2 a3).2.1)],.sb 0 false ((qm a0 a1 a2 a3).2.2) ((qm a0 a1 a2 a3).2.2=true) ((qm a0 a1 a2 a3).2.2=false)])
  | _=>none)
def zn4:Ct KT:=([.one (.list 11 false false),.one (.list 11 false false)],fun ns=>match ns with
  | [.l 11 a0,.l 11 a1]=>some ((ln a0<=1000000000/\ln a1<=1000000000),.tuple [.list 25 ((ky a0 a1).1) (some (0,0)),.int .i64 none ((ky a0 a1).2)])
  | _=>none)
def zg2:Ct KT:=([.one (.int .i64),.one (.int .i64)],fun ns=>match ns with
  | [.i a0,.i a1]=>some ((0<=a0/\0<=a1/\a0<=4611686018427387904/\a1<=4611686018427387904),.int .i64 none (zd a0 a1))
  | _=>none)
def q00:Ct KT:=([.agg [.int .i64,.int .i64]],fun ns=>match ns with
  | [.i a0,.i a1]=>some (True,.int .i64 none (qd a0 a1))
  | _=>none)
def zln:Ct KT:=([.one (.int .i64),.one (.int .i64)],fun ns=>match ns with
  | [.i a0,.i a1]=>some ((0<=a0/\1<=a1/\a0<=4611686018427387904/\a1<=4611686018427387904),.tuple [.agg [.int .i64 none ((ofT a0 a1).1),.int .i64 none ((ofT a0 a1).2.1)],.int .i64 none ((ofT a0 a1).2.2)])
  | _=>none)
def zdp:Ct KT:=([.agg [.int .i64,.int .i64],.agg [.int .i64,.int .i64]],fun ns=>match ns with
  | [.i a0,.i a1,.i a2,.i a3]=>some (True,.tuple [.agg [.int .i64 none ((zs a0 a1 a2 a3).1),.int .i64 none ((zs a0 a1 a2 a3).2.1)],.int .i64 none ((zs a0 a1 a2 a3).2.2)])
  | _=>none)
def zov:Ct KT:=([.agg [.int .i64,.int .i64],.agg [.int .i64,.int .i64]],fun ns=>match ns with
  | [.i a0,.i a1,.i a2,.i a3]=>some (True,.tuple [.agg [.int .i64 none ((qam a0 a1 a2 a3).1),.int .i64 none ((qam a0 a1 a2 a3).2.1)],.int .i64 none ((qam a0 a1 a2 a3).2.2)])
  | _=>none)
def q92:Ct KT:=([.one (.int .i64),.one (.int .i64),.one (.int .i64),.one (.int .i64)],fun ns=>match ns with
  | [.i a0,.i a1,.i a2,.i a3]=>some (qfs a0 a1 a2 a3,.tuple [.agg [.int .i64 none ((ku a0 a1 a2 a3).1),.int .i64 none ((ku a0 a1 a2 a3).2.1)],.int .i64 none ((ku a0 a1 a2 a3).2.2)])
  | _=>none)
def zop:Ct KT:=([.agg [.int .i64,.int .i64],.agg [.int .i64,.int .i64]],fun ns=>match ns with
  | [.i a0,.i a1,.i a2,.i a3]=>some (True,.tuple [.agg [.int .i64 none ((qal a0 a1 a2 a3).1),.int .i64 none ((qal a0 a1 a2 a3).2.1)],.int .i64 none ((qal a0 a1 a2 a3).2.2)])
  | _=>none)
def zow:Ct KT:=([.agg [.int .i64,.int .i64],.agg [.int .i64,.int .i64]],fun ns=>match ns with
  | [.i a0,.i a1,.i a2,.i a3]=>some (True,.tuple [.agg [.int .i64 none ((qbb a0 a1 a2 a3).1),.int .i64 none ((qbb a0 a1 a2 a3).2.1)],.int .i64 none ((qbb a0 a1 a2 a3).2.2)])
  | _=>none)
def q75:Ct KT:=([.agg [.int .i64,.int .i64,.int .i64]],fun ns=>match ns with
  | [.i a0,.i a1,.i a2]=>some (True,.int .i64 none (qi a0 a1 a2))
  | _=>none)
def zgu:Ct KT:=([.agg [.int .i64,.int .i64,.int .i64],.agg [.int .i64,.int .i64,.int .i64]],fun ns=>match ns with
  | [.i a0,.i a1,.i a2,.i a3,.i a4,.i a5]=>some (True,.tuple [.agg [.int .i64 none ((qa2 a0 a1 a2 a3 a4 a5).1),.int .i64 none ((qa2 a0 a1 a2 a3 a4 a5).2.1),.int .i64 none ((qa2 a0 a1 a2 a3 a4 a5).2.2.1)],.int .i64 none ((qa2 a0 a1 a2 a3 a4 a5).2.2.2)])
  | _=>none)
def zoo:Ct KT:=([.agg [.int .i64,.int .i64,.int .i64],.one (.int .i64)],fun ns=>match ns with
  | [.i a0,.i a1,.i a2,.i a3]=>some (I64 a3,.tuple [.agg [.int .i64 none ((qbl a0 a1 a2 a3).1),.int .i64 none ((qbl a0 a1 a2 a3).2.1),.int .i64 none ((qbl a0 a1 a2 a3).2.2.1)],.int .i64 none ((qbl a0 a1 a2 a3).2.2.2)])
  | _=>none)
def zox:Ct KT:=([.agg [.int .i64,.int .i64,.int .i64],.agg [.int .i64,.int .i64,.int .i64]],fun ns=>match ns with
  | [.i a0,.i a1,.i a2,.i a3,.i a4,.i a5]=>some (True,.tuple [.agg [.int .i64 none ((qa1 a0 a1 a2 a3 a4 a5).1),.int .i64 none ((qa1 a0 a1 a2 a3 a4 a5).2.1)],.int .i64 none ((qa1 a0 a1 a2 a3 a4 a5).2.2)])
  | _=>none)
def zol:Ct KT:=([.agg [.int .i64,.int .i64,.int .i64,.int .i64]],fun ns=>match ns with
  | [.i a0,.i a1,.i a2,.i a3]=>some (True,.int .i64 none (qg0 a0 a1 a2 a3))
  | _=>none)
def zok:Ct KT:=([.agg [.int .i64,.int .i64,.int .i64,.int .i64,.int .i64,.int .i64,.int .i64,.bool,.int .i64,.int .i64],.agg [.int .i64,.int .i64]],fun ns=>match ns with
  | [.i a0,.i a1,.i a2,.i a3,.i a4,.i a5,.i a6,.b a7,.i a8,.i a9,.i a10,.i a11]=>some (True,.int .i64 none (qg4 (Event.mk a0 a1 a2 a3 a4 a5 a6 a7 a8 a9) a10 a11))
  | _=>none)
def q0y:Ct KT:=([.one (.list 11 false false)],fun ns=>match ns with
  | [.l 11 a0]=>some ((ln a0<=1000000000),.tuple [.int .i64 none ((qe a0).1),.int .i64 none ((qe a0).2)])
  | _=>none)
def zou:Ct KT:=([.one (.list 11 false false)],fun ns=>match ns with
  | [.l 11 a0]=>some ((ln a0<=1000000000),.tuple [.agg [.int .i64 none ((ze a0).1),.int .i64 none ((ze a0).2.1)],.int .i64 none ((ze a0).2.2)])
  | _=>none)
def zk7:Ct KT:=([.one (.list 11 false false),.agg [.int .i64,.int .i64]],fun ns=>match ns with
  | [.l 11 a0,.i a1,.i a2]=>some ((ln a0<=1000000000),.int .i64 none (qjj a0 a1 a2))
  | _=>none)
def zg0:Ct KT:=([.one (.list 11 false false)],fun ns=>match ns with
  | [.l 11 a0]=>some ((ln a0<=1000000000),.tuple [.list 11 ((zy a0).1) none,.int .i64 none ((zy a0).2)])
  | _=>none)
def zom:Ct KT:=([.one (.list 11 false false)],fun ns=>match ns with
  | [.l 11 a0]=>some ((ln a0<=1000000000),.tuple [.list 11 ((za a0).1) none,.int .i64 none ((za a0).2)])
  | _=>none)
def zon:Ct KT:=([.one (.list 11 false false),.agg [.int .i64,.int .i64,.int .i64]],fun ns=>match ns with
  | [.l 11 a0,.i a1,.i a2,.i a3]=>some ((ln a0<=1000000000),.tuple [.list 11 ((qaz a0 a1 a2 a3).1) none,.int .i64 none ((qaz a0 a1 a2 a3).2)])
  | _=>none)
def zoa:Ct KT:=([.one (.list 11 false false),.one (.int .i64)],fun ns=>match ns with
  | [.l 11 a0,.i a1]=>some ((ln a0<=1000000000/\I64 a1),.tuple [.list 11 ((jr a0 a1).1) none,.int .i64 none ((jr a0 a1).2)])
  | _=>none)
def zob:Ct KT:=([.one (.list 11 false false),.agg [.int .i64,.int .i64]],fun ns=>match ns with
  | [.l 11 a0,.i a1,.i a2]=>some ((ln a0<=1000000000),.tuple [.list 11 ((qbn a0 a1 a2).1) none,.int .i64 none ((qbn a0 a1 a2).2)])
  | _=>none)
def zoc:Ct KT:=([.one (.list 11 false false),.agg [.int .i64,.int .i64]],fun ns=>match ns with
  | [.l 11 a0,.i a1,.i a2]=>some ((ln a0<=1000000000),.tuple [.list 11 ((jq a0 a1 a2).1) none,.int .i64 none ((jq a0 a1 a2).2)])
  | _=>none)
def zn9:Ct KT:=([.agg [.int .i64,.int .i64,.int .i64,.bool,.bool,.int .i64,.int .i64,.int .i64,.int .i64,.int .i64,.int .i64]],fun ns=>match ns with
  | [.i a0,.i a1,.i a2,.b a3,.b a4,.i a5,.i a6,.i a7,.i a8,.i a9,.i a10]=>some (True,.int .i64 none (qjl a0 a1 a2 a5 a6 a7 a8 a9 a10))
  | _=>none)
def zk4:Ct KT:=([.one (.list 11 false false)],fun ns=>match ns with
  | [.l 11 a0]=>some ((ln a0<=1000000000),.tuple [.agg [.int .i64 none ((qc a0).1),.int .i64 none ((qc a0).2.1),.int .i64 none ((qc a0).2.2.1)],.sb 0 false ((qc a0).2.2.2) ((qc a0).2.2.2=true) ((qc a0).2.2.2=false)])
  | _=>none)
def zkp:Ct KT:=([.one (.list 11 false false),.one (.bool),.one (.bool)],fun ns=>match ns with
  | [.l 11 a0,.b a1,.b a2]=>some ((ln a0<=1000000000),.tuple [.list 11 ((z5 a0 a2 a1).1) none,.int .i64 none ((z5 a0 a2 a1).2)])
  | _=>none)
def zoy:Ct KT:=([.one (.list 11 false false),.one (.list 11 false false)],fun ns=>match ns with
  | [.l 11 a0,.l 11 a1]=>some ((ln a0<=1000000000/\ln a1<=1000000000),.sb 0 false (jd a0 a1) (jd a0 a1=true) (jd a0 a1=false))
  | _=>none)
def zki:Ct KT:=([.one (.list 11 false false),.agg [.int .i64,.int .i64,.int .i64,.bool,.bool,.int .i64,.int .i64,.int .i64,.int .i64,.int .i64,.int .i64]],fun ns=>match ns with
  | [.l 11 a0,.i a1,.i a2,.i a3,.b a4,.b a5,.i a6,.i a7,.i a8,.i a9,.i a10,.i a11]=>some ((ln a0<=1000000000/\I64 a3),.tuple [.list 11 ((zr a0 a1 a2 a3 a4 a5 a6 a7 a8 a9 a10 a11).1) none,.int .i64 none ((zr a0 a1 a2 a3 a4 a5 a6 a7 a8 a9 a10 a11).2)])
  | _=>none)
def zn5:Ct KT:=([.one (.list 11 false false),.one (.list 11 false false)],fun ns=>match ns with
  | [.l 11 a0,.l 11 a1]=>some ((ln a0<=1000000000/\ln a1<=1000000000),.tuple [.list 25 ((ky a0 a1).1) (some (0,0)),.int .i64 none ((ky a0 a1).2)])
  | _=>none)
def zn6:Ct KT:=([.one (.list 11 false false),.one (.list 11 false false)],fun ns=>match ns with
  | [.l 11 a0,.l 11 a1]=>some ((ln a0<=1000000000),.sb 0 false (qa5 a0 a1) (qa5 a0 a1=true) (qa5 a0 a1=false))
  | _=>none)
def zn3:Ct KT:=([.one (.list 11 false false)],fun ns=>match ns with
  | [.l 11 a0]=>some ((ln a0<=100000000),.list 11 (a0) none)
  | _=>none)
def zn7:Ct KT:=([.one (.list 25 false false),.one (.list 25 false false)],fun ns=>match ns with
  | [.l 25 a0,.l 25 a1]=>some ((ln a0<=1000000000),.sb 0 false (qcd a0 a1) (qcd a0 a1=true) (qcd a0 a1=false))
  | _=>none)
def zkg:Ct KT:=([],fun ns=>match ns with
  | []=>some (True,.sb 0 false (true) (true=true) (true=false))
  | _=>none)
abbrev zed  : PV KT:=.sb 0 false (true) (true=true) (true=false)
end Go.Proofs.YtcnoipglgpkpeaaGreatDoor
