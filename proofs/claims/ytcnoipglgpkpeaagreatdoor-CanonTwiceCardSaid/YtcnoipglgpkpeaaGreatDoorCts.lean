import Derived.Test.YtcnoipglgpkpeaaGreatDoorDall
import Derived.Test.YtcnoipglgpkpeaaGreatDoorCfg
namespace Go.Proofs.YtcnoipglgpkpeaaGreatDoor
open Go Go.E2 Go.E3
set_option maxRecDepth 100000
variable {sp:Nat->Option (List V->Heap->Option (CR×Heap))}
def q76:Ct KT:=([.one (.int .i64),.one (.int .i64)],fun ns=>match ns with
  | [.i a0,.i a1]=>some ((0<=a0/\0<=a1/\a0<=4611686018427387904/\a1<=4611686018427387904),.int .i64 none (qj a0 a1))
  | _=>none)
def q5e:Ct KT:=([.agg [.int .i64,.int .i64]],fun ns=>match ns with
  | [.i a0,.i a1]=>some (True,.int .i64 none (ql a0 a1))
  | _=>none)
def zbf:Ct KT:=([.one (.list 9 false false)],fun ns=>match ns with
  | [.l 9 a0]=>some ((ln a0<=1000000000),.int .i64 none (qc2 a0))
  | _=>none)
def zbg:Ct KT:=([.one (.int .i64),.one (.int .i64)],fun ns=>match ns with
  | [.i a0,.i a1]=>some ((0<=a0/\1<=a1/\a0<=4611686018427387904/\a1<=4611686018427387904),.tuple [.agg [.int .i64 none ((ofT a0 a1).1),.int .i64 none ((ofT a0 a1).2.1)],.int .i64 none ((ofT a0 a1).2.2)])
  | _=>none)
def qyp:Ct KT:=([.agg [.int .i64,.int .i64],.agg [.int .i64,.int .i64]],fun ns=>match ns with
  | [.i a0,.i a1,.i a2,.i a3]=>some (True,.tuple [.agg [.int .i64 none ((zh a0 a1 a2 a3).1),.int .i64 none ((zh a0 a1 a2 a3).2.1)],.int .i64 none ((zh a0 a1 a2 a3).2.2)])
  | _=>none)
def q7y:Ct KT:=([.one (.int .i64),.one (.int .i64),.one (.int .i64),.one (.int .i64)],fun ns=>match ns with
  | [.i a0,.i a1,.i a2,.i a3]=>some (qta a0 a1 a2 a3,.tuple [.agg [.int .i64 none ((kj a0 a1 a2 a3).1),.int .i64 none ((kj a0 a1 a2 a3).2.1)],.int .i64 none ((kj a0 a1 a2 a3).2.2)])
  | _=>none)
def zd5:Ct KT:=([.agg [.int .i64,.int .i64],.agg [.int .i64,.int .i64]],fun ns=>match ns with
  | [.i a0,.i a1,.i a2,.i a3]=>some (True,.tuple [.agg [.int .i64 none ((qcf a0 a1 a2 a3).1),.int .i64 none ((qcf a0 a1 a2 a3).2.1)],.int .i64 none ((qcf a0 a1 a2 a3).2.2)])
  | _=>none)
def ct9:Ct KT:=([.agg [.int .i64,.int .i64,.int .i64]],fun ns=>match ns with
  | [.i a0,.i a1,.i a2]=>some (True,.int .i64 none (qy a0 a1 a2))
  | _=>none)
def q74:Ct KT:=([.agg [.int .i64,.int .i64,.int .i64],.agg [.int .i64,.int .i64,.int .i64]],fun ns=>match ns with
  | [.i a0,.i a1,.i a2,.i a3,.i a4,.i a5]=>some (True,.tuple [.agg [.int .i64 none ((zj a0 a1 a2 a3 a4 a5).1),.int .i64 none ((zj a0 a1 a2 a3 a4 a5).2.1),.int .i64 none ((zj a0 a1 a2 a3 a4 a5).2.2.1)],.int .i64 none ((zj a0 a1 a2 a3 a4 a5).2.2.2)])
  | _=>none)
def zd3:Ct KT:=([.agg [.int .i64,.int .i64,.int .i64],.one (.int .i64)],fun ns=>match ns with
  | [.i a0,.i a1,.i a2,.i a3]=>some (True,.tuple [.agg [.int .i64 none ((kf a0 a1 a2 a3).1),.int .i64 none ((kf a0 a1 a2 a3).2.1),.int .i64 none ((kf a0 a1 a2 a3).2.2.1)],.int .i64 none ((kf a0 a1 a2 a3).2.2.2)])
  | _=>none)
def zdv:Ct KT:=([.agg [.int .i64,.int .i64,.int .i64,.int .i64,.int .i64,.int .i64,.int .i64,.bool,.int .i64,.int .i64]],fun ns=>match ns with
  | [.i a0,.i a1,.i a2,.i a3,.i a4,.i a5,.i a6,.b a7,.i a8,.i a9]=>some (True,.int .i64 none (qab (Event.mk a0 a1 a2 a3 a4 a5 a6 a7 a8 a9)))
  | _=>none)
def qyo:Ct KT:=([.one (.list 11 false false)],fun ns=>match ns with
  | [.l 11 a0]=>some ((ln a0<=1000000000),.tuple [.int .i64 none ((qz a0).1),.int .i64 none ((qz a0).2)])
  | _=>none)
def zdx:Ct KT:=([.one (.list 11 false false)],fun ns=>match ns with
  | [.l 11 a0]=>some ((ln a0<=1000000000),.list 11 (a0) none)
  | _=>none)
def zbi:Ct KT:=([.agg [.int .i64,.int .i64]],fun ns=>match ns with
  | [.i a0,.i a1]=>some (True,.int .i64 none (qhd a0 a1))
  | _=>none)
def q70:Ct KT:=([.one (.list 11 false false)],fun ns=>match ns with
  | [.l 11 a0]=>some ((ln a0<=1000000000),.tuple [.list 11 ((kh a0).1) none,.int .i64 none ((kh a0).2)])
  | _=>none)
def q72:Ct KT:=([.one (.list 11 false false),.agg [.int .i64,.int .i64,.int .i64]],fun ns=>match ns with
  | [.l 11 a0,.i a1,.i a2,.i a3]=>some ((ln a0<=1000000000),.tuple [.list 11 ((qa2 a0 a1 a2 a3).1) none,.int .i64 none ((qa2 a0 a1 a2 a3).2)])
  | _=>none)
def zdy:Ct KT:=([.one (.list 11 false false),.one (.int .i64)],fun ns=>match ns with
  | [.l 11 a0,.i a1]=>some ((ln a0<=1000000000),.tuple [.list 11 ((qbc a0 a1).1) none,.int .i64 none ((qbc a0 a1).2)])
  | _=>none)
def zdz:Ct KT:=([.one (.list 11 false false),.agg [.int .i64,.int .i64]],fun ns=>match ns with
  | [.l 11 a0,.i a1,.i a2]=>some ((ln a0<=1000000000),.tuple [.list 11 ((qat a0 a1 a2).1) none,.int .i64 none ((qat a0 a1 a2).2)])
  | _=>none)
def zd0:Ct KT:=([.one (.list 11 false false),.agg [.int .i64,.int .i64]],fun ns=>match ns with
  | [.l 11 a0,.i a1,.i a2]=>some ((ln a0<=1000000000),.tuple [.list 11 ((qbj a0 a1 a2).1) none,.int .i64 none ((qbj a0 a1 a2).2)])
  | _=>none)
def zdw:Ct KT:=([.agg [.int .i64,.int .i64,.int .i64,.int .i64]],fun ns=>match ns with
  | [.i a0,.i a1,.i a2,.i a3]=>some (True,.int .i64 none (jr a0 a1 a2 a3))
  | _=>none)
def zdt:Ct KT:=([.agg [.int .i64,.int .i64,.int .i64,.bool,.bool,.int .i64,.int .i64,.int .i64,.int .i64,.int .i64,.int .i64]],fun ns=>match ns with
  | [.i a0,.i a1,.i a2,.b a3,.b a4,.i a5,.i a6,.i a7,.i a8,.i a9,.i a10]=>some (True,.int .i64 none (qja a0 a1 a2 a5 a6 a7 a8 a9 a10))
  | _=>none)
def zd1:Ct KT:=([.one (.list 11 false false)],fun ns=>match ns with
  | [.l 11 a0]=>some ((ln a0<=1000000000),.tuple [.agg [.int .i64 none ((qt a0).1),.int .i64 none ((qt a0).2.1),.int .i64 none ((qt a0).2.2.1)],.sb 0 false ((qt a0).2.2.2) ((qt a0).2.2.2=true) ((qt a0).2.2.2=false)])
  | _=>none)
def ct8:Ct KT:=([.one (.list 11 false false),.agg [.int .i64,.int .i64,.int .i64,.bool,.bool,.int .i64,.int .i64,.int .i64,.int .i64,.int .i64,.int .i64]],fun ns=>match ns with
  | [.l 11 a0,.i a1,.i a2,.i a3,.b a4,.b a5,.i a6,.i a7,.i a8,.i a9,.i a10,.i a11]=>some ((ln a0<=1000000000),.tuple [.list 11 ((qb a0 a1 a2 a3 a4 a5 a6 a7 a8 a9 a10 a11).1) none,.int .i64 none ((qb a0 a1 a2 a3 a4 a5 a6 a7 a8 a9 a10 a11).2)])
  | _=>none)
def zdr:Ct KT:=([.one (.int .i64),.one (.int .i64)],fun ns=>match ns with
  | [.i a0,.i a1]=>some (((1:Int)<=a1/\(a1:Int)<=1000000/\(-9223372036854775808:Int)<=a0/\(a0:Int)<=9223372036854775807),.int .i64 none (zu a0 a1))
  | _=>none)
def zdu:Ct KT:=([.one (.int .i64),.one (.int .i64)],fun ns=>match ns with
  | [.i a0,.i a1]=>some (((0:Int)<=a0/\(a0:Int)<=1000000000000/\(1:Int)<=a1/\(a1:Int)<=1000000000000),.agg [.int .i64 none ((tT a0 a1).1),.int .i64 none ((tT a0 a1).2)])
  | _=>none)
def zds:Ct KT:=([.agg [.int .i64,.int .i64],.agg [.int .i64,.int .i64]],fun ns=>match ns with
  | [.i a0,.i a1,.i a2,.i a3]=>some (((0:Int)<=a0/\(a0:Int)<=100000/\(1:Int)<=a1/\(a1:Int)<=100000/\(0:Int)<=a2/\(a2:Int)<=100000/\(1:Int)<=a3/\(a3:Int)<=100000),.agg [.int .i64 none ((qbq a0 a1 a2 a3).1),.int .i64 none ((qbq a0 a1 a2 a3).2)])
  | _=>none)
def ct6:Ct KT:=([.one (.list 1 false false),.one (.int .i64)],fun ns=>match ns with
  | [.l 1 a0,.i a1]=>some ((ln a0<=9223372036854775807/\(0:Int)<=a1/\(a1:Int)<=20/\∀ x ∈ a0,I64 x),.list 11 (qa a0 a1) (some (0,0)))
  | _=>none)
def za3:Ct KT:=([],fun ns=>match ns with
  | []=>some (True,.sb 0 false (true) (true=true) (true=false))
  | _=>none)
abbrev q5y  : PV KT:=.sb 0 false (true) (true=true) (true=false)
end Go.Proofs.YtcnoipglgpkpeaaGreatDoor
