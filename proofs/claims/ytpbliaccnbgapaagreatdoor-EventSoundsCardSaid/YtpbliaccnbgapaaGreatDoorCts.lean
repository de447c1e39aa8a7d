import Derived.Test.YtpbliaccnbgapaaGreatDoorDall
import Derived.Test.YtpbliaccnbgapaaGreatDoorCfg
namespace Go.Proofs.YtpbliaccnbgapaaGreatDoor
open Go Go.E2 Go.E3
set_option maxRecDepth 100000
variable {sp:Nat->Option (List V->Heap->Option (CR×Heap))}
def q36:Ct KT:=([.one (.str),.one (.int .u8)],fun ns=>match ns with
  | [.s a0,.i a1]=>some (True,.int .i64 none (qf a0 a1))
  | _=>none)
def zfz:Ct KT:=([.one (.str),.one (.int .u8)],fun ns=>match ns with
  | [.s a0,.i a1]=>some (True,.int .i64 none (j4 a0 a1))
  | _=>none)
def zkp:Ct KT:=([.one (.int .i64),.one (.int .i64)],fun ns=>match ns with
  | [.i a0,.i a1]=>some ((0<=a0/\0<=a1/\a0<=4611686018427387904/\a1<=4611686018427387904),.int .i64 none (zh a0 a1))
  | _=>none)
def zko:Ct KT:=([.one (.int .i64),.one (.int .i64)],fun ns=>match ns with
  | [.i a0,.i a1]=>some ((0<=a0/\0<=a1/\a0<=4611686018427387904/\a1<=4611686018427387904),.int .i64 none (zh a0 a1))
  | _=>none)
def zch:Ct KT:=([.agg [.int .i64,.int .i64]],fun ns=>match ns with
  | [.i a0,.i a1]=>some (True,.int .i64 none (qe a0 a1))
  | _=>none)
def znx:Ct KT:=([.agg [.int .i64,.int .i64]],fun ns=>match ns with
  | [.i a0,.i a1]=>some (True,.int .i64 none (qe a0 a1))
  | _=>none)
def zkm:Ct KT:=([.one (.list 9 false false)],fun ns=>match ns with
  | [.l 9 a0]=>some ((ln a0<=1000000000),.int .i64 none (qd4 a0))
  | _=>none)
def zn3:Ct KT:=([.one (.int .i64),.one (.int .i64)],fun ns=>match ns with
  | [.i a0,.i a1]=>some ((0<=a0/\1<=a1/\a0<=4611686018427387904/\a1<=4611686018427387904),.tuple [.agg [.int .i64 none ((ofT a0 a1).1),.int .i64 none ((ofT a0 a1).2.1)],.int .i64 none ((ofT a0 a1).2.2)])
  | _=>none)
def zf1:Ct KT:=([.agg [.int .i64,.int .i64],.agg [.int .i64,.int .i64]],fun ns=>match ns with
  | [.i a0,.i a1,.i a2,.i a3]=>some (True,.tuple [.agg [.int .i64 none ((kr a0 a1 a2 a3).1),.int .i64 none ((kr a0 a1 a2 a3).2.1)],.int .i64 none ((kr a0 a1 a2 a3).2.2)])
  | _=>none)
def zkg:Ct KT:=([.agg [.int .i64,.int .i64,.int .i64]],fun ns=>match ns with
  | [.i a0,.i a1,.i a2]=>some (True,.int .i64 none (jy a0 a1 a2))
  | _=>none)
def znw:Ct KT:=([.agg [.int .i64,.int .i64,.int .i64,.int .i64,.int .i64,.int .i64,.int .i64,.bool,.int .i64,.int .i64]],fun ns=>match ns with
  | [.i a0,.i a1,.i a2,.i a3,.i a4,.i a5,.i a6,.b a7,.i a8,.i a9]=>some (True,.int .i64 none (qbb (Event.mk a0 a1 a2 a3 a4 a5 a6 a7 a8 a9)))
  | _=>none)
def zj6:Ct KT:=([.one (.list 11 false false)],fun ns=>match ns with
  | [.l 11 a0]=>some ((ln a0<=1000000000),.tuple [.int .i64 none ((zu a0).1),.int .i64 none ((zu a0).2)])
  | _=>none)
def zkc:Ct KT:=([.agg [.int .i64,.int .i64],.agg [.int .i64,.int .i64]],fun ns=>match ns with
  | [.i a0,.i a1,.i a2,.i a3]=>some (True,.tuple [.int .i64 none ((qap a0 a1 a2 a3).1),.int .i64 none ((qap a0 a1 a2 a3).2)])
  | _=>none)
def znu:Ct KT:=([.agg [.int .i64,.int .i64,.int .i64,.int .i64,.int .i64,.int .i64,.int .i64,.bool,.int .i64,.int .i64],.agg [.int .i64,.int .i64]],fun ns=>match ns with
  | [.i a0,.i a1,.i a2,.i a3,.i a4,.i a5,.i a6,.b a7,.i a8,.i a9,.i a10,.i a11]=>some (True,.int .i64 none ((qap a0 a1 a10 a11).1))
  | _=>none)
def znt:Ct KT:=([.one (.list 11 false false)],fun ns=>match ns with
  | [.l 11 a0]=>some ((ln a0<=1000000000),.tuple [.agg [.int .i64 none ((kv a0).1),.int .i64 none ((kv a0).2.1)],.int .i64 none ((kv a0).2.2)])
  | _=>none)
def znn:Ct KT:=([.one (.list 11 false false),.agg [.int .i64,.int .i64]],fun ns=>match ns with
  | [.l 11 a0,.i a1,.i a2]=>some ((ln a0<=1000000000),.tuple [.int .i64 none ((atE a0 a1 a2).1),.int .i64 none ((atE a0 a1 a2).2)])
  | _=>none)
def znv:Ct KT:=([.one (.int .i64),.one (.int .i64),.one (.int .i64),.one (.int .i64)],fun ns=>match ns with
  | [.i a0,.i a1,.i a2,.i a3]=>some (((0:Int)<=a0/\(a0:Int)<=1099511627776/\(1:Int)<=a1/\(a1:Int)<=1048576/\(0:Int)<=a2/\(a2:Int)<=1099511627776/\(1:Int)<=a3/\(a3:Int)<=1048576/\(a0:Int) * a2<=1000000),.tuple [.agg [.int .i64 none ((kz a0 a1 a2 a3).1),.int .i64 none ((kz a0 a1 a2 a3).2.1)],.int .i64 none ((kz a0 a1 a2 a3).2.2)])
  | _=>none)
def zno:Ct KT:=([.agg [.int .i64,.int .i64],.agg [.int .i64,.int .i64]],fun ns=>match ns with
  | [.i a0,.i a1,.i a2,.i a3]=>some ((qe a0 a1=0/\qe a2 a3=0/\(a0:Int) * a2<=1000000),.tuple [.agg [.int .i64 none ((qa5 a0 a1 a2 a3).1),.int .i64 none ((qa5 a0 a1 a2 a3).2.1)],.int .i64 none ((qa5 a0 a1 a2 a3).2.2)])
  | _=>none)
def zj4:Ct KT:=([.one (.int .i64),.one (.int .i64)],fun ns=>match ns with
  | [.i a0,.i a1]=>some (((1:Int)<=a1/\(a1:Int)<=1000000/\(-9223372036854775808:Int)<=a0/\(a0:Int)<=9223372036854775807),.int .i64 none (zj a0 a1))
  | _=>none)
def zj3:Ct KT:=([.one (.int .i64),.one (.int .i64)],fun ns=>match ns with
  | [.i a0,.i a1]=>some (((0:Int)<=a0/\(a0:Int)<=1000000000000/\(1:Int)<=a1/\(a1:Int)<=1000000000000),.agg [.int .i64 none ((tT a0 a1).1),.int .i64 none ((tT a0 a1).2)])
  | _=>none)
def zj5:Ct KT:=([.agg [.int .i64,.int .i64],.agg [.int .i64,.int .i64]],fun ns=>match ns with
  | [.i a0,.i a1,.i a2,.i a3]=>some (((0:Int)<=a0/\(a0:Int)<=100000/\(1:Int)<=a1/\(a1:Int)<=100000/\(0:Int)<=a2/\(a2:Int)<=100000/\(1:Int)<=a3/\(a3:Int)<=100000),.agg [.int .i64 none ((j5 a0 a1 a2 a3).1),.int .i64 none ((j5 a0 a1 a2 a3).2)])
  | _=>none)
def znm:Ct KT:=([.one (.list 1 false false),.one (.int .i64)],fun ns=>match ns with
  | [.l 1 a0,.i a1]=>some ((ln a0<=9223372036854775807/\(0:Int)<=a1/\(a1:Int)<=20/\∀ x ∈ a0,I64 x),.list 11 (ql a0 a1) (some (0,0)))
  | _=>none)
def q08:Ct KT:=([.one (.int .i64)],fun ns=>match ns with
  | [.i a0]=>some (((0:Int)<=a0/\(a0:Int)<=9223372036854775807),.str (zb a0))
  | _=>none)
def znp:Ct KT:=([.agg [.int .i64,.int .i64]],fun ns=>match ns with
  | [.i a0,.i a1]=>some (True,.tuple [.str ((zk a0 a1).1),.int .i64 none ((zk a0 a1).2)])
  | _=>none)
def zfx:Ct KT:=([.one (.str)],fun ns=>match ns with
  | [.s a0]=>some ((ln a0<=1000),.tuple [.int .i64 none ((kl a0).1),.sb 0 false ((kl a0).2) ((kl a0).2=true) ((kl a0).2=false)])
  | _=>none)
def zn1:Ct KT:=([.one (.str)],fun ns=>match ns with
  | [.s a0]=>some ((ln a0<=1000),.tuple [.agg [.int .i64 none ((qu a0).1),.int .i64 none ((qu a0).2.1)],.int .i64 none ((qu a0).2.2)])
  | _=>none)
def znq:Ct KT:=([.agg [.int .i64,.int .i64,.int .i64]],fun ns=>match ns with
  | [.i a0,.i a1,.i a2]=>some (True,.tuple [.str ((js a0 a1 a2).1),.int .i64 none ((js a0 a1 a2).2)])
  | _=>none)
def zn0:Ct KT:=([.one (.str)],fun ns=>match ns with
  | [.s a0]=>some ((ln a0<=1000),.tuple [.agg [.int .i64 none ((zf a0).1),.int .i64 none ((zf a0).2.1),.int .i64 none ((zf a0).2.2.1)],.int .i64 none ((zf a0).2.2.2)])
  | _=>none)
def zn2:Ct KT:=([.one (.str)],fun ns=>match ns with
  | [.s a0]=>some ((ln a0<=1000),.tuple [.int .i64 none ((zq a0).1),.sb 0 false ((zq a0).2) ((zq a0).2=true) ((zq a0).2=false)])
  | _=>none)
def ct6:Ct KT:=([.one (.list 11 false false)],fun ns=>match ns with
  | [.l 11 a0]=>some (q43 a0,.tuple [.str ((jr a0).1),.int .i64 none ((jr a0).2)])
  | _=>none)
def q9n:Ct KT:=([.one (.int .u8)],fun ns=>match ns with
  | [.i a0]=>some (U8 a0,.int .u8 none (jl a0))
  | _=>none)
def zfv:Ct KT:=([.one (.str)],fun ns=>match ns with
  | [.s a0]=>some ((ln a0<=1000000000),.sb 0 false (qaf a0) (qaf a0=true) (qaf a0=false))
  | _=>none)
def zft:Ct KT:=([.one (.str),.one (.str),.one (.int .i64),.one (.int .i64)],fun ns=>match ns with
  | [.s a0,.s a1,.i a2,.i a3]=>some ((ln a1=1/\(a2:Int)=0/\(a3:Int) = -1/\ln a0<=100000000),.list 2 (qa (bx a1 0) a0) none)
  | _=>none)
def zny:Ct KT:=([.one (.str),.one (.str)],fun ns=>match ns with
  | [.s a0,.s a1]=>some ((ln a1=1/\ln a0<=100000000),.list 2 (qa (bx a1 0) a0) none)
  | _=>none)
def znr:Ct KT:=([.one (.str)],fun ns=>match ns with
  | [.s a0]=>some (True,.tuple [.list 6 ((qh a0).1) (some (0,0)),.agg [.int .i64 none ((qh a0).2.1),.int .i64 none ((qh a0).2.2)]])
  | _=>none)
def zns:Ct KT:=([.one (.list 5 false false)],fun ns=>match ns with
  | [.l 5 a0]=>some (qp8 a0,.tuple [.agg [.int .i64 none ((zw a0).AtN),.int .i64 none ((zw a0).AtD),.int .i64 none ((zw a0).DurN),.int .i64 none ((zw a0).DurD),.int .i64 none ((zw a0).PitchStep),.int .i64 none ((zw a0).PitchOctave),.int .i64 none ((zw a0).PitchAlter),.sb 0 false ((zw a0).Rest) ((zw a0).Rest=true) ((zw a0).Rest=false),.int .i64 none ((zw a0).Sign),.int .i64 none ((zw a0).Pass)],.int .i64 none (qb6 a0)])
  | _=>none)
def ct9:Ct KT:=([.one (.str)],fun ns=>match ns with
  | [.s a0]=>some ((ln a0<=1000000000),.tuple [.list 11 ((qgw a0).1) (some (0,0)),.agg [.int .i64 none ((qgw a0).2.1),.int .i64 none ((qgw a0).2.2)]])
  | _=>none)
def znl:Ct KT:=([.one (.list 11 false false),.one (.list 11 false false)],fun ns=>match ns with
  | [.l 11 a0,.l 11 a1]=>some ((ln a0<=1000000000),.sb 0 false (qdb a0 a1) (qdb a0 a1=true) (qdb a0 a1=false))
  | _=>none)
def zjz:Ct KT:=([],fun ns=>match ns with
  | []=>some (True,.sb 0 false (true) (true=true) (true=false))
  | _=>none)
abbrev q3g (a0:Int):PV KT:=.str (zb a0)
abbrev zc9  : PV KT:=.sb 0 false (true) (true=true) (true=false)
end Go.Proofs.YtpbliaccnbgapaaGreatDoor
