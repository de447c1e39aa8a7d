import Derived.Test.YtpbliaccnbgapaaGreatDoorDall
import Derived.Test.YtpbliaccnbgapaaGreatDoorCfg
namespace Go.Proofs.YtpbliaccnbgapaaGreatDoor
open Go Go.E2 Go.E3
set_option maxRecDepth 100000
variable {sp:Nat->Option (List V->Heap->Option (CR×Heap))}
def q3w:Ct KT:=([.one (.str),.one (.int .u8)],fun ns=>match ns with
  | [.s a0,.i a1]=>some (True,.int .i64 none (qf a0 a1))
  | _=>none)
def zgl:Ct KT:=([.one (.str),.one (.int .u8)],fun ns=>match ns with
  | [.s a0,.i a1]=>some (True,.int .i64 none (j5 a0 a1))
  | _=>none)
def zkr:Ct KT:=([.one (.int .i64),.one (.int .i64)],fun ns=>match ns with
  | [.i a0,.i a1]=>some ((0<=a0/\0<=a1/\a0<=4611686018427387904/\a1<=4611686018427387904),.int .i64 none (jg a0 a1))
  | _=>none)
def zgp:Ct KT:=([.one (.int .i64),.one (.int .i64)],fun ns=>match ns with
  | [.i a0,.i a1]=>some ((0<=a0/\0<=a1/\a0<=4611686018427387904/\a1<=4611686018427387904),.int .i64 none (jg a0 a1))
  | _=>none)
def zc7:Ct KT:=([.agg [.int .i64,.int .i64]],fun ns=>match ns with
  | [.i a0,.i a1]=>some (True,.int .i64 none (qj a0 a1))
  | _=>none)
def zgo:Ct KT:=([.agg [.int .i64,.int .i64]],fun ns=>match ns with
  | [.i a0,.i a1]=>some (True,.int .i64 none (qj a0 a1))
  | _=>none)
def zn3:Ct KT:=([.one (.list 9 false false)],fun ns=>match ns with
  | [.l 9 a0]=>some ((ln a0<=1000000000),.int .i64 none (qgg a0))
  | _=>none)
def zn4:Ct KT:=([.one (.int .i64),.one (.int .i64)],fun ns=>match ns with
  | [.i a0,.i a1]=>some ((0<=a0/\1<=a1/\a0<=4611686018427387904/\a1<=4611686018427387904),.tuple [.agg [.int .i64 none ((ofT a0 a1).1),.int .i64 none ((ofT a0 a1).2.1)],.int .i64 none ((ofT a0 a1).2.2)])
  | _=>none)
def zoa:Ct KT:=([.one (.int .i64),.one (.int .i64)],fun ns=>match ns with
  | [.i a0,.i a1]=>some ((0<=a0/\1<=a1/\a0<=4611686018427387904/\a1<=4611686018427387904),.tuple [.agg [.int .i64 none ((ofT a0 a1).1),.int .i64 none ((ofT a0 a1).2.1)],.int .i64 none ((ofT a0 a1).2.2)])
  | _=>none)
def zj8:Ct KT:=([.agg [.int .i64,.int .i64],.agg [.int .i64,.int .i64]],fun ns=>match ns with
  | [.i a0,.i a1,.i a2,.i a3]=>some (True,.tuple [.agg [.int .i64 none ((ke a0 a1 a2 a3).1),.int .i64 none ((ke a0 a1 a2 a3).2.1)],.int .i64 none ((ke a0 a1 a2 a3).2.2)])
  | _=>none)
def zgn:Ct KT:=([.agg [.int .i64,.int .i64],.agg [.int .i64,.int .i64]],fun ns=>match ns with
  | [.i a0,.i a1,.i a2,.i a3]=>some (True,.tuple [.agg [.int .i64 none ((ke a0 a1 a2 a3).1),.int .i64 none ((ke a0 a1 a2 a3).2.1)],.int .i64 none ((ke a0 a1 a2 a3).2.2)])
  | _=>none)
def zkc:Ct KT:=([.agg [.int .i64,.int .i64,.int .i64]],fun ns=>match ns with
  | [.i a0,.i a1,.i a2]=>some (True,.int .i64 none (kg a0 a1 a2))
  | _=>none)
def zkf:Ct KT:=([.agg [.int .i64,.int .i64,.int .i64]],fun ns=>match ns with
  | [.i a0,.i a1,.i a2]=>some (True,.int .i64 none (kg a0 a1 a2))
  | _=>none)
def znv:Ct KT:=([.agg [.int .i64,.int .i64,.int .i64,.int .i64,.int .i64,.int .i64,.int .i64,.bool,.int .i64,.int .i64]],fun ns=>match ns with
  | [.i a0,.i a1,.i a2,.i a3,.i a4,.i a5,.i a6,.b a7,.i a8,.i a9]=>some (True,.int .i64 none (qb4 (Event.mk a0 a1 a2 a3 a4 a5 a6 a7 a8 a9)))
  | _=>none)
def znw:Ct KT:=([.agg [.int .i64,.int .i64,.int .i64,.int .i64,.int .i64,.int .i64,.int .i64,.bool,.int .i64,.int .i64],.agg [.int .i64,.int .i64]],fun ns=>match ns with
  | [.i a0,.i a1,.i a2,.i a3,.i a4,.i a5,.i a6,.b a7,.i a8,.i a9,.i a10,.i a11]=>some (True,.int .i64 none (qdl (Event.mk a0 a1 a2 a3 a4 a5 a6 a7 a8 a9) a10 a11))
  | _=>none)
def znl:Ct KT:=([.one (.list 11 false false)],fun ns=>match ns with
  | [.l 11 a0]=>some ((ln a0<=1000000000),.tuple [.int .i64 none ((z8 a0).1),.int .i64 none ((z8 a0).2)])
  | _=>none)
def zno:Ct KT:=([.one (.list 11 false false)],fun ns=>match ns with
  | [.l 11 a0]=>some ((ln a0<=1000000000),.tuple [.int .i64 none ((z8 a0).1),.int .i64 none ((z8 a0).2)])
  | _=>none)
def q05:Ct KT:=([.one (.int .i64)],fun ns=>match ns with
  | [.i a0]=>some (((0:Int)<=a0/\(a0:Int)<=9223372036854775807),.str (qx a0))
  | _=>none)
def znx:Ct KT:=([.one (.int .i64)],fun ns=>match ns with
  | [.i a0]=>some (((0:Int)<=a0/\(a0:Int)<=9223372036854775807),.str (qx a0))
  | _=>none)
def znq:Ct KT:=([.one (.int .i64)],fun ns=>match ns with
  | [.i a0]=>some (((0:Int)<=a0/\(a0:Int)<=9223372036854775807),.str (qx a0))
  | _=>none)
def znm:Ct KT:=([.agg [.int .i64,.int .i64]],fun ns=>match ns with
  | [.i a0,.i a1]=>some (True,.tuple [.str ((ze a0 a1).1),.int .i64 none ((ze a0 a1).2)])
  | _=>none)
def znp:Ct KT:=([.agg [.int .i64,.int .i64]],fun ns=>match ns with
  | [.i a0,.i a1]=>some (True,.tuple [.str ((ze a0 a1).1),.int .i64 none ((ze a0 a1).2)])
  | _=>none)
def zf9:Ct KT:=([.one (.str)],fun ns=>match ns with
  | [.s a0]=>some ((ln a0<=1000),.tuple [.int .i64 none ((ku a0).1),.sb 0 false ((ku a0).2) ((ku a0).2=true) ((ku a0).2=false)])
  | _=>none)
def zn1:Ct KT:=([.one (.str)],fun ns=>match ns with
  | [.s a0]=>some ((ln a0<=1000),.tuple [.agg [.int .i64 none ((qd a0).1),.int .i64 none ((qd a0).2.1)],.int .i64 none ((qd a0).2.2)])
  | _=>none)
def zgf:Ct KT:=([.one (.str)],fun ns=>match ns with
  | [.s a0]=>some ((ln a0<=1000),.sb 0 false (kv a0) (kv a0=true) (kv a0=false))
  | _=>none)
def zgh:Ct KT:=([.one (.str),.one (.int .i64)],fun ns=>match ns with
  | [.s a0,.i a1]=>some ((ln a0<=1000/\qas a0=true/\(0:Int)<=a1/\(a1:Int)<=1099511627776),.tuple [.int .i64 none ((zl a0 a1).1),.sb 0 false ((zl a0 a1).2) ((zl a0 a1).2=true) ((zl a0 a1).2=false)])
  | _=>none)
def zn8:Ct KT:=([.one (.str)],fun ns=>match ns with
  | [.s a0]=>some ((ln a0<=1000),.tuple [.agg [.int .i64 none ((qd a0).1),.int .i64 none ((qd a0).2.1)],.int .i64 none ((qd a0).2.2)])
  | _=>none)
def znn:Ct KT:=([.agg [.int .i64,.int .i64,.int .i64]],fun ns=>match ns with
  | [.i a0,.i a1,.i a2]=>some (True,.tuple [.str ((zn a0 a1 a2).1),.int .i64 none ((zn a0 a1 a2).2)])
  | _=>none)
def zj4:Ct KT:=([.agg [.int .i64,.int .i64,.int .i64]],fun ns=>match ns with
  | [.i a0,.i a1,.i a2]=>some (True,.tuple [.str ((zn a0 a1 a2).1),.int .i64 none ((zn a0 a1 a2).2)])
  | _=>none)
def zn0:Ct KT:=([.one (.str)],fun ns=>match ns with
  | [.s a0]=>some ((ln a0<=1000),.tuple [.agg [.int .i64 none ((qo a0).1),.int .i64 none ((qo a0).2.1),.int .i64 none ((qo a0).2.2.1)],.int .i64 none ((qo a0).2.2.2)])
  | _=>none)
def zn6:Ct KT:=([.one (.str)],fun ns=>match ns with
  | [.s a0]=>some ((ln a0<=1000),.tuple [.agg [.int .i64 none ((qo a0).1),.int .i64 none ((qo a0).2.1),.int .i64 none ((qo a0).2.2.1)],.int .i64 none ((qo a0).2.2.2)])
  | _=>none)
def zn2:Ct KT:=([.one (.str)],fun ns=>match ns with
  | [.s a0]=>some ((ln a0<=1000),.tuple [.int .i64 none ((zb a0).1),.sb 0 false ((zb a0).2) ((zb a0).2=true) ((zb a0).2=false)])
  | _=>none)
def zn9:Ct KT:=([.one (.str)],fun ns=>match ns with
  | [.s a0]=>some ((ln a0<=1000),.tuple [.int .i64 none ((zb a0).1),.sb 0 false ((zb a0).2) ((zb a0).2=true) ((zb a0).2=false)])
  | _=>none)
def ct6:Ct KT:=([.one (.list 11 false false)],fun ns=>match ns with
  | [.l 11 a0]=>some (qlx a0,.tuple [.str ((kp a0).1),.int .i64 none ((kp a0).2)])
  | _=>none)
def ct8:Ct KT:=([.one (.list 11 false false)],fun ns=>match ns with
  | [.l 11 a0]=>some (qlx a0,.tuple [.str ((kp a0).1),.int .i64 none ((kp a0).2)])
  | _=>none)
def zac:Ct KT:=([.one (.int .u8)],fun ns=>match ns with
  | [.i a0]=>some (U8 a0,.int .u8 none (js a0))
  | _=>none)
def zf7:Ct KT:=([.one (.str)],fun ns=>match ns with
  | [.s a0]=>some ((ln a0<=1000000000),.sb 0 false (qaf a0) (qaf a0=true) (qaf a0=false))
  | _=>none)
def zf5:Ct KT:=([.one (.str),.one (.str),.one (.int .i64),.one (.int .i64)],fun ns=>match ns with
  | [.s a0,.s a1,.i a2,.i a3]=>some ((ln a1=1/\(a2:Int)=0/\(a3:Int) = -1/\ln a0<=100000000),.list 2 (qa (bx a1 0) a0) none)
  | _=>none)
def zny:Ct KT:=([.one (.str),.one (.str)],fun ns=>match ns with
  | [.s a0,.s a1]=>some ((ln a1=1/\ln a0<=100000000),.list 2 (qa (bx a1 0) a0) none)
  | _=>none)
def zgd:Ct KT:=([.one (.int .u8)],fun ns=>match ns with
  | [.i a0]=>some (True,.sb 0 false (kh a0) (kh a0=true) (kh a0=false))
  | _=>none)
def zgj:Ct KT:=([.one (.int .u8)],fun ns=>match ns with
  | [.i a0]=>some (True,.sb 0 false (zr a0) (zr a0=true) (zr a0=false))
  | _=>none)
def zgb:Ct KT:=([.one (.str),.one (.int .i64)],fun ns=>match ns with
  | [.s a0,.i a1]=>some ((0<=a1/\a1<ln a0/\ln a0<=1000000000),.int .i64 none (zg a0 a1))
  | _=>none)
def zn5:Ct KT:=([.one (.str),.one (.int .i64)],fun ns=>match ns with
  | [.s a0,.i a1]=>some ((ln a0<=1000/\0<=a1/\a1<=100000),.tuple [.list 5 ((zp a0 a1 0).1) (some (0,0)),.int .i64 none ((zp a0 a1 0).2)])
  | _=>none)
def znt:Ct KT:=([.one (.str)],fun ns=>match ns with
  | [.s a0]=>some (True,.tuple [.list 6 ((qb a0).1) (some (0,0)),.agg [.int .i64 none ((qb a0).2.1),.int .i64 none ((qb a0).2.2)]])
  | _=>none)
def znr:Ct KT:=([.one (.str)],fun ns=>match ns with
  | [.s a0]=>some (True,.tuple [.list 6 ((qb a0).1) (some (0,0)),.agg [.int .i64 none ((qb a0).2.1),.int .i64 none ((qb a0).2.2)]])
  | _=>none)
def zns:Ct KT:=([.one (.list 5 false false)],fun ns=>match ns with
  | [.l 5 a0]=>some (qh4 a0,.tuple [.agg [.int .i64 none ((zu a0).AtN),.int .i64 none ((zu a0).AtD),.int .i64 none ((zu a0).DurN),.int .i64 none ((zu a0).DurD),.int .i64 none ((zu a0).PitchStep),.int .i64 none ((zu a0).PitchOctave),.int .i64 none ((zu a0).PitchAlter),.sb 0 false ((zu a0).Rest) ((zu a0).Rest=true) ((zu a0).Rest=false),.int .i64 none ((zu a0).Sign),.int .i64 none ((zu a0).Pass)],.int .i64 none (qbn a0)])
  | _=>none)
def znu:Ct KT:=([.agg [.int .i64,.list 5 false false]],fun ns=>match ns with
  | [.i a0,.l 5 a1]=>some (qh4 a1,.tuple [.agg [.int .i64 none ((jh a1).AtN),.int .i64 none ((jh a1).AtD),.int .i64 none ((jh a1).DurN),.int .i64 none ((jh a1).DurD),.int .i64 none ((jh a1).PitchStep),.int .i64 none ((jh a1).PitchOctave),.int .i64 none ((jh a1).PitchAlter),.sb 0 false ((jh a1).Rest) ((jh a1).Rest=true) ((jh a1).Rest=false),.int .i64 none ((jh a1).Sign),.int .i64 none ((jh a1).Pass)],.int .i64 none (qom a1)])
  | _=>none)
def ct9:Ct KT:=([.one (.str)],fun ns=>match ns with
  | [.s a0]=>some ((ln a0<=1000000000),.tuple [.list 11 ((qai a0).1) (some (0,0)),.agg [.int .i64 none ((qai a0).2.1),.int .i64 none ((qai a0).2.2)]])
  | _=>none)
def znj:Ct KT:=([.one (.str)],fun ns=>match ns with
  | [.s a0]=>some ((ln a0<=1000000000),.tuple [.list 11 ((qai a0).1) (some (0,0)),.agg [.int .i64 none ((qai a0).2.1),.int .i64 none ((qai a0).2.2)]])
  | _=>none)
def znk:Ct KT:=([.one (.list 11 false false),.one (.list 11 false false)],fun ns=>match ns with
  | [.l 11 a0,.l 11 a1]=>some ((ln a0<=1000000000),.sb 0 false (qbx a0 a1) (qbx a0 a1=true) (qbx a0 a1=false))
  | _=>none)
def ct7:Ct KT:=([.one (.list 11 false false)],fun ns=>match ns with
  | [.l 11 a0]=>some ((ln a0<=100000000),.list 11 (a0) none)
  | _=>none)
def ct5:Ct KT:=([],fun ns=>match ns with
  | []=>some (True,.sb 0 false (true) (true=true) (true=false))
  | _=>none)
abbrev q21 (a0:Int):PV KT:=.str (qx a0)
abbrev zdv  : PV KT:=.sb 0 false (true) (true=true) (true=false)
end Go.Proofs.YtpbliaccnbgapaaGreatDoor
