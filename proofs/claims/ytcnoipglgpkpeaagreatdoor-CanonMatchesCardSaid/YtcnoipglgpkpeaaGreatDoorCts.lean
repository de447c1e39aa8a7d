import Derived.Test.YtcnoipglgpkpeaaGreatDoorDall
import Derived.Test.YtcnoipglgpkpeaaGreatDoorCfg
namespace Go.Proofs.YtcnoipglgpkpeaaGreatDoor
open Go Go.E2 Go.E3
set_option maxRecDepth 100000
variable {sp:Nat->Option (List V->Heap->Option (CR×Heap))}
def q84:Ct KT:=([.one (.int .i64),.one (.int .i64)],fun ns=>match ns with
  | [.i a0,.i a1]=>some ((0<=a0/\0<=a1/\a0<=4611686018427387904/\a1<=4611686018427387904),.int .i64 none (qy a0 a1))
  | _=>none)
def q82:Ct KT:=([.agg [.int .i64,.int .i64]],fun ns=>match ns with
  | [.i a0,.i a1]=>some (True,.int .i64 none (qe a0 a1))
  | _=>none)
def q83:Ct KT:=([.one (.list 9 false false)],fun ns=>match ns with
  | [.l 9 a0]=>some ((ln a0<=1000000000),.int .i64 none (j4 a0))
  | _=>none)
def zfu:Ct KT:=([.one (.int .i64),.one (.int .i64)],fun ns=>match ns with
  | [.i a0,.i a1]=>some ((0<=a0/\1<=a1/\a0<=4611686018427387904/\a1<=4611686018427387904),.tuple [.agg [.int .i64 none ((ofT a0 a1).1),.int .i64 none ((ofT a0 a1).2.1)],.int .i64 none ((ofT a0 a1).2.2)])
  | _=>none)
def qyh:Ct KT:=([.agg [.int .i64,.int .i64],.agg [.int .i64,.int .i64]],fun ns=>match ns with
  | [.i a0,.i a1,.i a2,.i a3]=>some (True,.tuple [.agg [.int .i64 none ((kg a0 a1 a2 a3).1),.int .i64 none ((kg a0 a1 a2 a3).2.1)],.int .i64 none ((kg a0 a1 a2 a3).2.2)])
  | _=>none)
def q6b:Ct KT:=([.one (.int .i64),.one (.int .i64),.one (.int .i64),.one (.int .i64)],fun ns=>match ns with
  | [.i a0,.i a1,.i a2,.i a3]=>some (qnp a0 a1 a2 a3,.tuple [.agg [.int .i64 none ((qcv a0 a1 a2 a3).1),.int .i64 none ((qcv a0 a1 a2 a3).2.1)],.int .i64 none ((qcv a0 a1 a2 a3).2.2)])
  | _=>none)
def zi1:Ct KT:=([.agg [.int .i64,.int .i64],.agg [.int .i64,.int .i64]],fun ns=>match ns with
  | [.i a0,.i a1,.i a2,.i a3]=>some (True,.tuple [.agg [.int .i64 none ((qcu a0 a1 a2 a3).1),.int .i64 none ((qcu a0 a1 a2 a3).2.1)],.int .i64 none ((qcu a0 a1 a2 a3).2.2)])
  | _=>none)
def ct9:Ct KT:=([.agg [.int .i64,.int .i64,.int .i64]],fun ns=>match ns with
  | [.i a0,.i a1,.i a2]=>some (True,.int .i64 none (zb a0 a1 a2))
  | _=>none)
def zbv:Ct KT:=([.agg [.int .i64,.int .i64,.int .i64],.agg [.int .i64,.int .i64,.int .i64]],fun ns=>match ns with
  | [.i a0,.i a1,.i a2,.i a3,.i a4,.i a5]=>some (True,.tuple [.agg [.int .i64 none ((qdt a0 a1 a2 a3 a4 a5).1),.int .i64 none ((qdt a0 a1 a2 a3 a4 a5).2.1),.int .i64 none ((qdt a0 a1 a2 a3 a4 a5).2.2.1)],.int .i64 none ((qdt a0 a1 a2 a3 a4 a5).2.2.2)])
  | _=>none)
def zi0:Ct KT:=([.agg [.int .i64,.int .i64,.int .i64],.one (.int .i64)],fun ns=>match ns with
  | [.i a0,.i a1,.i a2,.i a3]=>some (True,.tuple [.agg [.int .i64 none ((qbw a0 a1 a2 a3).1),.int .i64 none ((qbw a0 a1 a2 a3).2.1),.int .i64 none ((qbw a0 a1 a2 a3).2.2.1)],.int .i64 none ((qbw a0 a1 a2 a3).2.2.2)])
  | _=>none)
def ziq:Ct KT:=([.agg [.int .i64,.int .i64,.int .i64,.int .i64,.int .i64,.int .i64,.int .i64,.bool,.int .i64,.int .i64]],fun ns=>match ns with
  | [.i a0,.i a1,.i a2,.i a3,.i a4,.i a5,.i a6,.b a7,.i a8,.i a9]=>some (True,.int .i64 none (qbr (Event.mk a0 a1 a2 a3 a4 a5 a6 a7 a8 a9)))
  | _=>none)
def qvl:Ct KT:=([.one (.list 11 false false)],fun ns=>match ns with
  | [.l 11 a0]=>some ((ln a0<=1000000000),.tuple [.int .i64 none ((qm a0).1),.int .i64 none ((qm a0).2)])
  | _=>none)
def zfl:Ct KT:=([.one (.list 11 false false)],fun ns=>match ns with
  | [.l 11 a0]=>some ((ln a0<=1000000000),.list 11 (a0) none)
  | _=>none)
def zfw:Ct KT:=([.agg [.int .i64,.int .i64]],fun ns=>match ns with
  | [.i a0,.i a1]=>some (True,.int .i64 none (qgy a0 a1))
  | _=>none)
def q6c:Ct KT:=([.one (.list 11 false false)],fun ns=>match ns with
  | [.l 11 a0]=>some ((ln a0<=1000000000),.tuple [.list 11 ((zq a0).1) none,.int .i64 none ((zq a0).2)])
  | _=>none)
def q6d:Ct KT:=([.one (.list 11 false false),.agg [.int .i64,.int .i64,.int .i64]],fun ns=>match ns with
  | [.l 11 a0,.i a1,.i a2,.i a3]=>some ((ln a0<=1000000000),.tuple [.list 11 ((qhb a0 a1 a2 a3).1) none,.int .i64 none ((qhb a0 a1 a2 a3).2)])
  | _=>none)
def zis:Ct KT:=([.one (.list 11 false false),.one (.int .i64)],fun ns=>match ns with
  | [.l 11 a0,.i a1]=>some ((ln a0<=1000000000),.tuple [.list 11 ((qak a0 a1).1) none,.int .i64 none ((qak a0 a1).2)])
  | _=>none)
def zit:Ct KT:=([.one (.list 11 false false),.agg [.int .i64,.int .i64]],fun ns=>match ns with
  | [.l 11 a0,.i a1,.i a2]=>some ((ln a0<=1000000000),.tuple [.list 11 ((qbu a0 a1 a2).1) none,.int .i64 none ((qbu a0 a1 a2).2)])
  | _=>none)
def ziu:Ct KT:=([.one (.list 11 false false),.agg [.int .i64,.int .i64]],fun ns=>match ns with
  | [.l 11 a0,.i a1,.i a2]=>some ((ln a0<=1000000000),.tuple [.list 11 ((qaj a0 a1 a2).1) none,.int .i64 none ((qaj a0 a1 a2).2)])
  | _=>none)
def zir:Ct KT:=([.agg [.int .i64,.int .i64,.int .i64,.int .i64]],fun ns=>match ns with
  | [.i a0,.i a1,.i a2,.i a3]=>some (True,.int .i64 none (qxe a0 a1 a2 a3))
  | _=>none)
def zim:Ct KT:=([.agg [.int .i64,.int .i64,.int .i64,.bool,.bool,.int .i64,.int .i64,.int .i64,.int .i64,.int .i64,.int .i64]],fun ns=>match ns with
  | [.i a0,.i a1,.i a2,.b a3,.b a4,.i a5,.i a6,.i a7,.i a8,.i a9,.i a10]=>some (True,.int .i64 none (qrx a0 a1 a2 a5 a6 a7 a8 a9 a10))
  | _=>none)
def zfp:Ct KT:=([.one (.list 11 false false)],fun ns=>match ns with
  | [.l 11 a0]=>some ((ln a0<=1000000000),.tuple [.agg [.int .i64 none ((qc a0).1),.int .i64 none ((qc a0).2.1),.int .i64 none ((qc a0).2.2.1)],.sb 0 false ((qc a0).2.2.2) ((qc a0).2.2.2=true) ((qc a0).2.2.2=false)])
  | _=>none)
def ct8:Ct KT:=([.one (.list 11 false false),.agg [.int .i64,.int .i64,.int .i64,.bool,.bool,.int .i64,.int .i64,.int .i64,.int .i64,.int .i64,.int .i64]],fun ns=>match ns with
  | [.l 11 a0,.i a1,.i a2,.i a3,.b a4,.b a5,.i a6,.i a7,.i a8,.i a9,.i a10,.i a11]=>some ((ln a0<=1000000000),.tuple [.list 11 ((kf a0 a1 a2 a3 a4 a5 a6 a7 a8 a9 a10 a11).1) none,.int .i64 none ((kf a0 a1 a2 a3 a4 a5 a6 a7 a8 a9 a10 a11).2)])
  | _=>none)
def zbt:Ct KT:=([.agg [.int .i64,.int .i64]],fun ns=>match ns with
  | [.i a0,.i a1]=>some (((0:Int)<=a0/\(a0:Int)<=62/\(-1:Int)<=a1/\(a1:Int)<=1),.int .i64 none (qba a0 a1))
  | _=>none)
def ziy:Ct KT:=([.agg [.int .i64,.int .i64],.agg [.int .i64,.int .i64]],fun ns=>match ns with
  | [.i a0,.i a1,.i a2,.i a3]=>some (True,.tuple [.agg [.int .i64 none ((qij a0 a1 a2 a3).1),.int .i64 none ((qij a0 a1 a2 a3).2.1)],.int .i64 none ((qij a0 a1 a2 a3).2.2)])
  | _=>none)
def ziz:Ct KT:=([.agg [.int .i64,.int .i64],.agg [.int .i64,.int .i64]],fun ns=>match ns with
  | [.i a0,.i a1,.i a2,.i a3]=>some (True,.tuple [.agg [.int .i64 none ((qfp a0 a1 a2 a3).1),.int .i64 none ((qfp a0 a1 a2 a3).2.1)],.int .i64 none ((qfp a0 a1 a2 a3).2.2)])
  | _=>none)
def ziv:Ct KT:=([.agg [.int .i64,.int .i64,.int .i64],.agg [.int .i64,.int .i64,.int .i64]],fun ns=>match ns with
  | [.i a0,.i a1,.i a2,.i a3,.i a4,.i a5]=>some (True,.tuple [.agg [.int .i64 none ((qgn a0 a1 a2 a3 a4 a5).1),.int .i64 none ((qgn a0 a1 a2 a3 a4 a5).2.1)],.int .i64 none ((qgn a0 a1 a2 a3 a4 a5).2.2)])
  | _=>none)
def ziw:Ct KT:=([.one (.list 11 false false)],fun ns=>match ns with
  | [.l 11 a0]=>some ((ln a0<=1000000000),.tuple [.agg [.int .i64 none ((jq a0).1),.int .i64 none ((jq a0).2.1)],.int .i64 none ((jq a0).2.2)])
  | _=>none)
def zin:Ct KT:=([.one (.list 11 false false),.agg [.int .i64,.int .i64,.int .i64,.bool,.bool,.int .i64,.int .i64,.int .i64,.int .i64,.int .i64,.int .i64],.one (.list 11 false false)],fun ns=>match ns with
  | [.l 11 a0,.i a1,.i a2,.i a3,.b a4,.b a5,.i a6,.i a7,.i a8,.i a9,.i a10,.i a11,.l 11 a12]=>some (((qm a0).1=0/\(qm a12).1=0),.tuple [.int .i64 none ((zh a0 a12 a4 a5).1),.sb 0 false ((zh a0 a12 a4 a5).2) ((zh a0 a12 a4 a5).2=true) ((zh a0 a12 a4 a5).2=false)])
  | _=>none)
def zio:Ct KT:=([.one (.list 11 false false),.one (.list 11 false false),.agg [.int .i64,.int .i64]],fun ns=>match ns with
  | [.l 11 a0,.l 11 a1,.i a2,.i a3]=>some ((ln a0<=1000000000/\ln a1<=1000000000),.tuple [.agg [.int .i64 none ((qi a0 a1 a2 a3).1),.int .i64 none ((qi a0 a1 a2 a3).2.1)],.sb 0 false ((qi a0 a1 a2 a3).2.2) ((qi a0 a1 a2 a3).2.2=true) ((qi a0 a1 a2 a3).2.2=false)])
  | _=>none)
def zij:Ct KT:=([.one (.list 11 false false),.one (.list 11 false false)],fun ns=>match ns with
  | [.l 11 a0,.l 11 a1]=>some ((ln a0<=1000000000/\ln a1<=1000000000),.tuple [.list 25 ((kb a0 a1).1) (some (0,0)),.int .i64 none ((kb a0 a1).2)])
  | _=>none)
def zfd:Ct KT:=([.one (.int .i64),.one (.int .i64)],fun ns=>match ns with
  | [.i a0,.i a1]=>some (((1:Int)<=a1/\(a1:Int)<=10000000/\(-9223372036854775808:Int)<=a0/\(a0:Int)<=9223372036854775807),.int .i64 none (qdu a0 a1))
  | _=>none)
def zfi:Ct KT:=([.one (.int .i64),.one (.int .i64)],fun ns=>match ns with
  | [.i a0,.i a1]=>some (((0:Int)<=a0/\(a0:Int)<=1000000000000/\(1:Int)<=a1/\(a1:Int)<=1000000000000),.agg [.int .i64 none ((tT a0 a1).1),.int .i64 none ((tT a0 a1).2)])
  | _=>none)
def zil:Ct KT:=([.agg [.int .i64,.int .i64],.agg [.int .i64,.int .i64]],fun ns=>match ns with
  | [.i a0,.i a1,.i a2,.i a3]=>some (((0:Int)<=a0/\(a0:Int)<=100000/\(1:Int)<=a1/\(a1:Int)<=100000/\(0:Int)<=a2/\(a2:Int)<=100000/\(1:Int)<=a3/\(a3:Int)<=100000),.agg [.int .i64 none ((qb4 a0 a1 a2 a3).1),.int .i64 none ((qb4 a0 a1 a2 a3).2)])
  | _=>none)
def ct6:Ct KT:=([.one (.list 1 false false),.one (.int .i64)],fun ns=>match ns with
  | [.l 1 a0,.i a1]=>some ((ln a0<=9223372036854775807/\(0:Int)<=a1/\(a1:Int)<=20/\∀ x ∈ a0,I64 x),.list 11 (zz a0 a1) (some (0,0)))
  | _=>none)
def zik:Ct KT:=([.one (.int .i64)],fun ns=>match ns with
  | [.i a0]=>some (I64 a0,.agg [.int .i64 none ((zd a0).DelayN),.int .i64 none ((zd a0).DelayD),.int .i64 none ((zd a0).Steps),.sb 0 false ((zd a0).Mirror) ((zd a0).Mirror=true) ((zd a0).Mirror=false),.sb 0 false ((zd a0).Retro) ((zd a0).Retro=true) ((zd a0).Retro=false),.int .i64 none ((zd a0).FactorN),.int .i64 none ((zd a0).FactorD),.int .i64 none ((zd a0).MensMax),.int .i64 none ((zd a0).MensMod),.int .i64 none ((zd a0).MensTem),.int .i64 none ((zd a0).MensPro)])
  | _=>none)
def zfa:Ct KT:=([],fun ns=>match ns with
  | []=>some (True,.sb 0 false (true) (true=true) (true=false))
  | _=>none)
abbrev q9o  : PV KT:=.sb 0 false (true) (true=true) (true=false)
end Go.Proofs.YtcnoipglgpkpeaaGreatDoor
