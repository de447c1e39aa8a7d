/- THE CONTRACTS of the functions on signs, parts and texts. Made by program (vc.py). -/
import Derived.Test.YtbopmiclcimjgaaGreatDoorDall
import Derived.Test.YtbopmiclcimjgaaGreatDoorCfg
namespace Go.Proofs.YtbopmiclcimjgaaGreatDoor
open Go Go.E2 Go.E3
set_option maxRecDepth 100000
variable {sp:Nat->Option (List V->Heap->Option (CR×Heap))}

def zbk:Ct KT:=([.one (.str),.one (.int .u8)],fun ns=>match ns with
  | [.s a0,.i a1]=>some (True,.int .i64 none ((jc a0 a1)))
  | _=>none)
def zh6:Ct KT:=([.one (.str),.one (.int .u8)],fun ns=>match ns with
  | [.s a0,.i a1]=>some (True,.int .i64 none ((qk1 a0 a1)))
  | _=>none)
def znc:Ct KT:=([.agg [.int .i64,.int .i64,.int .i64,.int .i64]],fun ns=>match ns with
  | [.i a0,.i a1,.i a2,.i a3]=>some (True,.int .i64 none ((qb5 a0 a1 a2 a3)))
  | _=>none)
def zh8:Ct KT:=([.agg [.int .i64,.int .i64,.int .i64,.int .i64,.bool,.int .i64,.bool,.bool,.int .i64,.int .i64,.int .i64,.int .i64,.bool,.int .i64,.int .i64,.int .i64,.int .i64]],fun ns=>match ns with
  | [.i a0,.i a1,.i a2,.i a3,.b a4,.i a5,.b a6,.b a7,.i a8,.i a9,.i a10,.i a11,.b a12,.i a13,.i a14,.i a15,.i a16]=>some (True,.int .i64 none ((ku (Sign.mk a0 a1 a2 a3 a4 a5 a6 a7 a8 a9 a10 a11 a12 a13 a14 a15 a16))))
  | _=>none)
def znf:Ct KT:=([.one (.str),.one (.str)],fun ns=>match ns with
  | [.s a0,.s a1]=>some (True,.sb 0 false ((preB a0 a1)) ((preB a0 a1)=true) ((preB a0 a1)=false))
  | _=>none)
def zbi:Ct KT:=([.agg [.int .i64,.int .i64,.int .i64,.int .i64]],fun ns=>match ns with
  | [.i a0,.i a1,.i a2,.i a3]=>some (True,.str ((jr a0 a1 a2 a3)))
  | _=>none)
def znd:Ct KT:=([.agg [.int .i64,.int .i64,.int .i64,.int .i64]],fun ns=>match ns with
  | [.i a0,.i a1,.i a2,.i a3]=>some (True,.tuple [.str (((qki a0 a1 a2 a3).1)),.int .i64 none (((qki a0 a1 a2 a3).2))])
  | _=>none)
def zne:Ct KT:=([.one (.str)],fun ns=>match ns with
  | [.s a0]=>some (True,.tuple [.agg [.int .i64 none (((qgf a0).1.1)),.int .i64 none (((qgf a0).1.2.1)),.int .i64 none (((qgf a0).1.2.2.1)),.int .i64 none (((qgf a0).1.2.2.2))],.int .i64 none (((qgf a0).2))])
  | _=>none)
def q5g:Ct KT:=([.one (.str)],fun ns=>match ns with
  | [.s a0]=>some ((ln a0<=1000000),.tuple [.int .i64 none (((qx a0).1)),.sb 0 false (((qx a0).2)) (((qx a0).2)=true) (((qx a0).2)=false)])
  | _=>none)
def zbj:Ct KT:=([.one (.str)],fun ns=>match ns with
  | [.s a0]=>some ((ln a0<=1000000),.tuple [.int .i64 none (((qbg a0).1)),.sb 0 false (((qbg a0).2)) (((qbg a0).2)=true) (((qbg a0).2)=false)])
  | _=>none)
def qmw:Ct KT:=([.one (.int .i64)],fun ns=>match ns with
  | [.i a0]=>some ((-4<=a0/\a0<=100),.str ((zf a0)))
  | _=>none)
def zqo:Ct KT:=([.agg [.int .i64,.int .i64,.int .i64,.int .i64,.bool,.int .i64,.bool,.bool,.int .i64,.int .i64,.int .i64,.int .i64,.bool,.int .i64,.int .i64,.int .i64,.int .i64]],fun ns=>match ns with
  | [.i a0,.i a1,.i a2,.i a3,.b a4,.i a5,.b a6,.b a7,.i a8,.i a9,.i a10,.i a11,.b a12,.i a13,.i a14,.i a15,.i a16]=>some (True,.tuple [.str (((qle (Sign.mk a0 a1 a2 a3 a4 a5 a6 a7 a8 a9 a10 a11 a12 a13 a14 a15 a16)).1)),.int .i64 none (((qle (Sign.mk a0 a1 a2 a3 a4 a5 a6 a7 a8 a9 a10 a11 a12 a13 a14 a15 a16)).2))])
  | _=>none)
def zqp:Ct KT:=([.one (.str)],fun ns=>match ns with
  | [.s a0]=>some ((ln a0<=1000),.tuple [.agg [.int .i64 none ((((zg a0).1).Kind)),.int .i64 none ((((zg a0).1).Value)),.int .i64 none ((((zg a0).1).Place)),.int .i64 none ((((zg a0).1).Acc)),.sb 0 false ((((zg a0).1).Color)) ((((zg a0).1).Color)=true) ((((zg a0).1).Color)=false),.int .i64 none ((((zg a0).1).Stem)),.sb 0 false ((((zg a0).1).Oblique)) ((((zg a0).1).Oblique)=true) ((((zg a0).1).Oblique)=false),.sb 0 false ((((zg a0).1).Last)) ((((zg a0).1).Last)=true) ((((zg a0).1).Last)=false),.int .i64 none ((((zg a0).1).MensMax)),.int .i64 none ((((zg a0).1).MensMod)),.int .i64 none ((((zg a0).1).MensTem)),.int .i64 none ((((zg a0).1).MensPro)),.sb 0 false ((((zg a0).1).Stroke)) ((((zg a0).1).Stroke)=true) ((((zg a0).1).Stroke)=false),.int .i64 none ((((zg a0).1).N)),.int .i64 none ((((zg a0).1).D)),.int .i64 none ((((zg a0).1).ClefStep)),.int .i64 none ((((zg a0).1).ClefLine))],.int .i64 none (((zg a0).2))])
  | _=>none)
def zh9:Ct KT:=([.one (.str),.one (.int .u8)],fun ns=>match ns with
  | [.s a0,.i a1]=>some ((U8 a1),.int .i64 none ((jc a0 a1)))
  | _=>none)
def zm9:Ct KT:=([.one (.str)],fun ns=>match ns with
  | [.s a0]=>some ((ln a0<=9223372036854775806),.sb 0 false ((qaj a0)) ((qaj a0)=true) ((qaj a0)=false))
  | _=>none)
def zqu:Ct KT:=([.agg [.str,.list 4 false false]],fun ns=>match ns with
  | [.s a0,.l 4 a1]=>some ((ln a0<=1000000000/\ln a1<=1000000000),.tuple [.int .i64 none (((zy a0 a1).1)),.int .i64 none (((zy a0 a1).2))])
  | _=>none)
def zqv:Ct KT:=([.one (.list 4 false false),.one (.list 4 false false)],fun ns=>match ns with
  | [.l 4 a0,.l 4 a1]=>some ((ln a0<=10000000),.sb 0 false ((qk9 a0 a1)) ((qk9 a0 a1)=true) ((qk9 a0 a1)=false))
  | _=>none)
def zqq:Ct KT:=([.agg [.str,.list 4 false false],.agg [.str,.list 4 false false]],fun ns=>match ns with
  | [.s a0,.l 4 a1,.s a2,.l 4 a3]=>some ((ln a1<=10000000),.sb 0 false ((je a0 a1 a2 a3)) ((je a0 a1 a2 a3)=true) ((je a0 a1 a2 a3)=false))
  | _=>none)
def zbh:Ct KT:=([.one (.int .u8)],fun ns=>match ns with
  | [.i a0]=>some ((U8 a0),.int .u8 none ((jy a0)))
  | _=>none)
def zh4:Ct KT:=([.one (.str)],fun ns=>match ns with
  | [.s a0]=>some ((ln a0<=1000000000),.sb 0 false ((qal a0)) ((qal a0)=true) ((qal a0)=false))
  | _=>none)
def zh2:Ct KT:=([.one (.str),.one (.str),.one (.int .i64),.one (.int .i64)],fun ns=>match ns with
  | [.s a0,.s a1,.i a2,.i a3]=>some ((ln a1=1/\(a2:Int)=0/\(a3:Int) = -1/\ln a0<=100000000),.list 2 ((qy (bx a1 0) a0)) none)
  | _=>none)
def zqx:Ct KT:=([.one (.str),.one (.str)],fun ns=>match ns with
  | [.s a0,.s a1]=>some ((ln a1=1/\ln a0<=100000000),.list 2 ((qy (bx a1 0) a0)) none)
  | _=>none)
def zm5:Ct KT:=([.one (.str)],fun ns=>match ns with
  | [.s a0]=>some (True,.tuple [.list 6 (((qd a0).1)) (some (0,0)),.agg [.int .i64 none (((qd a0).2.1)),.int .i64 none (((qd a0).2.2))]])
  | _=>none)
def zqr:Ct KT:=([.one (.str)],fun ns=>match ns with
  | [.s a0]=>some ((ln a0<=1000000000),.tuple [.agg [.str (((zr a0).1.1)),.list 4 (((zr a0).1.2)) none],.agg [.int .i64 none (((zr a0).2.1)),.int .i64 none (((zr a0).2.2))]])
  | _=>none)
def zek:Ct KT:=([.one (.int .i64),.one (.int .i64)],fun ns=>match ns with
  | [.i a0,.i a1]=>some ((I64 a0/\(1:Int)<=a1/\(a1:Int)<=1048576),.int .i64 none ((qa6 a0 a1)))
  | _=>none)
def zm6:Ct KT:=([.one (.list 1 false false),.one (.int .i64)],fun ns=>match ns with
  | [.l 1 a0,.i a1]=>some ((ln a0<=9223372036854775807),.int .i64 none ((atI a0 a1)))
  | _=>none)
def zqt:Ct KT:=([.one (.int .i64)],fun ns=>match ns with
  | [.i a0]=>some ((I64 a0),.agg [.int .i64 none ((quj a0)),.int .i64 none ((quk a0)),.int .i64 none ((qum a0)),.int .i64 none ((qul a0))])
  | _=>none)
def zh0:Ct KT:=([.agg [.int .i64,.int .i64,.int .i64,.int .i64],.one (.int .i64)],fun ns=>match ns with
  | [.i a0,.i a1,.i a2,.i a3,.i a4]=>some (((0:Int)<=a4/\(a4:Int)<=100),.sb 0 false ((qci a0 a1 a2 a3 a4)) ((qci a0 a1 a2 a3 a4)=true) ((qci a0 a1 a2 a3 a4)=false))
  | _=>none)
def zqw:Ct KT:=([.agg [.int .i64,.int .i64,.int .i64,.int .i64],.one (.list 1 false false),.one (.int .i64)],fun ns=>match ns with
  | [.i a0,.i a1,.i a2,.i a3,.l 1 a4,.i a5]=>some ((ln a4<=9223372036854775807/\qk5 a4/\(a5:Int)<=30/\(0:Int)<=a5),.list 4 ((qel a0 a1 a2 a3 a4 a5)) (some (0,0)))
  | _=>none)
def zqs:Ct KT:=([.agg [.int .i64,.int .i64,.int .i64,.int .i64],.one (.list 1 false false),.one (.int .i64)],fun ns=>match ns with
  | [.i a0,.i a1,.i a2,.i a3,.l 1 a4,.i a5]=>some ((ln a4<=9223372036854775807/\qk5 a4/\(a5:Int)<=30/\(0:Int)<=a5),.agg [.str ((qhq)),.list 4 ((qj8 a0 a1 a2 a3 a4 a5)) none])
  | _=>none)
def zm2:Ct KT:=([],fun ns=>match ns with
  | []=>some (True,.sb 0 false ((true)) ((true)=true) ((true)=false))
  | _=>none)
abbrev q4j (a0:Int):PV KT:=.str ((zf a0))
abbrev ze8  : PV KT:=.sb 0 false ((true)) ((true)=true) ((true)=false)
end Go.Proofs.YtbopmiclcimjgaaGreatDoor
