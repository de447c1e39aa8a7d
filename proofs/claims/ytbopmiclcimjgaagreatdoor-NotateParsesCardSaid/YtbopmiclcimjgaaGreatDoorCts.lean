import Derived.Test.YtbopmiclcimjgaaGreatDoorNpInv
import Derived.Test.YtbopmiclcimjgaaGreatDoorCfg
namespace Go.Proofs.YtbopmiclcimjgaaGreatDoor
open Go Go.E2 Go.E3
set_option maxRecDepth 100000
variable {sp:Nat->Option (List V->Heap->Option (CR×Heap))}
def zbc:Ct KT:=([.one (.str),.one (.int .u8)],fun ns=>match ns with
  | [.s a0,.i a1]=>some (True,.int .i64 none ((jh a0 a1)))
  | _=>none)
def zh8:Ct KT:=([.one (.str),.one (.int .u8)],fun ns=>match ns with
  | [.s a0,.i a1]=>some (True,.int .i64 none ((qks a0 a1)))
  | _=>none)
def zmk:Ct KT:=([.agg [.int .i64,.int .i64,.int .i64,.int .i64]],fun ns=>match ns with
  | [.i a0,.i a1,.i a2,.i a3]=>some (True,.int .i64 none ((qa0 a0 a1 a2 a3)))
  | _=>none)
def zmb:Ct KT:=([.agg [.int .i64,.int .i64,.int .i64,.int .i64,.bool,.int .i64,.bool,.bool,.int .i64,.int .i64,.int .i64,.int .i64,.bool,.int .i64,.int .i64,.int .i64,.int .i64]],fun ns=>match ns with
  | [.i a0,.i a1,.i a2,.i a3,.b a4,.i a5,.b a6,.b a7,.i a8,.i a9,.i a10,.i a11,.b a12,.i a13,.i a14,.i a15,.i a16]=>some (True,.int .i64 none ((zn (Sign.mk a0 a1 a2 a3 a4 a5 a6 a7 a8 a9 a10 a11 a12 a13 a14 a15 a16))))
  | _=>none)
def zqb:Ct KT:=([.one (.str),.one (.str)],fun ns=>match ns with
  | [.s a0,.s a1]=>some (True,.sb 0 false ((preB a0 a1)) ((preB a0 a1)=true) ((preB a0 a1)=false))
  | _=>none)
def zba:Ct KT:=([.agg [.int .i64,.int .i64,.int .i64,.int .i64]],fun ns=>match ns with
  | [.i a0,.i a1,.i a2,.i a3]=>some (True,.str ((qaf a0 a1 a2 a3)))
  | _=>none)
def zp7:Ct KT:=([.agg [.int .i64,.int .i64,.int .i64,.int .i64]],fun ns=>match ns with
  | [.i a0,.i a1,.i a2,.i a3]=>some (True,.tuple [.str (((qe0 a0 a1 a2 a3).1)),.int .i64 none (((qe0 a0 a1 a2 a3).2))])
  | _=>none)
def zp8:Ct KT:=([.one (.str)],fun ns=>match ns with
  | [.s a0]=>some (True,.tuple [.agg [.int .i64 none (((kc a0).1.1)),.int .i64 none (((kc a0).1.2.1)),.int .i64 none (((kc a0).1.2.2.1)),.int .i64 none (((kc a0).1.2.2.2))],.int .i64 none (((kc a0).2))])
  | _=>none)
def zbb:Ct KT:=([.one (.str)],fun ns=>match ns with
  | [.s a0]=>some ((ln a0<=1000000),.tuple [.int .i64 none (((qi a0).1)),.sb 0 false (((qi a0).2)) (((qi a0).2)=true) (((qi a0).2)=false)])
  | _=>none)
def zh2:Ct KT:=([.one (.str)],fun ns=>match ns with
  | [.s a0]=>some ((ln a0<=1000000),.tuple [.int .i64 none (((k8 a0).1)),.sb 0 false (((k8 a0).2)) (((k8 a0).2)=true) (((k8 a0).2)=false)])
  | _=>none)
def za7:Ct KT:=([.one (.str)],fun ns=>match ns with
  | [.s a0]=>some ((ln a0<=1000000),.tuple [.int .i64 none (((qi a0).1)),.sb 0 false (((qi a0).2)) (((qi a0).2)=true) (((qi a0).2)=false)])
  | _=>none)
def zhw:Ct KT:=([.one (.str)],fun ns=>match ns with
  | [.s a0]=>some ((ln a0<=1000000),.tuple [.int .i64 none (((k8 a0).1)),.sb 0 false (((k8 a0).2)) (((k8 a0).2)=true) (((k8 a0).2)=false)])
  | _=>none)
def zhk:Ct KT:=([.one (.str),.one (.int .u8)],fun ns=>match ns with
  | [.s a0,.i a1]=>some ((U8 a1/\ln a0<=1000000),.tuple [.str (((qa1 a0 a1).1)),.str (((qa1 a0 a1).2.1)),.sb 0 false (((qa1 a0 a1).2.2)) (((qa1 a0 a1).2.2)=true) (((qa1 a0 a1).2.2)=false)])
  | _=>none)
def zmp:Ct KT:=([.agg [.int .i64,.int .i64,.int .i64,.int .i64]],fun ns=>match ns with
  | [.i a0,.i a1,.i a2,.i a3]=>some (True,.int .i64 none ((qa0 a0 a1 a2 a3)))
  | _=>none)
def zp1:Ct KT:=([.agg [.int .i64,.int .i64,.int .i64,.int .i64]],fun ns=>match ns with
  | [.i a0,.i a1,.i a2,.i a3]=>some (True,.tuple [.str (((qe0 a0 a1 a2 a3).1)),.int .i64 none (((qe0 a0 a1 a2 a3).2))])
  | _=>none)
def zh4:Ct KT:=([.one (.int .i64)],fun ns=>match ns with
  | [.i a0]=>some ((0<=a0/\a0<=15),.tuple [.agg [.int .i64 none (((ofM a0).1)),.int .i64 none (((ofM a0).2.1)),.int .i64 none (((ofM a0).2.2.1)),.int .i64 none (((ofM a0).2.2.2))],.int .i64 none (((0:Int)))])
  | _=>none)
def zhu:Ct KT:=([.one (.str)],fun ns=>match ns with
  | [.s a0]=>some (True,.tuple [.agg [.int .i64 none (((kc a0).1.1)),.int .i64 none (((kc a0).1.2.1)),.int .i64 none (((kc a0).1.2.2.1)),.int .i64 none (((kc a0).1.2.2.2))],.int .i64 none (((kc a0).2))])
  | _=>none)
def qtn:Ct KT:=([.one (.int .i64)],fun ns=>match ns with
  | [.i a0]=>some ((-4<=a0/\a0<=100),.str ((q0c a0)))
  | _=>none)
def zpu:Ct KT:=([.one (.str)],fun ns=>match ns with
  | [.s a0]=>some ((ln a0<=1000),.tuple [.agg [.int .i64 none ((((zj a0).1).Kind)),.int .i64 none ((((zj a0).1).Value)),.int .i64 none ((((zj a0).1).Place)),.int .i64 none ((((zj a0).1).Acc)),.sb 0 false ((((zj a0).1).Color)) ((((zj a0).1).Color)=true) ((((zj a0).1).Color)=false),.int .i64 none ((((zj a0).1).Stem)),.sb 0 false ((((zj a0).1).Oblique)) ((((zj a0).1).Oblique)=true) ((((zj a0).1).Oblique)=false),.sb 0 false ((((zj a0).1).Last)) ((((zj a0).1).Last)=true) ((((zj a0).1).Last)=false),.int .i64 none ((((zj a0).1).MensMax)),.int .i64 none ((((zj a0).1).MensMod)),.int .i64 none ((((zj a0).1).MensTem)),.int .i64 none ((((zj a0).1).MensPro)),.sb 0 false ((((zj a0).1).Stroke)) ((((zj a0).1).Stroke)=true) ((((zj a0).1).Stroke)=false),.int .i64 none ((((zj a0).1).N)),.int .i64 none ((((zj a0).1).D)),.int .i64 none ((((zj a0).1).ClefStep)),.int .i64 none ((((zj a0).1).ClefLine))],.int .i64 none (((zj a0).2))])
  | _=>none)
def zmm:Ct KT:=([.one (.str),.one (.int .u8)],fun ns=>match ns with
  | [.s a0,.i a1]=>some ((U8 a1),.int .i64 none ((jh a0 a1)))
  | _=>none)
def zhs:Ct KT:=([.one (.str),.one (.int .u8)],fun ns=>match ns with
  | [.s a0,.i a1]=>some ((U8 a1),.tuple [.str (((qu a0 a1).1)),.sb 0 false (((qu a0 a1).2)) (((qu a0 a1).2)=true) (((qu a0 a1).2)=false)])
  | _=>none)
def zp0:Ct KT:=([.one (.str)],fun ns=>match ns with
  | [.s a0]=>some (True,.tuple [.int .i64 none (((jy a0).1)),.int .i64 none (((jy a0).2))])
  | _=>none)
def zp9:Ct KT:=([.agg [.int .i64,.int .i64,.int .i64,.int .i64,.bool,.int .i64,.bool,.bool,.int .i64,.int .i64,.int .i64,.int .i64,.bool,.int .i64,.int .i64,.int .i64,.int .i64]],fun ns=>match ns with
  | [.i a0,.i a1,.i a2,.i a3,.b a4,.i a5,.b a6,.b a7,.i a8,.i a9,.i a10,.i a11,.b a12,.i a13,.i a14,.i a15,.i a16]=>some (True,.agg [.int .i64 none (((zr (Sign.mk a0 a1 a2 a3 a4 a5 a6 a7 a8 a9 a10 a11 a12 a13 a14 a15 a16)).Kind)),.int .i64 none (((zr (Sign.mk a0 a1 a2 a3 a4 a5 a6 a7 a8 a9 a10 a11 a12 a13 a14 a15 a16)).Value)),.int .i64 none (((zr (Sign.mk a0 a1 a2 a3 a4 a5 a6 a7 a8 a9 a10 a11 a12 a13 a14 a15 a16)).Place)),.int .i64 none (((zr (Sign.mk a0 a1 a2 a3 a4 a5 a6 a7 a8 a9 a10 a11 a12 a13 a14 a15 a16)).Acc)),.sb 0 false (((zr (Sign.mk a0 a1 a2 a3 a4 a5 a6 a7 a8 a9 a10 a11 a12 a13 a14 a15 a16)).Color)) (((zr (Sign.mk a0 a1 a2 a3 a4 a5 a6 a7 a8 a9 a10 a11 a12 a13 a14 a15 a16)).Color)=true) (((zr (Sign.mk a0 a1 a2 a3 a4 a5 a6 a7 a8 a9 a10 a11 a12 a13 a14 a15 a16)).Color)=false),.int .i64 none (((zr (Sign.mk a0 a1 a2 a3 a4 a5 a6 a7 a8 a9 a10 a11 a12 a13 a14 a15 a16)).Stem)),.sb 0 false (((zr (Sign.mk a0 a1 a2 a3 a4 a5 a6 a7 a8 a9 a10 a11 a12 a13 a14 a15 a16)).Oblique)) (((zr (Sign.mk a0 a1 a2 a3 a4 a5 a6 a7 a8 a9 a10 a11 a12 a13 a14 a15 a16)).Oblique)=true) (((zr (Sign.mk a0 a1 a2 a3 a4 a5 a6 a7 a8 a9 a10 a11 a12 a13 a14 a15 a16)).Oblique)=false),.sb 0 false (((zr (Sign.mk a0 a1 a2 a3 a4 a5 a6 a7 a8 a9 a10 a11 a12 a13 a14 a15 a16)).Last)) (((zr (Sign.mk a0 a1 a2 a3 a4 a5 a6 a7 a8 a9 a10 a11 a12 a13 a14 a15 a16)).Last)=true) (((zr (Sign.mk a0 a1 a2 a3 a4 a5 a6 a7 a8 a9 a10 a11 a12 a13 a14 a15 a16)).Last)=false),.int .i64 none (((zr (Sign.mk a0 a1 a2 a3 a4 a5 a6 a7 a8 a9 a10 a11 a12 a13 a14 a15 a16)).MensMax)),.int .i64 none (((zr (Sign.mk a0 a1 a2 a3 a4 a5 a6 a7 a8 a9 a10 a11 a12 a13 a14 a15 a16)).MensMod)),.int .i64 none (((zr (Sign.mk a0 a1 a2 a3 a4 a5 a6 a7 a8 a9 a10 a11 a12 a13 a14 a15 a16)).MensTem)),.int .i64 none (((zr (Sign.mk a0 a1 a2 a3 a4 a5 a6 a7 a8 a9 a10 a11 a12 a13 a14 a15 a16)).MensPro)),.sb 0 false (((zr (Sign.mk a0 a1 a2 a3 a4 a5 a6 a7 a8 a9 a10 a11 a12 a13 a14 a15 a16)).Stroke)) (((zr (Sign.mk a0 a1 a2 a3 a4 a5 a6 a7 a8 a9 a10 a11 a12 a13 a14 a15 a16)).Stroke)=true) (((zr (Sign.mk a0 a1 a2 a3 a4 a5 a6 a7 a8 a9 a10 a11 a12 a13 a14 a15 a16)).Stroke)=false),.int .i64 none (((zr (Sign.mk a0 a1 a2 a3 a4 a5 a6 a7 a8 a9 a10 a11 a12 a13 a14 a15 a16)).N)),.int .i64 none (((zr (Sign.mk a0 a1 a2 a3 a4 a5 a6 a7 a8 a9 a10 a11 a12 a13 a14 a15 a16)).D)),.int .i64 none (((zr (Sign.mk a0 a1 a2 a3 a4 a5 a6 a7 a8 a9 a10 a11 a12 a13 a14 a15 a16)).ClefStep)),.int .i64 none (((zr (Sign.mk a0 a1 a2 a3 a4 a5 a6 a7 a8 a9 a10 a11 a12 a13 a14 a15 a16)).ClefLine))])
  | _=>none)
def zqa:Ct KT:=([.agg [.int .i64,.int .i64,.int .i64,.int .i64,.bool,.int .i64,.bool,.bool,.int .i64,.int .i64,.int .i64,.int .i64,.bool,.int .i64,.int .i64,.int .i64,.int .i64]],fun ns=>match ns with
  | [.i a0,.i a1,.i a2,.i a3,.b a4,.i a5,.b a6,.b a7,.i a8,.i a9,.i a10,.i a11,.b a12,.i a13,.i a14,.i a15,.i a16]=>some (True,.sb 0 false ((decide (qep (Sign.mk a0 a1 a2 a3 a4 a5 a6 a7 a8 a9 a10 a11 a12 a13 a14 a15 a16)))) ((decide (qep (Sign.mk a0 a1 a2 a3 a4 a5 a6 a7 a8 a9 a10 a11 a12 a13 a14 a15 a16)))=true) ((decide (qep (Sign.mk a0 a1 a2 a3 a4 a5 a6 a7 a8 a9 a10 a11 a12 a13 a14 a15 a16)))=false))
  | _=>none)
def zmc:Ct KT:=([.agg [.int .i64,.int .i64,.int .i64,.int .i64,.bool,.int .i64,.bool,.bool,.int .i64,.int .i64,.int .i64,.int .i64,.bool,.int .i64,.int .i64,.int .i64,.int .i64]],fun ns=>match ns with
  | [.i a0,.i a1,.i a2,.i a3,.b a4,.i a5,.b a6,.b a7,.i a8,.i a9,.i a10,.i a11,.b a12,.i a13,.i a14,.i a15,.i a16]=>some (True,.int .i64 none ((zn (Sign.mk a0 a1 a2 a3 a4 a5 a6 a7 a8 a9 a10 a11 a12 a13 a14 a15 a16))))
  | _=>none)
def zpv:Ct KT:=([.one (.str)],fun ns=>match ns with
  | [.s a0]=>some ((ln a0<=1000),.tuple [.agg [.int .i64 none ((((zc a0).1).Kind)),.int .i64 none ((((zc a0).1).Value)),.int .i64 none ((((zc a0).1).Place)),.int .i64 none ((((zc a0).1).Acc)),.sb 0 false ((((zc a0).1).Color)) ((((zc a0).1).Color)=true) ((((zc a0).1).Color)=false),.int .i64 none ((((zc a0).1).Stem)),.sb 0 false ((((zc a0).1).Oblique)) ((((zc a0).1).Oblique)=true) ((((zc a0).1).Oblique)=false),.sb 0 false ((((zc a0).1).Last)) ((((zc a0).1).Last)=true) ((((zc a0).1).Last)=false),.int .i64 none ((((zc a0).1).MensMax)),.int .i64 none ((((zc a0).1).MensMod)),.int .i64 none ((((zc a0).1).MensTem)),.int .i64 none ((((zc a0).1).MensPro)),.sb 0 false ((((zc a0).1).Stroke)) ((((zc a0).1).Stroke)=true) ((((zc a0).1).Stroke)=false),.int .i64 none ((((zc a0).1).N)),.int .i64 none ((((zc a0).1).D)),.int .i64 none ((((zc a0).1).ClefStep)),.int .i64 none ((((zc a0).1).ClefLine))],.int .i64 none (((zc a0).2))])
  | _=>none)
def zmh:Ct KT:=([.one (.str)],fun ns=>match ns with
  | [.s a0]=>some ((ln a0<=9223372036854775806),.sb 0 false ((jg a0)) ((jg a0)=true) ((jg a0)=false))
  | _=>none)
def zp2:Ct KT:=([.agg [.str,.list 4 false false]],fun ns=>match ns with
  | [.s a0,.l 4 a1]=>some ((ln a0<=1000000000/\ln a1<=1000000000),.tuple [.int .i64 none (((zo a0 a1).1)),.int .i64 none (((zo a0 a1).2))])
  | _=>none)
def za8:Ct KT:=([.one (.str)],fun ns=>match ns with
  | [.s a0]=>some ((ln a0<=9223372036854775806),.sb 0 false ((jg a0)) ((jg a0)=true) ((jg a0)=false))
  | _=>none)
def zp3:Ct KT:=([.agg [.str,.list 4 false false]],fun ns=>match ns with
  | [.s a0,.l 4 a1]=>some ((ln a0<=1000000000/\ln a1<=1000000000),.tuple [.int .i64 none (((zo a0 a1).1)),.int .i64 none (((zo a0 a1).2))])
  | _=>none)
def zp4:Ct KT:=([.one (.list 4 false false),.one (.list 4 false false)],fun ns=>match ns with
  | [.l 4 a0,.l 4 a1]=>some ((ln a0<=10000000),.sb 0 false ((qkx a0 a1)) ((qkx a0 a1)=true) ((qkx a0 a1)=false))
  | _=>none)
def zpw:Ct KT:=([.agg [.str,.list 4 false false],.agg [.str,.list 4 false false]],fun ns=>match ns with
  | [.s a0,.l 4 a1,.s a2,.l 4 a3]=>some ((ln a1<=10000000),.sb 0 false ((jj a0 a1 a2 a3)) ((jj a0 a1 a2 a3)=true) ((jj a0 a1 a2 a3)=false))
  | _=>none)
def za9:Ct KT:=([.one (.int .u8)],fun ns=>match ns with
  | [.i a0]=>some ((U8 a0),.int .u8 none ((j6 a0)))
  | _=>none)
def zhq:Ct KT:=([.one (.str)],fun ns=>match ns with
  | [.s a0]=>some ((ln a0<=1000000000),.sb 0 false ((qaq a0)) ((qaq a0)=true) ((qaq a0)=false))
  | _=>none)
def zho:Ct KT:=([.one (.str),.one (.str),.one (.int .i64),.one (.int .i64)],fun ns=>match ns with
  | [.s a0,.s a1,.i a2,.i a3]=>some ((ln a1=1/\(a2:Int)=0/\(a3:Int) = -1/\ln a0<=100000000),.list 2 ((qz (bx a1 0) a0)) none)
  | _=>none)
def zp6:Ct KT:=([.one (.str),.one (.str)],fun ns=>match ns with
  | [.s a0,.s a1]=>some ((ln a1=1/\ln a0<=100000000),.list 2 ((qz (bx a1 0) a0)) none)
  | _=>none)
def zh0:Ct KT:=([.one (.int .u8)],fun ns=>match ns with
  | [.i a0]=>some (True,.sb 0 false ((ke a0)) ((ke a0)=true) ((ke a0)=false))
  | _=>none)
def zh6:Ct KT:=([.one (.int .u8)],fun ns=>match ns with
  | [.i a0]=>some (True,.sb 0 false ((zs a0)) ((zs a0)=true) ((zs a0)=false))
  | _=>none)
def zhy:Ct KT:=([.one (.str),.one (.int .i64)],fun ns=>match ns with
  | [.s a0,.i a1]=>some ((0<=a1/\a1<ln a0/\ln a0<=1000000000),.int .i64 none ((km a0 a1)))
  | _=>none)
def zhm:Ct KT:=([.one (.str),.one (.int .i64)],fun ns=>match ns with
  | [.s a0,.i a1]=>some ((ln a0<=1000/\0<=a1/\a1<=100000),.tuple [.list 5 (((kb a0 a1 0).1)) (some (0,0)),.int .i64 none (((kb a0 a1 0).2))])
  | _=>none)
def zp5:Ct KT:=([.one (.str)],fun ns=>match ns with
  | [.s a0]=>some (True,.tuple [.list 6 (((qa a0).1)) (some (0,0)),.agg [.int .i64 none (((qa a0).2.1)),.int .i64 none (((qa a0).2.2))]])
  | _=>none)
def zpz:Ct KT:=([.one (.str)],fun ns=>match ns with
  | [.s a0]=>some (True,.tuple [.list 6 (((qa a0).1)) (some (0,0)),.agg [.int .i64 none (((qa a0).2.1)),.int .i64 none (((qa a0).2.2))]])
  | _=>none)
def zpx:Ct KT:=([.one (.str)],fun ns=>match ns with
  | [.s a0]=>some ((ln a0<=1000000000),.tuple [.agg [.str (((qo a0).1.1)),.list 4 (((qo a0).1.2)) none],.agg [.int .i64 none (((qo a0).2.1)),.int .i64 none (((qo a0).2.2))]])
  | _=>none)
def zpy:Ct KT:=([.one (.str)],fun ns=>match ns with
  | [.s a0]=>some ((ln a0<=1000000000),.tuple [.agg [.str (((qo a0).1.1)),.list 4 (((qo a0).1.2)) none],.agg [.int .i64 none (((qo a0).2.1)),.int .i64 none (((qo a0).2.2))]])
  | _=>none)
def ct9:Ct KT:=([],fun ns=>match ns with
  | []=>some (True,.sb 0 false ((true)) ((true)=true) ((true)=false))
  | _=>none)
abbrev q3x (a0:Int):PV KT:=.str ((q0c a0))
abbrev zez  : PV KT:=.sb 0 false ((true)) ((true)=true) ((true)=false)
end Go.Proofs.YtbopmiclcimjgaaGreatDoor
