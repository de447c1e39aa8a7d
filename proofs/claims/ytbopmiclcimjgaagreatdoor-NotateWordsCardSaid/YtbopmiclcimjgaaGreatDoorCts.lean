/- THE CONTRACTS of the functions on signs as words. Made by program (vc.py). -/
import Derived.Test.YtbopmiclcimjgaaGreatDoorInv
import Derived.Test.YtbopmiclcimjgaaGreatDoorCfg
namespace Go.Proofs.YtbopmiclcimjgaaGreatDoor
open Go Go.E2 Go.E3
set_option maxRecDepth 100000
variable {sp:Nat->Option (List V->Heap->Option (CR×Heap))}

def za7:Ct KT:=([.one (.str),.one (.int .u8)],fun ns=>match ns with
  | [.s a0,.i a1]=>some (True,.int .i64 none ((zq a0 a1)))
  | _=>none)
def zfg:Ct KT:=([.agg [.int .i64,.int .i64,.int .i64,.int .i64]],fun ns=>match ns with
  | [.i a0,.i a1,.i a2,.i a3]=>some (True,.int .i64 none ((jy a0 a1 a2 a3)))
  | _=>none)
def zfa:Ct KT:=([.agg [.int .i64,.int .i64,.int .i64,.int .i64,.bool,.int .i64,.bool,.bool,.int .i64,.int .i64,.int .i64,.int .i64,.bool,.int .i64,.int .i64,.int .i64,.int .i64]],fun ns=>match ns with
  | [.i a0,.i a1,.i a2,.i a3,.b a4,.i a5,.b a6,.b a7,.i a8,.i a9,.i a10,.i a11,.b a12,.i a13,.i a14,.i a15,.i a16]=>some (True,.int .i64 none ((zh (Sign.mk a0 a1 a2 a3 a4 a5 a6 a7 a8 a9 a10 a11 a12 a13 a14 a15 a16))))
  | _=>none)
def zfn:Ct KT:=([.one (.str),.one (.str)],fun ns=>match ns with
  | [.s a0,.s a1]=>some (True,.sb 0 false ((preB a0 a1)) ((preB a0 a1)=true) ((preB a0 a1)=false))
  | _=>none)
def q5p:Ct KT:=([.agg [.int .i64,.int .i64,.int .i64,.int .i64]],fun ns=>match ns with
  | [.i a0,.i a1,.i a2,.i a3]=>some (True,.str ((qp a0 a1 a2 a3)))
  | _=>none)
def zfh:Ct KT:=([.agg [.int .i64,.int .i64,.int .i64,.int .i64]],fun ns=>match ns with
  | [.i a0,.i a1,.i a2,.i a3]=>some (True,.tuple [.str (((z6 a0 a1 a2 a3).1)),.int .i64 none (((z6 a0 a1 a2 a3).2))])
  | _=>none)
def zfj:Ct KT:=([.one (.str)],fun ns=>match ns with
  | [.s a0]=>some (True,.tuple [.agg [.int .i64 none (((za a0).1.1)),.int .i64 none (((za a0).1.2.1)),.int .i64 none (((za a0).1.2.2.1)),.int .i64 none (((za a0).1.2.2.2))],.int .i64 none (((za a0).2))])
  | _=>none)
def q0a:Ct KT:=([.one (.str)],fun ns=>match ns with
  | [.s a0]=>some ((ln a0<=1000000),.tuple [.int .i64 none (((qd a0).1)),.sb 0 false (((qd a0).2)) (((qd a0).2)=true) (((qd a0).2)=false)])
  | _=>none)
def q5q:Ct KT:=([.one (.str)],fun ns=>match ns with
  | [.s a0]=>some ((ln a0<=1000000),.tuple [.int .i64 none (((z7 a0).1)),.sb 0 false (((z7 a0).2)) (((z7 a0).2)=true) (((z7 a0).2)=false)])
  | _=>none)
def q5o:Ct KT:=([.one (.str)],fun ns=>match ns with
  | [.s a0]=>some ((ln a0<=1000000),.tuple [.int .i64 none (((qd a0).1)),.sb 0 false (((qd a0).2)) (((qd a0).2)=true) (((qd a0).2)=false)])
  | _=>none)
def za5:Ct KT:=([.one (.str)],fun ns=>match ns with
  | [.s a0]=>some ((ln a0<=1000000),.tuple [.int .i64 none (((z7 a0).1)),.sb 0 false (((z7 a0).2)) (((z7 a0).2)=true) (((z7 a0).2)=false)])
  | _=>none)
def zaz:Ct KT:=([.one (.str),.one (.int .u8)],fun ns=>match ns with
  | [.s a0,.i a1]=>some ((U8 a1/\ln a0<=1000000),.tuple [.str (((qad a0 a1).1)),.str (((qad a0 a1).2.1)),.sb 0 false (((qad a0 a1).2.2)) (((qad a0 a1).2.2)=true) (((qad a0 a1).2.2)=false)])
  | _=>none)
def zfl:Ct KT:=([.agg [.int .i64,.int .i64,.int .i64,.int .i64]],fun ns=>match ns with
  | [.i a0,.i a1,.i a2,.i a3]=>some (True,.int .i64 none ((jy a0 a1 a2 a3)))
  | _=>none)
def zfe:Ct KT:=([.agg [.int .i64,.int .i64,.int .i64,.int .i64]],fun ns=>match ns with
  | [.i a0,.i a1,.i a2,.i a3]=>some (True,.tuple [.str (((z6 a0 a1 a2 a3).1)),.int .i64 none (((z6 a0 a1 a2 a3).2))])
  | _=>none)
def za9:Ct KT:=([.one (.int .i64)],fun ns=>match ns with
  | [.i a0]=>some ((0<=a0/\a0<=15),.tuple [.agg [.int .i64 none (((ofM a0).1)),.int .i64 none (((ofM a0).2.1)),.int .i64 none (((ofM a0).2.2.1)),.int .i64 none (((ofM a0).2.2.2))],.int .i64 none (((0:Int)))])
  | _=>none)
def za3:Ct KT:=([.one (.str)],fun ns=>match ns with
  | [.s a0]=>some (True,.tuple [.agg [.int .i64 none (((za a0).1.1)),.int .i64 none (((za a0).1.2.1)),.int .i64 none (((za a0).1.2.2.1)),.int .i64 none (((za a0).1.2.2.2))],.int .i64 none (((za a0).2))])
  | _=>none)
def qn0:Ct KT:=([.one (.int .i64)],fun ns=>match ns with
  | [.i a0]=>some ((-4<=a0/\a0<=100),.str ((zb a0)))
  | _=>none)
def zib:Ct KT:=([.agg [.int .i64,.int .i64,.int .i64,.int .i64,.bool,.int .i64,.bool,.bool,.int .i64,.int .i64,.int .i64,.int .i64,.bool,.int .i64,.int .i64,.int .i64,.int .i64]],fun ns=>match ns with
  | [.i a0,.i a1,.i a2,.i a3,.b a4,.i a5,.b a6,.b a7,.i a8,.i a9,.i a10,.i a11,.b a12,.i a13,.i a14,.i a15,.i a16]=>some (True,.tuple [.str (((zk (Sign.mk a0 a1 a2 a3 a4 a5 a6 a7 a8 a9 a10 a11 a12 a13 a14 a15 a16)).1)),.int .i64 none (((zk (Sign.mk a0 a1 a2 a3 a4 a5 a6 a7 a8 a9 a10 a11 a12 a13 a14 a15 a16)).2))])
  | _=>none)
def zid:Ct KT:=([.one (.str)],fun ns=>match ns with
  | [.s a0]=>some ((ln a0<=300),.tuple [.agg [.int .i64 none ((((qw a0).1).Kind)),.int .i64 none ((((qw a0).1).Value)),.int .i64 none ((((qw a0).1).Place)),.int .i64 none ((((qw a0).1).Acc)),.sb 0 false ((((qw a0).1).Color)) ((((qw a0).1).Color)=true) ((((qw a0).1).Color)=false),.int .i64 none ((((qw a0).1).Stem)),.sb 0 false ((((qw a0).1).Oblique)) ((((qw a0).1).Oblique)=true) ((((qw a0).1).Oblique)=false),.sb 0 false ((((qw a0).1).Last)) ((((qw a0).1).Last)=true) ((((qw a0).1).Last)=false),.int .i64 none ((((qw a0).1).MensMax)),.int .i64 none ((((qw a0).1).MensMod)),.int .i64 none ((((qw a0).1).MensTem)),.int .i64 none ((((qw a0).1).MensPro)),.sb 0 false ((((qw a0).1).Stroke)) ((((qw a0).1).Stroke)=true) ((((qw a0).1).Stroke)=false),.int .i64 none ((((qw a0).1).N)),.int .i64 none ((((qw a0).1).D)),.int .i64 none ((((qw a0).1).ClefStep)),.int .i64 none ((((qw a0).1).ClefLine))],.int .i64 none (((qw a0).2))])
  | _=>none)
def zfi:Ct KT:=([.one (.str),.one (.int .u8)],fun ns=>match ns with
  | [.s a0,.i a1]=>some ((U8 a1),.int .i64 none ((zq a0 a1)))
  | _=>none)
def za1:Ct KT:=([.one (.str),.one (.int .u8)],fun ns=>match ns with
  | [.s a0,.i a1]=>some ((U8 a1),.tuple [.str (((qe a0 a1).1)),.sb 0 false (((qe a0 a1).2)) (((qe a0 a1).2)=true) (((qe a0 a1).2)=false)])
  | _=>none)
def zif:Ct KT:=([.one (.int .i64)],fun ns=>match ns with
  | [.i a0]=>some (True,.tuple [.str (((qi0 a0).1)),.int .i64 none (((qi0 a0).2))])
  | _=>none)
def zig:Ct KT:=([.one (.str)],fun ns=>match ns with
  | [.s a0]=>some (True,.tuple [.int .i64 none (((jf a0).1)),.int .i64 none (((jf a0).2))])
  | _=>none)
def zff:Ct KT:=([.one (.int .i64)],fun ns=>match ns with
  | [.i a0]=>some ((-100<=a0/\a0<=100),.str ((zb a0)))
  | _=>none)
def zfc:Ct KT:=([.agg [.int .i64,.int .i64,.int .i64,.int .i64,.bool,.int .i64,.bool,.bool,.int .i64,.int .i64,.int .i64,.int .i64,.bool,.int .i64,.int .i64,.int .i64,.int .i64]],fun ns=>match ns with
  | [.i a0,.i a1,.i a2,.i a3,.b a4,.i a5,.b a6,.b a7,.i a8,.i a9,.i a10,.i a11,.b a12,.i a13,.i a14,.i a15,.i a16]=>some ((-100<=a2/\a2<=100),.str ((j6 (Sign.mk a0 a1 a2 a3 a4 a5 a6 a7 a8 a9 a10 a11 a12 a13 a14 a15 a16))))
  | _=>none)
def zih:Ct KT:=([.agg [.int .i64,.int .i64,.int .i64,.int .i64,.bool,.int .i64,.bool,.bool,.int .i64,.int .i64,.int .i64,.int .i64,.bool,.int .i64,.int .i64,.int .i64,.int .i64]],fun ns=>match ns with
  | [.i a0,.i a1,.i a2,.i a3,.b a4,.i a5,.b a6,.b a7,.i a8,.i a9,.i a10,.i a11,.b a12,.i a13,.i a14,.i a15,.i a16]=>some ((-100<=a2/\a2<=100/\0<=a5/\a5<=3),.str ((qd1 (Sign.mk a0 a1 a2 a3 a4 a5 a6 a7 a8 a9 a10 a11 a12 a13 a14 a15 a16))))
  | _=>none)
def zii:Ct KT:=([.agg [.int .i64,.int .i64,.int .i64,.int .i64,.bool,.int .i64,.bool,.bool,.int .i64,.int .i64,.int .i64,.int .i64,.bool,.int .i64,.int .i64,.int .i64,.int .i64]],fun ns=>match ns with
  | [.i a0,.i a1,.i a2,.i a3,.b a4,.i a5,.b a6,.b a7,.i a8,.i a9,.i a10,.i a11,.b a12,.i a13,.i a14,.i a15,.i a16]=>some (True,.agg [.int .i64 none (((qy (Sign.mk a0 a1 a2 a3 a4 a5 a6 a7 a8 a9 a10 a11 a12 a13 a14 a15 a16)).Kind)),.int .i64 none (((qy (Sign.mk a0 a1 a2 a3 a4 a5 a6 a7 a8 a9 a10 a11 a12 a13 a14 a15 a16)).Value)),.int .i64 none (((qy (Sign.mk a0 a1 a2 a3 a4 a5 a6 a7 a8 a9 a10 a11 a12 a13 a14 a15 a16)).Place)),.int .i64 none (((qy (Sign.mk a0 a1 a2 a3 a4 a5 a6 a7 a8 a9 a10 a11 a12 a13 a14 a15 a16)).Acc)),.sb 0 false (((qy (Sign.mk a0 a1 a2 a3 a4 a5 a6 a7 a8 a9 a10 a11 a12 a13 a14 a15 a16)).Color)) (((qy (Sign.mk a0 a1 a2 a3 a4 a5 a6 a7 a8 a9 a10 a11 a12 a13 a14 a15 a16)).Color)=true) (((qy (Sign.mk a0 a1 a2 a3 a4 a5 a6 a7 a8 a9 a10 a11 a12 a13 a14 a15 a16)).Color)=false),.int .i64 none (((qy (Sign.mk a0 a1 a2 a3 a4 a5 a6 a7 a8 a9 a10 a11 a12 a13 a14 a15 a16)).Stem)),.sb 0 false (((qy (Sign.mk a0 a1 a2 a3 a4 a5 a6 a7 a8 a9 a10 a11 a12 a13 a14 a15 a16)).Oblique)) (((qy (Sign.mk a0 a1 a2 a3 a4 a5 a6 a7 a8 a9 a10 a11 a12 a13 a14 a15 a16)).Oblique)=true) (((qy (Sign.mk a0 a1 a2 a3 a4 a5 a6 a7 a8 a9 a10 a11 a12 a13 a14 a15 a16)).Oblique)=false),.sb 0 false (((qy (Sign.mk a0 a1 a2 a3 a4 a5 a6 a7 a8 a9 a10 a11 a12 a13 a14 a15 a16)).Last)) (((qy (Sign.mk a0 a1 a2 a3 a4 a5 a6 a7 a8 a9 a10 a11 a12 a13 a14 a15 a16)).Last)=true) (((qy (Sign.mk a0 a1 a2 a3 a4 a5 a6 a7 a8 a9 a10 a11 a12 a13 a14 a15 a16)).Last)=false),.int .i64 none (((qy (Sign.mk a0 a1 a2 a3 a4 a5 a6 a7 a8 a9 a10 a11 a12 a13 a14 a15 a16)).MensMax)),.int .i64 none (((qy (Sign.mk a0 a1 a2 a3 a4 a5 a6 a7 a8 a9 a10 a11 a12 a13 a14 a15 a16)).MensMod)),.int .i64 none (((qy (Sign.mk a0 a1 a2 a3 a4 a5 a6 a7 a8 a9 a10 a11 a12 a13 a14 a15 a16)).MensTem)),.int .i64 none (((qy (Sign.mk a0 a1 a2 a3 a4 a5 a6 a7 a8 a9 a10 a11 a12 a13 a14 a15 a16)).MensPro)),.sb 0 false (((qy (Sign.mk a0 a1 a2 a3 a4 a5 a6 a7 a8 a9 a10 a11 a12 a13 a14 a15 a16)).Stroke)) (((qy (Sign.mk a0 a1 a2 a3 a4 a5 a6 a7 a8 a9 a10 a11 a12 a13 a14 a15 a16)).Stroke)=true) (((qy (Sign.mk a0 a1 a2 a3 a4 a5 a6 a7 a8 a9 a10 a11 a12 a13 a14 a15 a16)).Stroke)=false),.int .i64 none (((qy (Sign.mk a0 a1 a2 a3 a4 a5 a6 a7 a8 a9 a10 a11 a12 a13 a14 a15 a16)).N)),.int .i64 none (((qy (Sign.mk a0 a1 a2 a3 a4 a5 a6 a7 a8 a9 a10 a11 a12 a13 a14 a15 a16)).D)),.int .i64 none (((qy (Sign.mk a0 a1 a2 a3 a4 a5 a6 a7 a8 a9 a10 a11 a12 a13 a14 a15 a16)).ClefStep)),.int .i64 none (((qy (Sign.mk a0 a1 a2 a3 a4 a5 a6 a7 a8 a9 a10 a11 a12 a13 a14 a15 a16)).ClefLine))])
  | _=>none)
def zij:Ct KT:=([.agg [.int .i64,.int .i64,.int .i64,.int .i64,.bool,.int .i64,.bool,.bool,.int .i64,.int .i64,.int .i64,.int .i64,.bool,.int .i64,.int .i64,.int .i64,.int .i64]],fun ns=>match ns with
  | [.i a0,.i a1,.i a2,.i a3,.b a4,.i a5,.b a6,.b a7,.i a8,.i a9,.i a10,.i a11,.b a12,.i a13,.i a14,.i a15,.i a16]=>some (True,.sb 0 false ((decide (zt (Sign.mk a0 a1 a2 a3 a4 a5 a6 a7 a8 a9 a10 a11 a12 a13 a14 a15 a16)))) ((decide (zt (Sign.mk a0 a1 a2 a3 a4 a5 a6 a7 a8 a9 a10 a11 a12 a13 a14 a15 a16)))=true) ((decide (zt (Sign.mk a0 a1 a2 a3 a4 a5 a6 a7 a8 a9 a10 a11 a12 a13 a14 a15 a16)))=false))
  | _=>none)
def zfb:Ct KT:=([.agg [.int .i64,.int .i64,.int .i64,.int .i64,.bool,.int .i64,.bool,.bool,.int .i64,.int .i64,.int .i64,.int .i64,.bool,.int .i64,.int .i64,.int .i64,.int .i64]],fun ns=>match ns with
  | [.i a0,.i a1,.i a2,.i a3,.b a4,.i a5,.b a6,.b a7,.i a8,.i a9,.i a10,.i a11,.b a12,.i a13,.i a14,.i a15,.i a16]=>some (True,.int .i64 none ((zh (Sign.mk a0 a1 a2 a3 a4 a5 a6 a7 a8 a9 a10 a11 a12 a13 a14 a15 a16))))
  | _=>none)
def zic:Ct KT:=([.agg [.int .i64,.int .i64,.int .i64,.int .i64,.bool,.int .i64,.bool,.bool,.int .i64,.int .i64,.int .i64,.int .i64,.bool,.int .i64,.int .i64,.int .i64,.int .i64]],fun ns=>match ns with
  | [.i a0,.i a1,.i a2,.i a3,.b a4,.i a5,.b a6,.b a7,.i a8,.i a9,.i a10,.i a11,.b a12,.i a13,.i a14,.i a15,.i a16]=>some (True,.tuple [.str (((zk (Sign.mk a0 a1 a2 a3 a4 a5 a6 a7 a8 a9 a10 a11 a12 a13 a14 a15 a16)).1)),.int .i64 none (((zk (Sign.mk a0 a1 a2 a3 a4 a5 a6 a7 a8 a9 a10 a11 a12 a13 a14 a15 a16)).2))])
  | _=>none)
def zie:Ct KT:=([.one (.str)],fun ns=>match ns with
  | [.s a0]=>some ((ln a0<=300),.tuple [.agg [.int .i64 none ((((qu a0).1).Kind)),.int .i64 none ((((qu a0).1).Value)),.int .i64 none ((((qu a0).1).Place)),.int .i64 none ((((qu a0).1).Acc)),.sb 0 false ((((qu a0).1).Color)) ((((qu a0).1).Color)=true) ((((qu a0).1).Color)=false),.int .i64 none ((((qu a0).1).Stem)),.sb 0 false ((((qu a0).1).Oblique)) ((((qu a0).1).Oblique)=true) ((((qu a0).1).Oblique)=false),.sb 0 false ((((qu a0).1).Last)) ((((qu a0).1).Last)=true) ((((qu a0).1).Last)=false),.int .i64 none ((((qu a0).1).MensMax)),.int .i64 none ((((qu a0).1).MensMod)),.int .i64 none ((((qu a0).1).MensTem)),.int .i64 none ((((qu a0).1).MensPro)),.sb 0 false ((((qu a0).1).Stroke)) ((((qu a0).1).Stroke)=true) ((((qu a0).1).Stroke)=false),.int .i64 none ((((qu a0).1).N)),.int .i64 none ((((qu a0).1).D)),.int .i64 none ((((qu a0).1).ClefStep)),.int .i64 none ((((qu a0).1).ClefLine))],.int .i64 none (((qu a0).2))])
  | _=>none)
def ct9:Ct KT:=([],fun ns=>match ns with
  | []=>some (True,.sb 0 false ((true)) ((true)=true) ((true)=false))
  | _=>none)
abbrev qzh (a0:Int):PV KT:=.str ((zb a0))
abbrev q8w  : PV KT:=.sb 0 false ((true)) ((true)=true) ((true)=false)
end Go.Proofs.YtbopmiclcimjgaaGreatDoor
