/- THE CONTRACTS of the functions on signs as words. Made by program (vc.py). -/
import Derived.Test.YtbopmiclcimjgaaGreatDoorInv
import Derived.Test.YtbopmiclcimjgaaGreatDoorCfg
namespace Go.Proofs.YtbopmiclcimjgaaGreatDoor
open Go Go.E2 Go.E3
set_option maxRecDepth 100000
variable {sp:Nat->Option (List V->Heap->Option (CR×Heap))}

def q7d:Ct KT:=([.one (.str),.one (.int .u8)],fun ns=>match ns with
  | [.s a0,.i a1]=>some (True,.int .i64 none ((qyk a0 a1)))
  | _=>none)
def zaz:Ct KT:=([.agg [.int .i64,.int .i64,.int .i64,.int .i64]],fun ns=>match ns with
  | [.i a0,.i a1,.i a2,.i a3]=>some (True,.int .i64 none ((jf a0 a1 a2 a3)))
  | _=>none)
def zao:Ct KT:=([.agg [.int .i64,.int .i64,.int .i64,.int .i64,.bool,.int .i64,.bool,.bool,.int .i64,.int .i64,.int .i64,.int .i64,.bool,.int .i64,.int .i64,.int .i64,.int .i64]],fun ns=>match ns with
  | [.i a0,.i a1,.i a2,.i a3,.b a4,.i a5,.b a6,.b a7,.i a8,.i a9,.i a10,.i a11,.b a12,.i a13,.i a14,.i a15,.i a16]=>some (True,.int .i64 none ((qa8 (Sign.mk a0 a1 a2 a3 a4 a5 a6 a7 a8 a9 a10 a11 a12 a13 a14 a15 a16))))
  | _=>none)
def zdm:Ct KT:=([.one (.str),.one (.str)],fun ns=>match ns with
  | [.s a0,.s a1]=>some (True,.sb 0 false ((preB a0 a1)) ((preB a0 a1)=true) ((preB a0 a1)=false))
  | _=>none)
def q2p:Ct KT:=([.agg [.int .i64,.int .i64,.int .i64,.int .i64]],fun ns=>match ns with
  | [.i a0,.i a1,.i a2,.i a3]=>some (True,.str ((qj a0 a1 a2 a3)))
  | _=>none)
def zdh:Ct KT:=([.agg [.int .i64,.int .i64,.int .i64,.int .i64]],fun ns=>match ns with
  | [.i a0,.i a1,.i a2,.i a3]=>some (True,.tuple [.str (((zs a0 a1 a2 a3).1)),.int .i64 none (((zs a0 a1 a2 a3).2))])
  | _=>none)
def zdj:Ct KT:=([.one (.str)],fun ns=>match ns with
  | [.s a0]=>some (True,.tuple [.agg [.int .i64 none (((qj1 a0).1.1)),.int .i64 none (((qj1 a0).1.2.1)),.int .i64 none (((qj1 a0).1.2.2.1)),.int .i64 none (((qj1 a0).1.2.2.2))],.int .i64 none (((qj1 a0).2))])
  | _=>none)
def q2q:Ct KT:=([.one (.str)],fun ns=>match ns with
  | [.s a0]=>some ((ln a0<=1000000),.tuple [.int .i64 none (((kh a0).1)),.sb 0 false (((kh a0).2)) (((kh a0).2)=true) (((kh a0).2)=false)])
  | _=>none)
def q7b:Ct KT:=([.one (.str)],fun ns=>match ns with
  | [.s a0]=>some ((ln a0<=1000000),.tuple [.int .i64 none (((qej a0).1)),.sb 0 false (((qej a0).2)) (((qej a0).2)=true) (((qej a0).2)=false)])
  | _=>none)
def za4:Ct KT:=([.agg [.int .i64,.int .i64,.int .i64,.int .i64]],fun ns=>match ns with
  | [.i a0,.i a1,.i a2,.i a3]=>some (True,.int .i64 none ((jf a0 a1 a2 a3)))
  | _=>none)
def zdb:Ct KT:=([.agg [.int .i64,.int .i64,.int .i64,.int .i64]],fun ns=>match ns with
  | [.i a0,.i a1,.i a2,.i a3]=>some (True,.tuple [.str (((zs a0 a1 a2 a3).1)),.int .i64 none (((zs a0 a1 a2 a3).2))])
  | _=>none)
def qov:Ct KT:=([.one (.int .i64)],fun ns=>match ns with
  | [.i a0]=>some ((-4<=a0/\a0<=100),.str ((qu a0)))
  | _=>none)
def zc3:Ct KT:=([.agg [.int .i64,.int .i64,.int .i64,.int .i64,.bool,.int .i64,.bool,.bool,.int .i64,.int .i64,.int .i64,.int .i64,.bool,.int .i64,.int .i64,.int .i64,.int .i64]],fun ns=>match ns with
  | [.i a0,.i a1,.i a2,.i a3,.b a4,.i a5,.b a6,.b a7,.i a8,.i a9,.i a10,.i a11,.b a12,.i a13,.i a14,.i a15,.i a16]=>some (True,.tuple [.str (((qq (Sign.mk a0 a1 a2 a3 a4 a5 a6 a7 a8 a9 a10 a11 a12 a13 a14 a15 a16)).1)),.int .i64 none (((qq (Sign.mk a0 a1 a2 a3 a4 a5 a6 a7 a8 a9 a10 a11 a12 a13 a14 a15 a16)).2))])
  | _=>none)
def zdi:Ct KT:=([.one (.str),.one (.int .u8)],fun ns=>match ns with
  | [.s a0,.i a1]=>some ((U8 a1),.int .i64 none ((qyk a0 a1)))
  | _=>none)
def zc9:Ct KT:=([.one (.int .i64)],fun ns=>match ns with
  | [.i a0]=>some (True,.tuple [.str (((qhf a0).1)),.int .i64 none (((qhf a0).2))])
  | _=>none)
def zat:Ct KT:=([.one (.int .i64)],fun ns=>match ns with
  | [.i a0]=>some ((-100<=a0/\a0<=100),.str ((qu a0)))
  | _=>none)
def zaq:Ct KT:=([.agg [.int .i64,.int .i64,.int .i64,.int .i64,.bool,.int .i64,.bool,.bool,.int .i64,.int .i64,.int .i64,.int .i64,.bool,.int .i64,.int .i64,.int .i64,.int .i64]],fun ns=>match ns with
  | [.i a0,.i a1,.i a2,.i a3,.b a4,.i a5,.b a6,.b a7,.i a8,.i a9,.i a10,.i a11,.b a12,.i a13,.i a14,.i a15,.i a16]=>some ((-100<=a2/\a2<=100),.str ((jm (Sign.mk a0 a1 a2 a3 a4 a5 a6 a7 a8 a9 a10 a11 a12 a13 a14 a15 a16))))
  | _=>none)
def zda:Ct KT:=([.agg [.int .i64,.int .i64,.int .i64,.int .i64,.bool,.int .i64,.bool,.bool,.int .i64,.int .i64,.int .i64,.int .i64,.bool,.int .i64,.int .i64,.int .i64,.int .i64]],fun ns=>match ns with
  | [.i a0,.i a1,.i a2,.i a3,.b a4,.i a5,.b a6,.b a7,.i a8,.i a9,.i a10,.i a11,.b a12,.i a13,.i a14,.i a15,.i a16]=>some ((-100<=a2/\a2<=100/\0<=a5/\a5<=3),.str ((qc0 (Sign.mk a0 a1 a2 a3 a4 a5 a6 a7 a8 a9 a10 a11 a12 a13 a14 a15 a16))))
  | _=>none)
def zdk:Ct KT:=([.agg [.int .i64,.int .i64,.int .i64,.int .i64,.bool,.int .i64,.bool,.bool,.int .i64,.int .i64,.int .i64,.int .i64,.bool,.int .i64,.int .i64,.int .i64,.int .i64]],fun ns=>match ns with
  | [.i a0,.i a1,.i a2,.i a3,.b a4,.i a5,.b a6,.b a7,.i a8,.i a9,.i a10,.i a11,.b a12,.i a13,.i a14,.i a15,.i a16]=>some (True,.agg [.int .i64 none (((qp (Sign.mk a0 a1 a2 a3 a4 a5 a6 a7 a8 a9 a10 a11 a12 a13 a14 a15 a16)).Kind)),.int .i64 none (((qp (Sign.mk a0 a1 a2 a3 a4 a5 a6 a7 a8 a9 a10 a11 a12 a13 a14 a15 a16)).Value)),.int .i64 none (((qp (Sign.mk a0 a1 a2 a3 a4 a5 a6 a7 a8 a9 a10 a11 a12 a13 a14 a15 a16)).Place)),.int .i64 none (((qp (Sign.mk a0 a1 a2 a3 a4 a5 a6 a7 a8 a9 a10 a11 a12 a13 a14 a15 a16)).Acc)),.sb 0 false (((qp (Sign.mk a0 a1 a2 a3 a4 a5 a6 a7 a8 a9 a10 a11 a12 a13 a14 a15 a16)).Color)) (((qp (Sign.mk a0 a1 a2 a3 a4 a5 a6 a7 a8 a9 a10 a11 a12 a13 a14 a15 a16)).Color)=true) (((qp (Sign.mk a0 a1 a2 a3 a4 a5 a6 a7 a8 a9 a10 a11 a12 a13 a14 a15 a16)).Color)=false),.int .i64 none (((qp (Sign.mk a0 a1 a2 a3 a4 a5 a6 a7 a8 a9 a10 a11 a12 a13 a14 a15 a16)).Stem)),.sb 0 false (((qp (Sign.mk a0 a1 a2 a3 a4 a5 a6 a7 a8 a9 a10 a11 a12 a13 a14 a15 a16)).Oblique)) (((qp (Sign.mk a0 a1 a2 a3 a4 a5 a6 a7 a8 a9 a10 a11 a12 a13 a14 a15 a16)).Oblique)=true) (((qp (Sign.mk a0 a1 a2 a3 a4 a5 a6 a7 a8 a9 a10 a11 a12 a13 a14 a15 a16)).Oblique)=false),.sb 0 false (((qp (Sign.mk a0 a1 a2 a3 a4 a5 a6 a7 a8 a9 a10 a11 a12 a13 a14 a15 a16)).Last)) (((qp (Sign.mk a0 a1 a2 a3 a4 a5 a6 a7 a8 a9 a10 a11 a12 a13 a14 a15 a16)).Last)=true) (((qp (Sign.mk a0 a1 a2 a3 a4 a5 a6 a7 a8 a9 a10 a11 a12 a13 a14 a15 a16)).Last)=false),.int .i64 none (((qp (Sign.mk a0 a1 a2 a3 a4 a5 a6 a7 a8 a9 a10 a11 a12 a13 a14 a15 a16)).MensMax)),.int .i64 none (((qp (Sign.mk a0 a1 a2 a3 a4 a5 a6 a7 a8 a9 a10 a11 a12 a13 a14 a15 a16)).MensMod)),.int .i64 none (((qp (Sign.mk a0 a1 a2 a3 a4 a5 a6 a7 a8 a9 a10 a11 a12 a13 a14 a15 a16)).MensTem)),.int .i64 none (((qp (Sign.mk a0 a1 a2 a3 a4 a5 a6 a7 a8 a9 a10 a11 a12 a13 a14 a15 a16)).MensPro)),.sb 0 false (((qp (Sign.mk a0 a1 a2 a3 a4 a5 a6 a7 a8 a9 a10 a11 a12 a13 a14 a15 a16)).Stroke)) (((qp (Sign.mk a0 a1 a2 a3 a4 a5 a6 a7 a8 a9 a10 a11 a12 a13 a14 a15 a16)).Stroke)=true) (((qp (Sign.mk a0 a1 a2 a3 a4 a5 a6 a7 a8 a9 a10 a11 a12 a13 a14 a15 a16)).Stroke)=false),.int .i64 none (((qp (Sign.mk a0 a1 a2 a3 a4 a5 a6 a7 a8 a9 a10 a11 a12 a13 a14 a15 a16)).N)),.int .i64 none (((qp (Sign.mk a0 a1 a2 a3 a4 a5 a6 a7 a8 a9 a10 a11 a12 a13 a14 a15 a16)).D)),.int .i64 none (((qp (Sign.mk a0 a1 a2 a3 a4 a5 a6 a7 a8 a9 a10 a11 a12 a13 a14 a15 a16)).ClefStep)),.int .i64 none (((qp (Sign.mk a0 a1 a2 a3 a4 a5 a6 a7 a8 a9 a10 a11 a12 a13 a14 a15 a16)).ClefLine))])
  | _=>none)
def zdl:Ct KT:=([.agg [.int .i64,.int .i64,.int .i64,.int .i64,.bool,.int .i64,.bool,.bool,.int .i64,.int .i64,.int .i64,.int .i64,.bool,.int .i64,.int .i64,.int .i64,.int .i64]],fun ns=>match ns with
  | [.i a0,.i a1,.i a2,.i a3,.b a4,.i a5,.b a6,.b a7,.i a8,.i a9,.i a10,.i a11,.b a12,.i a13,.i a14,.i a15,.i a16]=>some (True,.sb 0 false ((decide (zi (Sign.mk a0 a1 a2 a3 a4 a5 a6 a7 a8 a9 a10 a11 a12 a13 a14 a15 a16)))) ((decide (zi (Sign.mk a0 a1 a2 a3 a4 a5 a6 a7 a8 a9 a10 a11 a12 a13 a14 a15 a16)))=true) ((decide (zi (Sign.mk a0 a1 a2 a3 a4 a5 a6 a7 a8 a9 a10 a11 a12 a13 a14 a15 a16)))=false))
  | _=>none)
def zap:Ct KT:=([.agg [.int .i64,.int .i64,.int .i64,.int .i64,.bool,.int .i64,.bool,.bool,.int .i64,.int .i64,.int .i64,.int .i64,.bool,.int .i64,.int .i64,.int .i64,.int .i64]],fun ns=>match ns with
  | [.i a0,.i a1,.i a2,.i a3,.b a4,.i a5,.b a6,.b a7,.i a8,.i a9,.i a10,.i a11,.b a12,.i a13,.i a14,.i a15,.i a16]=>some (True,.int .i64 none ((qa8 (Sign.mk a0 a1 a2 a3 a4 a5 a6 a7 a8 a9 a10 a11 a12 a13 a14 a15 a16))))
  | _=>none)
def zc4:Ct KT:=([.agg [.int .i64,.int .i64,.int .i64,.int .i64,.bool,.int .i64,.bool,.bool,.int .i64,.int .i64,.int .i64,.int .i64,.bool,.int .i64,.int .i64,.int .i64,.int .i64]],fun ns=>match ns with
  | [.i a0,.i a1,.i a2,.i a3,.b a4,.i a5,.b a6,.b a7,.i a8,.i a9,.i a10,.i a11,.b a12,.i a13,.i a14,.i a15,.i a16]=>some (True,.tuple [.str (((qq (Sign.mk a0 a1 a2 a3 a4 a5 a6 a7 a8 a9 a10 a11 a12 a13 a14 a15 a16)).1)),.int .i64 none (((qq (Sign.mk a0 a1 a2 a3 a4 a5 a6 a7 a8 a9 a10 a11 a12 a13 a14 a15 a16)).2))])
  | _=>none)
def ct9:Ct KT:=([],fun ns=>match ns with
  | []=>some (True,.sb 0 false ((true)) ((true)=true) ((true)=false))
  | _=>none)
abbrev qw0 (a0:Int):PV KT:=.str ((qu a0))
abbrev q45  : PV KT:=.sb 0 false ((true)) ((true)=true) ((true)=false)
end Go.Proofs.YtbopmiclcimjgaaGreatDoor
