/- CONTRACTS. Made by program (vc.py). -/
import Derived.Test.YtlkfjinaiepocaaDoorDall
import Derived.Test.YtlkfjinaiepocaaDoorCfg
namespace Go.Proofs.YtlkfjinaiepocaaDoor
open Go Go.E2 Go.E3
set_option maxRecDepth 100000
variable {sp:Nat->Option (List V->Heap->Option (CR×Heap))}

def zfu:Ct KT:=([.one (.str)],fun ns=>match ns with
  | [.s a0]=>some ((ln a0<=9223372036854775806),.sb 0 false ((kh a0)) ((kh a0)=true) ((kh a0)=false))
  | _=>none)
def zja:Ct KT:=([.agg [.int .i64,.int .i64,.int .i64,.int .i64]],fun ns=>match ns with
  | [.i a0,.i a1,.i a2,.i a3]=>some (True,.int .i64 none ((qdm a0 a1 a2 a3)))
  | _=>none)
def zi6:Ct KT:=([.agg [.int .i64,.int .i64,.int .i64,.int .i64,.bool,.int .i64,.bool,.bool,.int .i64,.int .i64,.int .i64,.int .i64,.bool,.int .i64,.int .i64,.int .i64,.int .i64]],fun ns=>match ns with
  | [.i a0,.i a1,.i a2,.i a3,.b a4,.i a5,.b a6,.b a7,.i a8,.i a9,.i a10,.i a11,.b a12,.i a13,.i a14,.i a15,.i a16]=>some (True,.int .i64 none ((qgb (Sign.mk a0 a1 a2 a3 a4 a5 a6 a7 a8 a9 a10 a11 a12 a13 a14 a15 a16))))
  | _=>none)
def zir:Ct KT:=([.agg [.str,.list 4 false false]],fun ns=>match ns with
  | [.s a0,.l 4 a1]=>some ((ln a0<=1000000000/\ln a1<=1000000000),.tuple [.int .i64 none (((ze a0 a1).1)),.int .i64 none (((ze a0 a1).2))])
  | _=>none)
def zfh:Ct KT:=([.one (.list 4 false false),.one (.list 4 false false)],fun ns=>match ns with
  | [.l 4 a0,.l 4 a1]=>some ((ln a0<=10000000),.sb 0 false ((qck a0 a1)) ((qck a0 a1)=true) ((qck a0 a1)=false))
  | _=>none)
def zic:Ct KT:=([.agg [.str,.list 4 false false],.agg [.str,.list 4 false false]],fun ns=>match ns with
  | [.s a0,.l 4 a1,.s a2,.l 4 a3]=>some ((ln a1<=10000000),.sb 0 false ((kj a0 a1 a2 a3)) ((kj a0 a1 a2 a3)=true) ((kj a0 a1 a2 a3)=false))
  | _=>none)
def zi1:Ct KT:=([.agg [.list 4 false false,.int .i64,.bool,.int .i64],.agg [.list 4 false false,.int .i64,.bool,.int .i64]],fun ns=>match ns with
  | [.l 4 a0,.i a1,.b a2,.i a3,.l 4 a4,.i a5,.b a6,.i a7]=>some ((ln a0<=10000000),.sb 0 false ((qdp (Staff.mk a0 a1 a2 a3) (Staff.mk a4 a5 a6 a7))) ((qdp (Staff.mk a0 a1 a2 a3) (Staff.mk a4 a5 a6 a7))=true) ((qdp (Staff.mk a0 a1 a2 a3) (Staff.mk a4 a5 a6 a7))=false))
  | _=>none)
def zib:Ct KT:=([.agg [.str,.list 8 false false],.agg [.str,.list 8 false false]],fun ns=>match ns with
  | [.s a0,.l 8 a1,.s a2,.l 8 a3]=>some ((ln a1<=500/\okB a1),.sb 0 false ((qhk a0 a1 a2 a3)) ((qhk a0 a1 a2 a3)=true) ((qhk a0 a1 a2 a3)=false))
  | _=>none)
def ziv:Ct KT:=([.one (.list 4 false false)],fun ns=>match ns with
  | [.l 4 a0]=>some ((ln a0<=10000000),.list 4 ((a0)) (some (0,0)))
  | _=>none)
def zis:Ct KT:=([.agg [.list 4 false false,.list 4 false false]],fun ns=>match ns with
  | [.l 4 a0,.l 4 a1]=>some ((ln a0<=1/\ln a1<=1),.list 4 (((a0++a1))) (some (0,0)))
  | _=>none)
def zit:Ct KT:=([.agg [.list 4 false false,.list 4 false false],.agg [.int .i64,.int .i64,.int .i64,.int .i64,.bool,.int .i64,.bool,.bool,.int .i64,.int .i64,.int .i64,.int .i64,.bool,.int .i64,.int .i64,.int .i64,.int .i64]],fun ns=>match ns with
  | [.l 4 a0,.l 4 a1,.i a2,.i a3,.i a4,.i a5,.b a6,.i a7,.b a8,.b a9,.i a10,.i a11,.i a12,.i a13,.b a14,.i a15,.i a16,.i a17,.i a18]=>some (True,.agg [.list 4 (((qao a0 a1 (Sign.mk a2 a3 a4 a5 a6 a7 a8 a9 a10 a11 a12 a13 a14 a15 a16 a17 a18)).1)) none,.list 4 (((qao a0 a1 (Sign.mk a2 a3 a4 a5 a6 a7 a8 a9 a10 a11 a12 a13 a14 a15 a16 a17 a18)).2)) none])
  | _=>none)
def ziu:Ct KT:=([.one (.list 4 false false)],fun ns=>match ns with
  | [.l 4 a0]=>some ((ln a0<=1000000000),.tuple [.sb 0 false (((kk a0).1)) (((kk a0).1)=true) (((kk a0).1)=false),.int .i64 none (((kk a0).2))])
  | _=>none)
def zfx:Ct KT:=([.one (.str)],fun ns=>match ns with
  | [.s a0]=>some ((ln a0<=9223372036854775806),.sb 0 false ((kh a0)) ((kh a0)=true) ((kh a0)=false))
  | _=>none)
def zjc:Ct KT:=([.agg [.int .i64,.int .i64,.int .i64,.int .i64]],fun ns=>match ns with
  | [.i a0,.i a1,.i a2,.i a3]=>some (True,.int .i64 none ((qdm a0 a1 a2 a3)))
  | _=>none)
def zjb:Ct KT:=([.agg [.int .i64,.int .i64,.int .i64,.int .i64,.bool,.int .i64,.bool,.bool,.int .i64,.int .i64,.int .i64,.int .i64,.bool,.int .i64,.int .i64,.int .i64,.int .i64]],fun ns=>match ns with
  | [.i a0,.i a1,.i a2,.i a3,.b a4,.i a5,.b a6,.b a7,.i a8,.i a9,.i a10,.i a11,.b a12,.i a13,.i a14,.i a15,.i a16]=>some (True,.agg [.int .i64 none (((kg (Sign.mk a0 a1 a2 a3 a4 a5 a6 a7 a8 a9 a10 a11 a12 a13 a14 a15 a16)).Kind)),.int .i64 none (((kg (Sign.mk a0 a1 a2 a3 a4 a5 a6 a7 a8 a9 a10 a11 a12 a13 a14 a15 a16)).Value)),.int .i64 none (((kg (Sign.mk a0 a1 a2 a3 a4 a5 a6 a7 a8 a9 a10 a11 a12 a13 a14 a15 a16)).Place)),.int .i64 none (((kg (Sign.mk a0 a1 a2 a3 a4 a5 a6 a7 a8 a9 a10 a11 a12 a13 a14 a15 a16)).Acc)),.sb 0 false (((kg (Sign.mk a0 a1 a2 a3 a4 a5 a6 a7 a8 a9 a10 a11 a12 a13 a14 a15 a16)).Color)) (((kg (Sign.mk a0 a1 a2 a3 a4 a5 a6 a7 a8 a9 a10 a11 a12 a13 a14 a15 a16)).Color)=true) (((kg (Sign.mk a0 a1 a2 a3 a4 a5 a6 a7 a8 a9 a10 a11 a12 a13 a14 a15 a16)).Color)=false),.int .i64 none (((kg (Sign.mk a0 a1 a2 a3 a4 a5 a6 a7 a8 a9 a10 a11 a12 a13 a14 a15 a16)).Stem)),.sb 0 false (((kg (Sign.mk a0 a1 a2 a3 a4 a5 a6 a7 a8 a9 a10 a11 a12 a13 a14 a15 a16)).Oblique)) (((kg (Sign.mk a0 a1 a2 a3 a4 a5 a6 a7 a8 a9 a10 a11 a12 a13 a14 a15 a16)).Oblique)=true) (((kg (Sign.mk a0 a1 a2 a3 a4 a5 a6 a7 a8 a9 a10 a11 a12 a13 a14 a15 a16)).Oblique)=false),.sb 0 false (((kg (Sign.mk a0 a1 a2 a3 a4 a5 a6 a7 a8 a9 a10 a11 a12 a13 a14 a15 a16)).Last)) (((kg (Sign.mk a0 a1 a2 a3 a4 a5 a6 a7 a8 a9 a10 a11 a12 a13 a14 a15 a16)).Last)=true) (((kg (Sign.mk a0 a1 a2 a3 a4 a5 a6 a7 a8 a9 a10 a11 a12 a13 a14 a15 a16)).Last)=false),.int .i64 none (((kg (Sign.mk a0 a1 a2 a3 a4 a5 a6 a7 a8 a9 a10 a11 a12 a13 a14 a15 a16)).MensMax)),.int .i64 none (((kg (Sign.mk a0 a1 a2 a3 a4 a5 a6 a7 a8 a9 a10 a11 a12 a13 a14 a15 a16)).MensMod)),.int .i64 none (((kg (Sign.mk a0 a1 a2 a3 a4 a5 a6 a7 a8 a9 a10 a11 a12 a13 a14 a15 a16)).MensTem)),.int .i64 none (((kg (Sign.mk a0 a1 a2 a3 a4 a5 a6 a7 a8 a9 a10 a11 a12 a13 a14 a15 a16)).MensPro)),.sb 0 false (((kg (Sign.mk a0 a1 a2 a3 a4 a5 a6 a7 a8 a9 a10 a11 a12 a13 a14 a15 a16)).Stroke)) (((kg (Sign.mk a0 a1 a2 a3 a4 a5 a6 a7 a8 a9 a10 a11 a12 a13 a14 a15 a16)).Stroke)=true) (((kg (Sign.mk a0 a1 a2 a3 a4 a5 a6 a7 a8 a9 a10 a11 a12 a13 a14 a15 a16)).Stroke)=false),.int .i64 none (((kg (Sign.mk a0 a1 a2 a3 a4 a5 a6 a7 a8 a9 a10 a11 a12 a13 a14 a15 a16)).N)),.int .i64 none (((kg (Sign.mk a0 a1 a2 a3 a4 a5 a6 a7 a8 a9 a10 a11 a12 a13 a14 a15 a16)).D)),.int .i64 none (((kg (Sign.mk a0 a1 a2 a3 a4 a5 a6 a7 a8 a9 a10 a11 a12 a13 a14 a15 a16)).ClefStep)),.int .i64 none (((kg (Sign.mk a0 a1 a2 a3 a4 a5 a6 a7 a8 a9 a10 a11 a12 a13 a14 a15 a16)).ClefLine))])
  | _=>none)
def zjd:Ct KT:=([.agg [.int .i64,.int .i64,.int .i64,.int .i64,.bool,.int .i64,.bool,.bool,.int .i64,.int .i64,.int .i64,.int .i64,.bool,.int .i64,.int .i64,.int .i64,.int .i64]],fun ns=>match ns with
  | [.i a0,.i a1,.i a2,.i a3,.b a4,.i a5,.b a6,.b a7,.i a8,.i a9,.i a10,.i a11,.b a12,.i a13,.i a14,.i a15,.i a16]=>some (True,.sb 0 false ((decide (qd4 (Sign.mk a0 a1 a2 a3 a4 a5 a6 a7 a8 a9 a10 a11 a12 a13 a14 a15 a16)))) ((decide (qd4 (Sign.mk a0 a1 a2 a3 a4 a5 a6 a7 a8 a9 a10 a11 a12 a13 a14 a15 a16)))=true) ((decide (qd4 (Sign.mk a0 a1 a2 a3 a4 a5 a6 a7 a8 a9 a10 a11 a12 a13 a14 a15 a16)))=false))
  | _=>none)
def zi7:Ct KT:=([.agg [.int .i64,.int .i64,.int .i64,.int .i64,.bool,.int .i64,.bool,.bool,.int .i64,.int .i64,.int .i64,.int .i64,.bool,.int .i64,.int .i64,.int .i64,.int .i64]],fun ns=>match ns with
  | [.i a0,.i a1,.i a2,.i a3,.b a4,.i a5,.b a6,.b a7,.i a8,.i a9,.i a10,.i a11,.b a12,.i a13,.i a14,.i a15,.i a16]=>some (True,.int .i64 none ((qgb (Sign.mk a0 a1 a2 a3 a4 a5 a6 a7 a8 a9 a10 a11 a12 a13 a14 a15 a16))))
  | _=>none)
def ziw:Ct KT:=([.agg [.str,.list 4 false false]],fun ns=>match ns with
  | [.s a0,.l 4 a1]=>some ((ln a0<=1000000000/\ln a1<=1000000000),.tuple [.int .i64 none (((ze a0 a1).1)),.int .i64 none (((ze a0 a1).2))])
  | _=>none)
def ziq:Ct KT:=([.one (.list 4 false false)],fun ns=>match ns with
  | [.l 4 a0]=>some ((ln a0<=10000000),.list 4 ((a0)) none)
  | _=>none)
def ziy:Ct KT:=([.one (.list 4 false false)],fun ns=>match ns with
  | [.l 4 a0]=>some ((ln a0<=1000000000),.list 10 ((zw a0)) none)
  | _=>none)
def ziz:Ct KT:=([.one (.list 4 false false),.one (.int .i64)],fun ns=>match ns with
  | [.l 4 a0,.i a1]=>some ((0<=a1/\a1<=ln a0/\ln a0<=1000000000),.list 4 ((qpx a0 a1)) (some (0,0)))
  | _=>none)
def zi0:Ct KT:=([.one (.list 4 false false),.one (.int .i64)],fun ns=>match ns with
  | [.l 4 a0,.i a1]=>some ((0<=a1/\a1<=ln a0/\ln a0<=1000000000),.tuple [.sb 0 false (((qbg a0 a1).1)) (((qbg a0 a1).1)=true) (((qbg a0 a1).1)=false),.int .i64 none (((qbg a0 a1).2))])
  | _=>none)
def zix:Ct KT:=([.one (.list 4 false false)],fun ns=>match ns with
  | [.l 4 a0]=>some ((ln a0<=1000000000),.int .i64 none ((qf0 a0)))
  | _=>none)
def zby:Ct KT:=([.agg [.str,.list 8 false false]],fun ns=>match ns with
  | [.s a0,.l 8 a1]=>some ((smB a1),.list 7 ((qa a1)) none)
  | _=>none)
def zf0:Ct KT:=([.agg [.str,.list 8 false false]],fun ns=>match ns with
  | [.s a0,.l 8 a1]=>some ((smB a1/\qk a1),.agg [.str ((a0)),.list 4 ((qt a1)) none])
  | _=>none)
def zi8:Ct KT:=([.agg [.str,.list 8 false false],.one (.int .i64)],fun ns=>match ns with
  | [.s a0,.l 8 a1,.i a2]=>some ((smB a1/\qk a1/\(0:Int)<=a2/\(a2:Int)<=1000000000000),.int .i64 none ((jm a1 a2)))
  | _=>none)
def zi2:Ct KT:=([.agg [.list 4 false false,.int .i64,.bool,.int .i64],.agg [.list 4 false false,.list 4 false false]],fun ns=>match ns with
  | [.l 4 a0,.i a1,.b a2,.i a3,.l 4 a4,.l 4 a5]=>some ((ln a0<=500/\ln a4<=1/\ln a5<=1),.int .i64 none ((zk (Staff.mk a0 a1 a2 a3) a4 a5)))
  | _=>none)
def zi3:Ct KT:=([.agg [.str,.list 8 false false]],fun ns=>match ns with
  | [.s a0,.l 8 a1]=>some ((ln a0<=1000000000/\smB a1/\qk a1),.tuple [.int .i64 none (((qbn a0 a1).1)),.int .i64 none (((qbn a0 a1).2))])
  | _=>none)
def q44:Ct KT:=([.agg [.str,.list 8 false false]],fun ns=>match ns with
  | [.s a0,.l 8 a1]=>some ((ln a0<=1000000000/\smB a1),.tuple [.int .i64 none (((qq a0 a1).1)),.int .i64 none (((qq a0 a1).2))])
  | _=>none)
def zif:Ct KT:=([.agg [.str,.list 8 false false]],fun ns=>match ns with
  | [.s a0,.l 8 a1]=>some ((ln a0<=1000000000/\smB a1),.tuple [.agg [.str (((j5 a0 a1).1)),.list 4 (((j5 a0 a1).2.1)) none],.int .i64 none (((j5 a0 a1).2.2))])
  | _=>none)
def zij:Ct KT:=([.agg [.str,.list 8 false false]],fun ns=>match ns with
  | [.s a0,.l 8 a1]=>some ((ln a0<=1000000000/\smB a1),.tuple [.list 1 (((zx a0 a1).1)) none,.list 3 (((zx a0 a1).2.1)) none,.int .i64 none (((zx a0 a1).2.2))])
  | _=>none)
def zbx:Ct KT:=([.agg [.str,.list 8 false false]],fun ns=>match ns with
  | [.s a0,.l 8 a1]=>some ((smB a1),.tuple [.list 7 ((qa a1)) none,.list 1 ((qbc 0 a1)) none,.list 1 ((zf a1)) none])
  | _=>none)
def zi4:Ct KT:=([.one (.list 4 false false),.one (.list 4 false false)],fun ns=>match ns with
  | [.l 4 a0,.l 4 a1]=>some ((ln a0<=10000000),.sb 0 false ((qck a0 a1)) ((qck a0 a1)=true) ((qck a0 a1)=false))
  | _=>none)
def zi9:Ct KT:=([.one (.list 1 false false),.one (.int .i64)],fun ns=>match ns with
  | [.l 1 a0,.i a1]=>some ((ln a0<=1000000000),.int .i64 none ((atO a0 a1)))
  | _=>none)
def zi5:Ct KT:=([.agg [.str,.list 4 false false],.one (.list 1 false false),.one (.list 7 false false)],fun ns=>match ns with
  | [.s a0,.l 4 a1,.l 1 a2,.l 7 a3]=>some ((ln a0<=1000000000/\qto a1 a2 a3),.tuple [.int .i64 none (((j3 a0 a1 a2 a3).1)),.int .i64 none (((j3 a0 a1 a2 a3).2))])
  | _=>none)
def q45:Ct KT:=([.agg [.str,.list 8 false false]],fun ns=>match ns with
  | [.s a0,.l 8 a1]=>some ((ln a0<=1000000000/\smB a1),.tuple [.int .i64 none (((qq a0 a1).1)),.int .i64 none (((qq a0 a1).2))])
  | _=>none)
def zig:Ct KT:=([.agg [.str,.list 8 false false]],fun ns=>match ns with
  | [.s a0,.l 8 a1]=>some ((ln a0<=1000000000/\smB a1),.tuple [.agg [.str (((j5 a0 a1).1)),.list 4 (((j5 a0 a1).2.1)) none],.int .i64 none (((j5 a0 a1).2.2))])
  | _=>none)
def zii:Ct KT:=([.agg [.str,.list 8 false false],.one (.int .i64)],fun ns=>match ns with
  | [.s a0,.l 8 a1,.i a2]=>some ((ln a0<=1000000000/\smB a1/\I64 a2),.tuple [.int .i64 none (((za a0 a1 a2).1)),.int .i64 none (((za a0 a1 a2).2.1)),.int .i64 none (((za a0 a1 a2).2.2.1)),.int .i64 none (((za a0 a1 a2).2.2.2))])
  | _=>none)
def zih:Ct KT:=([.agg [.str,.list 8 false false],.one (.int .i64)],fun ns=>match ns with
  | [.s a0,.l 8 a1,.i a2]=>some ((ln a0<=1000000000/\smB a1/\I64 a2),.tuple [.int .i64 none (((za a0 a1 a2).1)),.int .i64 none (((za a0 a1 a2).2.1)),.int .i64 none (((za a0 a1 a2).2.2.1)),.int .i64 none (((za a0 a1 a2).2.2.2))])
  | _=>none)
def zik:Ct KT:=([.agg [.str,.list 8 false false]],fun ns=>match ns with
  | [.s a0,.l 8 a1]=>some ((ln a0<=1000000000/\smB a1),.tuple [.list 1 (((zx a0 a1).1)) none,.list 3 (((zx a0 a1).2.1)) none,.int .i64 none (((zx a0 a1).2.2))])
  | _=>none)
def zio:Ct KT:=([.agg [.str,.list 8 false false]],fun ns=>match ns with
  | [.s a0,.l 8 a1]=>some ((ln a0<=1000000000/\smB a1),.tuple [.agg [.str (((jb a0 a1).1)),.list 4 (((jb a0 a1).2.1)) none],.int .i64 none (((jb a0 a1).2.2))])
  | _=>none)
def zin:Ct KT:=([.agg [.str,.list 8 false false]],fun ns=>match ns with
  | [.s a0,.l 8 a1]=>some ((ln a0<=1000000000/\smB a1),.tuple [.agg [.str (((jb a0 a1).1)),.list 4 (((jb a0 a1).2.1)) none],.int .i64 none (((jb a0 a1).2.2))])
  | _=>none)
def zil:Ct KT:=([.one (.list 1 false false),.one (.list 1 false false)],fun ns=>match ns with
  | [.l 1 a0,.l 1 a1]=>some ((ln a0<=1000000000),.sb 0 false ((qkc a0 a1)) ((qkc a0 a1)=true) ((qkc a0 a1)=false))
  | _=>none)
def zim:Ct KT:=([.one (.list 3 false false),.one (.list 3 false false)],fun ns=>match ns with
  | [.l 3 a0,.l 3 a1]=>some ((ln a0<=1000000000),.sb 0 false ((qkd a0 a1)) ((qkd a0 a1)=true) ((qkd a0 a1)=false))
  | _=>none)
def zid:Ct KT:=([.agg [.str,.list 8 false false]],fun ns=>match ns with
  | [.s a0,.l 8 a1]=>some ((ln a0<=9223372036854775807/\ln a1<=9223372036854775807/\∀ p ∈ a1,ln p.Staves<=9223372036854775807/\∀ s ∈ p.Staves,ln s.Signs<=9223372036854775807),.sb 0 false ((qes a0 a1)) ((qes a0 a1)=true) ((qes a0 a1)=false))
  | _=>none)
def zie:Ct KT:=([.agg [.str,.list 8 false false]],fun ns=>match ns with
  | [.s a0,.l 8 a1]=>some ((smB a1),.agg [.str ((a0)),.list 8 ((a1)) none])
  | _=>none)
def ct8:Ct KT:=([],fun ns=>match ns with
  | []=>some (True,.sb 0 false ((true)) ((true)=true) ((true)=false))
  | _=>none)
abbrev q9d:PV KT:=.sb 0 false ((true)) ((true)=true) ((true)=false)
end Go.Proofs.YtlkfjinaiepocaaDoor
namespace Go.Proofs.YtlkfjinaiepocaaDoor
open Go Go.E2 Go.E3
set_option maxRecDepth 100000
variable {sp:Nat->Option (List V->Heap->Option (CR×Heap))}

def q75:List (Nat×Ct KT):=[]
abbrev qxh (a0:ZB):PV KT:=.sb 0 false ((kh a0)) ((kh a0)=true) ((kh a0)=false)
abbrev qtv (a0:ZB):Prop:=
(((ln a0)=0->
(false=(kh a0))/\
 True))/\
((ln a0)≠0->
((20<(ln a0)->
(false=(kh a0))/\
 True))/\
((ln a0)<=20->
(Wn 0 (ln a0))/\
(((bx a0 0)<97->
(false=(kh a0))/\
 True))/\
(97<=(bx a0 0)->
(Wn 0 (ln a0))/\
((122<(bx a0 0)->
(false=(kh a0))/\
 True))/\
((bx a0 0)<=122->
(qa0 a0 0)/\
(∀ x4:Int,
(qa0 a0 x4->
((x4<(ln a0)->
(Wn x4 (ln a0))/\
(((bx a0 x4)<97->
(((bx a0 x4)<48->
(((bx a0 x4)≠45->
(false=(kh a0))/\
 True))/\
((bx a0 x4)=45->
(I64 (x4+1))/\
(qa0 a0 (x4+1))/\
 z6 a0 (x4+1)<z6 a0 x4)))/\
(48<=(bx a0 x4)->
((57<(bx a0 x4)->
(((bx a0 x4)≠45->
(false=(kh a0))/\
 True))/\
((bx a0 x4)=45->
(I64 (x4+1))/\
(qa0 a0 (x4+1))/\
 z6 a0 (x4+1)<z6 a0 x4)))/\
((bx a0 x4)<=57->
(I64 (x4+1))/\
(qa0 a0 (x4+1))/\
 z6 a0 (x4+1)<z6 a0 x4))))/\
(97<=(bx a0 x4)->
((122<(bx a0 x4)->
(((bx a0 x4)<48->
(((bx a0 x4)≠45->
(false=(kh a0))/\
 True))/\
((bx a0 x4)=45->
(I64 (x4+1))/\
(qa0 a0 (x4+1))/\
 z6 a0 (x4+1)<z6 a0 x4)))/\
(48<=(bx a0 x4)->
((57<(bx a0 x4)->
(((bx a0 x4)≠45->
(false=(kh a0))/\
 True))/\
((bx a0 x4)=45->
(I64 (x4+1))/\
(qa0 a0 (x4+1))/\
 z6 a0 (x4+1)<z6 a0 x4)))/\
((bx a0 x4)<=57->
(I64 (x4+1))/\
(qa0 a0 (x4+1))/\
 z6 a0 (x4+1)<z6 a0 x4))))/\
((bx a0 x4)<=122->
(I64 (x4+1))/\
(qa0 a0 (x4+1))/\
 z6 a0 (x4+1)<z6 a0 x4))))/\
((ln a0)<=x4->
(true=(kh a0))/\
 True)))))))
theorem za8 (a0:ZB):ku (qn XK (kb q75) (fun j ns=>match j,ns with | 0,[.i y0]=>qa0 a0 y0 | _,_=>False) (fun j ns=>match j,ns with | 0,[.i y0]=>z6 a0 y0 | _,_=>0)) {cfg sp with ann:=kr [(49,58,.inv 0 [.one 25 (.int .i64)] [])]} 3 49 [.str (a0)] (qxh a0)=qtv a0:=by kernel_rfl
def q4e:List (Nat×Ct KT):=[]
abbrev qts (a0:Int) (a1:Int) (a2:Int) (a3:Int):PV KT:=.int .i64 none ((qdm a0 a1 a2 a3))
abbrev qe0 (v0:Int) (v1:Int) (v2:Int) (v3:Int) (p:Prop):Prop:=
((v0:Int)=v0)/\
((v1:Int)=v1)/\
((v2:Int)=v2)/\
((v3:Int)=v3)/\
 p
abbrev qqm (a0:Int) (a1:Int) (a2:Int) (a3:Int):Prop:=
(jv a0 a1 a2 a3 0)/\
(∀ x0:Int,
(jv a0 a1 a2 a3 x0->
((x0<4->
(Wn x0 4)/\
(((x0:Int)=0->
((a0≠2->
((a0≠3->
((12:Int)=(qdm a0 a1 a2 a3))/\
 True))/\
(a0=3->
(I64 (x0+1))/\
(qe0 a0 a1 a2 a3 (
(jv a0 a1 a2 a3 (x0+1))/\
 zj a0 a1 a2 a3 (x0+1)<zj a0 a1 a2 a3 x0)))))/\
(a0=2->
(I64 (x0+1))/\
(qe0 a0 a1 a2 a3 (
(jv a0 a1 a2 a3 (x0+1))/\
 zj a0 a1 a2 a3 (x0+1)<zj a0 a1 a2 a3 x0)))))/\
(((x0:Int)=1->
((a1≠2->
((a1≠3->
((12:Int)=(qdm a0 a1 a2 a3))/\
 True))/\
(a1=3->
(I64 (x0+1))/\
(qe0 a0 a1 a2 a3 (
(jv a0 a1 a2 a3 (x0+1))/\
 zj a0 a1 a2 a3 (x0+1)<zj a0 a1 a2 a3 x0)))))/\
(a1=2->
(I64 (x0+1))/\
(qe0 a0 a1 a2 a3 (
(jv a0 a1 a2 a3 (x0+1))/\
 zj a0 a1 a2 a3 (x0+1)<zj a0 a1 a2 a3 x0)))))/\
(((x0:Int)=2->
((a2≠2->
((a2≠3->
((12:Int)=(qdm a0 a1 a2 a3))/\
 True))/\
(a2=3->
(I64 (x0+1))/\
(qe0 a0 a1 a2 a3 (
(jv a0 a1 a2 a3 (x0+1))/\
 zj a0 a1 a2 a3 (x0+1)<zj a0 a1 a2 a3 x0)))))/\
(a2=2->
(I64 (x0+1))/\
(qe0 a0 a1 a2 a3 (
(jv a0 a1 a2 a3 (x0+1))/\
 zj a0 a1 a2 a3 (x0+1)<zj a0 a1 a2 a3 x0)))))/\
(((x0:Int)=3->
((a3≠2->
((a3≠3->
((12:Int)=(qdm a0 a1 a2 a3))/\
 True))/\
(a3=3->
(I64 (x0+1))/\
(qe0 a0 a1 a2 a3 (
(jv a0 a1 a2 a3 (x0+1))/\
 zj a0 a1 a2 a3 (x0+1)<zj a0 a1 a2 a3 x0)))))/\
(a3=2->
(I64 (x0+1))/\
(qe0 a0 a1 a2 a3 (
(jv a0 a1 a2 a3 (x0+1))/\
 zj a0 a1 a2 a3 (x0+1)<zj a0 a1 a2 a3 x0)))))/\
 True))/\
(4<=x0->
((0:Int)=(qdm a0 a1 a2 a3))/\
 True)))
theorem q7z (a0:Int) (a1:Int) (a2:Int) (a3:Int):ku (qn XK (kb q4e) (fun j ns=>match j,ns with | 0,[.i y0]=>jv a0 a1 a2 a3 y0 | _,_=>False) (fun j ns=>match j,ns with | 0,[.i y0]=>zj a0 a1 a2 a3 y0 | _,_=>0)) {cfg sp with ann:=kr [(80,26,.inv 0 [.one 7 (.int .i64)] [])]} 3 80 [.agg [.int .i64 none (a0),.int .i64 none (a1),.int .i64 none (a2),.int .i64 none (a3)]] (qts a0 a1 a2 a3)=qqm a0 a1 a2 a3:=by kernel_rfl
def zba:List (Nat×Ct KT):=[(80,zja)]
abbrev q1f (a0:Int) (a1:Int) (a2:Int) (a3:Int) (a4:Bool) (a5:Int) (a6:Bool) (a7:Bool) (a8:Int) (a9:Int) (a10:Int) (a11:Int) (a12:Bool) (a13:Int) (a14:Int) (a15:Int) (a16:Int):PV KT:=.int .i64 none ((qgb (Sign.mk a0 a1 a2 a3 a4 a5 a6 a7 a8 a9 a10 a11 a12 a13 a14 a15 a16)))
abbrev qy6 (a0:Int) (a1:Int) (a2:Int) (a3:Int) (a4:Bool) (a5:Int) (a6:Bool) (a7:Bool) (a8:Int) (a9:Int) (a10:Int) (a11:Int) (a12:Bool) (a13:Int) (a14:Int) (a15:Int) (a16:Int):Prop:=
(fun r0_:Int=>
((a0<1->
((8:Int)=r0_)/\
 True))/\
(1<=a0->
((12<a0->
((8:Int)=r0_)/\
 True))/\
(a0<=12->
(Wn a0 13)/\
(((a0:Int)=0->
(((a0≠a0∨(a1≠0∨(a2≠0∨(a3≠0∨(a4≠false∨(a5≠0∨(a6≠false∨(a7≠false∨(a8≠0∨(a9≠0∨(a10≠0∨(a11≠0∨(a12≠false∨(a13≠0∨(a14≠0∨(a15≠0∨a16≠0))))))))))))))))->
((3:Int)=r0_)/\
 True))/\
((a0=a0/\(a1=0/\(a2=0/\(a3=0/\(a4=false/\(a5=0/\(a6=false/\(a7=false/\(a8=0/\(a9=0/\(a10=0/\(a11=0/\(a12=false/\(a13=0/\(a14=0/\(a15=0/\a16=0))))))))))))))))->
((a0=8->
((0<=a13->
((2<a13->
((2:Int)=r0_)/\
 True))/\
(a13<=2->
((a0=10->
((2<=a13->
((4<a13->
((2:Int)=r0_)/\
 True))/\
(a13<=4->
((a6=true->
((a7=true->
((3:Int)=r0_)/\
 True))/\
(a7=false->
((0:Int)=r0_)/\
 True)))/\
(a6=false->
((0:Int)=r0_)/\
 True))))/\
(a13<2->
((2:Int)=r0_)/\
 True)))/\
(a0≠10->
((a6=true->
((a7=true->
((3:Int)=r0_)/\
 True))/\
(a7=false->
((0:Int)=r0_)/\
 True)))/\
(a6=false->
((0:Int)=r0_)/\
 True)))))/\
(a13<0->
((2:Int)=r0_)/\
 True)))/\
(a0≠8->
((a0=10->
((2<=a13->
((4<a13->
((2:Int)=r0_)/\
 True))/\
(a13<=4->
((a6=true->
((a7=true->
((3:Int)=r0_)/\
 True))/\
(a7=false->
((0:Int)=r0_)/\
 True)))/\
(a6=false->
((0:Int)=r0_)/\
 True))))/\
(a13<2->
((2:Int)=r0_)/\
 True)))/\
(a0≠10->
((a6=true->
((a7=true->
((3:Int)=r0_)/\
 True))/\
(a7=false->
((0:Int)=r0_)/\
 True)))/\
(a6=false->
((0:Int)=r0_)/\
 True))))))/\
(((a0:Int)=1->
(((a0≠a0∨(a1≠a1∨(a2≠a2∨(a3≠a3∨(a4≠a4∨(a5≠0∨(a6≠false∨(a7≠false∨(a8≠0∨(a9≠0∨(a10≠0∨(a11≠0∨(a12≠false∨(a13≠0∨(a14≠0∨(a15≠0∨a16≠0))))))))))))))))->
((3:Int)=r0_)/\
 True))/\
((a0=a0/\(a1=a1/\(a2=a2/\(a3=a3/\(a4=a4/\(a5=0/\(a6=false/\(a7=false/\(a8=0/\(a9=0/\(a10=0/\(a11=0/\(a12=false/\(a13=0/\(a14=0/\(a15=0/\a16=0))))))))))))))))->
((1<=a1->
((8<a1->
((2:Int)=r0_)/\
 True))/\
(a1<=8->
(((-4)<=a2->
((12<a2->
((2:Int)=r0_)/\
 True))/\
(a2<=12->
(((-1)<=a3->
((2<a3->
((2:Int)=r0_)/\
 True))/\
(a3<=2->
((a0=8->
((0<=a13->
((2<a13->
((2:Int)=r0_)/\
 True))/\
(a13<=2->
((a0=10->
((2<=a13->
((4<a13->
((2:Int)=r0_)/\
 True))/\
(a13<=4->
((a6=true->
((a7=true->
((3:Int)=r0_)/\
 True))/\
(a7=false->
((0:Int)=r0_)/\
 True)))/\
(a6=false->
((0:Int)=r0_)/\
 True))))/\
(a13<2->
((2:Int)=r0_)/\
 True)))/\
(a0≠10->
((a6=true->
((a7=true->
((3:Int)=r0_)/\
 True))/\
(a7=false->
((0:Int)=r0_)/\
 True)))/\
(a6=false->
((0:Int)=r0_)/\
 True)))))/\
(a13<0->
((2:Int)=r0_)/\
 True)))/\
(a0≠8->
((a0=10->
((2<=a13->
((4<a13->
((2:Int)=r0_)/\
 True))/\
(a13<=4->
((a6=true->
((a7=true->
((3:Int)=r0_)/\
 True))/\
(a7=false->
((0:Int)=r0_)/\
 True)))/\
(a6=false->
((0:Int)=r0_)/\
 True))))/\
(a13<2->
((2:Int)=r0_)/\
 True)))/\
(a0≠10->
((a6=true->
((a7=true->
((3:Int)=r0_)/\
 True))/\
(a7=false->
((0:Int)=r0_)/\
 True)))/\
(a6=false->
((0:Int)=r0_)/\
 True))))))/\
(a3<(-1)->
((2:Int)=r0_)/\
 True))))/\
(a2<(-4)->
((2:Int)=r0_)/\
 True))))/\
(a1<1->
((2:Int)=r0_)/\
 True))))/\
(((a0:Int)=2->
(((a0≠a0∨(a1≠a1∨(a2≠0∨(a3≠0∨(a4≠false∨(a5≠0∨(a6≠false∨(a7≠false∨(a8≠0∨(a9≠0∨(a10≠0∨(a11≠0∨(a12≠false∨(a13≠0∨(a14≠0∨(a15≠0∨a16≠0))))))))))))))))->
((3:Int)=r0_)/\
 True))/\
((a0=a0/\(a1=a1/\(a2=0/\(a3=0/\(a4=false/\(a5=0/\(a6=false/\(a7=false/\(a8=0/\(a9=0/\(a10=0/\(a11=0/\(a12=false/\(a13=0/\(a14=0/\(a15=0/\a16=0))))))))))))))))->
((1<=a1->
((8<a1->
((2:Int)=r0_)/\
 True))/\
(a1<=8->
((a0=8->
((0<=a13->
((2<a13->
((2:Int)=r0_)/\
 True))/\
(a13<=2->
((a0=10->
((2<=a13->
((4<a13->
((2:Int)=r0_)/\
 True))/\
(a13<=4->
((a6=true->
((a7=true->
((3:Int)=r0_)/\
 True))/\
(a7=false->
((0:Int)=r0_)/\
 True)))/\
(a6=false->
((0:Int)=r0_)/\
 True))))/\
(a13<2->
((2:Int)=r0_)/\
 True)))/\
(a0≠10->
((a6=true->
((a7=true->
((3:Int)=r0_)/\
 True))/\
(a7=false->
((0:Int)=r0_)/\
 True)))/\
(a6=false->
((0:Int)=r0_)/\
 True)))))/\
(a13<0->
((2:Int)=r0_)/\
 True)))/\
(a0≠8->
((a0=10->
((2<=a13->
((4<a13->
((2:Int)=r0_)/\
 True))/\
(a13<=4->
((a6=true->
((a7=true->
((3:Int)=r0_)/\
 True))/\
(a7=false->
((0:Int)=r0_)/\
 True)))/\
(a6=false->
((0:Int)=r0_)/\
 True))))/\
(a13<2->
((2:Int)=r0_)/\
 True)))/\
(a0≠10->
((a6=true->
((a7=true->
((3:Int)=r0_)/\
 True))/\
(a7=false->
((0:Int)=r0_)/\
 True)))/\
(a6=false->
((0:Int)=r0_)/\
 True))))))/\
(a1<1->
((2:Int)=r0_)/\
 True))))/\
(((a0:Int)=3->
(((a0≠a0∨(a1≠0∨(a2≠0∨(a3≠0∨(a4≠false∨(a5≠0∨(a6≠false∨(a7≠false∨(a8≠0∨(a9≠0∨(a10≠0∨(a11≠0∨(a12≠false∨(a13≠0∨(a14≠0∨(a15≠0∨a16≠0))))))))))))))))->
((3:Int)=r0_)/\
 True))/\
((a0=a0/\(a1=0/\(a2=0/\(a3=0/\(a4=false/\(a5=0/\(a6=false/\(a7=false/\(a8=0/\(a9=0/\(a10=0/\(a11=0/\(a12=false/\(a13=0/\(a14=0/\(a15=0/\a16=0))))))))))))))))->
((a0=8->
((0<=a13->
((2<a13->
((2:Int)=r0_)/\
 True))/\
(a13<=2->
((a0=10->
((2<=a13->
((4<a13->
((2:Int)=r0_)/\
 True))/\
(a13<=4->
((a6=true->
((a7=true->
((3:Int)=r0_)/\
 True))/\
(a7=false->
((0:Int)=r0_)/\
 True)))/\
(a6=false->
((0:Int)=r0_)/\
 True))))/\
(a13<2->
((2:Int)=r0_)/\
 True)))/\
(a0≠10->
((a6=true->
((a7=true->
((3:Int)=r0_)/\
 True))/\
(a7=false->
((0:Int)=r0_)/\
 True)))/\
(a6=false->
((0:Int)=r0_)/\
 True)))))/\
(a13<0->
((2:Int)=r0_)/\
 True)))/\
(a0≠8->
((a0=10->
((2<=a13->
((4<a13->
((2:Int)=r0_)/\
 True))/\
(a13<=4->
((a6=true->
((a7=true->
((3:Int)=r0_)/\
 True))/\
(a7=false->
((0:Int)=r0_)/\
 True)))/\
(a6=false->
((0:Int)=r0_)/\
 True))))/\
(a13<2->
((2:Int)=r0_)/\
 True)))/\
(a0≠10->
((a6=true->
((a7=true->
((3:Int)=r0_)/\
 True))/\
(a7=false->
((0:Int)=r0_)/\
 True)))/\
(a6=false->
((0:Int)=r0_)/\
 True))))))/\
(((a0:Int)=4->
(((a0≠a0∨(a1≠0∨(a2≠a2∨(a3≠a3∨(a4≠a4∨(a5≠a5∨(a6≠a6∨(a7≠a7∨(a8≠0∨(a9≠0∨(a10≠0∨(a11≠0∨(a12≠false∨(a13≠0∨(a14≠0∨(a15≠0∨a16≠0))))))))))))))))->
((3:Int)=r0_)/\
 True))/\
((a0=a0/\(a1=0/\(a2=a2/\(a3=a3/\(a4=a4/\(a5=a5/\(a6=a6/\(a7=a7/\(a8=0/\(a9=0/\(a10=0/\(a11=0/\(a12=false/\(a13=0/\(a14=0/\(a15=0/\a16=0))))))))))))))))->
(((-4)<=a2->
((12<a2->
((2:Int)=r0_)/\
 True))/\
(a2<=12->
(((-1)<=a3->
((2<a3->
((2:Int)=r0_)/\
 True))/\
(a3<=2->
((0<=a5->
((3<a5->
((2:Int)=r0_)/\
 True))/\
(a5<=3->
((a0=8->
((0<=a13->
((2<a13->
((2:Int)=r0_)/\
 True))/\
(a13<=2->
((a0=10->
((2<=a13->
((4<a13->
((2:Int)=r0_)/\
 True))/\
(a13<=4->
((a6=true->
((a7=true->
((3:Int)=r0_)/\
 True))/\
(a7=false->
((0:Int)=r0_)/\
 True)))/\
(a6=false->
((0:Int)=r0_)/\
 True))))/\
(a13<2->
((2:Int)=r0_)/\
 True)))/\
(a0≠10->
((a6=true->
((a7=true->
((3:Int)=r0_)/\
 True))/\
(a7=false->
((0:Int)=r0_)/\
 True)))/\
(a6=false->
((0:Int)=r0_)/\
 True)))))/\
(a13<0->
((2:Int)=r0_)/\
 True)))/\
(a0≠8->
((a0=10->
((2<=a13->
((4<a13->
((2:Int)=r0_)/\
 True))/\
(a13<=4->
((a6=true->
((a7=true->
((3:Int)=r0_)/\
 True))/\
(a7=false->
((0:Int)=r0_)/\
 True)))/\
(a6=false->
((0:Int)=r0_)/\
 True))))/\
(a13<2->
((2:Int)=r0_)/\
 True)))/\
(a0≠10->
((a6=true->
((a7=true->
((3:Int)=r0_)/\
 True))/\
(a7=false->
((0:Int)=r0_)/\
 True)))/\
(a6=false->
((0:Int)=r0_)/\
 True))))))/\
(a5<0->
((2:Int)=r0_)/\
 True))))/\
(a3<(-1)->
((2:Int)=r0_)/\
 True))))/\
(a2<(-4)->
((2:Int)=r0_)/\
 True))))/\
(((a0:Int)=5->
(((a0≠a0∨(a1≠0∨(a2≠0∨(a3≠0∨(a4≠false∨(a5≠0∨(a6≠false∨(a7≠false∨(a8≠a8∨(a9≠a9∨(a10≠a10∨(a11≠a11∨(a12≠a12∨(a13≠0∨(a14≠0∨(a15≠0∨a16≠0))))))))))))))))->
((3:Int)=r0_)/\
 True))/\
((a0=a0/\(a1=0/\(a2=0/\(a3=0/\(a4=false/\(a5=0/\(a6=false/\(a7=false/\(a8=a8/\(a9=a9/\(a10=a10/\(a11=a11/\(a12=a12/\(a13=0/\(a14=0/\(a15=0/\a16=0))))))))))))))))->
(True)/\
(((qdm a8 a9 a10 a11)≠0->
((12:Int)=r0_)/\
 True))/\
((qdm a8 a9 a10 a11)=0->
((a0=8->
((0<=a13->
((2<a13->
((2:Int)=r0_)/\
 True))/\
(a13<=2->
((a0=10->
((2<=a13->
((4<a13->
((2:Int)=r0_)/\
 True))/\
(a13<=4->
((a6=true->
((a7=true->
((3:Int)=r0_)/\
 True))/\
(a7=false->
((0:Int)=r0_)/\
 True)))/\
(a6=false->
((0:Int)=r0_)/\
 True))))/\
(a13<2->
((2:Int)=r0_)/\
 True)))/\
(a0≠10->
((a6=true->
((a7=true->
((3:Int)=r0_)/\
 True))/\
(a7=false->
((0:Int)=r0_)/\
 True)))/\
(a6=false->
((0:Int)=r0_)/\
 True)))))/\
(a13<0->
((2:Int)=r0_)/\
 True)))/\
(a0≠8->
((a0=10->
((2<=a13->
((4<a13->
((2:Int)=r0_)/\
 True))/\
(a13<=4->
((a6=true->
((a7=true->
((3:Int)=r0_)/\
 True))/\
(a7=false->
((0:Int)=r0_)/\
 True)))/\
(a6=false->
((0:Int)=r0_)/\
 True))))/\
(a13<2->
((2:Int)=r0_)/\
 True)))/\
(a0≠10->
((a6=true->
((a7=true->
((3:Int)=r0_)/\
 True))/\
(a7=false->
((0:Int)=r0_)/\
 True)))/\
(a6=false->
((0:Int)=r0_)/\
 True)))))))/\
(((a0:Int)=6->
(((a0≠a0∨(a1≠0∨(a2≠0∨(a3≠0∨(a4≠false∨(a5≠0∨(a6≠false∨(a7≠false∨(a8≠0∨(a9≠0∨(a10≠0∨(a11≠0∨(a12≠false∨(a13≠a13∨(a14≠a14∨(a15≠0∨a16≠0))))))))))))))))->
((3:Int)=r0_)/\
 True))/\
((a0=a0/\(a1=0/\(a2=0/\(a3=0/\(a4=false/\(a5=0/\(a6=false/\(a7=false/\(a8=0/\(a9=0/\(a10=0/\(a11=0/\(a12=false/\(a13=a13/\(a14=a14/\(a15=0/\a16=0))))))))))))))))->
((1<=a13->
((100<a13->
((2:Int)=r0_)/\
 True))/\
(a13<=100->
((1<=a14->
((100<a14->
((2:Int)=r0_)/\
 True))/\
(a14<=100->
((a0=8->
((0<=a13->
((2<a13->
((2:Int)=r0_)/\
 True))/\
(a13<=2->
((a0=10->
((2<=a13->
((4<a13->
((2:Int)=r0_)/\
 True))/\
(a13<=4->
((a6=true->
((a7=true->
((3:Int)=r0_)/\
 True))/\
(a7=false->
((0:Int)=r0_)/\
 True)))/\
(a6=false->
((0:Int)=r0_)/\
 True))))/\
(a13<2->
((2:Int)=r0_)/\
 True)))/\
(a0≠10->
((a6=true->
((a7=true->
((3:Int)=r0_)/\
 True))/\
(a7=false->
((0:Int)=r0_)/\
 True)))/\
(a6=false->
((0:Int)=r0_)/\
 True)))))/\
(a13<0->
((2:Int)=r0_)/\
 True)))/\
(a0≠8->
((a0=10->
((2<=a13->
((4<a13->
((2:Int)=r0_)/\
 True))/\
(a13<=4->
((a6=true->
((a7=true->
((3:Int)=r0_)/\
 True))/\
(a7=false->
((0:Int)=r0_)/\
 True)))/\
(a6=false->
((0:Int)=r0_)/\
 True))))/\
(a13<2->
((2:Int)=r0_)/\
 True)))/\
(a0≠10->
((a6=true->
((a7=true->
((3:Int)=r0_)/\
 True))/\
(a7=false->
((0:Int)=r0_)/\
 True)))/\
(a6=false->
((0:Int)=r0_)/\
 True))))))/\
(a14<1->
((2:Int)=r0_)/\
 True))))/\
(a13<1->
((2:Int)=r0_)/\
 True))))/\
(((a0:Int)=7->
(((a0≠a0∨(a1≠0∨(a2≠0∨(a3≠0∨(a4≠false∨(a5≠0∨(a6≠false∨(a7≠false∨(a8≠0∨(a9≠0∨(a10≠0∨(a11≠0∨(a12≠false∨(a13≠0∨(a14≠0∨(a15≠a15∨a16≠a16))))))))))))))))->
((3:Int)=r0_)/\
 True))/\
((a0=a0/\(a1=0/\(a2=0/\(a3=0/\(a4=false/\(a5=0/\(a6=false/\(a7=false/\(a8=0/\(a9=0/\(a10=0/\(a11=0/\(a12=false/\(a13=0/\(a14=0/\(a15=a15/\a16=a16))))))))))))))))->
((a15≠0->
((a15≠3->
((a15≠4->
((2:Int)=r0_)/\
 True))/\
(a15=4->
((1<=a16->
((5<a16->
((2:Int)=r0_)/\
 True))/\
(a16<=5->
((a0=8->
((0<=a13->
((2<a13->
((2:Int)=r0_)/\
 True))/\
(a13<=2->
((a0=10->
((2<=a13->
((4<a13->
((2:Int)=r0_)/\
 True))/\
(a13<=4->
((a6=true->
((a7=true->
((3:Int)=r0_)/\
 True))/\
(a7=false->
((0:Int)=r0_)/\
 True)))/\
(a6=false->
((0:Int)=r0_)/\
 True))))/\
(a13<2->
((2:Int)=r0_)/\
 True)))/\
(a0≠10->
((a6=true->
((a7=true->
((3:Int)=r0_)/\
 True))/\
(a7=false->
((0:Int)=r0_)/\
 True)))/\
(a6=false->
((0:Int)=r0_)/\
 True)))))/\
(a13<0->
((2:Int)=r0_)/\
 True)))/\
(a0≠8->
((a0=10->
((2<=a13->
((4<a13->
((2:Int)=r0_)/\
 True))/\
(a13<=4->
((a6=true->
((a7=true->
((3:Int)=r0_)/\
 True))/\
(a7=false->
((0:Int)=r0_)/\
 True)))/\
(a6=false->
((0:Int)=r0_)/\
 True))))/\
(a13<2->
((2:Int)=r0_)/\
 True)))/\
(a0≠10->
((a6=true->
((a7=true->
((3:Int)=r0_)/\
 True))/\
(a7=false->
((0:Int)=r0_)/\
 True)))/\
(a6=false->
((0:Int)=r0_)/\
 True))))))/\
(a16<1->
((2:Int)=r0_)/\
 True))))/\
(a15=3->
((1<=a16->
((5<a16->
((2:Int)=r0_)/\
 True))/\
(a16<=5->
((a0=8->
((0<=a13->
((2<a13->
((2:Int)=r0_)/\
 True))/\
(a13<=2->
((a0=10->
((2<=a13->
((4<a13->
((2:Int)=r0_)/\
 True))/\
(a13<=4->
((a6=true->
((a7=true->
((3:Int)=r0_)/\
 True))/\
(a7=false->
((0:Int)=r0_)/\
 True)))/\
(a6=false->
((0:Int)=r0_)/\
 True))))/\
(a13<2->
((2:Int)=r0_)/\
 True)))/\
(a0≠10->
((a6=true->
((a7=true->
((3:Int)=r0_)/\
 True))/\
(a7=false->
((0:Int)=r0_)/\
 True)))/\
(a6=false->
((0:Int)=r0_)/\
 True)))))/\
(a13<0->
((2:Int)=r0_)/\
 True)))/\
(a0≠8->
((a0=10->
((2<=a13->
((4<a13->
((2:Int)=r0_)/\
 True))/\
(a13<=4->
((a6=true->
((a7=true->
((3:Int)=r0_)/\
 True))/\
(a7=false->
((0:Int)=r0_)/\
 True)))/\
(a6=false->
((0:Int)=r0_)/\
 True))))/\
(a13<2->
((2:Int)=r0_)/\
 True)))/\
(a0≠10->
((a6=true->
((a7=true->
((3:Int)=r0_)/\
 True))/\
(a7=false->
((0:Int)=r0_)/\
 True)))/\
(a6=false->
((0:Int)=r0_)/\
 True))))))/\
(a16<1->
((2:Int)=r0_)/\
 True))))/\
(a15=0->
((1<=a16->
((5<a16->
((2:Int)=r0_)/\
 True))/\
(a16<=5->
((a0=8->
((0<=a13->
((2<a13->
((2:Int)=r0_)/\
 True))/\
(a13<=2->
((a0=10->
((2<=a13->
((4<a13->
((2:Int)=r0_)/\
 True))/\
(a13<=4->
((a6=true->
((a7=true->
((3:Int)=r0_)/\
 True))/\
(a7=false->
((0:Int)=r0_)/\
 True)))/\
(a6=false->
((0:Int)=r0_)/\
 True))))/\
(a13<2->
((2:Int)=r0_)/\
 True)))/\
(a0≠10->
((a6=true->
((a7=true->
((3:Int)=r0_)/\
 True))/\
(a7=false->
((0:Int)=r0_)/\
 True)))/\
(a6=false->
((0:Int)=r0_)/\
 True)))))/\
(a13<0->
((2:Int)=r0_)/\
 True)))/\
(a0≠8->
((a0=10->
((2<=a13->
((4<a13->
((2:Int)=r0_)/\
 True))/\
(a13<=4->
((a6=true->
((a7=true->
((3:Int)=r0_)/\
 True))/\
(a7=false->
((0:Int)=r0_)/\
 True)))/\
(a6=false->
((0:Int)=r0_)/\
 True))))/\
(a13<2->
((2:Int)=r0_)/\
 True)))/\
(a0≠10->
((a6=true->
((a7=true->
((3:Int)=r0_)/\
 True))/\
(a7=false->
((0:Int)=r0_)/\
 True)))/\
(a6=false->
((0:Int)=r0_)/\
 True))))))/\
(a16<1->
((2:Int)=r0_)/\
 True)))))/\
(((a0:Int)=8->
(((a0≠a0∨(a1≠0∨(a2≠0∨(a3≠0∨(a4≠false∨(a5≠0∨(a6≠false∨(a7≠false∨(a8≠0∨(a9≠0∨(a10≠0∨(a11≠0∨(a12≠false∨(a13≠a13∨(a14≠0∨(a15≠0∨a16≠0))))))))))))))))->
((3:Int)=r0_)/\
 True))/\
((a0=a0/\(a1=0/\(a2=0/\(a3=0/\(a4=false/\(a5=0/\(a6=false/\(a7=false/\(a8=0/\(a9=0/\(a10=0/\(a11=0/\(a12=false/\(a13=a13/\(a14=0/\(a15=0/\a16=0))))))))))))))))->
((a0=8->
((0<=a13->
((2<a13->
((2:Int)=r0_)/\
 True))/\
(a13<=2->
((a0=10->
((2<=a13->
((4<a13->
((2:Int)=r0_)/\
 True))/\
(a13<=4->
((a6=true->
((a7=true->
((3:Int)=r0_)/\
 True))/\
(a7=false->
((0:Int)=r0_)/\
 True)))/\
(a6=false->
((0:Int)=r0_)/\
 True))))/\
(a13<2->
((2:Int)=r0_)/\
 True)))/\
(a0≠10->
((a6=true->
((a7=true->
((3:Int)=r0_)/\
 True))/\
(a7=false->
((0:Int)=r0_)/\
 True)))/\
(a6=false->
((0:Int)=r0_)/\
 True)))))/\
(a13<0->
((2:Int)=r0_)/\
 True)))/\
(a0≠8->
((a0=10->
((2<=a13->
((4<a13->
((2:Int)=r0_)/\
 True))/\
(a13<=4->
((a6=true->
((a7=true->
((3:Int)=r0_)/\
 True))/\
(a7=false->
((0:Int)=r0_)/\
 True)))/\
(a6=false->
((0:Int)=r0_)/\
 True))))/\
(a13<2->
((2:Int)=r0_)/\
 True)))/\
(a0≠10->
((a6=true->
((a7=true->
((3:Int)=r0_)/\
 True))/\
(a7=false->
((0:Int)=r0_)/\
 True)))/\
(a6=false->
((0:Int)=r0_)/\
 True))))))/\
(((a0:Int)=9->
(((a0≠a0∨(a1≠0∨(a2≠0∨(a3≠0∨(a4≠false∨(a5≠0∨(a6≠false∨(a7≠false∨(a8≠0∨(a9≠0∨(a10≠0∨(a11≠0∨(a12≠false∨(a13≠0∨(a14≠0∨(a15≠0∨a16≠0))))))))))))))))->
((3:Int)=r0_)/\
 True))/\
((a0=a0/\(a1=0/\(a2=0/\(a3=0/\(a4=false/\(a5=0/\(a6=false/\(a7=false/\(a8=0/\(a9=0/\(a10=0/\(a11=0/\(a12=false/\(a13=0/\(a14=0/\(a15=0/\a16=0))))))))))))))))->
((a0=8->
((0<=a13->
((2<a13->
((2:Int)=r0_)/\
 True))/\
(a13<=2->
((a0=10->
((2<=a13->
((4<a13->
((2:Int)=r0_)/\
 True))/\
(a13<=4->
((a6=true->
((a7=true->
((3:Int)=r0_)/\
 True))/\
(a7=false->
((0:Int)=r0_)/\
 True)))/\
(a6=false->
((0:Int)=r0_)/\
 True))))/\
(a13<2->
((2:Int)=r0_)/\
 True)))/\
(a0≠10->
((a6=true->
((a7=true->
((3:Int)=r0_)/\
 True))/\
(a7=false->
((0:Int)=r0_)/\
 True)))/\
(a6=false->
((0:Int)=r0_)/\
 True)))))/\
(a13<0->
((2:Int)=r0_)/\
 True)))/\
(a0≠8->
((a0=10->
((2<=a13->
((4<a13->
((2:Int)=r0_)/\
 True))/\
(a13<=4->
((a6=true->
((a7=true->
((3:Int)=r0_)/\
 True))/\
(a7=false->
((0:Int)=r0_)/\
 True)))/\
(a6=false->
((0:Int)=r0_)/\
 True))))/\
(a13<2->
((2:Int)=r0_)/\
 True)))/\
(a0≠10->
((a6=true->
((a7=true->
((3:Int)=r0_)/\
 True))/\
(a7=false->
((0:Int)=r0_)/\
 True)))/\
(a6=false->
((0:Int)=r0_)/\
 True))))))/\
(((a0:Int)=10->
(((a0≠a0∨(a1≠0∨(a2≠0∨(a3≠0∨(a4≠false∨(a5≠0∨(a6≠false∨(a7≠false∨(a8≠0∨(a9≠0∨(a10≠0∨(a11≠0∨(a12≠false∨(a13≠a13∨(a14≠0∨(a15≠0∨a16≠0))))))))))))))))->
((3:Int)=r0_)/\
 True))/\
((a0=a0/\(a1=0/\(a2=0/\(a3=0/\(a4=false/\(a5=0/\(a6=false/\(a7=false/\(a8=0/\(a9=0/\(a10=0/\(a11=0/\(a12=false/\(a13=a13/\(a14=0/\(a15=0/\a16=0))))))))))))))))->
((a0=8->
((0<=a13->
((2<a13->
((2:Int)=r0_)/\
 True))/\
(a13<=2->
((a0=10->
((2<=a13->
((4<a13->
((2:Int)=r0_)/\
 True))/\
(a13<=4->
((a6=true->
((a7=true->
((3:Int)=r0_)/\
 True))/\
(a7=false->
((0:Int)=r0_)/\
 True)))/\
(a6=false->
((0:Int)=r0_)/\
 True))))/\
(a13<2->
((2:Int)=r0_)/\
 True)))/\
(a0≠10->
((a6=true->
((a7=true->
((3:Int)=r0_)/\
 True))/\
(a7=false->
((0:Int)=r0_)/\
 True)))/\
(a6=false->
((0:Int)=r0_)/\
 True)))))/\
(a13<0->
((2:Int)=r0_)/\
 True)))/\
(a0≠8->
((a0=10->
((2<=a13->
((4<a13->
((2:Int)=r0_)/\
 True))/\
(a13<=4->
((a6=true->
((a7=true->
((3:Int)=r0_)/\
 True))/\
(a7=false->
((0:Int)=r0_)/\
 True)))/\
(a6=false->
((0:Int)=r0_)/\
 True))))/\
(a13<2->
((2:Int)=r0_)/\
 True)))/\
(a0≠10->
((a6=true->
((a7=true->
((3:Int)=r0_)/\
 True))/\
(a7=false->
((0:Int)=r0_)/\
 True)))/\
(a6=false->
((0:Int)=r0_)/\
 True))))))/\
(((a0:Int)=11->
(((a0≠a0∨(a1≠0∨(a2≠0∨(a3≠0∨(a4≠false∨(a5≠0∨(a6≠false∨(a7≠false∨(a8≠0∨(a9≠0∨(a10≠0∨(a11≠0∨(a12≠false∨(a13≠0∨(a14≠0∨(a15≠0∨a16≠0))))))))))))))))->
((3:Int)=r0_)/\
 True))/\
((a0=a0/\(a1=0/\(a2=0/\(a3=0/\(a4=false/\(a5=0/\(a6=false/\(a7=false/\(a8=0/\(a9=0/\(a10=0/\(a11=0/\(a12=false/\(a13=0/\(a14=0/\(a15=0/\a16=0))))))))))))))))->
((a0=8->
((0<=a13->
((2<a13->
((2:Int)=r0_)/\
 True))/\
(a13<=2->
((a0=10->
((2<=a13->
((4<a13->
((2:Int)=r0_)/\
 True))/\
(a13<=4->
((a6=true->
((a7=true->
((3:Int)=r0_)/\
 True))/\
(a7=false->
((0:Int)=r0_)/\
 True)))/\
(a6=false->
((0:Int)=r0_)/\
 True))))/\
(a13<2->
((2:Int)=r0_)/\
 True)))/\
(a0≠10->
((a6=true->
((a7=true->
((3:Int)=r0_)/\
 True))/\
(a7=false->
((0:Int)=r0_)/\
 True)))/\
(a6=false->
((0:Int)=r0_)/\
 True)))))/\
(a13<0->
((2:Int)=r0_)/\
 True)))/\
(a0≠8->
((a0=10->
((2<=a13->
((4<a13->
((2:Int)=r0_)/\
 True))/\
(a13<=4->
((a6=true->
((a7=true->
((3:Int)=r0_)/\
 True))/\
(a7=false->
((0:Int)=r0_)/\
 True)))/\
(a6=false->
((0:Int)=r0_)/\
 True))))/\
(a13<2->
((2:Int)=r0_)/\
 True)))/\
(a0≠10->
((a6=true->
((a7=true->
((3:Int)=r0_)/\
 True))/\
(a7=false->
((0:Int)=r0_)/\
 True)))/\
(a6=false->
((0:Int)=r0_)/\
 True))))))/\
(((a0:Int)=12->
(((a0≠a0∨(a1≠0∨(a2≠0∨(a3≠0∨(a4≠false∨(a5≠0∨(a6≠false∨(a7≠false∨(a8≠0∨(a9≠0∨(a10≠0∨(a11≠0∨(a12≠false∨(a13≠0∨(a14≠0∨(a15≠0∨a16≠0))))))))))))))))->
((3:Int)=r0_)/\
 True))/\
((a0=a0/\(a1=0/\(a2=0/\(a3=0/\(a4=false/\(a5=0/\(a6=false/\(a7=false/\(a8=0/\(a9=0/\(a10=0/\(a11=0/\(a12=false/\(a13=0/\(a14=0/\(a15=0/\a16=0))))))))))))))))->
((a0=8->
((0<=a13->
((2<a13->
((2:Int)=r0_)/\
 True))/\
(a13<=2->
((a0=10->
((2<=a13->
((4<a13->
((2:Int)=r0_)/\
 True))/\
(a13<=4->
((a6=true->
((a7=true->
((3:Int)=r0_)/\
 True))/\
(a7=false->
((0:Int)=r0_)/\
 True)))/\
(a6=false->
((0:Int)=r0_)/\
 True))))/\
(a13<2->
((2:Int)=r0_)/\
 True)))/\
(a0≠10->
((a6=true->
((a7=true->
((3:Int)=r0_)/\
 True))/\
(a7=false->
((0:Int)=r0_)/\
 True)))/\
(a6=false->
((0:Int)=r0_)/\
 True)))))/\
(a13<0->
((2:Int)=r0_)/\
 True)))/\
(a0≠8->
((a0=10->
((2<=a13->
((4<a13->
((2:Int)=r0_)/\
 True))/\
(a13<=4->
((a6=true->
((a7=true->
((3:Int)=r0_)/\
 True))/\
(a7=false->
((0:Int)=r0_)/\
 True)))/\
(a6=false->
((0:Int)=r0_)/\
 True))))/\
(a13<2->
((2:Int)=r0_)/\
 True)))/\
(a0≠10->
((a6=true->
((a7=true->
((3:Int)=r0_)/\
 True))/\
(a7=false->
((0:Int)=r0_)/\
 True)))/\
(a6=false->
((0:Int)=r0_)/\
 True))))))/\
 True))) (qgb (Sign.mk a0 a1 a2 a3 a4 a5 a6 a7 a8 a9 a10 a11 a12 a13 a14 a15 a16))
theorem zev (a0:Int) (a1:Int) (a2:Int) (a3:Int) (a4:Bool) (a5:Int) (a6:Bool) (a7:Bool) (a8:Int) (a9:Int) (a10:Int) (a11:Int) (a12:Bool) (a13:Int) (a14:Int) (a15:Int) (a16:Int):ku (qn XK (kb zba) (fun _ _=>False) (fun _ _=>0)) {cfg sp with ann:=kr []} 6 60 [.agg [.int .i64 none (a0),.int .i64 none (a1),.int .i64 none (a2),.int .i64 none (a3),.sb 0 false (a4) (a4=true) (a4=false),.int .i64 none (a5),.sb 0 false (a6) (a6=true) (a6=false),.sb 0 false (a7) (a7=true) (a7=false),.int .i64 none (a8),.int .i64 none (a9),.int .i64 none (a10),.int .i64 none (a11),.sb 0 false (a12) (a12=true) (a12=false),.int .i64 none (a13),.int .i64 none (a14),.int .i64 none (a15),.int .i64 none (a16)]] (q1f a0 a1 a2 a3 a4 a5 a6 a7 a8 a9 a10 a11 a12 a13 a14 a15 a16)=qy6 a0 a1 a2 a3 a4 a5 a6 a7 a8 a9 a10 a11 a12 a13 a14 a15 a16:=by kernel_rfl
def q1b:List (Nat×Ct KT):=[(49,zfu),(60,zi6)]
abbrev qry (a0:ZB) (a1:List Sign):PV KT:=.tuple [.int .i64 none (((ze a0 a1).1)),.int .i64 none (((ze a0 a1).2))]
abbrev qn0 (a0:ZB) (a1:List Sign):Prop:=
((ln a0<=9223372036854775806))/\
(((kh a0)=false->
((7:Int)=((ze a0 a1).1))/\
((0:Int)=((ze a0 a1).2))/\
 True))/\
((kh a0)=true->
((400<(ln a1)->
((11:Int)=((ze a0 a1).1))/\
((0:Int)=((ze a0 a1).2))/\
 True))/\
((ln a1)<=400->
(qbx a0 a1 false 0)/\
(∀ x2:Bool,
(∀ x3:Int,
(qbx a0 a1 x2 x3->
((x3<(ln a1)->
(Wn x3 (ln a1))/\
(True)/\
(((qgb (ix a1 x3))≠0->
(((qgb (ix a1 x3)):Int)=((ze a0 a1).1))/\
((x3:Int)=((ze a0 a1).2))/\
 True))/\
((qgb (ix a1 x3))=0->
(((ix a1 x3).Kind≠4->
(I64 (x3+1))/\
(a0=a0)/\
(a1=a1)/\
(qbx a0 a1 x2 (x3+1))/\
 qa1 a0 a1 x2 (x3+1)<qa1 a0 a1 x2 x3))/\
((ix a1 x3).Kind=4->
(((ix a1 x3).Last=true->
((x2=false->
((3:Int)=((ze a0 a1).1))/\
((x3:Int)=((ze a0 a1).2))/\
 True))/\
(x2=true->
(I64 (x3+1))/\
(a0=a0)/\
(a1=a1)/\
(qbx a0 a1 false (x3+1))/\
 qa1 a0 a1 false (x3+1)<qa1 a0 a1 x2 x3)))/\
((ix a1 x3).Last=false->
(I64 (x3+1))/\
(((x3+1)=(ln a1)->
((3:Int)=((ze a0 a1).1))/\
((x3:Int)=((ze a0 a1).2))/\
 True))/\
((x3+1)≠(ln a1)->
(I64 (x3+1))/\
(Wn (x3+1) (ln a1))/\
(((ix a1 (x3+1)).Kind≠4->
((3:Int)=((ze a0 a1).1))/\
((x3:Int)=((ze a0 a1).2))/\
 True))/\
((ix a1 (x3+1)).Kind=4->
(I64 (x3+1))/\
(a0=a0)/\
(a1=a1)/\
(qbx a0 a1 true (x3+1))/\
 qa1 a0 a1 true (x3+1)<qa1 a0 a1 x2 x3)))))))/\
((ln a1)<=x3->
((0:Int)=((ze a0 a1).1))/\
((0:Int)=((ze a0 a1).2))/\
 True))))))
theorem q4l (a0:ZB) (a1:List Sign):ku (qn XK (kb q1b) (fun j ns=>match j,ns with | 0,[.b y0,.i y1]=>qbx a0 a1 y0 y1 | _,_=>False) (fun j ns=>match j,ns with | 0,[.b y0,.i y1]=>qa1 a0 a1 y0 y1 | _,_=>0)) {cfg sp with ann:=kr [(34,890,.inv 0 [.one 4 (.bool),.one 19 (.int .i64)] [])]} 3 34 [.agg [.str (a0),.list 4 (a1) none]] (qry a0 a1)=qn0 a0 a1:=by kernel_rfl
def qwp:List (Nat×Ct KT):=[]
abbrev qnf (a0:List Sign) (a1:List Sign):PV KT:=.sb 0 false ((qck a0 a1)) ((qck a0 a1)=true) ((qck a0 a1)=false)
abbrev qo3 (a0:List Sign) (a1:List Sign):Prop:=
(((ln a0)≠(ln a1)->
(false=(qck a0 a1))/\
 True))/\
((ln a0)=(ln a1)->
(qct a0 a1 0)/\
(∀ x1:Int,
 let l1_:=ix a1 x1;
 let l0_:=ix a0 x1;
(qct a0 a1 x1->
((x1<(ln a0)->
(Wn x1 (ln a0))/\
(Wn x1 (ln a1))/\
(((l0_.Kind≠l1_.Kind∨(l0_.Value≠l1_.Value∨(l0_.Place≠l1_.Place∨(l0_.Acc≠l1_.Acc∨(l0_.Color≠l1_.Color∨(l0_.Stem≠l1_.Stem∨(l0_.Oblique≠l1_.Oblique∨(l0_.Last≠l1_.Last∨(l0_.MensMax≠l1_.MensMax∨(l0_.MensMod≠l1_.MensMod∨(l0_.MensTem≠l1_.MensTem∨(l0_.MensPro≠l1_.MensPro∨(l0_.Stroke≠l1_.Stroke∨(l0_.N≠l1_.N∨(l0_.D≠l1_.D∨(l0_.ClefStep≠l1_.ClefStep∨l0_.ClefLine≠l1_.ClefLine))))))))))))))))->
(false=(qck a0 a1))/\
 True))/\
((l0_.Kind=l1_.Kind/\(l0_.Value=l1_.Value/\(l0_.Place=l1_.Place/\(l0_.Acc=l1_.Acc/\(l0_.Color=l1_.Color/\(l0_.Stem=l1_.Stem/\(l0_.Oblique=l1_.Oblique/\(l0_.Last=l1_.Last/\(l0_.MensMax=l1_.MensMax/\(l0_.MensMod=l1_.MensMod/\(l0_.MensTem=l1_.MensTem/\(l0_.MensPro=l1_.MensPro/\(l0_.Stroke=l1_.Stroke/\(l0_.N=l1_.N/\(l0_.D=l1_.D/\(l0_.ClefStep=l1_.ClefStep/\l0_.ClefLine=l1_.ClefLine))))))))))))))))->
(I64 (x1+1))/\
(qct a0 a1 (x1+1))/\
 qce a0 a1 (x1+1)<qce a0 a1 x1)))/\
((ln a0)<=x1->
(true=(qck a0 a1))/\
 True))))
theorem qze (a0:List Sign) (a1:List Sign):ku (qn XK (kb qwp) (fun j ns=>match j,ns with | 0,[.i y0]=>qct a0 a1 y0 | _,_=>False) (fun j ns=>match j,ns with | 0,[.i y0]=>qce a0 a1 y0 | _,_=>0)) {cfg sp with ann:=kr [(32,58,.inv 0 [.one 5 (.int .i64)] [])]} 3 32 [.list 4 (a0) none,.list 4 (a1) none] (qnf a0 a1)=qo3 a0 a1:=by kernel_rfl
def qzc:List (Nat×Ct KT):=[(32,zfh)]
abbrev qo2 (a0:ZB) (a1:List Sign) (a2:ZB) (a3:List Sign):PV KT:=.sb 0 false ((kj a0 a1 a2 a3)) ((kj a0 a1 a2 a3)=true) ((kj a0 a1 a2 a3)=false)
abbrev qr2 (a0:ZB) (a1:List Sign) (a2:ZB) (a3:List Sign):Prop:=
((a0=a2->
((ln a1<=10000000))/\
((qck a1 a3)=(kj a0 a1 a2 a3))/\
 True))/\
(a0≠a2->
(false=(kj a0 a1 a2 a3))/\
 True)
theorem q1q (a0:ZB) (a1:List Sign) (a2:ZB) (a3:List Sign):ku (qn XK (kb qzc) (fun _ _=>False) (fun _ _=>0)) {cfg sp with ann:=kr []} 3 13 [.agg [.str (a0),.list 4 (a1) none],.agg [.str (a2),.list 4 (a3) none]] (qo2 a0 a1 a2 a3)=qr2 a0 a1 a2 a3:=by kernel_rfl
def qw8:List (Nat×Ct KT):=[(32,zfh)]
abbrev qnw (a0:List Sign) (a1:Int) (a2:Bool) (a3:Int) (a4:List Sign) (a5:Int) (a6:Bool) (a7:Int):PV KT:=.sb 0 false ((qdp (Staff.mk a0 a1 a2 a3) (Staff.mk a4 a5 a6 a7))) ((qdp (Staff.mk a0 a1 a2 a3) (Staff.mk a4 a5 a6 a7))=true) ((qdp (Staff.mk a0 a1 a2 a3) (Staff.mk a4 a5 a6 a7))=false)
abbrev qqc (a0:List Sign) (a1:Int) (a2:Bool) (a3:Int) (a4:List Sign) (a5:Int) (a6:Bool) (a7:Int):Prop:=
((a1=a5->
((a2=a6->
((a3=a7->
((ln a0<=10000000))/\
((qck a0 a4)=(qdp (Staff.mk a0 a1 a2 a3) (Staff.mk a4 a5 a6 a7)))/\
 True))/\
(a3≠a7->
(false=(qdp (Staff.mk a0 a1 a2 a3) (Staff.mk a4 a5 a6 a7)))/\
 True)))/\
(a2≠a6->
(false=(qdp (Staff.mk a0 a1 a2 a3) (Staff.mk a4 a5 a6 a7)))/\
 True)))/\
(a1≠a5->
(false=(qdp (Staff.mk a0 a1 a2 a3) (Staff.mk a4 a5 a6 a7)))/\
 True)
theorem q0t (a0:List Sign) (a1:Int) (a2:Bool) (a3:Int) (a4:List Sign) (a5:Int) (a6:Bool) (a7:Int):ku (qn XK (kb qw8) (fun _ _=>False) (fun _ _=>0)) {cfg sp with ann:=kr []} 3 48 [.agg [.list 4 (a0) none,.int .i64 none (a1),.sb 0 false (a2) (a2=true) (a2=false),.int .i64 none (a3)],.agg [.list 4 (a4) none,.int .i64 none (a5),.sb 0 false (a6) (a6=true) (a6=false),.int .i64 none (a7)]] (qnw a0 a1 a2 a3 a4 a5 a6 a7)=qqc a0 a1 a2 a3 a4 a5 a6 a7:=by kernel_rfl
def q50:List (Nat×Ct KT):=[(48,zi1)]
abbrev qv3 (a0:ZB) (a1:List Page) (a2:ZB) (a3:List Page):PV KT:=.sb 0 false ((qhk a0 a1 a2 a3)) ((qhk a0 a1 a2 a3)=true) ((qhk a0 a1 a2 a3)=false)
abbrev qrm (a0:ZB) (a1:List Page) (a2:ZB) (a3:List Page):Prop:=
((a0≠a2->
(false=(qhk a0 a1 a2 a3))/\
 True))/\
(a0=a2->
(((ln a1)≠(ln a3)->
(false=(qhk a0 a1 a2 a3))/\
 True))/\
((ln a1)=(ln a3)->
(qhx a0 a1 a2 a3 0)/\
(∀ x2:Int,
(qhx a0 a1 a2 a3 x2->
((x2<(ln a1)->
(Wn x2 (ln a1))/\
(Wn x2 (ln a3))/\
(((ln (ix a1 x2).Staves)≠(ln (ix a3 x2).Staves)->
(false=(qhk a0 a1 a2 a3))/\
 True))/\
((ln (ix a1 x2).Staves)=(ln (ix a3 x2).Staves)->
(qhy a0 a1 a2 a3 0 x2)/\
(∀ x6:Int,
(qhy a0 a1 a2 a3 x6 x2->
(Wn x2 (ln a1))/\
((x6<(ln (ix a1 x2).Staves)->
(Wn x2 (ln a1))/\
(Wn x6 (ln (ix a1 x2).Staves))/\
(Wn x2 (ln a3))/\
(Wn x6 (ln (ix a3 x2).Staves))/\
((ln (ix (ix a1 x2).Staves x6).Signs<=10000000))/\
(((qdp (ix (ix a1 x2).Staves x6) (ix (ix a3 x2).Staves x6))=false->
(false=(qhk a0 a1 a2 a3))/\
 True))/\
((qdp (ix (ix a1 x2).Staves x6) (ix (ix a3 x2).Staves x6))=true->
(I64 (x6+1))/\
(a2=a2)/\
(a3=a3)/\
(a0=a0)/\
(a1=a1)/\
(qhy a0 a1 a2 a3 (x6+1) x2)/\
 qg0 a0 a1 a2 a3 (x6+1) x2<qg0 a0 a1 a2 a3 x6 x2)))/\
((ln (ix a1 x2).Staves)<=x6->
(I64 (x2+1))/\
(a2=a2)/\
(a3=a3)/\
(a0=a0)/\
(a1=a1)/\
(qhx a0 a1 a2 a3 (x2+1))/\
 qgz a0 a1 a2 a3 (x2+1)<qgz a0 a1 a2 a3 x2))))))/\
((ln a1)<=x2->
(true=(qhk a0 a1 a2 a3))/\
 True)))))
theorem q95 (a0:ZB) (a1:List Page) (a2:ZB) (a3:List Page):ku (qn XK (kb q50) (fun j ns=>match j,ns with | 0,[.i y0]=>qhx a0 a1 a2 a3 y0 | 1,[.i y0,.i y1]=>qhy a0 a1 a2 a3 y0 y1 | _,_=>False) (fun j ns=>match j,ns with | 0,[.i y0]=>qgz a0 a1 a2 a3 y0 | 1,[.i y0,.i y1]=>qg0 a0 a1 a2 a3 y0 y1 | _,_=>0)) {cfg sp with ann:=kr [(12,58,.inv 0 [.one 5 (.int .i64)] []),(12,7462,.inv 1 [.one 6 (.int .i64)] [.one 5 (.int .i64)])]} 3 12 [.agg [.str (a0),.list 8 (a1) none],.agg [.str (a2),.list 8 (a3) none]] (qv3 a0 a1 a2 a3)=qrm a0 a1 a2 a3:=by kernel_rfl
def q73:List (Nat×Ct KT):=[]
abbrev qxf (a0:List Sign):PV KT:=.list 4 ((a0)) (some (0,0))
abbrev q1c (a0:List Sign):Prop:=
(∀ x0:Bool,
((x0=true->
 a0=([]:List Sign))->
((x0=true->
(([]:List Sign)=(a0))/\
 True))/\
(x0=false->
(jg (List.length ([]:List Sign)+List.length a0))/\
((([]:List Sign)++a0)=(a0))/\
 True)))
theorem za1 (a0:List Sign):ku (qn XK (kb q73) (fun _ _=>False) (fun _ _=>0)) {cfg sp with ann:=kr []} 3 42 [.list 4 (a0) none] (qxf a0)=q1c a0:=by kernel_rfl
def zcm:List (Nat×Ct KT):=[(42,ziv)]
abbrev q23 (a0:List Sign) (a1:List Sign):PV KT:=.list 4 (((a0++a1))) (some (0,0))
abbrev q69 (a0:List Sign) (a1:List Sign):Prop:=
((ln a0<=10000000))/\
(jg (List.length (a0)+List.length a1))/\
(((a0)++a1)=((a0++a1)))/\
 True
theorem zgl (a0:List Sign) (a1:List Sign):ku (qn XK (kb zcm) (fun _ _=>False) (fun _ _=>0)) {cfg sp with ann:=kr []} 3 38 [.agg [.list 4 (a0) none,.list 4 (a1) none]] (q23 a0 a1)=q69 a0 a1:=by kernel_rfl
def q8l:List (Nat×Ct KT):=[]
abbrev qxn (a0:List Sign) (a1:List Sign) (a2:Int) (a3:Int) (a4:Int) (a5:Int) (a6:Bool) (a7:Int) (a8:Bool) (a9:Bool) (a10:Int) (a11:Int) (a12:Int) (a13:Int) (a14:Bool) (a15:Int) (a16:Int) (a17:Int) (a18:Int):PV KT:=.agg [.list 4 (((qao a0 a1 (Sign.mk a2 a3 a4 a5 a6 a7 a8 a9 a10 a11 a12 a13 a14 a15 a16 a17 a18)).1)) none,.list 4 (((qao a0 a1 (Sign.mk a2 a3 a4 a5 a6 a7 a8 a9 a10 a11 a12 a13 a14 a15 a16 a17 a18)).2)) none]
abbrev qt4 (a0:List Sign) (a1:List Sign) (a2:Int) (a3:Int) (a4:Int) (a5:Int) (a6:Bool) (a7:Int) (a8:Bool) (a9:Bool) (a10:Int) (a11:Int) (a12:Int) (a13:Int) (a14:Bool) (a15:Int) (a16:Int) (a17:Int) (a18:Int):Prop:=
 let l0_:=Sign.mk a2 a3 a4 a5 a6 a7 a8 a9 a10 a11 a12 a13 a14 a15 a16 a17 a18;
((a2=7->
(True)/\
([l0_]=((qao a0 a1 l0_).1))/\
(a1=((qao a0 a1 l0_).2))/\
 True))/\
(a2≠7->
((a2=8->
(True)/\
(a0=((qao a0 a1 l0_).1))/\
([l0_]=((qao a0 a1 l0_).2))/\
 True))/\
(a2≠8->
(a0=((qao a0 a1 l0_).1))/\
(a1=((qao a0 a1 l0_).2))/\
 True))
theorem zbp (a0:List Sign) (a1:List Sign) (a2:Int) (a3:Int) (a4:Int) (a5:Int) (a6:Bool) (a7:Int) (a8:Bool) (a9:Bool) (a10:Int) (a11:Int) (a12:Int) (a13:Int) (a14:Bool) (a15:Int) (a16:Int) (a17:Int) (a18:Int):ku (qn XK (kb q8l) (fun _ _=>False) (fun _ _=>0)) {cfg sp with ann:=kr []} 3 40 [.agg [.list 4 (a0) none,.list 4 (a1) none],.agg [.int .i64 none (a2),.int .i64 none (a3),.int .i64 none (a4),.int .i64 none (a5),.sb 0 false (a6) (a6=true) (a6=false),.int .i64 none (a7),.sb 0 false (a8) (a8=true) (a8=false),.sb 0 false (a9) (a9=true) (a9=false),.int .i64 none (a10),.int .i64 none (a11),.int .i64 none (a12),.int .i64 none (a13),.sb 0 false (a14) (a14=true) (a14=false),.int .i64 none (a15),.int .i64 none (a16),.int .i64 none (a17),.int .i64 none (a18)]] (qxn a0 a1 a2 a3 a4 a5 a6 a7 a8 a9 a10 a11 a12 a13 a14 a15 a16 a17 a18)=qt4 a0 a1 a2 a3 a4 a5 a6 a7 a8 a9 a10 a11 a12 a13 a14 a15 a16 a17 a18:=by kernel_rfl
def q41:List (Nat×Ct KT):=[]
abbrev quf (a0:List Sign):PV KT:=.tuple [.sb 0 false (((kk a0).1)) (((kk a0).1)=true) (((kk a0).1)=false),.int .i64 none (((kk a0).2))]
abbrev qxp (a0:List Sign):Prop:=
(qhv a0 0)/\
(∀ x0:Int,
(qhv a0 x0->
((x0<(ln a0)->
(Wn x0 (ln a0))/\
(((ix a0 x0).Kind=1->
(true=((kk a0).1))/\
(((ix a0 x0).Place:Int)=((kk a0).2))/\
 True))/\
((ix a0 x0).Kind≠1->
(((ix a0 x0).Kind=4->
(true=((kk a0).1))/\
(((ix a0 x0).Place:Int)=((kk a0).2))/\
 True))/\
((ix a0 x0).Kind≠4->
(I64 (x0+1))/\
(qhv a0 (x0+1))/\
 qgx a0 (x0+1)<qgx a0 x0))))/\
((ln a0)<=x0->
(false=((kk a0).1))/\
((0:Int)=((kk a0).2))/\
 True)))
theorem q8t (a0:List Sign):ku (qn XK (kb q41) (fun j ns=>match j,ns with | 0,[.i y0]=>qhv a0 y0 | _,_=>False) (fun j ns=>match j,ns with | 0,[.i y0]=>qgx a0 y0 | _,_=>0)) {cfg sp with ann:=kr [(41,26,.inv 0 [.one 8 (.int .i64)] [])]} 3 41 [.list 4 (a0) none] (quf a0)=qxp a0:=by kernel_rfl
def q74:List (Nat×Ct KT):=[]
abbrev qxg (a0:ZB):PV KT:=.sb 0 false ((kh a0)) ((kh a0)=true) ((kh a0)=false)
abbrev qtu (a0:ZB):Prop:=
(qaz a0 0)/\
(∀ x0:Int,
(qaz a0 x0->
((x0<(ln a0)->
(Wn x0 (ln a0))/\
((97<=(bx a0 x0)->
((122<(bx a0 x0)->
(Wn x0 (ln a0))/\
((48<=(bx a0 x0)->
((57<(bx a0 x0)->
(Wn x0 (ln a0))/\
(((bx a0 x0)≠45->
(false=(kh a0))/\
 True))/\
((bx a0 x0)=45->
(I64 (x0+1))/\
(qaz a0 (x0+1))/\
 z5 a0 (x0+1)<z5 a0 x0)))/\
((bx a0 x0)<=57->
(I64 (x0+1))/\
(qaz a0 (x0+1))/\
 z5 a0 (x0+1)<z5 a0 x0)))/\
((bx a0 x0)<48->
(Wn x0 (ln a0))/\
(((bx a0 x0)≠45->
(false=(kh a0))/\
 True))/\
((bx a0 x0)=45->
(I64 (x0+1))/\
(qaz a0 (x0+1))/\
 z5 a0 (x0+1)<z5 a0 x0))))/\
((bx a0 x0)<=122->
(I64 (x0+1))/\
(qaz a0 (x0+1))/\
 z5 a0 (x0+1)<z5 a0 x0)))/\
((bx a0 x0)<97->
(Wn x0 (ln a0))/\
((48<=(bx a0 x0)->
((57<(bx a0 x0)->
(Wn x0 (ln a0))/\
(((bx a0 x0)≠45->
(false=(kh a0))/\
 True))/\
((bx a0 x0)=45->
(I64 (x0+1))/\
(qaz a0 (x0+1))/\
 z5 a0 (x0+1)<z5 a0 x0)))/\
((bx a0 x0)<=57->
(I64 (x0+1))/\
(qaz a0 (x0+1))/\
 z5 a0 (x0+1)<z5 a0 x0)))/\
((bx a0 x0)<48->
(Wn x0 (ln a0))/\
(((bx a0 x0)≠45->
(false=(kh a0))/\
 True))/\
((bx a0 x0)=45->
(I64 (x0+1))/\
(qaz a0 (x0+1))/\
 z5 a0 (x0+1)<z5 a0 x0)))))/\
((ln a0)<=x0->
((a0≠([]:ZB)->
(((ln a0)<=20->
(Wn 0 (ln a0))/\
((97<=(bx a0 0)->
((decide ((bx a0 0)<=122))=(kh a0))/\
 True))/\
((bx a0 0)<97->
(false=(kh a0))/\
 True)))/\
(20<(ln a0)->
(false=(kh a0))/\
 True)))/\
(a0=([]:ZB)->
(false=(kh a0))/\
 True))))
theorem za5 (a0:ZB):ku (qn XK (kb q74) (fun j ns=>match j,ns with | 0,[.i y0]=>qaz a0 y0 | _,_=>False) (fun j ns=>match j,ns with | 0,[.i y0]=>z5 a0 y0 | _,_=>0)) {cfg sp with ann:=kr [(52,26,.inv 0 [.one 3 (.int .i64)] [])]} 3 52 [.str (a0)] (qxg a0)=qtu a0:=by kernel_rfl
def q09:List (Nat×Ct KT):=[]
abbrev qrw (a0:Int) (a1:Int) (a2:Int) (a3:Int):PV KT:=.int .i64 none ((qdm a0 a1 a2 a3))
abbrev qny (a0:Int) (a1:Int) (a2:Int) (a3:Int):Prop:=
(True)/\
(True)/\
(True)/\
(True)/\
(qc3 a0 a1 a2 a3 0)/\
(∀ x0:Int,
(qc3 a0 a1 a2 a3 x0->
((x0<(ln ([a0,a1,a2,a3]:List Int))->
(Wn x0 (ln ([a0,a1,a2,a3]:List Int)))/\
(((ix ([a0,a1,a2,a3]:List Int) x0)≠2->
(Wn x0 (ln ([a0,a1,a2,a3]:List Int)))/\
(((ix ([a0,a1,a2,a3]:List Int) x0)≠3->
((12:Int)=(qdm a0 a1 a2 a3))/\
 True))/\
((ix ([a0,a1,a2,a3]:List Int) x0)=3->
(I64 (x0+1))/\
((a0:Int)=a0)/\
((a1:Int)=a1)/\
((a2:Int)=a2)/\
((a3:Int)=a3)/\
(qc3 a0 a1 a2 a3 (x0+1))/\
 qcd a0 a1 a2 a3 (x0+1)<qcd a0 a1 a2 a3 x0)))/\
((ix ([a0,a1,a2,a3]:List Int) x0)=2->
(I64 (x0+1))/\
((a0:Int)=a0)/\
((a1:Int)=a1)/\
((a2:Int)=a2)/\
((a3:Int)=a3)/\
(qc3 a0 a1 a2 a3 (x0+1))/\
 qcd a0 a1 a2 a3 (x0+1)<qcd a0 a1 a2 a3 x0)))/\
((ln ([a0,a1,a2,a3]:List Int))<=x0->
((0:Int)=(qdm a0 a1 a2 a3))/\
 True)))
theorem q4d (a0:Int) (a1:Int) (a2:Int) (a3:Int):ku (qn XK (kb q09) (fun j ns=>match j,ns with | 0,[.i y0]=>qc3 a0 a1 a2 a3 y0 | _,_=>False) (fun j ns=>match j,ns with | 0,[.i y0]=>qcd a0 a1 a2 a3 y0 | _,_=>0)) {cfg sp with ann:=kr [(84,58,.inv 0 [.one 4 (.int .i64)] [])]} 3 84 [.agg [.int .i64 none (a0),.int .i64 none (a1),.int .i64 none (a2),.int .i64 none (a3)]] (qrw a0 a1 a2 a3)=qny a0 a1 a2 a3:=by kernel_rfl
def zea:List (Nat×Ct KT):=[]
abbrev q38 (a0:Int) (a1:Int) (a2:Int) (a3:Int) (a4:Bool) (a5:Int) (a6:Bool) (a7:Bool) (a8:Int) (a9:Int) (a10:Int) (a11:Int) (a12:Bool) (a13:Int) (a14:Int) (a15:Int) (a16:Int):PV KT:=.agg [.int .i64 none (((kg (Sign.mk a0 a1 a2 a3 a4 a5 a6 a7 a8 a9 a10 a11 a12 a13 a14 a15 a16)).Kind)),.int .i64 none (((kg (Sign.mk a0 a1 a2 a3 a4 a5 a6 a7 a8 a9 a10 a11 a12 a13 a14 a15 a16)).Value)),.int .i64 none (((kg (Sign.mk a0 a1 a2 a3 a4 a5 a6 a7 a8 a9 a10 a11 a12 a13 a14 a15 a16)).Place)),.int .i64 none (((kg (Sign.mk a0 a1 a2 a3 a4 a5 a6 a7 a8 a9 a10 a11 a12 a13 a14 a15 a16)).Acc)),.sb 0 false (((kg (Sign.mk a0 a1 a2 a3 a4 a5 a6 a7 a8 a9 a10 a11 a12 a13 a14 a15 a16)).Color)) (((kg (Sign.mk a0 a1 a2 a3 a4 a5 a6 a7 a8 a9 a10 a11 a12 a13 a14 a15 a16)).Color)=true) (((kg (Sign.mk a0 a1 a2 a3 a4 a5 a6 a7 a8 a9 a10 a11 a12 a13 a14 a15 a16)).Color)=false),.int .i64 none (((kg (Sign.mk a0 a1 a2 a3 a4 a5 a6 a7 a8 a9 a10 a11 a12 a13 a14 a15 a16)).Stem)),.sb 0 false (((kg (Sign.mk a0 a1 a2 a3 a4 a5 a6 a7 a8 a9 a10 a11 a12 a13 a14 a15 a16)).Oblique)) (((kg (Sign.mk a0 a1 a2 a3 a4 a5 a6 a7 a8 a9 a10 a11 a12 a13 a14 a15 a16)).Oblique)=true) (((kg (Sign.mk a0 a1 a2 a3 a4 a5 a6 a7 a8 a9 a10 a11 a12 a13 a14 a15 a16)).Oblique)=false),.sb 0 false (((kg (Sign.mk a0 a1 a2 a3 a4 a5 a6 a7 a8 a9 a10 a11 a12 a13 a14 a15 a16)).Last)) (((kg (Sign.mk a0 a1 a2 a3 a4 a5 a6 a7 a8 a9 a10 a11 a12 a13 a14 a15 a16)).Last)=true) (((kg (Sign.mk a0 a1 a2 a3 a4 a5 a6 a7 a8 a9 a10 a11 a12 a13 a14 a15 a16)).Last)=false),.int .i64 none (((kg (Sign.mk a0 a1 a2 a3 a4 a5 a6 a7 a8 a9 a10 a11 a12 a13 a14 a15 a16)).MensMax)),.int .i64 none (((kg (Sign.mk a0 a1 a2 a3 a4 a5 a6 a7 a8 a9 a10 a11 a12 a13 a14 a15 a16)).MensMod)),.int .i64 none (((kg (Sign.mk a0 a1 a2 a3 a4 a5 a6 a7 a8 a9 a10 a11 a12 a13 a14 a15 a16)).MensTem)),.int .i64 none (((kg (Sign.mk a0 a1 a2 a3 a4 a5 a6 a7 a8 a9 a10 a11 a12 a13 a14 a15 a16)).MensPro)),.sb 0 false (((kg (Sign.mk a0 a1 a2 a3 a4 a5 a6 a7 a8 a9 a10 a11 a12 a13 a14 a15 a16)).Stroke)) (((kg (Sign.mk a0 a1 a2 a3 a4 a5 a6 a7 a8 a9 a10 a11 a12 a13 a14 a15 a16)).Stroke)=true) (((kg (Sign.mk a0 a1 a2 a3 a4 a5 a6 a7 a8 a9 a10 a11 a12 a13 a14 a15 a16)).Stroke)=false),.int .i64 none (((kg (Sign.mk a0 a1 a2 a3 a4 a5 a6 a7 a8 a9 a10 a11 a12 a13 a14 a15 a16)).N)),.int .i64 none (((kg (Sign.mk a0 a1 a2 a3 a4 a5 a6 a7 a8 a9 a10 a11 a12 a13 a14 a15 a16)).D)),.int .i64 none (((kg (Sign.mk a0 a1 a2 a3 a4 a5 a6 a7 a8 a9 a10 a11 a12 a13 a14 a15 a16)).ClefStep)),.int .i64 none (((kg (Sign.mk a0 a1 a2 a3 a4 a5 a6 a7 a8 a9 a10 a11 a12 a13 a14 a15 a16)).ClefLine))]
abbrev q03 (a0:Int) (a1:Int) (a2:Int) (a3:Int) (a4:Bool) (a5:Int) (a6:Bool) (a7:Bool) (a8:Int) (a9:Int) (a10:Int) (a11:Int) (a12:Bool) (a13:Int) (a14:Int) (a15:Int) (a16:Int):Prop:=
 let l0_:=kg (Sign.mk a0 a1 a2 a3 a4 a5 a6 a7 a8 a9 a10 a11 a12 a13 a14 a15 a16);
((a0=1->
((a0:Int)=(l0_.Kind))/\
((a1:Int)=(l0_.Value))/\
((a2:Int)=(l0_.Place))/\
((a3:Int)=(l0_.Acc))/\
(a4=(l0_.Color))/\
((0:Int)=(l0_.Stem))/\
(false=(l0_.Oblique))/\
(false=(l0_.Last))/\
((0:Int)=(l0_.MensMax))/\
((0:Int)=(l0_.MensMod))/\
((0:Int)=(l0_.MensTem))/\
((0:Int)=(l0_.MensPro))/\
(false=(l0_.Stroke))/\
((0:Int)=(l0_.N))/\
((0:Int)=(l0_.D))/\
((0:Int)=(l0_.ClefStep))/\
((0:Int)=(l0_.ClefLine))/\
 True))/\
(a0≠1->
((a0=2->
((a0:Int)=(l0_.Kind))/\
((a1:Int)=(l0_.Value))/\
((0:Int)=(l0_.Place))/\
((0:Int)=(l0_.Acc))/\
(false=(l0_.Color))/\
((0:Int)=(l0_.Stem))/\
(false=(l0_.Oblique))/\
(false=(l0_.Last))/\
((0:Int)=(l0_.MensMax))/\
((0:Int)=(l0_.MensMod))/\
((0:Int)=(l0_.MensTem))/\
((0:Int)=(l0_.MensPro))/\
(false=(l0_.Stroke))/\
((0:Int)=(l0_.N))/\
((0:Int)=(l0_.D))/\
((0:Int)=(l0_.ClefStep))/\
((0:Int)=(l0_.ClefLine))/\
 True))/\
(a0≠2->
((a0=4->
((a0:Int)=(l0_.Kind))/\
((0:Int)=(l0_.Value))/\
((a2:Int)=(l0_.Place))/\
((a3:Int)=(l0_.Acc))/\
(a4=(l0_.Color))/\
((a5:Int)=(l0_.Stem))/\
(a6=(l0_.Oblique))/\
(a7=(l0_.Last))/\
((0:Int)=(l0_.MensMax))/\
((0:Int)=(l0_.MensMod))/\
((0:Int)=(l0_.MensTem))/\
((0:Int)=(l0_.MensPro))/\
(false=(l0_.Stroke))/\
((0:Int)=(l0_.N))/\
((0:Int)=(l0_.D))/\
((0:Int)=(l0_.ClefStep))/\
((0:Int)=(l0_.ClefLine))/\
 True))/\
(a0≠4->
((a0=5->
((a0:Int)=(l0_.Kind))/\
((0:Int)=(l0_.Value))/\
((0:Int)=(l0_.Place))/\
((0:Int)=(l0_.Acc))/\
(false=(l0_.Color))/\
((0:Int)=(l0_.Stem))/\
(false=(l0_.Oblique))/\
(false=(l0_.Last))/\
((a8:Int)=(l0_.MensMax))/\
((a9:Int)=(l0_.MensMod))/\
((a10:Int)=(l0_.MensTem))/\
((a11:Int)=(l0_.MensPro))/\
(a12=(l0_.Stroke))/\
((0:Int)=(l0_.N))/\
((0:Int)=(l0_.D))/\
((0:Int)=(l0_.ClefStep))/\
((0:Int)=(l0_.ClefLine))/\
 True))/\
(a0≠5->
((a0=6->
((a0:Int)=(l0_.Kind))/\
((0:Int)=(l0_.Value))/\
((0:Int)=(l0_.Place))/\
((0:Int)=(l0_.Acc))/\
(false=(l0_.Color))/\
((0:Int)=(l0_.Stem))/\
(false=(l0_.Oblique))/\
(false=(l0_.Last))/\
((0:Int)=(l0_.MensMax))/\
((0:Int)=(l0_.MensMod))/\
((0:Int)=(l0_.MensTem))/\
((0:Int)=(l0_.MensPro))/\
(false=(l0_.Stroke))/\
((a13:Int)=(l0_.N))/\
((a14:Int)=(l0_.D))/\
((0:Int)=(l0_.ClefStep))/\
((0:Int)=(l0_.ClefLine))/\
 True))/\
(a0≠6->
((a0=7->
((a0:Int)=(l0_.Kind))/\
((0:Int)=(l0_.Value))/\
((0:Int)=(l0_.Place))/\
((0:Int)=(l0_.Acc))/\
(false=(l0_.Color))/\
((0:Int)=(l0_.Stem))/\
(false=(l0_.Oblique))/\
(false=(l0_.Last))/\
((0:Int)=(l0_.MensMax))/\
((0:Int)=(l0_.MensMod))/\
((0:Int)=(l0_.MensTem))/\
((0:Int)=(l0_.MensPro))/\
(false=(l0_.Stroke))/\
((0:Int)=(l0_.N))/\
((0:Int)=(l0_.D))/\
((a15:Int)=(l0_.ClefStep))/\
((a16:Int)=(l0_.ClefLine))/\
 True))/\
(a0≠7->
((a0=8->
((a0:Int)=(l0_.Kind))/\
((0:Int)=(l0_.Value))/\
((0:Int)=(l0_.Place))/\
((0:Int)=(l0_.Acc))/\
(false=(l0_.Color))/\
((0:Int)=(l0_.Stem))/\
(false=(l0_.Oblique))/\
(false=(l0_.Last))/\
((0:Int)=(l0_.MensMax))/\
((0:Int)=(l0_.MensMod))/\
((0:Int)=(l0_.MensTem))/\
((0:Int)=(l0_.MensPro))/\
(false=(l0_.Stroke))/\
((a13:Int)=(l0_.N))/\
((0:Int)=(l0_.D))/\
((0:Int)=(l0_.ClefStep))/\
((0:Int)=(l0_.ClefLine))/\
 True))/\
(a0≠8->
((a0=10->
((a0:Int)=(l0_.Kind))/\
((0:Int)=(l0_.Value))/\
((0:Int)=(l0_.Place))/\
((0:Int)=(l0_.Acc))/\
(false=(l0_.Color))/\
((0:Int)=(l0_.Stem))/\
(false=(l0_.Oblique))/\
(false=(l0_.Last))/\
((0:Int)=(l0_.MensMax))/\
((0:Int)=(l0_.MensMod))/\
((0:Int)=(l0_.MensTem))/\
((0:Int)=(l0_.MensPro))/\
(false=(l0_.Stroke))/\
((a13:Int)=(l0_.N))/\
((0:Int)=(l0_.D))/\
((0:Int)=(l0_.ClefStep))/\
((0:Int)=(l0_.ClefLine))/\
 True))/\
(a0≠10->
((a0:Int)=(l0_.Kind))/\
((0:Int)=(l0_.Value))/\
((0:Int)=(l0_.Place))/\
((0:Int)=(l0_.Acc))/\
(false=(l0_.Color))/\
((0:Int)=(l0_.Stem))/\
(false=(l0_.Oblique))/\
(false=(l0_.Last))/\
((0:Int)=(l0_.MensMax))/\
((0:Int)=(l0_.MensMod))/\
((0:Int)=(l0_.MensTem))/\
((0:Int)=(l0_.MensPro))/\
(false=(l0_.Stroke))/\
((0:Int)=(l0_.N))/\
((0:Int)=(l0_.D))/\
((0:Int)=(l0_.ClefStep))/\
((0:Int)=(l0_.ClefLine))/\
 True))))))))
theorem zhk (a0:Int) (a1:Int) (a2:Int) (a3:Int) (a4:Bool) (a5:Int) (a6:Bool) (a7:Bool) (a8:Int) (a9:Int) (a10:Int) (a11:Int) (a12:Bool) (a13:Int) (a14:Int) (a15:Int) (a16:Int):ku (qn XK (kb zea) (fun _ _=>False) (fun _ _=>0)) {cfg sp with ann:=kr []} 3 83 [.agg [.int .i64 none (a0),.int .i64 none (a1),.int .i64 none (a2),.int .i64 none (a3),.sb 0 false (a4) (a4=true) (a4=false),.int .i64 none (a5),.sb 0 false (a6) (a6=true) (a6=false),.sb 0 false (a7) (a7=true) (a7=false),.int .i64 none (a8),.int .i64 none (a9),.int .i64 none (a10),.int .i64 none (a11),.sb 0 false (a12) (a12=true) (a12=false),.int .i64 none (a13),.int .i64 none (a14),.int .i64 none (a15),.int .i64 none (a16)]] (q38 a0 a1 a2 a3 a4 a5 a6 a7 a8 a9 a10 a11 a12 a13 a14 a15 a16)=q03 a0 a1 a2 a3 a4 a5 a6 a7 a8 a9 a10 a11 a12 a13 a14 a15 a16:=by kernel_rfl
def q5y:List (Nat×Ct KT):=[]
abbrev qvw (a0:Int) (a1:Int) (a2:Int) (a3:Int) (a4:Bool) (a5:Int) (a6:Bool) (a7:Bool) (a8:Int) (a9:Int) (a10:Int) (a11:Int) (a12:Bool) (a13:Int) (a14:Int) (a15:Int) (a16:Int):PV KT:=.sb 0 false ((decide (qd4 (Sign.mk a0 a1 a2 a3 a4 a5 a6 a7 a8 a9 a10 a11 a12 a13 a14 a15 a16)))) ((decide (qd4 (Sign.mk a0 a1 a2 a3 a4 a5 a6 a7 a8 a9 a10 a11 a12 a13 a14 a15 a16)))=true) ((decide (qd4 (Sign.mk a0 a1 a2 a3 a4 a5 a6 a7 a8 a9 a10 a11 a12 a13 a14 a15 a16)))=false)
abbrev qrj (a0:Int) (a1:Int) (a2:Int) (a3:Int) (a4:Bool) (a5:Int) (a6:Bool) (a7:Bool) (a8:Int) (a9:Int) (a10:Int) (a11:Int) (a12:Bool) (a13:Int) (a14:Int) (a15:Int) (a16:Int):Prop:=
 let l0_:=decide (qd4 (Sign.mk a0 a1 a2 a3 a4 a5 a6 a7 a8 a9 a10 a11 a12 a13 a14 a15 a16));
((a0=1->
((1<=a1->
((a1<=8->
(((-4)<=a2->
((a2<=12->
(((-1)<=a3->
((decide (a3<=2))=l0_)/\
 True))/\
(a3<(-1)->
(false=l0_)/\
 True)))/\
(12<a2->
(false=l0_)/\
 True)))/\
(a2<(-4)->
(false=l0_)/\
 True)))/\
(8<a1->
(false=l0_)/\
 True)))/\
(a1<1->
(false=l0_)/\
 True)))/\
(a0≠1->
((a0=2->
((1<=a1->
((decide (a1<=8))=l0_)/\
 True))/\
(a1<1->
(false=l0_)/\
 True)))/\
(a0≠2->
((a0=4->
(((-4)<=a2->
((a2<=12->
(((-1)<=a3->
((a3<=2->
((0<=a5->
((decide (a5<=3))=l0_)/\
 True))/\
(a5<0->
(false=l0_)/\
 True)))/\
(2<a3->
(false=l0_)/\
 True)))/\
(a3<(-1)->
(false=l0_)/\
 True)))/\
(12<a2->
(false=l0_)/\
 True)))/\
(a2<(-4)->
(false=l0_)/\
 True)))/\
(a0≠4->
((a0=6->
((1<=a13->
((a13<=100->
((1<=a14->
((decide (a14<=100))=l0_)/\
 True))/\
(a14<1->
(false=l0_)/\
 True)))/\
(100<a13->
(false=l0_)/\
 True)))/\
(a13<1->
(false=l0_)/\
 True)))/\
(a0≠6->
((a0=7->
((a15=0->
((1<=a16->
((decide (a16<=5))=l0_)/\
 True))/\
(a16<1->
(false=l0_)/\
 True)))/\
(a15≠0->
((a15=3->
((1<=a16->
((decide (a16<=5))=l0_)/\
 True))/\
(a16<1->
(false=l0_)/\
 True)))/\
(a15≠3->
((a15=4->
((1<=a16->
((decide (a16<=5))=l0_)/\
 True))/\
(a16<1->
(false=l0_)/\
 True)))/\
(a15≠4->
(false=l0_)/\
 True)))))/\
(a0≠7->
((a0=8->
((0<=a13->
((decide (a13<=2))=l0_)/\
 True))/\
(a13<0->
(false=l0_)/\
 True)))/\
(a0≠8->
((a0=10->
((2<=a13->
((decide (a13<=4))=l0_)/\
 True))/\
(a13<2->
(false=l0_)/\
 True)))/\
(a0≠10->
(true=l0_)/\
 True)))))))
theorem q9y (a0:Int) (a1:Int) (a2:Int) (a3:Int) (a4:Bool) (a5:Int) (a6:Bool) (a7:Bool) (a8:Int) (a9:Int) (a10:Int) (a11:Int) (a12:Bool) (a13:Int) (a14:Int) (a15:Int) (a16:Int):ku (qn XK (kb q5y) (fun _ _=>False) (fun _ _=>0)) {cfg sp with ann:=kr []} 3 85 [.agg [.int .i64 none (a0),.int .i64 none (a1),.int .i64 none (a2),.int .i64 none (a3),.sb 0 false (a4) (a4=true) (a4=false),.int .i64 none (a5),.sb 0 false (a6) (a6=true) (a6=false),.sb 0 false (a7) (a7=true) (a7=false),.int .i64 none (a8),.int .i64 none (a9),.int .i64 none (a10),.int .i64 none (a11),.sb 0 false (a12) (a12=true) (a12=false),.int .i64 none (a13),.int .i64 none (a14),.int .i64 none (a15),.int .i64 none (a16)]] (qvw a0 a1 a2 a3 a4 a5 a6 a7 a8 a9 a10 a11 a12 a13 a14 a15 a16)=qrj a0 a1 a2 a3 a4 a5 a6 a7 a8 a9 a10 a11 a12 a13 a14 a15 a16:=by kernel_rfl
def za9:List (Nat×Ct KT):=[(83,zjb),(84,zjc),(85,zjd)]
abbrev q1e (a0:Int) (a1:Int) (a2:Int) (a3:Int) (a4:Bool) (a5:Int) (a6:Bool) (a7:Bool) (a8:Int) (a9:Int) (a10:Int) (a11:Int) (a12:Bool) (a13:Int) (a14:Int) (a15:Int) (a16:Int):PV KT:=.int .i64 none ((qgb (Sign.mk a0 a1 a2 a3 a4 a5 a6 a7 a8 a9 a10 a11 a12 a13 a14 a15 a16)))
abbrev qy5 (a0:Int) (a1:Int) (a2:Int) (a3:Int) (a4:Bool) (a5:Int) (a6:Bool) (a7:Bool) (a8:Int) (a9:Int) (a10:Int) (a11:Int) (a12:Bool) (a13:Int) (a14:Int) (a15:Int) (a16:Int):Prop:=
 let l0_:=Sign.mk a0 a1 a2 a3 a4 a5 a6 a7 a8 a9 a10 a11 a12 a13 a14 a15 a16;
 let l1_:=kg l0_;
((a0<1->
((8:Int)=(qgb l0_))/\
 True))/\
(1<=a0->
((12<a0->
((8:Int)=(qgb l0_))/\
 True))/\
(a0<=12->
(True)/\
((((l1_.Kind)≠a0∨((l1_.Value)≠a1∨((l1_.Place)≠a2∨((l1_.Acc)≠a3∨((l1_.Color)≠a4∨((l1_.Stem)≠a5∨((l1_.Oblique)≠a6∨((l1_.Last)≠a7∨((l1_.MensMax)≠a8∨((l1_.MensMod)≠a9∨((l1_.MensTem)≠a10∨((l1_.MensPro)≠a11∨((l1_.Stroke)≠a12∨((l1_.N)≠a13∨((l1_.D)≠a14∨((l1_.ClefStep)≠a15∨(l1_.ClefLine)≠a16))))))))))))))))->
((3:Int)=(qgb l0_))/\
 True))/\
(((l1_.Kind)=a0/\((l1_.Value)=a1/\((l1_.Place)=a2/\((l1_.Acc)=a3/\((l1_.Color)=a4/\((l1_.Stem)=a5/\((l1_.Oblique)=a6/\((l1_.Last)=a7/\((l1_.MensMax)=a8/\((l1_.MensMod)=a9/\((l1_.MensTem)=a10/\((l1_.MensPro)=a11/\((l1_.Stroke)=a12/\((l1_.N)=a13/\((l1_.D)=a14/\((l1_.ClefStep)=a15/\(l1_.ClefLine)=a16))))))))))))))))->
((a0=5->
(True)/\
(((qdm a8 a9 a10 a11)≠0->
((12:Int)=(qgb l0_))/\
 True))/\
((qdm a8 a9 a10 a11)=0->
(True)/\
(((decide (qd4 l0_))=false->
((2:Int)=(qgb l0_))/\
 True))/\
((decide (qd4 l0_))=true->
((a6=true->
((a7=true->
((3:Int)=(qgb l0_))/\
 True))/\
(a7=false->
((0:Int)=(qgb l0_))/\
 True)))/\
(a6=false->
((0:Int)=(qgb l0_))/\
 True)))))/\
(a0≠5->
(True)/\
(((decide (qd4 l0_))=false->
((2:Int)=(qgb l0_))/\
 True))/\
((decide (qd4 l0_))=true->
((a6=true->
((a7=true->
((3:Int)=(qgb l0_))/\
 True))/\
(a7=false->
((0:Int)=(qgb l0_))/\
 True)))/\
(a6=false->
((0:Int)=(qgb l0_))/\
 True))))))
theorem zes (a0:Int) (a1:Int) (a2:Int) (a3:Int) (a4:Bool) (a5:Int) (a6:Bool) (a7:Bool) (a8:Int) (a9:Int) (a10:Int) (a11:Int) (a12:Bool) (a13:Int) (a14:Int) (a15:Int) (a16:Int):ku (qn XK (kb za9) (fun _ _=>False) (fun _ _=>0)) {cfg sp with ann:=kr []} 6 63 [.agg [.int .i64 none (a0),.int .i64 none (a1),.int .i64 none (a2),.int .i64 none (a3),.sb 0 false (a4) (a4=true) (a4=false),.int .i64 none (a5),.sb 0 false (a6) (a6=true) (a6=false),.sb 0 false (a7) (a7=true) (a7=false),.int .i64 none (a8),.int .i64 none (a9),.int .i64 none (a10),.int .i64 none (a11),.sb 0 false (a12) (a12=true) (a12=false),.int .i64 none (a13),.int .i64 none (a14),.int .i64 none (a15),.int .i64 none (a16)]] (q1e a0 a1 a2 a3 a4 a5 a6 a7 a8 a9 a10 a11 a12 a13 a14 a15 a16)=qy5 a0 a1 a2 a3 a4 a5 a6 a7 a8 a9 a10 a11 a12 a13 a14 a15 a16:=by kernel_rfl
def q1a:List (Nat×Ct KT):=[(52,zfx),(63,zi7)]
abbrev qrx (a0:ZB) (a1:List Sign):PV KT:=.tuple [.int .i64 none (((ze a0 a1).1)),.int .i64 none (((ze a0 a1).2))]
abbrev qnz (a0:ZB) (a1:List Sign):Prop:=
 let l0_:=ze a0 a1;
((ln a0<=9223372036854775806))/\
(((kh a0)=false->
((7:Int)=(l0_.1))/\
((0:Int)=(l0_.2))/\
 True))/\
((kh a0)=true->
((400<(ln a1)->
((11:Int)=(l0_.1))/\
((0:Int)=(l0_.2))/\
 True))/\
((ln a1)<=400->
(jo a0 a1 0)/\
(∀ x2:Int,
(jo a0 a1 x2->
((x2<(ln a1)->
(Wn x2 (ln a1))/\
(True)/\
(((qgb (ix a1 x2))≠0->
(((qgb (ix a1 x2)):Int)=(l0_.1))/\
((x2:Int)=(l0_.2))/\
 True))/\
((qgb (ix a1 x2))=0->
(((ix a1 x2).Kind≠4->
(I64 (x2+1))/\
(a0=a0)/\
(a1=a1)/\
(jo a0 a1 (x2+1))/\
 zl a0 a1 (x2+1)<zl a0 a1 x2))/\
((ix a1 x2).Kind=4->
(I64 (x2-1))/\
((0<=(x2-1)->
(((x2-1)<(ln a1)->
(Wn (x2-1) (ln a1))/\
(((ix a1 (x2-1)).Kind≠4->
(((ix a1 x2).Last=true->
((3:Int)=(l0_.1))/\
((x2:Int)=(l0_.2))/\
 True))/\
((ix a1 x2).Last=false->
(I64 (x2+1))/\
((0<=(x2+1)->
(((x2+1)<(ln a1)->
(Wn (x2+1) (ln a1))/\
(((ix a1 (x2+1)).Kind≠4->
((3:Int)=(l0_.1))/\
((x2:Int)=(l0_.2))/\
 True))/\
((ix a1 (x2+1)).Kind=4->
(I64 (x2+1))/\
(a0=a0)/\
(a1=a1)/\
(jo a0 a1 (x2+1))/\
 zl a0 a1 (x2+1)<zl a0 a1 x2)))/\
((ln a1)<=(x2+1)->
((3:Int)=(l0_.1))/\
((x2:Int)=(l0_.2))/\
 True)))/\
((x2+1)<0->
((3:Int)=(l0_.1))/\
((x2:Int)=(l0_.2))/\
 True))))/\
((ix a1 (x2-1)).Kind=4->
(I64 (x2-1))/\
(Wn (x2-1) (ln a1))/\
(((ix a1 (x2-1)).Last=true->
(((ix a1 x2).Last=true->
((3:Int)=(l0_.1))/\
((x2:Int)=(l0_.2))/\
 True))/\
((ix a1 x2).Last=false->
(I64 (x2+1))/\
((0<=(x2+1)->
(((x2+1)<(ln a1)->
(Wn (x2+1) (ln a1))/\
(((ix a1 (x2+1)).Kind≠4->
((3:Int)=(l0_.1))/\
((x2:Int)=(l0_.2))/\
 True))/\
((ix a1 (x2+1)).Kind=4->
(I64 (x2+1))/\
(a0=a0)/\
(a1=a1)/\
(jo a0 a1 (x2+1))/\
 zl a0 a1 (x2+1)<zl a0 a1 x2)))/\
((ln a1)<=(x2+1)->
((3:Int)=(l0_.1))/\
((x2:Int)=(l0_.2))/\
 True)))/\
((x2+1)<0->
((3:Int)=(l0_.1))/\
((x2:Int)=(l0_.2))/\
 True))))/\
((ix a1 (x2-1)).Last=false->
(((ix a1 x2).Last=false->
(I64 (x2+1))/\
((0<=(x2+1)->
(((x2+1)<(ln a1)->
(Wn (x2+1) (ln a1))/\
(((ix a1 (x2+1)).Kind≠4->
((3:Int)=(l0_.1))/\
((x2:Int)=(l0_.2))/\
 True))/\
((ix a1 (x2+1)).Kind=4->
(I64 (x2+1))/\
(a0=a0)/\
(a1=a1)/\
(jo a0 a1 (x2+1))/\
 zl a0 a1 (x2+1)<zl a0 a1 x2)))/\
((ln a1)<=(x2+1)->
((3:Int)=(l0_.1))/\
((x2:Int)=(l0_.2))/\
 True)))/\
((x2+1)<0->
((3:Int)=(l0_.1))/\
((x2:Int)=(l0_.2))/\
 True)))/\
((ix a1 x2).Last=true->
(I64 (x2+1))/\
(a0=a0)/\
(a1=a1)/\
(jo a0 a1 (x2+1))/\
 zl a0 a1 (x2+1)<zl a0 a1 x2)))))/\
((ln a1)<=(x2-1)->
(((ix a1 x2).Last=true->
((3:Int)=(l0_.1))/\
((x2:Int)=(l0_.2))/\
 True))/\
((ix a1 x2).Last=false->
(I64 (x2+1))/\
((0<=(x2+1)->
(((x2+1)<(ln a1)->
(Wn (x2+1) (ln a1))/\
(((ix a1 (x2+1)).Kind≠4->
((3:Int)=(l0_.1))/\
((x2:Int)=(l0_.2))/\
 True))/\
((ix a1 (x2+1)).Kind=4->
(I64 (x2+1))/\
(a0=a0)/\
(a1=a1)/\
(jo a0 a1 (x2+1))/\
 zl a0 a1 (x2+1)<zl a0 a1 x2)))/\
((ln a1)<=(x2+1)->
((3:Int)=(l0_.1))/\
((x2:Int)=(l0_.2))/\
 True)))/\
((x2+1)<0->
((3:Int)=(l0_.1))/\
((x2:Int)=(l0_.2))/\
 True)))))/\
((x2-1)<0->
(((ix a1 x2).Last=true->
((3:Int)=(l0_.1))/\
((x2:Int)=(l0_.2))/\
 True))/\
((ix a1 x2).Last=false->
(I64 (x2+1))/\
((0<=(x2+1)->
(((x2+1)<(ln a1)->
(Wn (x2+1) (ln a1))/\
(((ix a1 (x2+1)).Kind≠4->
((3:Int)=(l0_.1))/\
((x2:Int)=(l0_.2))/\
 True))/\
((ix a1 (x2+1)).Kind=4->
(I64 (x2+1))/\
(a0=a0)/\
(a1=a1)/\
(jo a0 a1 (x2+1))/\
 zl a0 a1 (x2+1)<zl a0 a1 x2)))/\
((ln a1)<=(x2+1)->
((3:Int)=(l0_.1))/\
((x2:Int)=(l0_.2))/\
 True)))/\
((x2+1)<0->
((3:Int)=(l0_.1))/\
((x2:Int)=(l0_.2))/\
 True)))))))/\
((ln a1)<=x2->
((0:Int)=(l0_.1))/\
((0:Int)=(l0_.2))/\
 True)))))
theorem q4i (a0:ZB) (a1:List Sign):ku (qn XK (kb q1a) (fun j ns=>match j,ns with | 0,[.i y0]=>jo a0 a1 y0 | _,_=>False) (fun j ns=>match j,ns with | 0,[.i y0]=>zl a0 a1 y0 | _,_=>0)) {cfg sp with ann:=kr [(43,122,.inv 0 [.one 4 (.int .i64)] [])]} 3 43 [.agg [.str (a0),.list 4 (a1) none]] (qrx a0 a1)=qnz a0 a1:=by kernel_rfl
def qy7:List (Nat×Ct KT):=[]
abbrev qoz (a0:List Sign):PV KT:=.list 4 ((a0)) none
abbrev qr1 (a0:List Sign):Prop:=
(jg (List.length ([]:List Sign)+List.length a0))/\
((([]:List Sign)++a0)=(a0))/\
 True
theorem q1i (a0:List Sign):ku (qn XK (kb qy7) (fun _ _=>False) (fun _ _=>0)) {cfg sp with ann:=kr []} 3 33 [.list 4 (a0) none] (qoz a0)=qr1 a0:=by kernel_rfl
def q2u:List (Nat×Ct KT):=[]
abbrev qsf (a0:List Sign):PV KT:=.list 10 ((zw a0)) none
abbrev qoe (a0:List Sign):Prop:=
(zt a0 ([]:List Group) 0)/\
(∀ x0:List Group,
(∀ x1:Int,
(zt a0 x0 x1->
((x1<(ln a0)->
(I64 (x1+1))/\
(Wn x1 (ln a0))/\
(((ix a0 x1).Kind=4->
(qee a0 (x1+1) x1)/\
(∀ x5:Int,
 let l1_:=List.length x0+List.length [(Group.mk x1 x5)];
 let l0_:=x0++[(Group.mk x1 x5)];
(qee a0 x5 x1->
((x5<(ln a0)->
(I64 (x5-1))/\
(Wn (x5-1) (ln a0))/\
(((ix a0 (x5-1)).Kind=4->
(I64 (x5-1))/\
(Wn (x5-1) (ln a0))/\
(((ix a0 (x5-1)).Last=false->
(I64 (x5+1))/\
(qee a0 (x5+1) x1)/\
 qfo a0 (x5+1) x1<qfo a0 x5 x1))/\
((ix a0 (x5-1)).Last=true->
((x5<(ln a0)->
(Wn x5 (ln a0))/\
(((ix a0 x5).Kind=3->
(I64 (x5+1))/\
(True)/\
(jg (List.length x0+List.length [(Group.mk x1 (x5+1))]))/\
(zt a0 (x0++[(Group.mk x1 (x5+1))]) (x5+1))/\
 qx a0 (x0++[(Group.mk x1 (x5+1))]) (x5+1)<qx a0 x0 x1))/\
((ix a0 x5).Kind≠3->
(True)/\
(jg l1_)/\
(zt a0 l0_ x5)/\
 qx a0 l0_ x5<qx a0 x0 x1)))/\
((ln a0)<=x5->
(True)/\
(jg l1_)/\
(zt a0 l0_ x5)/\
 qx a0 l0_ x5<qx a0 x0 x1))))/\
((ix a0 (x5-1)).Kind≠4->
((x5<(ln a0)->
(Wn x5 (ln a0))/\
(((ix a0 x5).Kind=3->
(I64 (x5+1))/\
(True)/\
(jg (List.length x0+List.length [(Group.mk x1 (x5+1))]))/\
(zt a0 (x0++[(Group.mk x1 (x5+1))]) (x5+1))/\
 qx a0 (x0++[(Group.mk x1 (x5+1))]) (x5+1)<qx a0 x0 x1))/\
((ix a0 x5).Kind≠3->
(True)/\
(jg l1_)/\
(zt a0 l0_ x5)/\
 qx a0 l0_ x5<qx a0 x0 x1)))/\
((ln a0)<=x5->
(True)/\
(jg l1_)/\
(zt a0 l0_ x5)/\
 qx a0 l0_ x5<qx a0 x0 x1))))/\
((ln a0)<=x5->
((x5<(ln a0)->
(Wn x5 (ln a0))/\
(((ix a0 x5).Kind=3->
(I64 (x5+1))/\
(True)/\
(jg (List.length x0+List.length [(Group.mk x1 (x5+1))]))/\
(zt a0 (x0++[(Group.mk x1 (x5+1))]) (x5+1))/\
 qx a0 (x0++[(Group.mk x1 (x5+1))]) (x5+1)<qx a0 x0 x1))/\
((ix a0 x5).Kind≠3->
(True)/\
(jg l1_)/\
(zt a0 l0_ x5)/\
 qx a0 l0_ x5<qx a0 x0 x1)))/\
((ln a0)<=x5->
(True)/\
(jg l1_)/\
(zt a0 l0_ x5)/\
 qx a0 l0_ x5<qx a0 x0 x1))))))/\
((ix a0 x1).Kind≠4->
(((x1+1)<(ln a0)->
(Wn (x1+1) (ln a0))/\
(((ix a0 (x1+1)).Kind=3->
(I64 ((x1+1)+1))/\
(True)/\
(jg (List.length x0+List.length [(Group.mk x1 ((x1+1)+1))]))/\
(zt a0 (x0++[(Group.mk x1 ((x1+1)+1))]) ((x1+1)+1))/\
 qx a0 (x0++[(Group.mk x1 ((x1+1)+1))]) ((x1+1)+1)<qx a0 x0 x1))/\
((ix a0 (x1+1)).Kind≠3->
(True)/\
(jg (List.length x0+List.length [(Group.mk x1 (x1+1))]))/\
(zt a0 (x0++[(Group.mk x1 (x1+1))]) (x1+1))/\
 qx a0 (x0++[(Group.mk x1 (x1+1))]) (x1+1)<qx a0 x0 x1)))/\
((ln a0)<=(x1+1)->
(True)/\
(jg (List.length x0+List.length [(Group.mk x1 (x1+1))]))/\
(zt a0 (x0++[(Group.mk x1 (x1+1))]) (x1+1))/\
 qx a0 (x0++[(Group.mk x1 (x1+1))]) (x1+1)<qx a0 x0 x1))))/\
((ln a0)<=x1->
(x0=(zw a0))/\
 True))))
theorem q5h (a0:List Sign):ku (qn XK (kb q2u) (fun j ns=>match j,ns with | 0,[.l 10 y0,.i y1]=>zt a0 y0 y1 | 1,[.i y0,.i y1]=>qee a0 y0 y1 | _,_=>False) (fun j ns=>match j,ns with | 0,[.l 10 y0,.i y1]=>qx a0 y0 y1 | 1,[.i y0,.i y1]=>qfo a0 y0 y1 | _,_=>0)) {cfg sp with ann:=kr [(45,60,.inv 0 [.one 3 (.list 10 true false),.one 4 (.int .i64)] []),(45,15444,.inv 1 [.one 5 (.int .i64)] [.one 4 (.int .i64)])]} 3 45 [.list 4 (a0) none] (qsf a0)=qoe a0:=by kernel_rfl
def q9e:List (Nat×Ct KT):=[]
abbrev qx6 (a0:List Sign) (a1:Int):PV KT:=.list 4 ((qpx a0 a1)) (some (0,0))
abbrev qvf (a0:List Sign) (a1:Int):Prop:=
(qe4 a0 a1 ([]:List Sign) ([]:List Sign) 0)/\
(∀ x0:List Sign,
(∀ x1:List Sign,
(∀ x2:Int,
(qe4 a0 a1 x0 x1 x2->
((x2<a1->
(Wn x2 (ln a0))/\
(((ix a0 x2).Kind=7->
(Wn x2 (ln a0))/\
(True)/\
(I64 (x2+1))/\
(qe4 a0 a1 [(ix a0 x2)] x1 (x2+1))/\
 qau a0 a1 [(ix a0 x2)] x1 (x2+1)<qau a0 a1 x0 x1 x2))/\
((ix a0 x2).Kind≠7->
(((ix a0 x2).Kind=8->
(Wn x2 (ln a0))/\
(True)/\
(I64 (x2+1))/\
(qe4 a0 a1 x0 [(ix a0 x2)] (x2+1))/\
 qau a0 a1 x0 [(ix a0 x2)] (x2+1)<qau a0 a1 x0 x1 x2))/\
((ix a0 x2).Kind≠8->
(I64 (x2+1))/\
(qe4 a0 a1 x0 x1 (x2+1))/\
 qau a0 a1 x0 x1 (x2+1)<qau a0 a1 x0 x1 x2))))/\
(a1<=x2->
(jg (List.length x0+List.length x1))/\
((x0++x1)=(qpx a0 a1))/\
 True)))))
theorem zcl (a0:List Sign) (a1:Int):ku (qn XK (kb q9e) (fun j ns=>match j,ns with | 0,[.l 4 y0,.l 4 y1,.i y2]=>qe4 a0 a1 y0 y1 y2 | _,_=>False) (fun j ns=>match j,ns with | 0,[.l 4 y0,.l 4 y1,.i y2]=>qau a0 a1 y0 y1 y2 | _,_=>0)) {cfg sp with ann:=kr [(46,58,.inv 0 [.one 5 (.list 4 true false),.one 6 (.list 4 false false),.one 7 (.int .i64)] [])]} 3 46 [.list 4 (a0) none,.int .i64 none (a1)] (qx6 a0 a1)=qvf a0 a1:=by kernel_rfl
def q46:List (Nat×Ct KT):=[]
abbrev qun (a0:List Sign) (a1:Int):PV KT:=.tuple [.sb 0 false (((qbg a0 a1).1)) (((qbg a0 a1).1)=true) (((qbg a0 a1).1)=false),.int .i64 none (((qbg a0 a1).2))]
abbrev qxu (a0:List Sign) (a1:Int):Prop:=
(qhw a0 a1 a1)/\
(∀ x0:Int,
(qhw a0 a1 x0->
((x0<(ln a0)->
(Wn x0 (ln a0))/\
(((ix a0 x0).Kind=1->
(Wn x0 (ln a0))/\
(true=((qbg a0 a1).1))/\
(((ix a0 x0).Place:Int)=((qbg a0 a1).2))/\
 True))/\
((ix a0 x0).Kind≠1->
(Wn x0 (ln a0))/\
(((ix a0 x0).Kind=4->
(Wn x0 (ln a0))/\
(true=((qbg a0 a1).1))/\
(((ix a0 x0).Place:Int)=((qbg a0 a1).2))/\
 True))/\
((ix a0 x0).Kind≠4->
(I64 (x0+1))/\
(qhw a0 a1 (x0+1))/\
 qgy a0 a1 (x0+1)<qgy a0 a1 x0))))/\
((ln a0)<=x0->
(false=((qbg a0 a1).1))/\
((0:Int)=((qbg a0 a1).2))/\
 True)))
theorem q8y (a0:List Sign) (a1:Int):ku (qn XK (kb q46) (fun j ns=>match j,ns with | 0,[.i y0]=>qhw a0 a1 y0 | _,_=>False) (fun j ns=>match j,ns with | 0,[.i y0]=>qgy a0 a1 y0 | _,_=>0)) {cfg sp with ann:=kr [(47,26,.inv 0 [.one 6 (.int .i64)] [])]} 3 47 [.list 4 (a0) none,.int .i64 none (a1)] (qun a0 a1)=qxu a0 a1:=by kernel_rfl
def zd7:List (Nat×Ct KT):=[]
abbrev q36 (a0:List Sign):PV KT:=.int .i64 none ((qf0 a0))
abbrev q7n (a0:List Sign):Prop:=
(qkx a0 0)/\
(∀ x0:Int,
(qkx a0 x0->
((x0<(ln a0)->
(Wn x0 (ln a0))/\
(((ix a0 x0).Kind=11->
((x0:Int)=(qf0 a0))/\
 True))/\
((ix a0 x0).Kind≠11->
(I64 (x0+1))/\
(qkx a0 (x0+1))/\
 qjr a0 (x0+1)<qjr a0 x0)))/\
((ln a0)<=x0->
(((-1):Int)=(qf0 a0))/\
 True)))
theorem zhe (a0:List Sign):ku (qn XK (kb zd7) (fun j ns=>match j,ns with | 0,[.i y0]=>qkx a0 y0 | _,_=>False) (fun j ns=>match j,ns with | 0,[.i y0]=>qjr a0 y0 | _,_=>0)) {cfg sp with ann:=kr [(44,26,.inv 0 [.one 3 (.int .i64)] [])]} 3 44 [.list 4 (a0) none] (q36 a0)=q7n a0:=by kernel_rfl
def q58:List (Nat×Ct KT):=[]
abbrev qwb (a0:ZB) (a1:List Page):PV KT:=.list 7 ((qa a1)) none
abbrev qrr (a0:ZB) (a1:List Page):Prop:=
(qh0 a0 a1 ([]:List Staff) 0)/\
(∀ x0:List Staff,
(∀ x1:Int,
(qh0 a0 a1 x0 x1->
((x1<(ln a1)->
(Wn x1 (ln a1))/\
(jg (List.length x0+List.length (ix a1 x1).Staves))/\
(I64 (x1+1))/\
(a0=a0)/\
(a1=a1)/\
(qh0 a0 a1 (x0++(ix a1 x1).Staves) (x1+1))/\
 qjz a0 a1 (x0++(ix a1 x1).Staves) (x1+1)<qjz a0 a1 x0 x1))/\
((ln a1)<=x1->
(x0=(qa a1))/\
 True))))
theorem zai (a0:ZB) (a1:List Page):ku (qn XK (kb q58) (fun j ns=>match j,ns with | 0,[.l 7 y0,.i y1]=>qh0 a0 a1 y0 y1 | _,_=>False) (fun j ns=>match j,ns with | 0,[.l 7 y0,.i y1]=>qjz a0 a1 y0 y1 | _,_=>0)) {cfg sp with ann:=kr [(68,58,.inv 0 [.one 3 (.list 7 true false),.one 9 (.int .i64)] [])]} 3 68 [.agg [.str (a0),.list 8 (a1) none]] (qwb a0 a1)=qrr a0 a1:=by kernel_rfl
def zdq:List (Nat×Ct KT):=[(68,zby)]
abbrev q3k (a0:ZB) (a1:List Page):PV KT:=.agg [.str ((a0)),.list 4 ((qt a1)) none]
abbrev q0h (a0:ZB) (a1:List Page):Prop:=
((smB a1))/\
(qi1 a0 a1 0 a0 ([]:List Sign))/\
(∀ x0:Int,
(∀ x1:ZB,
(∀ x2:List Sign,
(qi1 a0 a1 x0 x1 x2->
((x0<(ln (qa a1))->
(Wn x0 (ln (qa a1)))/\
((0:Int)<=(ix (qa a1) x0).Lead/\(ix (qa a1) x0).Lead<=ln (ix (qa a1) x0).Signs)/\
(jg (List.length x2+List.length (fr (ix (qa a1) x0).Signs (ix (qa a1) x0).Lead)))/\
(I64 (x0+1))/\
(([]:ZB)=([]:ZB))/\
(a0=a0)/\
(a1=a1)/\
(qi1 a0 a1 (x0+1) x1 (x2++(fr (ix (qa a1) x0).Signs (ix (qa a1) x0).Lead)))/\
 qha a0 a1 (x0+1) x1 (x2++(fr (ix (qa a1) x0).Signs (ix (qa a1) x0).Lead))<qha a0 a1 x0 x1 x2))/\
((ln (qa a1))<=x0->
(x1=(a0))/\
(x2=(qt a1))/\
 True)))))
theorem zg3 (a0:ZB) (a1:List Page):ku (qn XK (kb zdq) (fun j ns=>match j,ns with | 0,[.i y0,.s y1,.l 4 y2]=>qi1 a0 a1 y0 y1 y2 | _,_=>False) (fun j ns=>match j,ns with | 0,[.i y0,.s y1,.l 4 y2]=>qha a0 a1 y0 y1 y2 | _,_=>0)) {cfg sp with ann:=kr [(56,58,.inv 0 [.one 12 (.int .i64),.via 3 [.str,.list 4 true false]] [])]} 3 56 [.agg [.str (a0),.list 8 (a1) none]] (q3k a0 a1)=q0h a0 a1:=by kernel_rfl
def q9r:List (Nat×Ct KT):=[(68,zby)]
abbrev qyo (a0:ZB) (a1:List Page) (a2:Int):PV KT:=.int .i64 none ((jm a1 a2))
abbrev qvq (a0:ZB) (a1:List Page) (a2:Int):Prop:=
((smB a1))/\
(qjn a0 a1 a2 a2 0)/\
(∀ x0:Int,
(∀ x1:Int,
 let l0_:=(ln (ix (qa a1) x1).Signs)-(ix (qa a1) x1).Lead;
(qjn a0 a1 a2 x0 x1->
((x1<(ln (qa a1))->
(Wn x1 (ln (qa a1)))/\
(I64 l0_)/\
(I64 (x0-l0_))/\
(((x0-l0_)<0->
((x1:Int)=(jm a1 a2))/\
 True))/\
(0<=(x0-l0_)->
(I64 (x1+1))/\
(a0=a0)/\
(a1=a1)/\
(qjn a0 a1 a2 (x0-l0_) (x1+1))/\
 qk5 a0 a1 a2 (x0-l0_) (x1+1)<qk5 a0 a1 a2 x0 x1)))/\
((ln (qa a1))<=x1->
((0:Int)=(jm a1 a2))/\
 True))))
theorem zdc (a0:ZB) (a1:List Page) (a2:Int):ku (qn XK (kb q9r) (fun j ns=>match j,ns with | 0,[.i y0,.i y1]=>qjn a0 a1 a2 y0 y1 | _,_=>False) (fun j ns=>match j,ns with | 0,[.i y0,.i y1]=>qk5 a0 a1 a2 y0 y1 | _,_=>0)) {cfg sp with ann:=kr [(66,26,.inv 0 [.one 1 (.int .i64),.one 10 (.int .i64)] [])]} 3 66 [.agg [.str (a0),.list 8 (a1) none],.int .i64 none (a2)] (qyo a0 a1 a2)=qvq a0 a1 a2:=by kernel_rfl
def q53:List (Nat×Ct KT):=[(38,zis)]
abbrev qv8 (a0:List Sign) (a1:Int) (a2:Bool) (a3:Int) (a4:List Sign) (a5:List Sign):PV KT:=.int .i64 none ((zk (Staff.mk a0 a1 a2 a3) a4 a5))
abbrev qrp (a0:List Sign) (a1:Int) (a2:Bool) (a3:Int) (a4:List Sign) (a5:List Sign):Prop:=
((60<(ln a0)->
((11:Int)=(zk (Staff.mk a0 a1 a2 a3) a4 a5))/\
 True))/\
((ln a0)<=60->
((a1<0->
((2:Int)=(zk (Staff.mk a0 a1 a2 a3) a4 a5))/\
 True))/\
(0<=a1->
(((ln a0)<=a1->
((2:Int)=(zk (Staff.mk a0 a1 a2 a3) a4 a5))/\
 True))/\
(a1<(ln a0)->
((0:Int)<=a1/\a1<=ln a0)/\
((ln a4<=1/\ln a5<=1))/\
(((ln (upto a0 a1))≠(ln ((a4++a5)))->
((6:Int)=(zk (Staff.mk a0 a1 a2 a3) a4 a5))/\
 True))/\
((ln (upto a0 a1))=(ln ((a4++a5)))->
(qhz a0 a1 a2 a3 a4 a5 0)/\
(∀ x4:Int,
 let l1_:=ix ((a4++a5)) x4;
 let l0_:=ix (upto a0 a1) x4;
(qhz a0 a1 a2 a3 a4 a5 x4->
((x4<(ln (upto a0 a1))->
(Wn x4 (ln (upto a0 a1)))/\
(Wn x4 (ln ((a4++a5))))/\
(((l0_.Kind≠l1_.Kind∨(l0_.Value≠l1_.Value∨(l0_.Place≠l1_.Place∨(l0_.Acc≠l1_.Acc∨(l0_.Color≠l1_.Color∨(l0_.Stem≠l1_.Stem∨(l0_.Oblique≠l1_.Oblique∨(l0_.Last≠l1_.Last∨(l0_.MensMax≠l1_.MensMax∨(l0_.MensMod≠l1_.MensMod∨(l0_.MensTem≠l1_.MensTem∨(l0_.MensPro≠l1_.MensPro∨(l0_.Stroke≠l1_.Stroke∨(l0_.N≠l1_.N∨(l0_.D≠l1_.D∨(l0_.ClefStep≠l1_.ClefStep∨l0_.ClefLine≠l1_.ClefLine))))))))))))))))->
((6:Int)=(zk (Staff.mk a0 a1 a2 a3) a4 a5))/\
 True))/\
((l0_.Kind=l1_.Kind/\(l0_.Value=l1_.Value/\(l0_.Place=l1_.Place/\(l0_.Acc=l1_.Acc/\(l0_.Color=l1_.Color/\(l0_.Stem=l1_.Stem/\(l0_.Oblique=l1_.Oblique/\(l0_.Last=l1_.Last/\(l0_.MensMax=l1_.MensMax/\(l0_.MensMod=l1_.MensMod/\(l0_.MensTem=l1_.MensTem/\(l0_.MensPro=l1_.MensPro/\(l0_.Stroke=l1_.Stroke/\(l0_.N=l1_.N/\(l0_.D=l1_.D/\(l0_.ClefStep=l1_.ClefStep/\l0_.ClefLine=l1_.ClefLine))))))))))))))))->
(I64 (x4+1))/\
(a4=a4)/\
(a5=a5)/\
(a0=a0)/\
((a1:Int)=a1)/\
(a2=a2)/\
((a3:Int)=a3)/\
(qhz a0 a1 a2 a3 a4 a5 (x4+1))/\
 qjy a0 a1 a2 a3 a4 a5 (x4+1)<qjy a0 a1 a2 a3 a4 a5 x4)))/\
((ln (upto a0 a1))<=x4->
((0:Int)=(zk (Staff.mk a0 a1 a2 a3) a4 a5))/\
 True)))))))
theorem zad (a0:List Sign) (a1:Int) (a2:Bool) (a3:Int) (a4:List Sign) (a5:List Sign):ku (qn XK (kb q53) (fun j ns=>match j,ns with | 0,[.i y0]=>qhz a0 a1 a2 a3 a4 a5 y0 | _,_=>False) (fun j ns=>match j,ns with | 0,[.i y0]=>qjy a0 a1 a2 a3 a4 a5 y0 | _,_=>0)) {cfg sp with ann:=kr [(65,58,.inv 0 [.one 13 (.int .i64)] [])]} 3 50 [.agg [.list 4 (a0) none,.int .i64 none (a1),.sb 0 false (a2) (a2=true) (a2=false),.int .i64 none (a3)],.agg [.list 4 (a4) none,.list 4 (a5) none]] (qv8 a0 a1 a2 a3 a4 a5)=qrp a0 a1 a2 a3 a4 a5:=by kernel_rfl
def zar:List (Nat×Ct KT):=[(56,zf0),(34,zir),(66,zi8),(68,zby),(41,ziu)]
abbrev qy4 (a0:ZB) (a1:List Page):PV KT:=.tuple [.int .i64 none (((qbn a0 a1).1)),.int .i64 none (((qbn a0 a1).2))]
abbrev ji (v0:List Page) (v1:ZB) (p:Prop):Prop:=
((qt v0)=(qt v0))/\
((v1)=(v1))/\
((qt v0)=(qt v0))/\
(v1=v1)/\
(v0=v0)/\
 p
abbrev qwi (a0:ZB) (a1:List Page):Prop:=
 let l3_:=qt a1;
 let l2_:=qbn a0 a1;
((smB a1/\qk a1))/\
((ln (a0)<=1000000000/\ln l3_<=1000000000))/\
((((ze (a0) l3_).1)≠0->
((smB a1/\qk a1/\(0:Int)<=((ze (a0) l3_).2)/\(((ze (a0) l3_).2):Int)<=1000000000000))/\
((((ze (a0) l3_).1):Int)=(l2_.1))/\
(((jm a1 ((ze (a0) l3_).2)):Int)=(l2_.2))/\
 True))/\
(((ze (a0) l3_).1)=0->
(qaj a0 a1 0)/\
(∀ x1:Int,
(qaj a0 a1 x1->
((x1<(ln l3_)->
(Wn x1 (ln l3_))/\
(((ix l3_ x1).Kind=11->
((0<=x1->
((smB a1/\qk a1/\(0:Int)<=x1/\(x1:Int)<=1000000000000))/\
((8:Int)=(l2_.1))/\
(((jm a1 x1):Int)=(l2_.2))/\
 True))/\
(x1<0->
(zb a0 a1 0)/\
(∀ x6:Int,
 let l4_:=jm a1 x6;
(zb a0 a1 x6->
((x6<(ln l3_)->
(I64 (x6+1))/\
(j6 a0 a1 (x6+1) x6)/\
(∀ x9:Int,
(j6 a0 a1 x9 x6->
(I64 (x9-1))/\
(Wn (x9-1) (ln l3_))/\
(((ix l3_ (x9-1)).Kind=4->
(I64 (x9-1))/\
(Wn (x9-1) (ln l3_))/\
(((ix l3_ (x9-1)).Last=false->
((x9<(ln l3_)->
(I64 (x9+1))/\
(ji a1 a0 (
(j6 a0 a1 (x9+1) x6)/\
 qdx a0 a1 (x9+1) x6<qdx a0 a1 x9 x6))))/\
((ln l3_)<=x9->
((x9<(ln l3_)->
(Wn x9 (ln l3_))/\
(((ix l3_ x9).Kind=3->
(I64 (x9+1))/\
((smB a1/\qk a1/\(0:Int)<=x6/\(x6:Int)<=1000000000000))/\
(I64 ((x9+1)-1))/\
((smB a1/\qk a1/\(0:Int)<=((x9+1)-1)/\(((x9+1)-1):Int)<=1000000000000))/\
((l4_≠(jm a1 ((x9+1)-1))->
((smB a1/\qk a1/\(0:Int)<=x6/\(x6:Int)<=1000000000000))/\
((6:Int)=(l2_.1))/\
((l4_:Int)=(l2_.2))/\
 True))/\
(l4_=(jm a1 ((x9+1)-1))->
(ji a1 a0 (
(zb a0 a1 (x9+1))/\
 qi a0 a1 (x9+1)<qi a0 a1 x6)))))/\
((ix l3_ x9).Kind≠3->
((smB a1/\qk a1/\(0:Int)<=x6/\(x6:Int)<=1000000000000))/\
(I64 (x9-1))/\
((smB a1/\qk a1/\(0:Int)<=(x9-1)/\((x9-1):Int)<=1000000000000))/\
((l4_≠(jm a1 (x9-1))->
((smB a1/\qk a1/\(0:Int)<=x6/\(x6:Int)<=1000000000000))/\
((6:Int)=(l2_.1))/\
((l4_:Int)=(l2_.2))/\
 True))/\
(l4_=(jm a1 (x9-1))->
(ji a1 a0 (
(zb a0 a1 x9)/\
 qi a0 a1 x9<qi a0 a1 x6))))))/\
((ln l3_)<=x9->
((smB a1/\qk a1/\(0:Int)<=x6/\(x6:Int)<=1000000000000))/\
(I64 (x9-1))/\
((smB a1/\qk a1/\(0:Int)<=(x9-1)/\((x9-1):Int)<=1000000000000))/\
((l4_≠(jm a1 (x9-1))->
((smB a1/\qk a1/\(0:Int)<=x6/\(x6:Int)<=1000000000000))/\
((6:Int)=(l2_.1))/\
((l4_:Int)=(l2_.2))/\
 True))/\
(l4_=(jm a1 (x9-1))->
(ji a1 a0 (
(zb a0 a1 x9)/\
 qi a0 a1 x9<qi a0 a1 x6)))))))/\
((ix l3_ (x9-1)).Last=true->
((x9<(ln l3_)->
(Wn x9 (ln l3_))/\
(((ix l3_ x9).Kind=3->
(I64 (x9+1))/\
((smB a1/\qk a1/\(0:Int)<=x6/\(x6:Int)<=1000000000000))/\
(I64 ((x9+1)-1))/\
((smB a1/\qk a1/\(0:Int)<=((x9+1)-1)/\(((x9+1)-1):Int)<=1000000000000))/\
((l4_≠(jm a1 ((x9+1)-1))->
((smB a1/\qk a1/\(0:Int)<=x6/\(x6:Int)<=1000000000000))/\
((6:Int)=(l2_.1))/\
((l4_:Int)=(l2_.2))/\
 True))/\
(l4_=(jm a1 ((x9+1)-1))->
(ji a1 a0 (
(zb a0 a1 (x9+1))/\
 qi a0 a1 (x9+1)<qi a0 a1 x6)))))/\
((ix l3_ x9).Kind≠3->
((smB a1/\qk a1/\(0:Int)<=x6/\(x6:Int)<=1000000000000))/\
(I64 (x9-1))/\
((smB a1/\qk a1/\(0:Int)<=(x9-1)/\((x9-1):Int)<=1000000000000))/\
((l4_≠(jm a1 (x9-1))->
((smB a1/\qk a1/\(0:Int)<=x6/\(x6:Int)<=1000000000000))/\
((6:Int)=(l2_.1))/\
((l4_:Int)=(l2_.2))/\
 True))/\
(l4_=(jm a1 (x9-1))->
(ji a1 a0 (
(zb a0 a1 x9)/\
 qi a0 a1 x9<qi a0 a1 x6))))))/\
((ln l3_)<=x9->
((smB a1/\qk a1/\(0:Int)<=x6/\(x6:Int)<=1000000000000))/\
(I64 (x9-1))/\
((smB a1/\qk a1/\(0:Int)<=(x9-1)/\((x9-1):Int)<=1000000000000))/\
((l4_≠(jm a1 (x9-1))->
((smB a1/\qk a1/\(0:Int)<=x6/\(x6:Int)<=1000000000000))/\
((6:Int)=(l2_.1))/\
((l4_:Int)=(l2_.2))/\
 True))/\
(l4_=(jm a1 (x9-1))->
(ji a1 a0 (
(zb a0 a1 x9)/\
 qi a0 a1 x9<qi a0 a1 x6)))))))/\
((ix l3_ (x9-1)).Kind≠4->
((x9<(ln l3_)->
(Wn x9 (ln l3_))/\
(((ix l3_ x9).Kind=3->
(I64 (x9+1))/\
((smB a1/\qk a1/\(0:Int)<=x6/\(x6:Int)<=1000000000000))/\
(I64 ((x9+1)-1))/\
((smB a1/\qk a1/\(0:Int)<=((x9+1)-1)/\(((x9+1)-1):Int)<=1000000000000))/\
((l4_≠(jm a1 ((x9+1)-1))->
((smB a1/\qk a1/\(0:Int)<=x6/\(x6:Int)<=1000000000000))/\
((6:Int)=(l2_.1))/\
((l4_:Int)=(l2_.2))/\
 True))/\
(l4_=(jm a1 ((x9+1)-1))->
(ji a1 a0 (
(zb a0 a1 (x9+1))/\
 qi a0 a1 (x9+1)<qi a0 a1 x6)))))/\
((ix l3_ x9).Kind≠3->
((smB a1/\qk a1/\(0:Int)<=x6/\(x6:Int)<=1000000000000))/\
(I64 (x9-1))/\
((smB a1/\qk a1/\(0:Int)<=(x9-1)/\((x9-1):Int)<=1000000000000))/\
((l4_≠(jm a1 (x9-1))->
((smB a1/\qk a1/\(0:Int)<=x6/\(x6:Int)<=1000000000000))/\
((6:Int)=(l2_.1))/\
((l4_:Int)=(l2_.2))/\
 True))/\
(l4_=(jm a1 (x9-1))->
(ji a1 a0 (
(zb a0 a1 x9)/\
 qi a0 a1 x9<qi a0 a1 x6))))))/\
((ln l3_)<=x9->
((smB a1/\qk a1/\(0:Int)<=x6/\(x6:Int)<=1000000000000))/\
(I64 (x9-1))/\
((smB a1/\qk a1/\(0:Int)<=(x9-1)/\((x9-1):Int)<=1000000000000))/\
((l4_≠(jm a1 (x9-1))->
((smB a1/\qk a1/\(0:Int)<=x6/\(x6:Int)<=1000000000000))/\
((6:Int)=(l2_.1))/\
((l4_:Int)=(l2_.2))/\
 True))/\
(l4_=(jm a1 (x9-1))->
(ji a1 a0 (
(zb a0 a1 x9)/\
 qi a0 a1 x9<qi a0 a1 x6)))))))))/\
((ln l3_)<=x6->
((smB a1))/\
(jl a0 a1 0 0)/\
(∀ x9:Int,
(∀ x10:Int,
 let l0_:=x9+((ln (ix (qa a1) x10).Signs)-(ix (qa a1) x10).Lead);
(jl a0 a1 x9 x10->
((x10<(ln (qa a1))->
(Wn x10 (ln (qa a1)))/\
(I64 ((ln (ix (qa a1) x10).Signs)-(ix (qa a1) x10).Lead))/\
(I64 l0_)/\
((0:Int)<=l0_/\l0_<=ln l3_)/\
((ln (fr l3_ l0_)<=1000000000))/\
(((ix (qa a1) x10).Catch≠((kk (fr l3_ l0_)).1)->
((3:Int)=(l2_.1))/\
((x10:Int)=(l2_.2))/\
 True))/\
((ix (qa a1) x10).Catch=((kk (fr l3_ l0_)).1)->
(((ix (qa a1) x10).Custos≠((kk (fr l3_ l0_)).2)->
((3:Int)=(l2_.1))/\
((x10:Int)=(l2_.2))/\
 True))/\
((ix (qa a1) x10).Custos=((kk (fr l3_ l0_)).2)->
(I64 (x10+1))/\
(ji a1 a0 (
(jl a0 a1 l0_ (x10+1))/\
 qdy a0 a1 l0_ (x10+1)<qdy a0 a1 x9 x10))))))/\
((ln (qa a1))<=x10->
((0:Int)=(l2_.1))/\
((0:Int)=(l2_.2))/\
 True))))))))))/\
((ix l3_ x1).Kind≠11->
(I64 (x1+1))/\
((a0)=(a0))/\
(l3_=l3_)/\
(a0=a0)/\
(a1=a1)/\
(qaj a0 a1 (x1+1))/\
 qh8 a0 a1 (x1+1)<qh8 a0 a1 x1)))/\
((ln l3_)<=x1->
(zb a0 a1 0)/\
(∀ x4:Int,
 let l5_:=jm a1 x4;
(zb a0 a1 x4->
((x4<(ln l3_)->
(I64 (x4+1))/\
(j6 a0 a1 (x4+1) x4)/\
(∀ x7:Int,
(j6 a0 a1 x7 x4->
(I64 (x7-1))/\
(Wn (x7-1) (ln l3_))/\
(((ix l3_ (x7-1)).Kind=4->
(I64 (x7-1))/\
(Wn (x7-1) (ln l3_))/\
(((ix l3_ (x7-1)).Last=false->
((x7<(ln l3_)->
(I64 (x7+1))/\
(ji a1 a0 (
(j6 a0 a1 (x7+1) x4)/\
 qdx a0 a1 (x7+1) x4<qdx a0 a1 x7 x4))))/\
((ln l3_)<=x7->
((x7<(ln l3_)->
(Wn x7 (ln l3_))/\
(((ix l3_ x7).Kind=3->
(I64 (x7+1))/\
((smB a1/\qk a1/\(0:Int)<=x4/\(x4:Int)<=1000000000000))/\
(I64 ((x7+1)-1))/\
((smB a1/\qk a1/\(0:Int)<=((x7+1)-1)/\(((x7+1)-1):Int)<=1000000000000))/\
((l5_≠(jm a1 ((x7+1)-1))->
((smB a1/\qk a1/\(0:Int)<=x4/\(x4:Int)<=1000000000000))/\
((6:Int)=(l2_.1))/\
((l5_:Int)=(l2_.2))/\
 True))/\
(l5_=(jm a1 ((x7+1)-1))->
(ji a1 a0 (
(zb a0 a1 (x7+1))/\
 qi a0 a1 (x7+1)<qi a0 a1 x4)))))/\
((ix l3_ x7).Kind≠3->
((smB a1/\qk a1/\(0:Int)<=x4/\(x4:Int)<=1000000000000))/\
(I64 (x7-1))/\
((smB a1/\qk a1/\(0:Int)<=(x7-1)/\((x7-1):Int)<=1000000000000))/\
((l5_≠(jm a1 (x7-1))->
((smB a1/\qk a1/\(0:Int)<=x4/\(x4:Int)<=1000000000000))/\
((6:Int)=(l2_.1))/\
((l5_:Int)=(l2_.2))/\
 True))/\
(l5_=(jm a1 (x7-1))->
(ji a1 a0 (
(zb a0 a1 x7)/\
 qi a0 a1 x7<qi a0 a1 x4))))))/\
((ln l3_)<=x7->
((smB a1/\qk a1/\(0:Int)<=x4/\(x4:Int)<=1000000000000))/\
(I64 (x7-1))/\
((smB a1/\qk a1/\(0:Int)<=(x7-1)/\((x7-1):Int)<=1000000000000))/\
((l5_≠(jm a1 (x7-1))->
((smB a1/\qk a1/\(0:Int)<=x4/\(x4:Int)<=1000000000000))/\
((6:Int)=(l2_.1))/\
((l5_:Int)=(l2_.2))/\
 True))/\
(l5_=(jm a1 (x7-1))->
(ji a1 a0 (
(zb a0 a1 x7)/\
 qi a0 a1 x7<qi a0 a1 x4)))))))/\
((ix l3_ (x7-1)).Last=true->
((x7<(ln l3_)->
(Wn x7 (ln l3_))/\
(((ix l3_ x7).Kind=3->
(I64 (x7+1))/\
((smB a1/\qk a1/\(0:Int)<=x4/\(x4:Int)<=1000000000000))/\
(I64 ((x7+1)-1))/\
((smB a1/\qk a1/\(0:Int)<=((x7+1)-1)/\(((x7+1)-1):Int)<=1000000000000))/\
((l5_≠(jm a1 ((x7+1)-1))->
((smB a1/\qk a1/\(0:Int)<=x4/\(x4:Int)<=1000000000000))/\
((6:Int)=(l2_.1))/\
((l5_:Int)=(l2_.2))/\
 True))/\
(l5_=(jm a1 ((x7+1)-1))->
(ji a1 a0 (
(zb a0 a1 (x7+1))/\
 qi a0 a1 (x7+1)<qi a0 a1 x4)))))/\
((ix l3_ x7).Kind≠3->
((smB a1/\qk a1/\(0:Int)<=x4/\(x4:Int)<=1000000000000))/\
(I64 (x7-1))/\
((smB a1/\qk a1/\(0:Int)<=(x7-1)/\((x7-1):Int)<=1000000000000))/\
((l5_≠(jm a1 (x7-1))->
((smB a1/\qk a1/\(0:Int)<=x4/\(x4:Int)<=1000000000000))/\
((6:Int)=(l2_.1))/\
((l5_:Int)=(l2_.2))/\
 True))/\
(l5_=(jm a1 (x7-1))->
(ji a1 a0 (
(zb a0 a1 x7)/\
 qi a0 a1 x7<qi a0 a1 x4))))))/\
((ln l3_)<=x7->
((smB a1/\qk a1/\(0:Int)<=x4/\(x4:Int)<=1000000000000))/\
(I64 (x7-1))/\
((smB a1/\qk a1/\(0:Int)<=(x7-1)/\((x7-1):Int)<=1000000000000))/\
((l5_≠(jm a1 (x7-1))->
((smB a1/\qk a1/\(0:Int)<=x4/\(x4:Int)<=1000000000000))/\
((6:Int)=(l2_.1))/\
((l5_:Int)=(l2_.2))/\
 True))/\
(l5_=(jm a1 (x7-1))->
(ji a1 a0 (
(zb a0 a1 x7)/\
 qi a0 a1 x7<qi a0 a1 x4)))))))/\
((ix l3_ (x7-1)).Kind≠4->
((x7<(ln l3_)->
(Wn x7 (ln l3_))/\
(((ix l3_ x7).Kind=3->
(I64 (x7+1))/\
((smB a1/\qk a1/\(0:Int)<=x4/\(x4:Int)<=1000000000000))/\
(I64 ((x7+1)-1))/\
((smB a1/\qk a1/\(0:Int)<=((x7+1)-1)/\(((x7+1)-1):Int)<=1000000000000))/\
((l5_≠(jm a1 ((x7+1)-1))->
((smB a1/\qk a1/\(0:Int)<=x4/\(x4:Int)<=1000000000000))/\
((6:Int)=(l2_.1))/\
((l5_:Int)=(l2_.2))/\
 True))/\
(l5_=(jm a1 ((x7+1)-1))->
(ji a1 a0 (
(zb a0 a1 (x7+1))/\
 qi a0 a1 (x7+1)<qi a0 a1 x4)))))/\
((ix l3_ x7).Kind≠3->
((smB a1/\qk a1/\(0:Int)<=x4/\(x4:Int)<=1000000000000))/\
(I64 (x7-1))/\
((smB a1/\qk a1/\(0:Int)<=(x7-1)/\((x7-1):Int)<=1000000000000))/\
((l5_≠(jm a1 (x7-1))->
((smB a1/\qk a1/\(0:Int)<=x4/\(x4:Int)<=1000000000000))/\
((6:Int)=(l2_.1))/\
((l5_:Int)=(l2_.2))/\
 True))/\
(l5_=(jm a1 (x7-1))->
(ji a1 a0 (
(zb a0 a1 x7)/\
 qi a0 a1 x7<qi a0 a1 x4))))))/\
((ln l3_)<=x7->
((smB a1/\qk a1/\(0:Int)<=x4/\(x4:Int)<=1000000000000))/\
(I64 (x7-1))/\
((smB a1/\qk a1/\(0:Int)<=(x7-1)/\((x7-1):Int)<=1000000000000))/\
((l5_≠(jm a1 (x7-1))->
((smB a1/\qk a1/\(0:Int)<=x4/\(x4:Int)<=1000000000000))/\
((6:Int)=(l2_.1))/\
((l5_:Int)=(l2_.2))/\
 True))/\
(l5_=(jm a1 (x7-1))->
(ji a1 a0 (
(zb a0 a1 x7)/\
 qi a0 a1 x7<qi a0 a1 x4)))))))))/\
((ln l3_)<=x4->
((smB a1))/\
(jl a0 a1 0 0)/\
(∀ x7:Int,
(∀ x8:Int,
 let l1_:=x7+((ln (ix (qa a1) x8).Signs)-(ix (qa a1) x8).Lead);
(jl a0 a1 x7 x8->
((x8<(ln (qa a1))->
(Wn x8 (ln (qa a1)))/\
(I64 ((ln (ix (qa a1) x8).Signs)-(ix (qa a1) x8).Lead))/\
(I64 l1_)/\
((0:Int)<=l1_/\l1_<=ln l3_)/\
((ln (fr l3_ l1_)<=1000000000))/\
(((ix (qa a1) x8).Catch≠((kk (fr l3_ l1_)).1)->
((3:Int)=(l2_.1))/\
((x8:Int)=(l2_.2))/\
 True))/\
((ix (qa a1) x8).Catch=((kk (fr l3_ l1_)).1)->
(((ix (qa a1) x8).Custos≠((kk (fr l3_ l1_)).2)->
((3:Int)=(l2_.1))/\
((x8:Int)=(l2_.2))/\
 True))/\
((ix (qa a1) x8).Custos=((kk (fr l3_ l1_)).2)->
(I64 (x8+1))/\
(ji a1 a0 (
(jl a0 a1 l1_ (x8+1))/\
 qdy a0 a1 l1_ (x8+1)<qdy a0 a1 x7 x8))))))/\
((ln (qa a1))<=x8->
((0:Int)=(l2_.1))/\
((0:Int)=(l2_.2))/\
 True)))))))))))
theorem zek (a0:ZB) (a1:List Page):ku (qn XK (kb zar) (fun j ns=>match j,ns with | 0,[.i y0]=>qaj a0 a1 y0 | 1,[.i y0]=>zb a0 a1 y0 | 2,[.i y0,.i y1]=>j6 a0 a1 y0 y1 | 3,[.i y0,.i y1]=>jl a0 a1 y0 y1 | _,_=>False) (fun j ns=>match j,ns with | 0,[.i y0]=>qh8 a0 a1 y0 | 1,[.i y0]=>qi a0 a1 y0 | 2,[.i y0,.i y1]=>qdx a0 a1 y0 y1 | 3,[.i y0,.i y1]=>qdy a0 a1 y0 y1 | _,_=>0)) {cfg sp with ann:=kr [(61,26,.inv 0 [.one 8 (.int .i64)] []),(82,6,.inv 1 [.one 3 (.int .i64)] []),(82,404,.inv 2 [.one 4 (.int .i64)] [.one 3 (.int .i64)]),(51,1018,.inv 3 [.one 10 (.int .i64),.one 55 (.int .i64)] [])]} 6 51 [.agg [.str (a0),.list 8 (a1) none]] (qy4 a0 a1)=qwi a0 a1:=by kernel_rfl
def q4a:List (Nat×Ct KT):=[(49,zfu),(50,zi2),(40,zit),(51,zi3)]
abbrev qtr (a0:ZB) (a1:List Page):PV KT:=.tuple [.int .i64 none (((qq a0 a1).1)),.int .i64 none (((qq a0 a1).2))]
abbrev qql (a0:ZB) (a1:List Page):Prop:=
((ln a0<=9223372036854775806))/\
(((kh a0)=false->
((7:Int)=((qq a0 a1).1))/\
((0:Int)=((qq a0 a1).2))/\
 True))/\
((kh a0)=true->
(kz a0 a1 0 false 0 ([]:List Sign) ([]:List Sign))/\
(∀ x1:Int,
(∀ x2:Bool,
(∀ x3:Int,
(∀ x4:List Sign,
(∀ x5:List Sign,
(kz a0 a1 x1 x2 x3 x4 x5->
((x3<(ln a1)->
(Wn x3 (ln a1))/\
(((ln (ix a1 x3).Staves)=0->
(I64 (x3+1))/\
(a0=a0)/\
(a1=a1)/\
(kz a0 a1 x1 true (x3+1) x4 x5)/\
 qby a0 a1 x1 true (x3+1) x4 x5<qby a0 a1 x1 x2 x3 x4 x5))/\
((ln (ix a1 x3).Staves)≠0->
(ju a0 a1 x1 0 x4 x5 x2 x3)/\
(∀ x9:Int,
(∀ x10:Int,
 let l0_:=ix (ix a1 x3).Staves x10;
(∀ x11:List Sign,
(∀ x12:List Sign,
(ju a0 a1 x9 x10 x11 x12 x2 x3->
((x10<(ln (ix a1 x3).Staves)->
(Wn x10 (ln (ix a1 x3).Staves))/\
((12<=x10->
((11:Int)=((qq a0 a1).1))/\
((x9:Int)=((qq a0 a1).2))/\
 True))/\
(x10<12->
((ln l0_.Signs<=500/\ln x11<=1/\ln x12<=1))/\
(((zk l0_ x11 x12)≠0->
(((zk l0_ x11 x12):Int)=((qq a0 a1).1))/\
((x9:Int)=((qq a0 a1).2))/\
 True))/\
((zk l0_ x11 x12)=0->
((0:Int)<=l0_.Lead/\l0_.Lead<=ln l0_.Signs)/\
(qar a0 a1 0 x11 x12 x9 x2 x3 x10)/\
(∀ x17:Int,
(∀ x18:List Sign,
(∀ x19:List Sign,
(qar a0 a1 x17 x18 x19 x9 x2 x3 x10->
((x17<(ln (fr l0_.Signs l0_.Lead))->
(Wn x17 (ln (fr l0_.Signs l0_.Lead)))/\
(True)/\
(I64 (x17+1))/\
(l0_.Signs=l0_.Signs)/\
((l0_.Lead:Int)=l0_.Lead)/\
(l0_.Catch=l0_.Catch)/\
((l0_.Custos:Int)=l0_.Custos)/\
((ix a1 x3).Staves=(ix a1 x3).Staves)/\
(a0=a0)/\
(a1=a1)/\
(qar a0 a1 (x17+1) ((qao x18 x19 (ix (fr l0_.Signs l0_.Lead) x17)).1) ((qao x18 x19 (ix (fr l0_.Signs l0_.Lead) x17)).2) x9 x2 x3 x10)/\
 qgo a0 a1 (x17+1) ((qao x18 x19 (ix (fr l0_.Signs l0_.Lead) x17)).1) ((qao x18 x19 (ix (fr l0_.Signs l0_.Lead) x17)).2) x9 x2 x3 x10<qgo a0 a1 x17 x18 x19 x9 x2 x3 x10))/\
((ln (fr l0_.Signs l0_.Lead))<=x17->
(I64 (x9+1))/\
(I64 (x10+1))/\
((ix a1 x3).Staves=(ix a1 x3).Staves)/\
(a0=a0)/\
(a1=a1)/\
(ju a0 a1 (x9+1) (x10+1) x18 x19 x2 x3)/\
 qgn a0 a1 (x9+1) (x10+1) x18 x19 x2 x3<qgn a0 a1 x9 x10 x11 x12 x2 x3)))))))))/\
((ln (ix a1 x3).Staves)<=x10->
(I64 (x3+1))/\
(a0=a0)/\
(a1=a1)/\
(kz a0 a1 x9 x2 (x3+1) x11 x12)/\
 qby a0 a1 x9 x2 (x3+1) x11 x12<qby a0 a1 x1 x2 x3 x4 x5)))))))))/\
((ln a1)<=x3->
((x2=true->
((2:Int)=((qq a0 a1).1))/\
((x1:Int)=((qq a0 a1).2))/\
 True))/\
(x2=false->
((ln a0<=1000000000/\smB a1/\qk a1))/\
((((qbn a0 a1).1):Int)=((qq a0 a1).1))/\
((((qbn a0 a1).2):Int)=((qq a0 a1).2))/\
 True)))))))))
theorem q7w (a0:ZB) (a1:List Page):ku (qn XK (kb q4a) (fun j ns=>match j,ns with | 0,[.i y0,.b y1,.i y2,.l 4 y3,.l 4 y4]=>kz a0 a1 y0 y1 y2 y3 y4 | 1,[.i y0,.i y1,.l 4 y2,.l 4 y3,.b y4,.i y5]=>ju a0 a1 y0 y1 y2 y3 y4 y5 | 2,[.i y0,.l 4 y1,.l 4 y2,.i y3,.b y4,.i y5,.i y6]=>qar a0 a1 y0 y1 y2 y3 y4 y5 y6 | _,_=>False) (fun j ns=>match j,ns with | 0,[.i y0,.b y1,.i y2,.l 4 y3,.l 4 y4]=>qby a0 a1 y0 y1 y2 y3 y4 | 1,[.i y0,.i y1,.l 4 y2,.l 4 y3,.b y4,.i y5]=>qgn a0 a1 y0 y1 y2 y3 y4 y5 | 2,[.i y0,.l 4 y1,.l 4 y2,.i y3,.b y4,.i y5,.i y6]=>qgo a0 a1 y0 y1 y2 y3 y4 y5 y6 | _,_=>0)) {cfg sp with ann:=kr [(16,890,.inv 0 [.one 4 (.int .i64),.one 5 (.bool),.one 21 (.int .i64),.via 6 [.list 4 false false,.list 4 false false]] []),(16,455886,.inv 1 [.one 4 (.int .i64),.one 32 (.int .i64),.via 6 [.list 4 false false,.list 4 false false]] [.one 5 (.bool),.one 21 (.int .i64)]),(16,933655354,.inv 2 [.one 53 (.int .i64),.via 6 [.list 4 false false,.list 4 false false]] [.one 4 (.int .i64),.one 5 (.bool),.one 21 (.int .i64),.one 32 (.int .i64)])]} 3 16 [.agg [.str (a0),.list 8 (a1) none]] (qtr a0 a1)=qql a0 a1:=by kernel_rfl
def q7s:List (Nat×Ct KT):=[(16,q44),(56,zf0)]
abbrev qxd (a0:ZB) (a1:List Page):PV KT:=.tuple [.agg [.str (((j5 a0 a1).1)),.list 4 (((j5 a0 a1).2.1)) none],.int .i64 none (((j5 a0 a1).2.2))]
abbrev qtp (a0:ZB) (a1:List Page):Prop:=
((ln a0<=1000000000/\smB a1))/\
((((qq a0 a1).1)≠0->
(([]:ZB)=((j5 a0 a1).1))/\
(([]:List Sign)=((j5 a0 a1).2.1))/\
((((qq a0 a1).1):Int)=((j5 a0 a1).2.2))/\
 True))/\
(((qq a0 a1).1)=0->
((smB a1/\qk a1))/\
((a0)=((j5 a0 a1).1))/\
((qt a1)=((j5 a0 a1).2.1))/\
((0:Int)=((j5 a0 a1).2.2))/\
 True)
theorem zav (a0:ZB) (a1:List Page):ku (qn XK (kb q7s) (fun _ _=>False) (fun _ _=>0)) {cfg sp with ann:=kr []} 3 18 [.agg [.str (a0),.list 8 (a1) none]] (qxd a0 a1)=qtp a0 a1:=by kernel_rfl
def q4r:List (Nat×Ct KT):=[(16,q44)]
abbrev qt0 (a0:ZB) (a1:List Page):PV KT:=.tuple [.list 1 (((zx a0 a1).1)) none,.list 3 (((zx a0 a1).2.1)) none,.int .i64 none (((zx a0 a1).2.2))]
abbrev qmt (v0:List Page) (v1:Int) (v2:Int) (v3:ZB) (p:Prop):Prop:=
((ix (ix v0 v1).Staves v2).Signs=(ix (ix v0 v1).Staves v2).Signs)/\
(((ix (ix v0 v1).Staves v2).Lead:Int)=(ix (ix v0 v1).Staves v2).Lead)/\
((ix (ix v0 v1).Staves v2).Catch=(ix (ix v0 v1).Staves v2).Catch)/\
(((ix (ix v0 v1).Staves v2).Custos:Int)=(ix (ix v0 v1).Staves v2).Custos)/\
((ix v0 v1).Staves=(ix v0 v1).Staves)/\
(v3=v3)/\
(v0=v0)/\
 p
abbrev qqt (a0:ZB) (a1:List Page):Prop:=
((ln a0<=1000000000/\smB a1))/\
((((qq a0 a1).1)≠0->
(([]:List Int)=((zx a0 a1).1))/\
(([]:List Bool)=((zx a0 a1).2.1))/\
((((qq a0 a1).1):Int)=((zx a0 a1).2.2))/\
 True))/\
(((qq a0 a1).1)=0->
(zy a0 a1 ([]:List Int) ([]:List Bool) (-1) false 0)/\
(∀ x1:List Int,
(∀ x2:List Bool,
(∀ x3:Int,
(∀ x4:Bool,
(∀ x5:Int,
(zy a0 a1 x1 x2 x3 x4 x5->
((x5<(ln a1)->
(Wn x5 (ln a1))/\
(jw a0 a1 x3 x4 0 x1 x2 x5)/\
(∀ x8:Int,
(∀ x9:Bool,
(∀ x10:Int,
 let l0_:=fr (ix (ix a1 x5).Staves x10).Signs (ix (ix a1 x5).Staves x10).Lead;
(jw a0 a1 x8 x9 x10 x1 x2 x5->
((x10<(ln (ix a1 x5).Staves)->
(Wn x10 (ln (ix a1 x5).Staves))/\
((0:Int)<=(ix (ix a1 x5).Staves x10).Lead/\(ix (ix a1 x5).Staves x10).Lead<=ln (ix (ix a1 x5).Staves x10).Signs)/\
(zz a0 a1 x8 x9 0 x1 x2 x5 x10)/\
(∀ x13:Int,
(∀ x14:Bool,
(∀ x15:Int,
(zz a0 a1 x13 x14 x15 x1 x2 x5 x10->
((x15<(ln l0_)->
(Wn x15 (ln l0_))/\
(I64 (x13+1))/\
(((ix l0_ x15).Kind=1->
(I64 (x15+1))/\
(qmt a1 x5 x10 a0 (
(zz a0 a1 (x13+1) (decide ((ix l0_ x15).Kind=2)) (x15+1) x1 x2 x5 x10)/\
 jc a0 a1 (x13+1) (decide ((ix l0_ x15).Kind=2)) (x15+1) x1 x2 x5 x10<jc a0 a1 x13 x14 x15 x1 x2 x5 x10))))/\
((ix l0_ x15).Kind≠1->
(((ix l0_ x15).Kind=4->
(I64 (x15+1))/\
(qmt a1 x5 x10 a0 (
(zz a0 a1 (x13+1) (decide ((ix l0_ x15).Kind=2)) (x15+1) x1 x2 x5 x10)/\
 jc a0 a1 (x13+1) (decide ((ix l0_ x15).Kind=2)) (x15+1) x1 x2 x5 x10<jc a0 a1 x13 x14 x15 x1 x2 x5 x10))))/\
((ix l0_ x15).Kind≠4->
(((ix l0_ x15).Kind=2->
(I64 (x15+1))/\
(qmt a1 x5 x10 a0 (
(zz a0 a1 (x13+1) (decide ((ix l0_ x15).Kind=2)) (x15+1) x1 x2 x5 x10)/\
 jc a0 a1 (x13+1) (decide ((ix l0_ x15).Kind=2)) (x15+1) x1 x2 x5 x10<jc a0 a1 x13 x14 x15 x1 x2 x5 x10))))/\
((ix l0_ x15).Kind≠2->
(I64 (x15+1))/\
(qmt a1 x5 x10 a0 (
(zz a0 a1 (x13+1) x14 (x15+1) x1 x2 x5 x10)/\
 jc a0 a1 (x13+1) x14 (x15+1) x1 x2 x5 x10<jc a0 a1 x13 x14 x15 x1 x2 x5 x10)))))))/\
((ln l0_)<=x15->
(I64 (x10+1))/\
((ix a1 x5).Staves=(ix a1 x5).Staves)/\
(a0=a0)/\
(a1=a1)/\
(jw a0 a1 x13 x14 (x10+1) x1 x2 x5)/\
 qgv a0 a1 x13 x14 (x10+1) x1 x2 x5<qgv a0 a1 x8 x9 x10 x1 x2 x5)))))))/\
((ln (ix a1 x5).Staves)<=x10->
(I64 (x5+1))/\
(((x5+1)<(ln a1)->
(True)/\
(jg (List.length x1+List.length ([x8]:List Int)))/\
(True)/\
(jg (List.length x2+List.length [x9]))/\
(I64 (x5+1))/\
(a0=a0)/\
(a1=a1)/\
(zy a0 a1 (x1++([x8]:List Int)) (x2++[x9]) x8 x9 (x5+1))/\
 qbz a0 a1 (x1++([x8]:List Int)) (x2++[x9]) x8 x9 (x5+1)<qbz a0 a1 x1 x2 x3 x4 x5))/\
((ln a1)<=(x5+1)->
(I64 (x5+1))/\
(a0=a0)/\
(a1=a1)/\
(zy a0 a1 x1 x2 x8 x9 (x5+1))/\
 qbz a0 a1 x1 x2 x8 x9 (x5+1)<qbz a0 a1 x1 x2 x3 x4 x5))))))))/\
((ln a1)<=x5->
(x1=((zx a0 a1).1))/\
(x2=((zx a0 a1).2.1))/\
((0:Int)=((zx a0 a1).2.2))/\
 True))))))))
theorem q8e (a0:ZB) (a1:List Page):ku (qn XK (kb q4r) (fun j ns=>match j,ns with | 0,[.l 1 y0,.l 3 y1,.i y2,.b y3,.i y4]=>zy a0 a1 y0 y1 y2 y3 y4 | 1,[.i y0,.b y1,.i y2,.l 1 y3,.l 3 y4,.i y5]=>jw a0 a1 y0 y1 y2 y3 y4 y5 | 2,[.i y0,.b y1,.i y2,.l 1 y3,.l 3 y4,.i y5,.i y6]=>zz a0 a1 y0 y1 y2 y3 y4 y5 y6 | _,_=>False) (fun j ns=>match j,ns with | 0,[.l 1 y0,.l 3 y1,.i y2,.b y3,.i y4]=>qbz a0 a1 y0 y1 y2 y3 y4 | 1,[.i y0,.b y1,.i y2,.l 1 y3,.l 3 y4,.i y5]=>qgv a0 a1 y0 y1 y2 y3 y4 y5 | 2,[.i y0,.b y1,.i y2,.l 1 y3,.l 3 y4,.i y5,.i y6]=>jc a0 a1 y0 y1 y2 y3 y4 y5 y6 | _,_=>0)) {cfg sp with ann:=kr [(22,506,.inv 0 [.one 7 (.list 1 true false),.one 8 (.list 3 true false),.one 9 (.int .i64),.one 10 (.bool),.one 28 (.int .i64)] []),(22,259274,.inv 1 [.one 9 (.int .i64),.one 10 (.bool),.one 36 (.int .i64)] [.one 7 (.list 1 false false),.one 8 (.list 3 false false),.one 28 (.int .i64)]),(22,66374246,.inv 2 [.one 9 (.int .i64),.one 10 (.bool),.one 46 (.int .i64)] [.one 7 (.list 1 false false),.one 8 (.list 3 false false),.one 28 (.int .i64),.one 36 (.int .i64)])]} 3 22 [.agg [.str (a0),.list 8 (a1) none]] (qt0 a0 a1)=qqt a0 a1:=by kernel_rfl
end Go.Proofs.YtlkfjinaiepocaaDoor
namespace Go.Proofs.YtlkfjinaiepocaaDoor
open Go Go.E2 Go.E3
set_option maxRecDepth 100000
variable {sp:Nat->Option (List V->Heap->Option (CR×Heap))}

def q3z:List (Nat×Ct KT):=[]
abbrev qs3 (a0:ZB) (a1:List Page):PV KT:=.tuple [.list 7 ((qa a1)) none,.list 1 ((qbc 0 a1)) none,.list 1 ((zf a1)) none]
abbrev qov (a0:ZB) (a1:List Page):Prop:=
(qgl a0 a1 ([]:List Staff) ([]:List Int) ([]:List Int) 0)/\
(∀ x0:List Staff,
(∀ x1:List Int,
(∀ x2:List Int,
(∀ x3:Int,
(qgl a0 a1 x0 x1 x2 x3->
((x3<(ln a1)->
(qgm a0 a1 x0 x1 x2 0 x3)/\
(∀ x6:List Staff,
(∀ x7:List Int,
(∀ x8:List Int,
(∀ x9:Int,
(qgm a0 a1 x6 x7 x8 x9 x3->
(Wn x3 (ln a1))/\
((x9<(ln (ix a1 x3).Staves)->
(Wn x3 (ln a1))/\
(Wn x9 (ln (ix a1 x3).Staves))/\
(True)/\
(jg (List.length x6+List.length [(ix (ix a1 x3).Staves x9)]))/\
(True)/\
(jg (List.length x7+List.length ([x3]:List Int)))/\
(True)/\
(jg (List.length x8+List.length ([x9]:List Int)))/\
(I64 (x9+1))/\
(a0=a0)/\
(a1=a1)/\
(qgm a0 a1 (x6++[(ix (ix a1 x3).Staves x9)]) (x7++([x3]:List Int)) (x8++([x9]:List Int)) (x9+1) x3)/\
 qfq a0 a1 (x6++[(ix (ix a1 x3).Staves x9)]) (x7++([x3]:List Int)) (x8++([x9]:List Int)) (x9+1) x3<qfq a0 a1 x6 x7 x8 x9 x3))/\
((ln (ix a1 x3).Staves)<=x9->
(I64 (x3+1))/\
(a0=a0)/\
(a1=a1)/\
(qgl a0 a1 x6 x7 x8 (x3+1))/\
 qfp a0 a1 x6 x7 x8 (x3+1)<qfp a0 a1 x0 x1 x2 x3))))))))/\
((ln a1)<=x3->
(x0=(qa a1))/\
(x1=(qbc 0 a1))/\
(x2=(zf a1))/\
 True))))))
theorem q57 (a0:ZB) (a1:List Page):ku (qn XK (kb q3z) (fun j ns=>match j,ns with | 0,[.l 7 y0,.l 1 y1,.l 1 y2,.i y3]=>qgl a0 a1 y0 y1 y2 y3 | 1,[.l 7 y0,.l 1 y1,.l 1 y2,.i y3,.i y4]=>qgm a0 a1 y0 y1 y2 y3 y4 | _,_=>False) (fun j ns=>match j,ns with | 0,[.l 7 y0,.l 1 y1,.l 1 y2,.i y3]=>qfp a0 a1 y0 y1 y2 y3 | 1,[.l 7 y0,.l 1 y1,.l 1 y2,.i y3,.i y4]=>qfq a0 a1 y0 y1 y2 y3 y4 | _,_=>0)) {cfg sp with ann:=kr [(53,122,.inv 0 [.one 5 (.list 7 true false),.one 6 (.list 1 true false),.one 7 (.list 1 true false),.one 8 (.int .i64)] []),(53,7826,.inv 1 [.one 5 (.list 7 true false),.one 6 (.list 1 true false),.one 7 (.list 1 true false),.one 9 (.int .i64)] [.one 8 (.int .i64)])]} 3 53 [.agg [.str (a0),.list 8 (a1) none]] (qs3 a0 a1)=qov a0 a1:=by kernel_rfl
def q96:List (Nat×Ct KT):=[]
abbrev qyy (a0:List Sign) (a1:List Sign):PV KT:=.sb 0 false ((qck a0 a1)) ((qck a0 a1)=true) ((qck a0 a1)=false)
abbrev q3t (a0:List Sign) (a1:List Sign):Prop:=
(((ln a0)≠(ln a1)->
(false=(qck a0 a1))/\
 True))/\
((ln a0)=(ln a1)->
(qjo a0 a1 0)/\
(∀ x1:Int,
(qjo a0 a1 x1->
((x1<(ln a0)->
(Wn x1 (ln a0))/\
(Wn x1 (ln a1))/\
((((ix a0 x1).Kind≠(ix a1 x1).Kind∨((ix a0 x1).Value≠(ix a1 x1).Value∨((ix a0 x1).Place≠(ix a1 x1).Place∨((ix a0 x1).Acc≠(ix a1 x1).Acc∨((ix a0 x1).Color≠(ix a1 x1).Color∨((ix a0 x1).Stem≠(ix a1 x1).Stem∨((ix a0 x1).Oblique≠(ix a1 x1).Oblique∨((ix a0 x1).Last≠(ix a1 x1).Last∨((ix a0 x1).MensMax≠(ix a1 x1).MensMax∨((ix a0 x1).MensMod≠(ix a1 x1).MensMod∨((ix a0 x1).MensTem≠(ix a1 x1).MensTem∨((ix a0 x1).MensPro≠(ix a1 x1).MensPro∨((ix a0 x1).Stroke≠(ix a1 x1).Stroke∨((ix a0 x1).N≠(ix a1 x1).N∨((ix a0 x1).D≠(ix a1 x1).D∨((ix a0 x1).ClefStep≠(ix a1 x1).ClefStep∨(ix a0 x1).ClefLine≠(ix a1 x1).ClefLine))))))))))))))))->
(false=(qck a0 a1))/\
 True))/\
(((ix a0 x1).Kind=(ix a1 x1).Kind/\((ix a0 x1).Value=(ix a1 x1).Value/\((ix a0 x1).Place=(ix a1 x1).Place/\((ix a0 x1).Acc=(ix a1 x1).Acc/\((ix a0 x1).Color=(ix a1 x1).Color/\((ix a0 x1).Stem=(ix a1 x1).Stem/\((ix a0 x1).Oblique=(ix a1 x1).Oblique/\((ix a0 x1).Last=(ix a1 x1).Last/\((ix a0 x1).MensMax=(ix a1 x1).MensMax/\((ix a0 x1).MensMod=(ix a1 x1).MensMod/\((ix a0 x1).MensTem=(ix a1 x1).MensTem/\((ix a0 x1).MensPro=(ix a1 x1).MensPro/\((ix a0 x1).Stroke=(ix a1 x1).Stroke/\((ix a0 x1).N=(ix a1 x1).N/\((ix a0 x1).D=(ix a1 x1).D/\((ix a0 x1).ClefStep=(ix a1 x1).ClefStep/\(ix a0 x1).ClefLine=(ix a1 x1).ClefLine))))))))))))))))->
(I64 (x1+1))/\
(qjo a0 a1 (x1+1))/\
 qk6 a0 a1 (x1+1)<qk6 a0 a1 x1)))/\
((ln a0)<=x1->
(true=(qck a0 a1))/\
 True))))
theorem zdy (a0:List Sign) (a1:List Sign):ku (qn XK (kb q96) (fun j ns=>match j,ns with | 0,[.i y0]=>qjo a0 a1 y0 | _,_=>False) (fun j ns=>match j,ns with | 0,[.i y0]=>qk6 a0 a1 y0 | _,_=>0)) {cfg sp with ann:=kr [(54,58,.inv 0 [.one 5 (.int .i64)] [])]} 3 54 [.list 4 (a0) none,.list 4 (a1) none] (qyy a0 a1)=q3t a0 a1:=by kernel_rfl
def zex:List (Nat×Ct KT):=[]
abbrev q6k (a0:List Int) (a1:Int):PV KT:=.int .i64 none ((atO a0 a1))
abbrev q4v (a0:List Int) (a1:Int):Prop:=
((a1<0->
((0:Int)=(atO a0 a1))/\
 True))/\
(0<=a1->
(((ln a0)<=a1->
((0:Int)=(atO a0 a1))/\
 True))/\
(a1<(ln a0)->
(Wn a1 (ln a0))/\
(((ix a0 a1):Int)=(atO a0 a1))/\
 True))
theorem zh9 (a0:List Int) (a1:Int):ku (qn XK (kb zex) (fun _ _=>False) (fun _ _=>0)) {cfg sp with ann:=kr []} 3 71 [.list 1 (a0) none,.int .i64 none (a1)] (q6k a0 a1)=q4v a0 a1:=by kernel_rfl
def q6f:List (Nat×Ct KT):=[(43,ziw),(71,zi9),(44,zix),(45,ziy),(47,zi0)]
abbrev qwh (a0:ZB) (a1:List Sign) (a2:List Int) (a3:List Staff):PV KT:=.tuple [.int .i64 none (((j3 a0 a1 a2 a3).1)),.int .i64 none (((j3 a0 a1 a2 a3).2))]
abbrev qru (a0:ZB) (a1:List Sign) (a2:List Int) (a3:List Staff):Prop:=
((ln a0<=1000000000/\ln a1<=1000000000))/\
((((ze a0 a1).1)≠0->
((ln a2<=1000000000))/\
((((ze a0 a1).1):Int)=((j3 a0 a1 a2 a3).1))/\
(((atO a2 ((ze a0 a1).2)):Int)=((j3 a0 a1 a2 a3).2))/\
 True))/\
(((ze a0 a1).1)=0->
((ln a1<=1000000000))/\
((0<=(qf0 a1)->
((ln a2<=1000000000))/\
((8:Int)=((j3 a0 a1 a2 a3).1))/\
(((atO a2 (qf0 a1)):Int)=((j3 a0 a1 a2 a3).2))/\
 True))/\
((qf0 a1)<0->
((ln a1<=1000000000))/\
(qh1 a0 a1 a2 a3 0)/\
(∀ x2:Int,
(qh1 a0 a1 a2 a3 x2->
((x2<(ln (zw a1))->
(Wn x2 (ln (zw a1)))/\
(Wn (ix (zw a1) x2).fro (ln a2))/\
(Wn x2 (ln (zw a1)))/\
(I64 ((ix (zw a1) x2).to-1))/\
(Wn ((ix (zw a1) x2).to-1) (ln a2))/\
(((ix a2 (ix (zw a1) x2).fro)≠(ix a2 ((ix (zw a1) x2).to-1))->
(Wn x2 (ln (zw a1)))/\
(Wn (ix (zw a1) x2).fro (ln a2))/\
((6:Int)=((j3 a0 a1 a2 a3).1))/\
(((ix a2 (ix (zw a1) x2).fro):Int)=((j3 a0 a1 a2 a3).2))/\
 True))/\
((ix a2 (ix (zw a1) x2).fro)=(ix a2 ((ix (zw a1) x2).to-1))->
(I64 (x2+1))/\
(a0=a0)/\
(a1=a1)/\
(qh1 a0 a1 a2 a3 (x2+1))/\
 qg1 a0 a1 a2 a3 (x2+1)<qg1 a0 a1 a2 a3 x2)))/\
((ln (zw a1))<=x2->
(qh2 a0 a1 a2 a3 0 0)/\
(∀ x5:Int,
(∀ x6:Int,
(qh2 a0 a1 a2 a3 x5 x6->
((x6<(ln a3)->
(Wn x6 (ln a3))/\
(I64 (x5+(ln (ix a3 x6).Signs)))/\
(Wn x6 (ln a3))/\
(I64 ((x5+(ln (ix a3 x6).Signs))-(ix a3 x6).Lead))/\
((0<=((x5+(ln (ix a3 x6).Signs))-(ix a3 x6).Lead)/\((x5+(ln (ix a3 x6).Signs))-(ix a3 x6).Lead)<=ln a1/\ln a1<=1000000000))/\
(Wn x6 (ln a3))/\
(((ix a3 x6).Catch≠((qbg a1 ((x5+(ln (ix a3 x6).Signs))-(ix a3 x6).Lead)).1)->
((3:Int)=((j3 a0 a1 a2 a3).1))/\
((x6:Int)=((j3 a0 a1 a2 a3).2))/\
 True))/\
((ix a3 x6).Catch=((qbg a1 ((x5+(ln (ix a3 x6).Signs))-(ix a3 x6).Lead)).1)->
(Wn x6 (ln a3))/\
(((ix a3 x6).Custos≠((qbg a1 ((x5+(ln (ix a3 x6).Signs))-(ix a3 x6).Lead)).2)->
((3:Int)=((j3 a0 a1 a2 a3).1))/\
((x6:Int)=((j3 a0 a1 a2 a3).2))/\
 True))/\
((ix a3 x6).Custos=((qbg a1 ((x5+(ln (ix a3 x6).Signs))-(ix a3 x6).Lead)).2)->
(I64 (x6+1))/\
(a0=a0)/\
(a1=a1)/\
(qh2 a0 a1 a2 a3 ((x5+(ln (ix a3 x6).Signs))-(ix a3 x6).Lead) (x6+1))/\
 qg2 a0 a1 a2 a3 ((x5+(ln (ix a3 x6).Signs))-(ix a3 x6).Lead) (x6+1)<qg2 a0 a1 a2 a3 x5 x6))))/\
((ln a3)<=x6->
((0:Int)=((j3 a0 a1 a2 a3).1))/\
((0:Int)=((j3 a0 a1 a2 a3).2))/\
 True)))))))))
theorem zaq (a0:ZB) (a1:List Sign) (a2:List Int) (a3:List Staff):ku (qn XK (kb q6f) (fun j ns=>match j,ns with | 0,[.i y0]=>qh1 a0 a1 a2 a3 y0 | 1,[.i y0,.i y1]=>qh2 a0 a1 a2 a3 y0 y1 | _,_=>False) (fun j ns=>match j,ns with | 0,[.i y0]=>qg1 a0 a1 a2 a3 y0 | 1,[.i y0,.i y1]=>qg2 a0 a1 a2 a3 y0 y1 | _,_=>0)) {cfg sp with ann:=kr [(55,1018,.inv 0 [.one 12 (.int .i64)] []),(55,4090,.inv 1 [.one 13 (.int .i64),.one 14 (.int .i64)] [])]} 3 55 [.agg [.str (a0),.list 4 (a1) none],.list 1 (a2) none,.list 7 (a3) none] (qwh a0 a1 a2 a3)=qru a0 a1 a2 a3:=by kernel_rfl
def q4f:List (Nat×Ct KT):=[(52,zfx),(53,zbx),(46,ziz),(54,zi4),(55,zi5)]
abbrev qtt (a0:ZB) (a1:List Page):PV KT:=.tuple [.int .i64 none (((qq a0 a1).1)),.int .i64 none (((qq a0 a1).2))]
abbrev qqn (a0:ZB) (a1:List Page):Prop:=
((ln a0<=9223372036854775806))/\
(((kh a0)=false->
((7:Int)=((qq a0 a1).1))/\
((0:Int)=((qq a0 a1).2))/\
 True))/\
((kh a0)=true->
((smB a1))/\
(qcn a0 a1 ([]:List Int) 0 a0 ([]:List Sign))/\
(∀ x1:List Int,
(∀ x2:Int,
(∀ x3:ZB,
(∀ x4:List Sign,
(qcn a0 a1 x1 x2 x3 x4->
((x2<(ln (qa a1))->
(Wn x2 (ln (zf a1)))/\
((12<=(ix (zf a1) x2)->
((11:Int)=((qq a0 a1).1))/\
((x2:Int)=((qq a0 a1).2))/\
 True))/\
((ix (zf a1) x2)<12->
(Wn x2 (ln (qa a1)))/\
((60<(ln (ix (qa a1) x2).Signs)->
((11:Int)=((qq a0 a1).1))/\
((x2:Int)=((qq a0 a1).2))/\
 True))/\
((ln (ix (qa a1) x2).Signs)<=60->
(Wn x2 (ln (qa a1)))/\
(((ix (qa a1) x2).Lead<0->
((2:Int)=((qq a0 a1).1))/\
((x2:Int)=((qq a0 a1).2))/\
 True))/\
(0<=(ix (qa a1) x2).Lead->
(Wn x2 (ln (qa a1)))/\
(Wn x2 (ln (qa a1)))/\
(((ln (ix (qa a1) x2).Signs)<=(ix (qa a1) x2).Lead->
((2:Int)=((qq a0 a1).1))/\
((x2:Int)=((qq a0 a1).2))/\
 True))/\
((ix (qa a1) x2).Lead<(ln (ix (qa a1) x2).Signs)->
(Wn x2 (ln (qa a1)))/\
(Wn x2 (ln (qa a1)))/\
((0:Int)<=(ix (qa a1) x2).Lead/\(ix (qa a1) x2).Lead<=ln (ix (qa a1) x2).Signs)/\
((0<=(ln x4)/\(ln x4)<=ln x4/\ln x4<=1000000000))/\
((ln (upto (ix (qa a1) x2).Signs (ix (qa a1) x2).Lead)<=10000000))/\
(((qck (upto (ix (qa a1) x2).Signs (ix (qa a1) x2).Lead) (qpx x4 (ln x4)))=false->
((6:Int)=((qq a0 a1).1))/\
((x2:Int)=((qq a0 a1).2))/\
 True))/\
((qck (upto (ix (qa a1) x2).Signs (ix (qa a1) x2).Lead) (qpx x4 (ln x4)))=true->
(Wn x2 (ln (qa a1)))/\
(qhp a0 a1 x1 (ix (qa a1) x2).Lead x3 x4 x2)/\
(∀ x12:List Int,
(∀ x13:Int,
(∀ x14:ZB,
(∀ x15:List Sign,
(qhp a0 a1 x12 x13 x14 x15 x2->
(Wn x2 (ln (qa a1)))/\
((x13<(ln (ix (qa a1) x2).Signs)->
(Wn x2 (ln (qa a1)))/\
(Wn x13 (ln (ix (qa a1) x2).Signs))/\
(True)/\
(jg (List.length x15+List.length [(ix (ix (qa a1) x2).Signs x13)]))/\
(True)/\
(jg (List.length x12+List.length ([x2]:List Int)))/\
(I64 (x13+1))/\
(a0=a0)/\
(a1=a1)/\
(qhp a0 a1 (x12++([x2]:List Int)) (x13+1) x14 (x15++[(ix (ix (qa a1) x2).Signs x13)]) x2)/\
 qgq a0 a1 (x12++([x2]:List Int)) (x13+1) x14 (x15++[(ix (ix (qa a1) x2).Signs x13)]) x2<qgq a0 a1 x12 x13 x14 x15 x2))/\
((ln (ix (qa a1) x2).Signs)<=x13->
(I64 (x2+1))/\
(a0=a0)/\
(a1=a1)/\
(qcn a0 a1 x12 (x2+1) x14 x15)/\
 qgp a0 a1 x12 (x2+1) x14 x15<qgp a0 a1 x1 x2 x3 x4)))))))))))))/\
((ln (qa a1))<=x2->
(qhq a0 a1 0)/\
(∀ x7:Int,
(qhq a0 a1 x7->
((x7<(ln a1)->
(Wn x7 (ln a1))/\
(((ln (ix a1 x7).Staves)=0->
((2:Int)=((qq a0 a1).1))/\
(((ln (qa a1)):Int)=((qq a0 a1).2))/\
 True))/\
((ln (ix a1 x7).Staves)≠0->
(I64 (x7+1))/\
(x3=x3)/\
(x4=x4)/\
(a0=a0)/\
(a1=a1)/\
(qhq a0 a1 (x7+1))/\
 qgr a0 a1 (x7+1)<qgr a0 a1 x7)))/\
((ln a1)<=x7->
((ln x3<=1000000000/\qto x4 x1 (qa a1)))/\
((((j3 x3 x4 x1 (qa a1)).1):Int)=((qq a0 a1).1))/\
((((j3 x3 x4 x1 (qa a1)).2):Int)=((qq a0 a1).2))/\
 True))))))))))
theorem q72 (a0:ZB) (a1:List Page):ku (qn XK (kb q4f) (fun j ns=>match j,ns with | 0,[.l 1 y0,.i y1,.s y2,.l 4 y3]=>qcn a0 a1 y0 y1 y2 y3 | 1,[.l 1 y0,.i y1,.s y2,.l 4 y3,.i y4]=>qhp a0 a1 y0 y1 y2 y3 y4 | 2,[.i y0]=>qhq a0 a1 y0 | _,_=>False) (fun j ns=>match j,ns with | 0,[.l 1 y0,.i y1,.s y2,.l 4 y3]=>qgp a0 a1 y0 y1 y2 y3 | 1,[.l 1 y0,.i y1,.s y2,.l 4 y3,.i y4]=>qgq a0 a1 y0 y1 y2 y3 y4 | 2,[.i y0]=>qgr a0 a1 y0 | _,_=>0)) {cfg sp with ann:=kr [(17,506,.inv 0 [.one 8 (.list 1 true false),.one 9 (.int .i64),.via 7 [.str,.list 4 true false]] []),(17,64806,.inv 1 [.one 8 (.list 1 true false),.one 10 (.int .i64),.via 7 [.str,.list 4 true false]] [.one 9 (.int .i64)]),(17,1018,.inv 2 [.one 11 (.int .i64)] [])]} 3 17 [.agg [.str (a0),.list 8 (a1) none]] (qtt a0 a1)=qqn a0 a1:=by kernel_rfl
def q7t:List (Nat×Ct KT):=[(17,q45),(53,zbx)]
abbrev qxe (a0:ZB) (a1:List Page):PV KT:=.tuple [.agg [.str (((j5 a0 a1).1)),.list 4 (((j5 a0 a1).2.1)) none],.int .i64 none (((j5 a0 a1).2.2))]
abbrev qtq (a0:ZB) (a1:List Page):Prop:=
((ln a0<=1000000000/\smB a1))/\
((((qq a0 a1).1)≠0->
(([]:ZB)=((j5 a0 a1).1))/\
(([]:List Sign)=((j5 a0 a1).2.1))/\
((((qq a0 a1).1):Int)=((j5 a0 a1).2.2))/\
 True))/\
(((qq a0 a1).1)=0->
((smB a1))/\
(qjj a0 a1 0 a0 ([]:List Sign))/\
(∀ x1:Int,
(∀ x2:ZB,
(∀ x3:List Sign,
(qjj a0 a1 x1 x2 x3->
((x1<(ln (qa a1))->
(Wn x1 (ln (qa a1)))/\
(Wn x1 (ln (qa a1)))/\
((0:Int)<=(ix (qa a1) x1).Lead/\(ix (qa a1) x1).Lead<=ln (ix (qa a1) x1).Signs)/\
(jg (List.length x3+List.length (fr (ix (qa a1) x1).Signs (ix (qa a1) x1).Lead)))/\
(I64 (x1+1))/\
(([]:ZB)=([]:ZB))/\
(a0=a0)/\
(a1=a1)/\
(qjj a0 a1 (x1+1) x2 (x3++(fr (ix (qa a1) x1).Signs (ix (qa a1) x1).Lead)))/\
 qh5 a0 a1 (x1+1) x2 (x3++(fr (ix (qa a1) x1).Signs (ix (qa a1) x1).Lead))<qh5 a0 a1 x1 x2 x3))/\
((ln (qa a1))<=x1->
(x2=((j5 a0 a1).1))/\
(x3=((j5 a0 a1).2.1))/\
((0:Int)=((j5 a0 a1).2.2))/\
 True))))))
theorem zay (a0:ZB) (a1:List Page):ku (qn XK (kb q7t) (fun j ns=>match j,ns with | 0,[.i y0,.s y1,.l 4 y2]=>qjj a0 a1 y0 y1 y2 | _,_=>False) (fun j ns=>match j,ns with | 0,[.i y0,.s y1,.l 4 y2]=>qh5 a0 a1 y0 y1 y2 | _,_=>0)) {cfg sp with ann:=kr [(19,506,.inv 0 [.one 10 (.int .i64),.via 9 [.str,.list 4 true false]] [])]} 3 19 [.agg [.str (a0),.list 8 (a1) none]] (qxe a0 a1)=qtq a0 a1:=by kernel_rfl
def q4q:List (Nat×Ct KT):=[(17,q45),(53,zbx)]
abbrev qtx (a0:ZB) (a1:List Page) (a2:Int):PV KT:=.tuple [.int .i64 none (((za a0 a1 a2).1)),.int .i64 none (((za a0 a1 a2).2.1)),.int .i64 none (((za a0 a1 a2).2.2.1)),.int .i64 none (((za a0 a1 a2).2.2.2))]
abbrev qqr (a0:ZB) (a1:List Page) (a2:Int):Prop:=
((ln a0<=1000000000/\smB a1))/\
((((qq a0 a1).1)≠0->
((0:Int)=((za a0 a1 a2).1))/\
((0:Int)=((za a0 a1 a2).2.1))/\
((0:Int)=((za a0 a1 a2).2.2.1))/\
((((qq a0 a1).1):Int)=((za a0 a1 a2).2.2.2))/\
 True))/\
(((qq a0 a1).1)=0->
((smB a1))/\
(qht a0 a1 a2 0 0)/\
(∀ x1:Int,
(∀ x2:Int,
(qht a0 a1 a2 x1 x2->
((x2<(ln (qa a1))->
((0<=a2->
(Wn x2 (ln (qa a1)))/\
(Wn x2 (ln (qa a1)))/\
(I64 ((ln (ix (qa a1) x2).Signs)-(ix (qa a1) x2).Lead))/\
(I64 (x1+((ln (ix (qa a1) x2).Signs)-(ix (qa a1) x2).Lead)))/\
((a2<(x1+((ln (ix (qa a1) x2).Signs)-(ix (qa a1) x2).Lead))->
(Wn x2 (ln (qbc 0 a1)))/\
(Wn x2 (ln (zf a1)))/\
(Wn x2 (ln (qa a1)))/\
(I64 ((ix (qa a1) x2).Lead+a2))/\
(I64 (((ix (qa a1) x2).Lead+a2)-x1))/\
(((ix (qbc 0 a1) x2):Int)=((za a0 a1 a2).1))/\
(((ix (zf a1) x2):Int)=((za a0 a1 a2).2.1))/\
(((((ix (qa a1) x2).Lead+a2)-x1):Int)=((za a0 a1 a2).2.2.1))/\
((0:Int)=((za a0 a1 a2).2.2.2))/\
 True))/\
((x1+((ln (ix (qa a1) x2).Signs)-(ix (qa a1) x2).Lead))<=a2->
(I64 (x1+((ln (ix (qa a1) x2).Signs)-(ix (qa a1) x2).Lead)))/\
(I64 (x2+1))/\
(a0=a0)/\
(a1=a1)/\
(qht a0 a1 a2 (x1+((ln (ix (qa a1) x2).Signs)-(ix (qa a1) x2).Lead)) (x2+1))/\
 qgu a0 a1 a2 (x1+((ln (ix (qa a1) x2).Signs)-(ix (qa a1) x2).Lead)) (x2+1)<qgu a0 a1 a2 x1 x2)))/\
(a2<0->
((0:Int)=((za a0 a1 a2).1))/\
((0:Int)=((za a0 a1 a2).2.1))/\
((0:Int)=((za a0 a1 a2).2.2.1))/\
((2:Int)=((za a0 a1 a2).2.2.2))/\
 True)))/\
((ln (qa a1))<=x2->
((0:Int)=((za a0 a1 a2).1))/\
((0:Int)=((za a0 a1 a2).2.1))/\
((0:Int)=((za a0 a1 a2).2.2.1))/\
((2:Int)=((za a0 a1 a2).2.2.2))/\
 True)))))
theorem q8b (a0:ZB) (a1:List Page) (a2:Int):ku (qn XK (kb q4q) (fun j ns=>match j,ns with | 0,[.i y0,.i y1]=>qht a0 a1 a2 y0 y1 | _,_=>False) (fun j ns=>match j,ns with | 0,[.i y0,.i y1]=>qgu a0 a1 a2 y0 y1 | _,_=>0)) {cfg sp with ann:=kr [(21,506,.inv 0 [.one 13 (.int .i64),.one 14 (.int .i64)] [])]} 3 21 [.agg [.str (a0),.list 8 (a1) none],.int .i64 none (a2)] (qtx a0 a1 a2)=qqr a0 a1 a2:=by kernel_rfl
def q4p:List (Nat×Ct KT):=[(16,q44)]
abbrev qtw (a0:ZB) (a1:List Page) (a2:Int):PV KT:=.tuple [.int .i64 none (((za a0 a1 a2).1)),.int .i64 none (((za a0 a1 a2).2.1)),.int .i64 none (((za a0 a1 a2).2.2.1)),.int .i64 none (((za a0 a1 a2).2.2.2))]
abbrev qqq (a0:ZB) (a1:List Page) (a2:Int):Prop:=
((ln a0<=1000000000/\smB a1))/\
((((qq a0 a1).1)≠0->
((0:Int)=((za a0 a1 a2).1))/\
((0:Int)=((za a0 a1 a2).2.1))/\
((0:Int)=((za a0 a1 a2).2.2.1))/\
((((qq a0 a1).1):Int)=((za a0 a1 a2).2.2.2))/\
 True))/\
(((qq a0 a1).1)=0->
((0<=a2->
(qhr a0 a1 a2 a2 0)/\
(∀ x2:Int,
(∀ x3:Int,
(qhr a0 a1 a2 x2 x3->
((x3<(ln a1)->
(Wn x3 (ln a1))/\
(qhs a0 a1 a2 x2 0 x3)/\
(∀ x6:Int,
(∀ x7:Int,
(qhs a0 a1 a2 x6 x7 x3->
((x7<(ln (ix a1 x3).Staves)->
(Wn x7 (ln (ix a1 x3).Staves))/\
(I64 ((ln (ix (ix a1 x3).Staves x7).Signs)-(ix (ix a1 x3).Staves x7).Lead))/\
((x6<((ln (ix (ix a1 x3).Staves x7).Signs)-(ix (ix a1 x3).Staves x7).Lead)->
(I64 (x6+(ix (ix a1 x3).Staves x7).Lead))/\
((x3:Int)=((za a0 a1 a2).1))/\
((x7:Int)=((za a0 a1 a2).2.1))/\
(((x6+(ix (ix a1 x3).Staves x7).Lead):Int)=((za a0 a1 a2).2.2.1))/\
((0:Int)=((za a0 a1 a2).2.2.2))/\
 True))/\
(((ln (ix (ix a1 x3).Staves x7).Signs)-(ix (ix a1 x3).Staves x7).Lead)<=x6->
(I64 ((ln (ix (ix a1 x3).Staves x7).Signs)-(ix (ix a1 x3).Staves x7).Lead))/\
(I64 (x6-((ln (ix (ix a1 x3).Staves x7).Signs)-(ix (ix a1 x3).Staves x7).Lead)))/\
(I64 (x7+1))/\
((ix a1 x3).Staves=(ix a1 x3).Staves)/\
(a0=a0)/\
(a1=a1)/\
(qhs a0 a1 a2 (x6-((ln (ix (ix a1 x3).Staves x7).Signs)-(ix (ix a1 x3).Staves x7).Lead)) (x7+1) x3)/\
 qgt a0 a1 a2 (x6-((ln (ix (ix a1 x3).Staves x7).Signs)-(ix (ix a1 x3).Staves x7).Lead)) (x7+1) x3<qgt a0 a1 a2 x6 x7 x3)))/\
((ln (ix a1 x3).Staves)<=x7->
(I64 (x3+1))/\
(a0=a0)/\
(a1=a1)/\
(qhr a0 a1 a2 x6 (x3+1))/\
 qgs a0 a1 a2 x6 (x3+1)<qgs a0 a1 a2 x2 x3))))))/\
((ln a1)<=x3->
((0:Int)=((za a0 a1 a2).1))/\
((0:Int)=((za a0 a1 a2).2.1))/\
((0:Int)=((za a0 a1 a2).2.2.1))/\
((2:Int)=((za a0 a1 a2).2.2.2))/\
 True))))))/\
(a2<0->
((0:Int)=((za a0 a1 a2).1))/\
((0:Int)=((za a0 a1 a2).2.1))/\
((0:Int)=((za a0 a1 a2).2.2.1))/\
((2:Int)=((za a0 a1 a2).2.2.2))/\
 True))
theorem q78 (a0:ZB) (a1:List Page) (a2:Int):ku (qn XK (kb q4p) (fun j ns=>match j,ns with | 0,[.i y0,.i y1]=>qhr a0 a1 a2 y0 y1 | 1,[.i y0,.i y1,.i y2]=>qhs a0 a1 a2 y0 y1 y2 | _,_=>False) (fun j ns=>match j,ns with | 0,[.i y0,.i y1]=>qgs a0 a1 a2 y0 y1 | 1,[.i y0,.i y1,.i y2]=>qgt a0 a1 a2 y0 y1 y2 | _,_=>0)) {cfg sp with ann:=kr [(20,234,.inv 0 [.one 1 (.int .i64),.one 27 (.int .i64)] []),(20,60006,.inv 1 [.one 1 (.int .i64),.one 35 (.int .i64)] [.one 27 (.int .i64)])]} 3 20 [.agg [.str (a0),.list 8 (a1) none],.int .i64 none (a2)] (qtw a0 a1 a2)=qqq a0 a1 a2:=by kernel_rfl
def q4s:List (Nat×Ct KT):=[(17,q45)]
abbrev qt1 (a0:ZB) (a1:List Page):PV KT:=.tuple [.list 1 (((zx a0 a1).1)) none,.list 3 (((zx a0 a1).2.1)) none,.int .i64 none (((zx a0 a1).2.2))]
abbrev qmu (v0:List Page) (v1:Int) (v2:Int) (v3:ZB) (p:Prop):Prop:=
((ix (ix v0 v1).Staves v2).Signs=(ix (ix v0 v1).Staves v2).Signs)/\
(((ix (ix v0 v1).Staves v2).Lead:Int)=(ix (ix v0 v1).Staves v2).Lead)/\
((ix (ix v0 v1).Staves v2).Catch=(ix (ix v0 v1).Staves v2).Catch)/\
(((ix (ix v0 v1).Staves v2).Custos:Int)=(ix (ix v0 v1).Staves v2).Custos)/\
(v3=v3)/\
(v0=v0)/\
 p
abbrev qqu (a0:ZB) (a1:List Page):Prop:=
((ln a0<=1000000000/\smB a1))/\
((((qq a0 a1).1)≠0->
(([]:List Int)=((zx a0 a1).1))/\
(([]:List Bool)=((zx a0 a1).2.1))/\
((((qq a0 a1).1):Int)=((zx a0 a1).2.2))/\
 True))/\
(((qq a0 a1).1)=0->
(qfm a0 a1 ([]:List Int) ([]:List Bool) 0 false 0)/\
(∀ x1:List Int,
(∀ x2:List Bool,
(∀ x3:Int,
(∀ x4:Bool,
(∀ x5:Int,
(qfm a0 a1 x1 x2 x3 x4 x5->
((x5<(ln a1)->
(qhu a0 a1 x3 x4 0 x1 x2 x5)/\
(∀ x8:Int,
(∀ x9:Bool,
(∀ x10:Int,
(qhu a0 a1 x8 x9 x10 x1 x2 x5->
(Wn x5 (ln a1))/\
((x10<(ln (ix a1 x5).Staves)->
(Wn x5 (ln a1))/\
(Wn x10 (ln (ix a1 x5).Staves))/\
(qbu a0 a1 x8 x9 (ix (ix a1 x5).Staves x10).Lead x1 x2 x5 x10)/\
(∀ x13:Int,
(∀ x14:Bool,
(∀ x15:Int,
(qbu a0 a1 x13 x14 x15 x1 x2 x5 x10->
((x15<(ln (ix (ix a1 x5).Staves x10).Signs)->
(I64 (x13+1))/\
(Wn x15 (ln (ix (ix a1 x5).Staves x10).Signs))/\
(((ix (ix (ix a1 x5).Staves x10).Signs x15).Kind=1->
(I64 (x15+1))/\
(qmu a1 x5 x10 a0 (
(qbu a0 a1 (x13+1) false (x15+1) x1 x2 x5 x10)/\
 jd a0 a1 (x13+1) false (x15+1) x1 x2 x5 x10<jd a0 a1 x13 x14 x15 x1 x2 x5 x10))))/\
((ix (ix (ix a1 x5).Staves x10).Signs x15).Kind≠1->
(((ix (ix (ix a1 x5).Staves x10).Signs x15).Kind=4->
(I64 (x15+1))/\
(qmu a1 x5 x10 a0 (
(qbu a0 a1 (x13+1) false (x15+1) x1 x2 x5 x10)/\
 jd a0 a1 (x13+1) false (x15+1) x1 x2 x5 x10<jd a0 a1 x13 x14 x15 x1 x2 x5 x10))))/\
((ix (ix (ix a1 x5).Staves x10).Signs x15).Kind≠4->
(((ix (ix (ix a1 x5).Staves x10).Signs x15).Kind=2->
(I64 (x15+1))/\
(qmu a1 x5 x10 a0 (
(qbu a0 a1 (x13+1) true (x15+1) x1 x2 x5 x10)/\
 jd a0 a1 (x13+1) true (x15+1) x1 x2 x5 x10<jd a0 a1 x13 x14 x15 x1 x2 x5 x10))))/\
((ix (ix (ix a1 x5).Staves x10).Signs x15).Kind≠2->
(I64 (x15+1))/\
(qmu a1 x5 x10 a0 (
(qbu a0 a1 (x13+1) x14 (x15+1) x1 x2 x5 x10)/\
 jd a0 a1 (x13+1) x14 (x15+1) x1 x2 x5 x10<jd a0 a1 x13 x14 x15 x1 x2 x5 x10)))))))/\
((ln (ix (ix a1 x5).Staves x10).Signs)<=x15->
(I64 (x10+1))/\
(a0=a0)/\
(a1=a1)/\
(qhu a0 a1 x13 x14 (x10+1) x1 x2 x5)/\
 qgw a0 a1 x13 x14 (x10+1) x1 x2 x5<qgw a0 a1 x8 x9 x10 x1 x2 x5)))))))/\
((ln (ix a1 x5).Staves)<=x10->
(I64 (x5+1))/\
(((x5+1)<(ln a1)->
(I64 (x8-1))/\
(True)/\
(jg (List.length x1+List.length ([(x8-1)]:List Int)))/\
(True)/\
(jg (List.length x2+List.length [x9]))/\
(I64 (x5+1))/\
(a0=a0)/\
(a1=a1)/\
(qfm a0 a1 (x1++([(x8-1)]:List Int)) (x2++[x9]) x8 x9 (x5+1))/\
 qb0 a0 a1 (x1++([(x8-1)]:List Int)) (x2++[x9]) x8 x9 (x5+1)<qb0 a0 a1 x1 x2 x3 x4 x5))/\
((ln a1)<=(x5+1)->
(I64 (x5+1))/\
(a0=a0)/\
(a1=a1)/\
(qfm a0 a1 x1 x2 x8 x9 (x5+1))/\
 qb0 a0 a1 x1 x2 x8 x9 (x5+1)<qb0 a0 a1 x1 x2 x3 x4 x5))))))))/\
((ln a1)<=x5->
(x1=((zx a0 a1).1))/\
(x2=((zx a0 a1).2.1))/\
((0:Int)=((zx a0 a1).2.2))/\
 True))))))))
theorem q8h (a0:ZB) (a1:List Page):ku (qn XK (kb q4s) (fun j ns=>match j,ns with | 0,[.l 1 y0,.l 3 y1,.i y2,.b y3,.i y4]=>qfm a0 a1 y0 y1 y2 y3 y4 | 1,[.i y0,.b y1,.i y2,.l 1 y3,.l 3 y4,.i y5]=>qhu a0 a1 y0 y1 y2 y3 y4 y5 | 2,[.i y0,.b y1,.i y2,.l 1 y3,.l 3 y4,.i y5,.i y6]=>qbu a0 a1 y0 y1 y2 y3 y4 y5 y6 | _,_=>False) (fun j ns=>match j,ns with | 0,[.l 1 y0,.l 3 y1,.i y2,.b y3,.i y4]=>qb0 a0 a1 y0 y1 y2 y3 y4 | 1,[.i y0,.b y1,.i y2,.l 1 y3,.l 3 y4,.i y5]=>qgw a0 a1 y0 y1 y2 y3 y4 y5 | 2,[.i y0,.b y1,.i y2,.l 1 y3,.l 3 y4,.i y5,.i y6]=>jd a0 a1 y0 y1 y2 y3 y4 y5 y6 | _,_=>0)) {cfg sp with ann:=kr [(23,1018,.inv 0 [.one 7 (.list 1 true false),.one 8 (.list 3 true false),.one 9 (.int .i64),.one 10 (.bool),.one 11 (.int .i64)] []),(23,130338,.inv 1 [.one 9 (.int .i64),.one 10 (.bool),.one 12 (.int .i64)] [.one 7 (.list 1 false false),.one 8 (.list 3 false false),.one 11 (.int .i64)]),(23,16683302,.inv 2 [.one 9 (.int .i64),.one 10 (.bool),.one 14 (.int .i64)] [.one 7 (.list 1 false false),.one 8 (.list 3 false false),.one 11 (.int .i64),.one 12 (.int .i64)])]} 3 23 [.agg [.str (a0),.list 8 (a1) none]] (qt1 a0 a1)=qqu a0 a1:=by kernel_rfl
def q8j:List (Nat×Ct KT):=[(17,q45)]
abbrev qxk (a0:ZB) (a1:List Page):PV KT:=.tuple [.agg [.str (((jb a0 a1).1)),.list 4 (((jb a0 a1).2.1)) none],.int .i64 none (((jb a0 a1).2.2))]
abbrev qt3 (a0:ZB) (a1:List Page):Prop:=
((ln a0<=1000000000/\smB a1))/\
((((qq a0 a1).1)≠0->
(([]:ZB)=((jb a0 a1).1))/\
(([]:List Sign)=((jb a0 a1).2.1))/\
((((qq a0 a1).1):Int)=((jb a0 a1).2.2))/\
 True))/\
(((qq a0 a1).1)=0->
(qai a0 a1 0 a0 ([]:List Sign))/\
(∀ x1:Int,
(∀ x2:ZB,
(∀ x3:List Sign,
(qai a0 a1 x1 x2 x3->
((x1<(ln a1)->
((0<x1->
(True)/\
(jg (List.length x3+List.length [(Sign.mk 11 0 0 0 false 0 false false 0 0 0 0 false 0 0 0 0)]))/\
(jk a0 a1 0 x2 (x3++[(Sign.mk 11 0 0 0 false 0 false false 0 0 0 0 false 0 0 0 0)]) x1)/\
(∀ x7:Int,
(∀ x8:ZB,
(∀ x9:List Sign,
(jk a0 a1 x7 x8 x9 x1->
(Wn x1 (ln a1))/\
((x7<(ln (ix a1 x1).Staves)->
(Wn x1 (ln a1))/\
(Wn x7 (ln (ix a1 x1).Staves))/\
(jg (List.length x9+List.length (ix (ix a1 x1).Staves x7).Signs))/\
(I64 (x7+1))/\
(([]:ZB)=([]:ZB))/\
(a0=a0)/\
(a1=a1)/\
(jk a0 a1 (x7+1) x8 (x9++(ix (ix a1 x1).Staves x7).Signs) x1)/\
 qat a0 a1 (x7+1) x8 (x9++(ix (ix a1 x1).Staves x7).Signs) x1<qat a0 a1 x7 x8 x9 x1))/\
((ln (ix a1 x1).Staves)<=x7->
(I64 (x1+1))/\
(([]:ZB)=([]:ZB))/\
(a0=a0)/\
(a1=a1)/\
(qai a0 a1 (x1+1) x8 x9)/\
 qas a0 a1 (x1+1) x8 x9<qas a0 a1 x1 x2 x3)))))))/\
(x1<=0->
(jk a0 a1 0 x2 x3 x1)/\
(∀ x7:Int,
(∀ x8:ZB,
(∀ x9:List Sign,
(jk a0 a1 x7 x8 x9 x1->
(Wn x1 (ln a1))/\
((x7<(ln (ix a1 x1).Staves)->
(Wn x1 (ln a1))/\
(Wn x7 (ln (ix a1 x1).Staves))/\
(jg (List.length x9+List.length (ix (ix a1 x1).Staves x7).Signs))/\
(I64 (x7+1))/\
(([]:ZB)=([]:ZB))/\
(a0=a0)/\
(a1=a1)/\
(jk a0 a1 (x7+1) x8 (x9++(ix (ix a1 x1).Staves x7).Signs) x1)/\
 qat a0 a1 (x7+1) x8 (x9++(ix (ix a1 x1).Staves x7).Signs) x1<qat a0 a1 x7 x8 x9 x1))/\
((ln (ix a1 x1).Staves)<=x7->
(I64 (x1+1))/\
(([]:ZB)=([]:ZB))/\
(a0=a0)/\
(a1=a1)/\
(qai a0 a1 (x1+1) x8 x9)/\
 qas a0 a1 (x1+1) x8 x9<qas a0 a1 x1 x2 x3))))))))/\
((ln a1)<=x1->
((400<(ln x3)->
(([]:ZB)=((jb a0 a1).1))/\
(([]:List Sign)=((jb a0 a1).2.1))/\
((11:Int)=((jb a0 a1).2.2))/\
 True))/\
((ln x3)<=400->
(x2=((jb a0 a1).1))/\
(x3=((jb a0 a1).2.1))/\
((0:Int)=((jb a0 a1).2.2))/\
 True)))))))
theorem zbj (a0:ZB) (a1:List Page):ku (qn XK (kb q8j) (fun j ns=>match j,ns with | 0,[.i y0,.s y1,.l 4 y2]=>qai a0 a1 y0 y1 y2 | 1,[.i y0,.s y1,.l 4 y2,.i y3]=>jk a0 a1 y0 y1 y2 y3 | _,_=>False) (fun j ns=>match j,ns with | 0,[.i y0,.s y1,.l 4 y2]=>qas a0 a1 y0 y1 y2 | 1,[.i y0,.s y1,.l 4 y2,.i y3]=>qat a0 a1 y0 y1 y2 y3 | _,_=>0)) {cfg sp with ann:=kr [(27,250,.inv 0 [.one 7 (.int .i64),.via 6 [.str,.list 4 true false]] []),(27,32038,.inv 1 [.one 8 (.int .i64),.via 6 [.str,.list 4 true false]] [.one 7 (.int .i64)])]} 3 27 [.agg [.str (a0),.list 8 (a1) none]] (qxk a0 a1)=qt3 a0 a1:=by kernel_rfl
def q8i:List (Nat×Ct KT):=[(16,q44)]
abbrev qxj (a0:ZB) (a1:List Page):PV KT:=.tuple [.agg [.str (((jb a0 a1).1)),.list 4 (((jb a0 a1).2.1)) none],.int .i64 none (((jb a0 a1).2.2))]
abbrev qt2 (a0:ZB) (a1:List Page):Prop:=
((ln a0<=1000000000/\smB a1))/\
((((qq a0 a1).1)≠0->
(([]:ZB)=((jb a0 a1).1))/\
(([]:List Sign)=((jb a0 a1).2.1))/\
((((qq a0 a1).1):Int)=((jb a0 a1).2.2))/\
 True))/\
(((qq a0 a1).1)=0->
(qg8 a0 a1 0 a0 ([]:List Sign))/\
(∀ x1:Int,
(∀ x2:ZB,
(∀ x3:List Sign,
(qg8 a0 a1 x1 x2 x3->
((x1<(ln a1)->
(Wn x1 (ln a1))/\
((0<x1->
(True)/\
(jg (List.length x3+List.length [(Sign.mk 11 0 0 0 false 0 false false 0 0 0 0 false 0 0 0 0)]))/\
(qdk a0 a1 0 x2 (x3++[(Sign.mk 11 0 0 0 false 0 false false 0 0 0 0 false 0 0 0 0)]) x1)/\
(∀ x7:Int,
(∀ x8:ZB,
(∀ x9:List Sign,
(qdk a0 a1 x7 x8 x9 x1->
((x7<(ln (ix a1 x1).Staves)->
(Wn x7 (ln (ix a1 x1).Staves))/\
(jg (List.length x9+List.length (ix (ix a1 x1).Staves x7).Signs))/\
(I64 (x7+1))/\
((ix a1 x1).Staves=(ix a1 x1).Staves)/\
(([]:ZB)=([]:ZB))/\
(a0=a0)/\
(a1=a1)/\
(qdk a0 a1 (x7+1) x8 (x9++(ix (ix a1 x1).Staves x7).Signs) x1)/\
 qcp a0 a1 (x7+1) x8 (x9++(ix (ix a1 x1).Staves x7).Signs) x1<qcp a0 a1 x7 x8 x9 x1))/\
((ln (ix a1 x1).Staves)<=x7->
(I64 (x1+1))/\
(([]:ZB)=([]:ZB))/\
(a0=a0)/\
(a1=a1)/\
(qg8 a0 a1 (x1+1) x8 x9)/\
 qco a0 a1 (x1+1) x8 x9<qco a0 a1 x1 x2 x3)))))))/\
(x1<=0->
(qdk a0 a1 0 x2 x3 x1)/\
(∀ x7:Int,
(∀ x8:ZB,
(∀ x9:List Sign,
(qdk a0 a1 x7 x8 x9 x1->
((x7<(ln (ix a1 x1).Staves)->
(Wn x7 (ln (ix a1 x1).Staves))/\
(jg (List.length x9+List.length (ix (ix a1 x1).Staves x7).Signs))/\
(I64 (x7+1))/\
((ix a1 x1).Staves=(ix a1 x1).Staves)/\
(([]:ZB)=([]:ZB))/\
(a0=a0)/\
(a1=a1)/\
(qdk a0 a1 (x7+1) x8 (x9++(ix (ix a1 x1).Staves x7).Signs) x1)/\
 qcp a0 a1 (x7+1) x8 (x9++(ix (ix a1 x1).Staves x7).Signs) x1<qcp a0 a1 x7 x8 x9 x1))/\
((ln (ix a1 x1).Staves)<=x7->
(I64 (x1+1))/\
(([]:ZB)=([]:ZB))/\
(a0=a0)/\
(a1=a1)/\
(qg8 a0 a1 (x1+1) x8 x9)/\
 qco a0 a1 (x1+1) x8 x9<qco a0 a1 x1 x2 x3))))))))/\
((ln a1)<=x1->
((400<(ln x3)->
(([]:ZB)=((jb a0 a1).1))/\
(([]:List Sign)=((jb a0 a1).2.1))/\
((11:Int)=((jb a0 a1).2.2))/\
 True))/\
((ln x3)<=400->
(x2=((jb a0 a1).1))/\
(x3=((jb a0 a1).2.1))/\
((0:Int)=((jb a0 a1).2.2))/\
 True)))))))
theorem zbg (a0:ZB) (a1:List Page):ku (qn XK (kb q8i) (fun j ns=>match j,ns with | 0,[.i y0,.s y1,.l 4 y2]=>qg8 a0 a1 y0 y1 y2 | 1,[.i y0,.s y1,.l 4 y2,.i y3]=>qdk a0 a1 y0 y1 y2 y3 | _,_=>False) (fun j ns=>match j,ns with | 0,[.i y0,.s y1,.l 4 y2]=>qco a0 a1 y0 y1 y2 | 1,[.i y0,.s y1,.l 4 y2,.i y3]=>qcp a0 a1 y0 y1 y2 y3 | _,_=>0)) {cfg sp with ann:=kr [(26,122,.inv 0 [.one 26 (.int .i64),.via 6 [.str,.list 4 true false]] []),(26,62670,.inv 1 [.one 42 (.int .i64),.via 6 [.str,.list 4 true false]] [.one 26 (.int .i64)])]} 3 26 [.agg [.str (a0),.list 8 (a1) none]] (qxj a0 a1)=qt2 a0 a1:=by kernel_rfl
def qzb:List (Nat×Ct KT):=[]
abbrev qo1 (a0:List Int) (a1:List Int):PV KT:=.sb 0 false ((qkc a0 a1)) ((qkc a0 a1)=true) ((qkc a0 a1)=false)
abbrev qls (a0:List Int) (a1:List Int):Prop:=
(((ln a0)≠(ln a1)->
(false=(qkc a0 a1))/\
 True))/\
((ln a0)=(ln a1)->
(qfl a0 a1 0)/\
(∀ x1:Int,
(qfl a0 a1 x1->
((x1<(ln a0)->
(Wn x1 (ln a0))/\
(Wn x1 (ln a1))/\
(((ix a0 x1)≠(ix a1 x1)->
(false=(qkc a0 a1))/\
 True))/\
((ix a0 x1)=(ix a1 x1)->
(I64 (x1+1))/\
(qfl a0 a1 (x1+1))/\
 qen a0 a1 (x1+1)<qen a0 a1 x1)))/\
((ln a0)<=x1->
(true=(qkc a0 a1))/\
 True))))
theorem q1n (a0:List Int) (a1:List Int):ku (qn XK (kb qzb) (fun j ns=>match j,ns with | 0,[.i y0]=>qfl a0 a1 y0 | _,_=>False) (fun j ns=>match j,ns with | 0,[.i y0]=>qen a0 a1 y0 | _,_=>0)) {cfg sp with ann:=kr [(24,58,.inv 0 [.one 5 (.int .i64)] [])]} 3 24 [.list 1 (a0) none,.list 1 (a1) none] (qo1 a0 a1)=qls a0 a1:=by kernel_rfl
def qwo:List (Nat×Ct KT):=[]
abbrev qne (a0:List Bool) (a1:List Bool):PV KT:=.sb 0 false ((qkd a0 a1)) ((qkd a0 a1)=true) ((qkd a0 a1)=false)
abbrev qkj (a0:List Bool) (a1:List Bool):Prop:=
(((ln a0)≠(ln a1)->
(false=(qkd a0 a1))/\
 True))/\
((ln a0)=(ln a1)->
(qem a0 a1 0)/\
(∀ x1:Int,
(qem a0 a1 x1->
((x1<(ln a0)->
(Wn x1 (ln a0))/\
(Wn x1 (ln a1))/\
(((ix a0 x1)≠(ix a1 x1)->
(false=(qkd a0 a1))/\
 True))/\
((ix a0 x1)=(ix a1 x1)->
(I64 (x1+1))/\
(qem a0 a1 (x1+1))/\
 qdw a0 a1 (x1+1)<qdw a0 a1 x1)))/\
((ln a0)<=x1->
(true=(qkd a0 a1))/\
 True))))
theorem qza (a0:List Bool) (a1:List Bool):ku (qn XK (kb qwo) (fun j ns=>match j,ns with | 0,[.i y0]=>qem a0 a1 y0 | _,_=>False) (fun j ns=>match j,ns with | 0,[.i y0]=>qdw a0 a1 y0 | _,_=>0)) {cfg sp with ann:=kr [(25,58,.inv 0 [.one 5 (.int .i64)] [])]} 3 25 [.list 3 (a0) none,.list 3 (a1) none] (qne a0 a1)=qkj a0 a1:=by kernel_rfl
def q9g:List (Nat×Ct KT):=[]
abbrev qx8 (a0:ZB) (a1:List Page):PV KT:=.sb 0 false ((qes a0 a1)) ((qes a0 a1)=true) ((qes a0 a1)=false)
abbrev qvj (a0:ZB) (a1:List Page):Prop:=
((100<(ln a0)->
(false=(qes a0 a1))/\
 True))/\
((ln a0)<=100->
((20<(ln a1)->
(false=(qes a0 a1))/\
 True))/\
((ln a1)<=20->
(qjk a0 a1 0 0)/\
(∀ x2:Int,
(∀ x3:Int,
(qjk a0 a1 x2 x3->
((x3<(ln a1)->
(Wn x3 (ln a1))/\
((15<(ln (ix a1 x3).Staves)->
(false=(qes a0 a1))/\
 True))/\
((ln (ix a1 x3).Staves)<=15->
(qjl a0 a1 x2 0 x3)/\
(∀ x7:Int,
(∀ x8:Int,
(qjl a0 a1 x7 x8 x3->
(Wn x3 (ln a1))/\
((x8<(ln (ix a1 x3).Staves)->
(Wn x3 (ln a1))/\
(Wn x8 (ln (ix a1 x3).Staves))/\
((70<(ln (ix (ix a1 x3).Staves x8).Signs)->
(false=(qes a0 a1))/\
 True))/\
((ln (ix (ix a1 x3).Staves x8).Signs)<=70->
(Wn x3 (ln a1))/\
(Wn x8 (ln (ix a1 x3).Staves))/\
(I64 (x7+(ln (ix (ix a1 x3).Staves x8).Signs)))/\
(I64 (x8+1))/\
(a0=a0)/\
(a1=a1)/\
(qjl a0 a1 (x7+(ln (ix (ix a1 x3).Staves x8).Signs)) (x8+1) x3)/\
 qh7 a0 a1 (x7+(ln (ix (ix a1 x3).Staves x8).Signs)) (x8+1) x3<qh7 a0 a1 x7 x8 x3)))/\
((ln (ix a1 x3).Staves)<=x8->
(I64 (x3+1))/\
(a0=a0)/\
(a1=a1)/\
(qjk a0 a1 x7 (x3+1))/\
 qh6 a0 a1 x7 (x3+1)<qh6 a0 a1 x2 x3)))))))/\
((ln a1)<=x3->
((decide (x2<=600))=(qes a0 a1))/\
 True))))))
theorem zcq (a0:ZB) (a1:List Page):ku (qn XK (kb q9g) (fun j ns=>match j,ns with | 0,[.i y0,.i y1]=>qjk a0 a1 y0 y1 | 1,[.i y0,.i y1,.i y2]=>qjl a0 a1 y0 y1 y2 | _,_=>False) (fun j ns=>match j,ns with | 0,[.i y0,.i y1]=>qh6 a0 a1 y0 y1 | 1,[.i y0,.i y1,.i y2]=>qh7 a0 a1 y0 y1 y2 | _,_=>0)) {cfg sp with ann:=kr [(14,122,.inv 0 [.one 3 (.int .i64),.one 4 (.int .i64)] []),(14,15654,.inv 1 [.one 3 (.int .i64),.one 5 (.int .i64)] [.one 4 (.int .i64)])]} 3 14 [.agg [.str (a0),.list 8 (a1) none]] (qx8 a0 a1)=qvj a0 a1:=by kernel_rfl
def zg0:List (Nat×Ct KT):=[(33,ziq)]
abbrev q7h (a0:ZB) (a1:List Page):PV KT:=.agg [.str ((a0)),.list 8 ((a1)) none]
abbrev q5s (a0:ZB) (a1:List Page):Prop:=
(qmy a0 a1 0 a0 ([]:List Page))/\
(∀ x0:Int,
(∀ x1:ZB,
(∀ x2:List Page,
(qmy a0 a1 x0 x1 x2->
((x0<(ln a1)->
(qmz a0 a1 0 ([]:List Staff) x0)/\
(∀ x5:Int,
(∀ x6:List Staff,
(qmz a0 a1 x5 x6 x0->
(Wn x0 (ln a1))/\
((x5<(ln (ix a1 x0).Staves)->
(Wn x0 (ln a1))/\
(Wn x5 (ln (ix a1 x0).Staves))/\
((ln (ix (ix a1 x0).Staves x5).Signs<=10000000))/\
(True)/\
(jg (List.length x6+List.length [(ix (ix a1 x0).Staves x5)]))/\
(I64 (x5+1))/\
(x1=x1)/\
(x2=x2)/\
(([]:ZB)=([]:ZB))/\
(a0=a0)/\
(a1=a1)/\
(qmz a0 a1 (x5+1) (x6++[(ix (ix a1 x0).Staves x5)]) x0)/\
 qk4 a0 a1 (x5+1) (x6++[(ix (ix a1 x0).Staves x5)]) x0<qk4 a0 a1 x5 x6 x0))/\
((ln (ix a1 x0).Staves)<=x5->
(True)/\
(jg (List.length x2+List.length [(Page.mk x6)]))/\
(I64 (x0+1))/\
(([]:ZB)=([]:ZB))/\
(a0=a0)/\
(a1=a1)/\
(qmy a0 a1 (x0+1) x1 (x2++[(Page.mk x6)]))/\
 qk3 a0 a1 (x0+1) x1 (x2++[(Page.mk x6)])<qk3 a0 a1 x0 x1 x2))))))/\
((ln a1)<=x0->
(x1=(a0))/\
(x2=(a1))/\
 True)))))
theorem zjq (a0:ZB) (a1:List Page):ku (qn XK (kb zg0) (fun j ns=>match j,ns with | 0,[.i y0,.s y1,.l 8 y2]=>qmy a0 a1 y0 y1 y2 | 1,[.i y0,.l 7 y1,.i y2]=>qmz a0 a1 y0 y1 y2 | _,_=>False) (fun j ns=>match j,ns with | 0,[.i y0,.s y1,.l 8 y2]=>qk3 a0 a1 y0 y1 y2 | 1,[.i y0,.l 7 y1,.i y2]=>qk4 a0 a1 y0 y1 y2 | _,_=>0)) {cfg sp with ann:=kr [(15,58,.inv 0 [.one 4 (.int .i64),.via 3 [.str,.list 8 true false]] []),(15,14922,.inv 1 [.one 6 (.int .i64),.via 5 [.list 7 true false]] [.one 4 (.int .i64)])]} 3 15 [.agg [.str (a0),.list 8 (a1) none]] (q7h a0 a1)=q5s a0 a1:=by kernel_rfl
def qwz:List (Nat×Ct KT):=[(14,zid),(8,ct8),(15,zie),(16,q44),(17,q45),(18,zif),(19,zig),(13,zic),(20,zih),(21,zii),(22,zij),(23,zik),(24,zil),(25,zim),(26,zin),(27,zio),(12,zib)]
abbrev qnj (a0:ZB) (a1:List Page) (a2:Int):PV KT:=.sb 0 false ((true)) ((true)=true) ((true)=false)
abbrev qk0 (a0:ZB) (a1:List Page) (a2:Int):Prop:=
((ln a0<=9223372036854775807/\ln a1<=9223372036854775807/\∀ p ∈ a1,ln p.Staves<=9223372036854775807/\∀ s ∈ p.Staves,ln s.Signs<=9223372036854775807))/\
(((qes a0 a1)=false->
(True)/\
((true)=(true))/\
 True))/\
((qes a0 a1)=true->
((smB a1))/\
((ln (a0)<=1000000000/\smB (a1)))/\
((ln a0<=1000000000/\smB a1))/\
((((qq (a0) (a1)).1)≠((qq a0 a1).1)->
(false=(true))/\
 True))/\
(((qq (a0) (a1)).1)=((qq a0 a1).1)->
((((qq (a0) (a1)).2)≠((qq a0 a1).2)->
(false=(true))/\
 True))/\
(((qq (a0) (a1)).2)=((qq a0 a1).2)->
((ln (a0)<=1000000000/\smB (a1)))/\
((ln a0<=1000000000/\smB a1))/\
((ln ((j5 (a0) (a1)).2.1)<=10000000))/\
(((kj ((j5 (a0) (a1)).1) ((j5 (a0) (a1)).2.1) ((j5 a0 a1).1) ((j5 a0 a1).2.1))=false->
(false=(true))/\
 True))/\
((kj ((j5 (a0) (a1)).1) ((j5 (a0) (a1)).2.1) ((j5 a0 a1).1) ((j5 a0 a1).2.1))=true->
((((j5 (a0) (a1)).2.2)≠((j5 a0 a1).2.2)->
(false=(true))/\
 True))/\
(((j5 (a0) (a1)).2.2)=((j5 a0 a1).2.2)->
((ln (a0)<=1000000000/\smB (a1)/\I64 a2))/\
((ln a0<=1000000000/\smB a1/\I64 a2))/\
((((za (a0) (a1) a2).1)≠((za a0 a1 a2).1)->
(false=(true))/\
 True))/\
(((za (a0) (a1) a2).1)=((za a0 a1 a2).1)->
((((za (a0) (a1) a2).2.1)≠((za a0 a1 a2).2.1)->
(false=(true))/\
 True))/\
(((za (a0) (a1) a2).2.1)=((za a0 a1 a2).2.1)->
((((za (a0) (a1) a2).2.2.1)≠((za a0 a1 a2).2.2.1)->
(false=(true))/\
 True))/\
(((za (a0) (a1) a2).2.2.1)=((za a0 a1 a2).2.2.1)->
((((za (a0) (a1) a2).2.2.2)≠((za a0 a1 a2).2.2.2)->
(false=(true))/\
 True))/\
(((za (a0) (a1) a2).2.2.2)=((za a0 a1 a2).2.2.2)->
((ln (a0)<=1000000000/\smB (a1)))/\
((ln a0<=1000000000/\smB a1))/\
((ln ((zx (a0) (a1)).1)<=1000000000))/\
(((qkc ((zx (a0) (a1)).1) ((zx a0 a1).1))=false->
(false=(true))/\
 True))/\
((qkc ((zx (a0) (a1)).1) ((zx a0 a1).1))=true->
((ln ((zx (a0) (a1)).2.1)<=1000000000))/\
(((qkd ((zx (a0) (a1)).2.1) ((zx a0 a1).2.1))=false->
(false=(true))/\
 True))/\
((qkd ((zx (a0) (a1)).2.1) ((zx a0 a1).2.1))=true->
((((zx (a0) (a1)).2.2)≠((zx a0 a1).2.2)->
(false=(true))/\
 True))/\
(((zx (a0) (a1)).2.2)=((zx a0 a1).2.2)->
((ln (a0)<=1000000000/\smB (a1)))/\
((ln a0<=1000000000/\smB a1))/\
((ln ((jb (a0) (a1)).2.1)<=10000000))/\
(((kj ((jb (a0) (a1)).1) ((jb (a0) (a1)).2.1) ((jb a0 a1).1) ((jb a0 a1).2.1))=true->
((((jb (a0) (a1)).2.2)=((jb a0 a1).2.2)->
((ln (a1)<=500/\okB (a1)))/\
(((qhk (a0) (a1) a0 a1)=true->
(True)/\
((true)=(true))/\
 True))/\
((qhk (a0) (a1) a0 a1)=false->
(false=(true))/\
 True)))/\
(((jb (a0) (a1)).2.2)≠((jb a0 a1).2.2)->
(false=(true))/\
 True)))/\
((kj ((jb (a0) (a1)).1) ((jb (a0) (a1)).2.1) ((jb a0 a1).1) ((jb a0 a1).2.1))=false->
(false=(true))/\
 True)))))))))))))
theorem qz2 (a0:ZB) (a1:List Page) (a2:Int):ku (qn XK (kb qwz) (fun _ _=>False) (fun _ _=>0)) {cfg sp with ann:=kr []} 3 4 [.agg [.str (a0),.list 8 (a1) none],.int .i64 none (a2)] (qnj a0 a1 a2)=qk0 a0 a1 a2:=by kernel_rfl
end Go.Proofs.YtlkfjinaiepocaaDoor
