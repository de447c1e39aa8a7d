import Derived.Test.YtpdphcekmhajdaaGreatDoorDall
import Derived.Test.YtpdphcekmhajdaaGreatDoorCfg
namespace Go.Proofs.YtpdphcekmhajdaaGreatDoor
open Go Go.E2 Go.E3
set_option maxRecDepth 100000
variable {sp:Nat->Option (List V->Heap->Option (CR×Heap))}
def zlj:Ct KT:=([.one (.str),.one (.int .u8)],λns=>match ns with
  | [.s a,.i b]=>some (True,.int .i64 none (qru a b))
  | _=>none)
def zq1:Ct KT:=([.one (.str)],λns=>match ns with
  | [.s a]=>some ((ln a<=9223372036854775806),.sb 0 false (qau a) (qau a=true) (qau a=false))
  | _=>none)
def zq8:Ct KT:=([.agg [.int .i64,.int .i64,.int .i64,.int .i64]],λns=>match ns with
  | [.i a,.i b,.i c,.i d]=>some (True,.int .i64 none (qe0 a b c d))
  | _=>none)
def zll:Ct KT:=([.agg [.int .i64,.int .i64,.int .i64,.int .i64,.bool,.int .i64,.bool,.bool,.int .i64,.int .i64,.int .i64,.int .i64,.bool,.int .i64,.int .i64,.int .i64,.int .i64]],λns=>match ns with
  | [.i j,.i k,.i l,.i m,.b n,.i o,.b p,.b q,.i r,.i s,.i a,.i c,.b d,.i e,.i f,.i g,.i h]=>some (True,.int .i64 none (kh (Sign.mk j k l m n o p q r s a c d e f g h)))
  | _=>none)
def zqo:Ct KT:=([.agg [.str,.list 4 false false]],λns=>match ns with
  | [.s a,.l 4 b]=>some ((ln a<=1000000000/\ln b<=1000000000),.tuple [.int .i64 none ((zr a b).1),.int .i64 none ((zr a b).2)])
  | _=>none)
def zu5:Ct KT:=([.one (.list 4 false false),.one (.list 4 false false)],λns=>match ns with
  | [.l 4 a,.l 4 b]=>some ((ln a<=10000000),.sb 0 false (qm0 a b) (qm0 a b=true) (qm0 a b=false))
  | _=>none)
def zqt:Ct KT:=([.one (.list 4 false false)],λns=>match ns with
  | [.l 4 a]=>some ((ln a<=10000000),.list 4 (a) (some (0,0)))
  | _=>none)
def zqp:Ct KT:=([.agg [.list 4 false false,.list 4 false false]],λns=>match ns with
  | [.l 4 a,.l 4 b]=>some ((ln a<=1/\ln b<=1),.list 4 (((a++b))) (some (0,0)))
  | _=>none)
def zqr:Ct KT:=([.agg [.list 4 false false,.list 4 false false],.agg [.int .i64,.int .i64,.int .i64,.int .i64,.bool,.int .i64,.bool,.bool,.int .i64,.int .i64,.int .i64,.int .i64,.bool,.int .i64,.int .i64,.int .i64,.int .i64]],λns=>match ns with
  | [.l 4 m,.l 4 n,.i o,.i p,.i q,.i r,.b s,.i t,.b u,.b v,.i a,.i c,.i d,.i e,.b f,.i g,.i h,.i j,.i k]=>some (True,.agg [.list 4 ((jq m n (Sign.mk o p q r s t u v a c d e f g h j k)).1) none,.list 4 ((jq m n (Sign.mk o p q r s t u v a c d e f g h j k)).2) none])
  | _=>none)
def zqs:Ct KT:=([.one (.list 4 false false)],λns=>match ns with
  | [.l 4 a]=>some ((ln a<=1000000000),.tuple [.sb 0 false ((zq a).1) ((zq a).1=true) ((zq a).1=false),.int .i64 none ((zq a).2)])
  | _=>none)
def zu6:Ct KT:=([.one (.list 4 false false),.one (.int .i64),.one (.bool)],λns=>match ns with
  | [.l 4 a,.i c,.b d]=>some ((ln a<=500),.int .i64 none (zc a c d))
  | _=>none)
def ct5:Ct KT:=([.agg [.str,.list 4 false false],.one (.int .i64),.one (.int .i64)],λns=>match ns with
  | [.s a,.l 4 b,.i c,.i d]=>some ((ln a<=1000000000/\ln b<=500),.tuple [.agg [.str ((mkB a b c d).1),.list 8 ((mkB a b c d).2.1) none],.int .i64 none ((mkB a b c d).2.2)])
  | _=>none)
def zlo:Ct KT:=([.agg [.str,.list 8 false false]],λns=>match ns with
  | [.s b,.l 8 a]=>some (smB a,.list 7 (qb a) none)
  | _=>none)
def zvk:Ct KT:=([.agg [.str,.list 8 false false]],λns=>match ns with
  | [.s b,.l 8 a]=>some ((smB a/\qt a),.agg [.str (b),.list 4 (zd a) none])
  | _=>none)
def zvm:Ct KT:=([.agg [.str,.list 8 false false],.one (.int .i64)],λns=>match ns with
  | [.s c,.l 8 a,.i b]=>some ((smB a/\qt a/\(0:Int)<=b/\(b:Int)<=1000000000000),.int .i64 none (qai a b))
  | _=>none)
def zvg:Ct KT:=([.agg [.list 4 false false,.int .i64,.bool,.int .i64],.agg [.list 4 false false,.list 4 false false]],λns=>match ns with
  | [.l 4 a,.i e,.b f,.i g,.l 4 c,.l 4 d]=>some ((ln a<=500/\ln c<=1/\ln d<=1),.int .i64 none (jf (Staff.mk a e f g) c d))
  | _=>none)
def zvh:Ct KT:=([.agg [.str,.list 8 false false]],λns=>match ns with
  | [.s b,.l 8 a]=>some ((ln b<=1000000000/\smB a/\qt a),.tuple [.int .i64 none ((qck b a).1),.int .i64 none ((qck b a).2)])
  | _=>none)
def zu8:Ct KT:=([.agg [.str,.list 8 false false]],λns=>match ns with
  | [.s a,.l 8 b]=>some ((ln a<=1000000000/\smB b),.tuple [.int .i64 none ((jr a b).1),.int .i64 none ((jr a b).2)])
  | _=>none)
def ct7:Ct KT:=([.one (.int .i64),.one (.int .i64)],λns=>match ns with
  | [.i b,.i a]=>some ((I64 b/\(1:Int)<=a/\(a:Int)<=1048576),.int .i64 none (qn b a))
  | _=>none)
def zve:Ct KT:=([.one (.list 1 false false),.one (.int .i64)],λns=>match ns with
  | [.l 1 a,.i b]=>some ((ln a<=1000000000),.int .i64 none (atI a b))
  | _=>none)
def zvf:Ct KT:=([.agg [.int .i64,.int .i64,.int .i64,.int .i64],.one (.int .i64)],λns=>match ns with
  | [.i b,.i c,.i d,.i e,.i a]=>some (((0:Int)<=a/\(a:Int)<=100),.sb 0 false (qer b c d e a) (qer b c d e a=true) (qer b c d e a=false))
  | _=>none)
def zu7:Ct KT:=([.one (.list 1 false false)],λns=>match ns with
  | [.l 1 a]=>some ((ln a<=80/\∀ n ∈ a,I64 n),.agg [.str ((kp a).1),.list 4 ((kp a).2) none])
  | _=>none)
def ct6:Ct KT:=([.one (.list 1 false false)],λns=>match ns with
  | [.l 1 a]=>some ((ln a<=80/\∀ n ∈ a,I64 n),.agg [.str ((qk6 a).1),.list 4 ((qk6 a).2) none])
  | _=>none)
def zlm:Ct KT:=([.one (.str),.one (.str)],λns=>match ns with
  | [.s a,.s b]=>some (True,.sb 0 false (preB a b) (preB a b=true) (preB a b=false))
  | _=>none)
def zd9:Ct KT:=([.agg [.int .i64,.int .i64,.int .i64,.int .i64]],λns=>match ns with
  | [.i a,.i b,.i c,.i d]=>some (True,.str (jv a b c d))
  | _=>none)
def zra:Ct KT:=([.agg [.int .i64,.int .i64,.int .i64,.int .i64]],λns=>match ns with
  | [.i a,.i b,.i c,.i d]=>some (True,.tuple [.str ((ql7 a b c d).1),.int .i64 none ((ql7 a b c d).2)])
  | _=>none)
def zrc:Ct KT:=([.one (.str)],λns=>match ns with
  | [.s a]=>some (True,.tuple [.agg [.int .i64 none ((qhp a).1.1),.int .i64 none ((qhp a).1.2.1),.int .i64 none ((qhp a).1.2.2.1),.int .i64 none ((qhp a).1.2.2.2)],.int .i64 none ((qhp a).2)])
  | _=>none)
def zhr:Ct KT:=([.one (.str)],λns=>match ns with
  | [.s a]=>some ((ln a<=1000000),.tuple [.int .i64 none ((zb a).1),.sb 0 false ((zb a).2) ((zb a).2=true) ((zb a).2=false)])
  | _=>none)
def zln:Ct KT:=([.one (.str)],λns=>match ns with
  | [.s a]=>some ((ln a<=1000000),.tuple [.int .i64 none ((qbo a).1),.sb 0 false ((qbo a).2) ((qbo a).2=true) ((qbo a).2=false)])
  | _=>none)
def qqq:Ct KT:=([.one (.int .i64)],λns=>match ns with
  | [.i a]=>some ((-4<=a/\a<=100),.str (qu a))
  | _=>none)
def zu9:Ct KT:=([.agg [.int .i64,.int .i64,.int .i64,.int .i64,.bool,.int .i64,.bool,.bool,.int .i64,.int .i64,.int .i64,.int .i64,.bool,.int .i64,.int .i64,.int .i64,.int .i64]],λns=>match ns with
  | [.i j,.i k,.i l,.i m,.b n,.i o,.b p,.b q,.i r,.i s,.i a,.i c,.b d,.i e,.i f,.i g,.i h]=>some (True,.tuple [.str ((qep (Sign.mk j k l m n o p q r s a c d e f g h)).1),.int .i64 none ((qep (Sign.mk j k l m n o p q r s a c d e f g h)).2)])
  | _=>none)
def zvj:Ct KT:=([.one (.str)],λns=>match ns with
  | [.s a]=>some ((ln a<=1000),.tuple [.agg [.int .i64 none (((ze a).1).Kind),.int .i64 none (((ze a).1).Value),.int .i64 none (((ze a).1).Place),.int .i64 none (((ze a).1).Acc),.sb 0 false (((ze a).1).Color) (((ze a).1).Color=true) (((ze a).1).Color=false),.int .i64 none (((ze a).1).Stem),.sb 0 false (((ze a).1).Oblique) (((ze a).1).Oblique=true) (((ze a).1).Oblique=false),.sb 0 false (((ze a).1).Last) (((ze a).1).Last=true) (((ze a).1).Last=false),.int .i64 none (((ze a).1).MensMax),.int .i64 none (((ze a).1).MensMod),.int .i64 none (((ze a).1).MensTem),.int .i64 none (((ze a).1).MensPro),.sb 0 false (((ze a).1).Stroke) (((ze a).1).Stroke=true) (((ze a).1).Stroke=false),.int .i64 none (((ze a).1).N),.int .i64 none (((ze a).1).D),.int .i64 none (((ze a).1).ClefStep),.int .i64 none (((ze a).1).ClefLine)],.int .i64 none ((ze a).2)])
  | _=>none)
def zrb:Ct KT:=([.one (.str),.one (.int .u8)],λns=>match ns with
  | [.s b,.i a]=>some (U8 a,.int .i64 none (qru b a))
  | _=>none)
def q78:Ct KT:=([.one (.str),.one (.str),.one (.int .i64),.one (.int .i64)],λns=>match ns with
  | [.s a,.s b,.i c,.i d]=>some ((ln b=1/\(c:Int)=0/\(d:Int) = -1/\ln a<=100000000),.list 2 (splitI (bx b 0) a) none)
  | _=>none)
def zva:Ct KT:=([.one (.str),.one (.str)],λns=>match ns with
  | [.s a,.s b]=>some ((ln b=1/\ln a<=100000000),.list 2 (splitI (bx b 0) a) none)
  | _=>none)
def zvb:Ct KT:=([.one (.str),.one (.str)],λns=>match ns with
  | [.s a,.s b]=>some (True,.tuple [.str ((qbx a b).1),.sb 0 false ((qbx a b).2) ((qbx a b).2=true) ((qbx a b).2=false)])
  | _=>none)
def q77:Ct KT:=([.one (.list 2 false false),.one (.str)],λns=>match ns with
  | [.l 2 b,.s a]=>some ((ln a=1/\ln (qaz b a)<=1000000),.str (qaz b a))
  | _=>none)
def ct8:Ct KT:=([.agg [.str,.list 8 false false]],λns=>match ns with
  | [.s a,.l 8 b]=>some ((ln a<=1000000/\smB b),.tuple [.str ((qaw a b).1),.int .i64 none ((qaw a b).2)])
  | _=>none)
def zvc:Ct KT:=([.one (.list 2 false false)],λns=>match ns with
  | [.l 2 a]=>some (qn0 a,.tuple [.agg [.list 4 ((zz a).1.Signs) none,.int .i64 none ((zz a).1.Lead),.sb 0 false ((zz a).1.Catch) ((zz a).1.Catch=true) ((zz a).1.Catch=false),.int .i64 none ((zz a).1.Custos)],.sb 0 false ((zz a).2) ((zz a).2=true) ((zz a).2=false)])
  | _=>none)
def ct9:Ct KT:=([.one (.str)],λns=>match ns with
  | [.s a]=>some (okP a,.tuple [.agg [.str ((z8 a).1.1),.list 8 ((z8 a).1.2) none],.agg [.int .i64 none ((z8 a).2.1),.int .i64 none ((z8 a).2.2)]])
  | _=>none)
def zvd:Ct KT:=([.agg [.list 4 false false,.int .i64,.bool,.int .i64],.agg [.list 4 false false,.int .i64,.bool,.int .i64]],λns=>match ns with
  | [.l 4 a,.i c,.b d,.i e,.l 4 f,.i g,.b h,.i j]=>some ((ln a<=10000000),.sb 0 false (qe5 (Staff.mk a c d e) (Staff.mk f g h j)) (qe5 (Staff.mk a c d e) (Staff.mk f g h j)=true) (qe5 (Staff.mk a c d e) (Staff.mk f g h j)=false))
  | _=>none)
def zu4:Ct KT:=([.agg [.str,.list 8 false false],.agg [.str,.list 8 false false]],λns=>match ns with
  | [.s b,.l 8 a,.s c,.l 8 d]=>some ((ln a<=500/\okB a),.sb 0 false (qjm b a c d) (qjm b a c d=true) (qjm b a c d=false))
  | _=>none)
def ct4:Ct KT:=([],λns=>match ns with
  | []=>some (True,.sb 0 false (true) (true=true) (true=false))
  | _=>none)
abbrev zj7 (a0:Int):PV KT:=.str (qu a0)
abbrev zj8 (a0:List ZB) (a:ZB):PV KT:=.str (qaz a0 a)
abbrev zh7  : PV KT:=.sb 0 false (true) (true=true) (true=false)
end Go.Proofs.YtpdphcekmhajdaaGreatDoor
