import Derived.Test.YtpgchdcifbaioaaGreatDoorDall
import Derived.Test.YtpgchdcifbaioaaGreatDoorCfg
namespace Go.Proofs.YtpgchdcifbaioaaGreatDoor
open Go Go.E2 Go.E3
set_option maxRecDepth 100000
variable {sp:Nat->Option (List V->Heap->Option (CR×Heap))}
def zsc:Ct KT:=([.one (.str),.one (.int .u8)],λns=>match ns with
  | [.s a,.i b]=>some (True,.int .i64 none (qtf a b))
  | _=>none)
def zyq:Ct KT:=([.one (.str)],λns=>match ns with
  | [.s a]=>some ((ln a<=9223372036854775806),.sb 0 false (jh a) (jh a=true) (jh a=false))
  | _=>none)
def zy6:Ct KT:=([.agg [.int .i64,.int .i64,.int .i64,.int .i64]],λns=>match ns with
  | [.i a,.i b,.i c,.i a3]=>some (True,.int .i64 none (qbe a b c a3))
  | _=>none)
def zsq:Ct KT:=([.agg [.int .i64,.int .i64,.int .i64,.int .i64,.bool,.int .i64,.bool,.bool,.int .i64,.int .i64,.int .i64,.int .i64,.bool,.int .i64,.int .i64,.int .i64,.int .i64]],λns=>match ns with
  | [.i j,.i k,.i l,.i a3,.b m,.i n,.b o,.b p,.i q,.i r,.i a,.i c,.b d,.i e,.i f,.i g,.i h]=>some (True,.int .i64 none (zg (Sign.mk j k l a3 m n o p q r a c d e f g h)))
  | _=>none)
def z3h:Ct KT:=([.agg [.str,.list 4 false false]],λns=>match ns with
  | [.s a,.l 4 b]=>some ((ln a<=1000000000/\ln b<=1000000000),.tuple [.int .i64 none ((z8 a b).1),.int .i64 none ((z8 a b).2)])
  | _=>none)
def z25:Ct KT:=([.one (.list 4 false false),.one (.list 4 false false)],λns=>match ns with
  | [.l 4 a,.l 4 b]=>some ((ln a<=10000000),.sb 0 false (qfl a b) (qfl a b=true) (qfl a b=false))
  | _=>none)
def z3l:Ct KT:=([.one (.list 4 false false)],λns=>match ns with
  | [.l 4 a]=>some ((ln a<=10000000),.list 4 (a) (some (0,0)))
  | _=>none)
def z3i:Ct KT:=([.agg [.list 4 false false,.list 4 false false]],λns=>match ns with
  | [.l 4 a,.l 4 b]=>some ((ln a<=1/\ln b<=1),.list 4 (((a++b))) (some (0,0)))
  | _=>none)
def z3j:Ct KT:=([.agg [.list 4 false false,.list 4 false false],.agg [.int .i64,.int .i64,.int .i64,.int .i64,.bool,.int .i64,.bool,.bool,.int .i64,.int .i64,.int .i64,.int .i64,.bool,.int .i64,.int .i64,.int .i64,.int .i64]],λns=>match ns with
  | [.l 4 m,.l 4 n,.i o,.i a3,.i p,.i q,.b r,.i s,.b t,.b u,.i a,.i c,.i d,.i e,.b f,.i g,.i h,.i j,.i k]=>some (True,.agg [.list 4 ((qby m n (Sign.mk o a3 p q r s t u a c d e f g h j k)).1) none,.list 4 ((qby m n (Sign.mk o a3 p q r s t u a c d e f g h j k)).2) none])
  | _=>none)
def z3k:Ct KT:=([.one (.list 4 false false)],λns=>match ns with
  | [.l 4 a]=>some ((ln a<=1000000000),.tuple [.sb 0 false ((jf a).1) ((jf a).1=true) ((jf a).1=false),.int .i64 none ((jf a).2)])
  | _=>none)
def zsv:Ct KT:=([.agg [.str,.list 8 false false]],λns=>match ns with
  | [.s b,.l 8 a]=>some (smB a,.list 7 (qa a) none)
  | _=>none)
def z3m:Ct KT:=([.agg [.str,.list 8 false false]],λns=>match ns with
  | [.s b,.l 8 a]=>some ((smB a/\qy a),.agg [.str (b),.list 4 (ze a) none])
  | _=>none)
def z3y:Ct KT:=([.agg [.str,.list 8 false false],.one (.int .i64)],λns=>match ns with
  | [.s c,.l 8 a,.i b]=>some ((smB a/\qy a/\(0:Int)<=b/\(b:Int)<=1000000000000),.int .i64 none (qdn a b))
  | _=>none)
def z3n:Ct KT:=([.agg [.list 4 false false,.int .i64,.bool,.int .i64],.agg [.list 4 false false,.list 4 false false]],λns=>match ns with
  | [.l 4 a,.i e,.b f,.i a3,.l 4 c,.l 4 d]=>some ((ln a<=5000/\ln c<=1/\ln d<=1),.int .i64 none (kj (Staff.mk a e f a3) c d))
  | _=>none)
def z3o:Ct KT:=([.agg [.str,.list 8 false false]],λns=>match ns with
  | [.s b,.l 8 a]=>some ((ln b<=1000000000/\smB a/\qy a),.tuple [.int .i64 none ((qc6 b a).1),.int .i64 none ((qc6 b a).2)])
  | _=>none)
def z26:Ct KT:=([.agg [.str,.list 8 false false]],λns=>match ns with
  | [.s a,.l 8 b]=>some ((ln a<=1000000000/\smB b),.tuple [.int .i64 none ((qai a b).1),.int .i64 none ((qai a b).2)])
  | _=>none)
def zss:Ct KT:=([.one (.str),.one (.str)],λns=>match ns with
  | [.s a,.s b]=>some (True,.sb 0 false (preB a b) (preB a b=true) (preB a b=false))
  | _=>none)
def zjj:Ct KT:=([.agg [.int .i64,.int .i64,.int .i64,.int .i64]],λns=>match ns with
  | [.i a,.i b,.i c,.i a3]=>some (True,.str (qah a b c a3))
  | _=>none)
def zy7:Ct KT:=([.agg [.int .i64,.int .i64,.int .i64,.int .i64]],λns=>match ns with
  | [.i a,.i b,.i c,.i a3]=>some (True,.tuple [.str ((qdc a b c a3).1),.int .i64 none ((qdc a b c a3).2)])
  | _=>none)
def zy9:Ct KT:=([.one (.str)],λns=>match ns with
  | [.s a]=>some (True,.tuple [.agg [.int .i64 none ((qab a).1.1),.int .i64 none ((qab a).1.2.1),.int .i64 none ((qab a).1.2.2.1),.int .i64 none ((qab a).1.2.2.2)],.int .i64 none ((qab a).2)])
  | _=>none)
def zm8:Ct KT:=([.one (.str)],λns=>match ns with
  | [.s a]=>some ((ln a<=1000000),.tuple [.int .i64 none ((qz a).1),.sb 0 false ((qz a).2) ((qz a).2=true) ((qz a).2=false)])
  | _=>none)
def zst:Ct KT:=([.one (.str)],λns=>match ns with
  | [.s a]=>some ((ln a<=1000000),.tuple [.int .i64 none ((qan a).1),.sb 0 false ((qan a).2) ((qan a).2=true) ((qan a).2=false)])
  | _=>none)
def qrx:Ct KT:=([.one (.int .i64)],λns=>match ns with
  | [.i a]=>some ((-4<=a/\a<=100),.str (qi a))
  | _=>none)
def z27:Ct KT:=([.agg [.int .i64,.int .i64,.int .i64,.int .i64,.bool,.int .i64,.bool,.bool,.int .i64,.int .i64,.int .i64,.int .i64,.bool,.int .i64,.int .i64,.int .i64,.int .i64]],λns=>match ns with
  | [.i j,.i k,.i l,.i a3,.b m,.i n,.b o,.b p,.i q,.i r,.i a,.i c,.b d,.i e,.i f,.i g,.i h]=>some (True,.tuple [.str ((qb6 (Sign.mk j k l a3 m n o p q r a c d e f g h)).1),.int .i64 none ((qb6 (Sign.mk j k l a3 m n o p q r a c d e f g h)).2)])
  | _=>none)
def z3w:Ct KT:=([.one (.str)],λns=>match ns with
  | [.s a]=>some ((ln a<=30000),.tuple [.agg [.int .i64 none (((zl a).1).Kind),.int .i64 none (((zl a).1).Value),.int .i64 none (((zl a).1).Place),.int .i64 none (((zl a).1).Acc),.sb 0 false (((zl a).1).Color) (((zl a).1).Color=true) (((zl a).1).Color=false),.int .i64 none (((zl a).1).Stem),.sb 0 false (((zl a).1).Oblique) (((zl a).1).Oblique=true) (((zl a).1).Oblique=false),.sb 0 false (((zl a).1).Last) (((zl a).1).Last=true) (((zl a).1).Last=false),.int .i64 none (((zl a).1).MensMax),.int .i64 none (((zl a).1).MensMod),.int .i64 none (((zl a).1).MensTem),.int .i64 none (((zl a).1).MensPro),.sb 0 false (((zl a).1).Stroke) (((zl a).1).Stroke=true) (((zl a).1).Stroke=false),.int .i64 none (((zl a).1).N),.int .i64 none (((zl a).1).D),.int .i64 none (((zl a).1).ClefStep),.int .i64 none (((zl a).1).ClefLine)],.int .i64 none ((zl a).2)])
  | _=>none)
def zy8:Ct KT:=([.one (.str),.one (.int .u8)],λns=>match ns with
  | [.s b,.i a]=>some (U8 a,.int .i64 none (qtf b a))
  | _=>none)
def zb2:Ct KT:=([.one (.str),.one (.str),.one (.int .i64),.one (.int .i64)],λns=>match ns with
  | [.s a,.s b,.i c,.i a3]=>some ((ln b=1/\(c:Int)=0/\(a3:Int) = -1/\ln a<=100000000),.list 2 (splitI (bx b 0) a) none)
  | _=>none)
def z3c:Ct KT:=([.one (.str),.one (.str)],λns=>match ns with
  | [.s a,.s b]=>some ((ln b=1/\ln a<=100000000),.list 2 (splitI (bx b 0) a) none)
  | _=>none)
def z3d:Ct KT:=([.one (.str),.one (.str)],λns=>match ns with
  | [.s a,.s b]=>some (True,.tuple [.str ((qcf a b).1),.sb 0 false ((qcf a b).2) ((qcf a b).2=true) ((qcf a b).2=false)])
  | _=>none)
def zb1:Ct KT:=([.one (.list 2 false false),.one (.str)],λns=>match ns with
  | [.l 2 b,.s a]=>some ((ln a=1/\ln (qbl b a)<=1000000),.str (qbl b a))
  | _=>none)
def ct6:Ct KT:=([.agg [.str,.list 8 false false]],λns=>match ns with
  | [.s a,.l 8 b]=>some ((ln a<=1000000/\smB b),.tuple [.str ((jy a b).1),.int .i64 none ((jy a b).2)])
  | _=>none)
def z3e:Ct KT:=([.one (.list 2 false false)],λns=>match ns with
  | [.l 2 a]=>some (qi4 a,.tuple [.agg [.list 4 ((kc a).1.Signs) none,.int .i64 none ((kc a).1.Lead),.sb 0 false ((kc a).1.Catch) ((kc a).1.Catch=true) ((kc a).1.Catch=false),.int .i64 none ((kc a).1.Custos)],.sb 0 false ((kc a).2) ((kc a).2=true) ((kc a).2=false)])
  | _=>none)
def ct8:Ct KT:=([.one (.str)],λns=>match ns with
  | [.s a]=>some (okP a,.tuple [.agg [.str ((qbc a).1.1),.list 8 ((qbc a).1.2) none],.agg [.int .i64 none ((qbc a).2.1),.int .i64 none ((qbc a).2.2)]])
  | _=>none)
def z3g:Ct KT:=([.agg [.list 4 false false,.int .i64,.bool,.int .i64],.agg [.list 4 false false,.int .i64,.bool,.int .i64]],λns=>match ns with
  | [.l 4 a,.i c,.b d,.i a3,.l 4 e,.i f,.b g,.i h]=>some ((ln a<=10000000),.sb 0 false (qh9 (Staff.mk a c d a3) (Staff.mk e f g h)) (qh9 (Staff.mk a c d a3) (Staff.mk e f g h)=true) (qh9 (Staff.mk a c d a3) (Staff.mk e f g h)=false))
  | _=>none)
def z23:Ct KT:=([.agg [.str,.list 8 false false],.agg [.str,.list 8 false false]],λns=>match ns with
  | [.s b,.l 8 a,.s c,.l 8 a3]=>some ((ln a<=5000/\okB a),.sb 0 false (qmi b a c a3) (qmi b a c a3=true) (qmi b a c a3=false))
  | _=>none)
def zyt:Ct KT:=([.one (.str)],λns=>match ns with
  | [.s a]=>some ((ln a<=9223372036854775806),.sb 0 false (jh a) (jh a=true) (jh a=false))
  | _=>none)
def zji:Ct KT:=([.agg [.int .i64,.int .i64,.int .i64,.int .i64]],λns=>match ns with
  | [.i a,.i b,.i c,.i a3]=>some (True,.int .i64 none (qbe a b c a3))
  | _=>none)
def zr4:Ct KT:=([.agg [.int .i64,.int .i64,.int .i64,.int .i64,.bool,.int .i64,.bool,.bool,.int .i64,.int .i64,.int .i64,.int .i64,.bool,.int .i64,.int .i64,.int .i64,.int .i64]],λns=>match ns with
  | [.i j,.i k,.i l,.i a3,.b m,.i n,.b o,.b p,.i q,.i r,.i a,.i c,.b d,.i e,.i f,.i g,.i h]=>some (True,.agg [.int .i64 none ((jr (Sign.mk j k l a3 m n o p q r a c d e f g h)).Kind),.int .i64 none ((jr (Sign.mk j k l a3 m n o p q r a c d e f g h)).Value),.int .i64 none ((jr (Sign.mk j k l a3 m n o p q r a c d e f g h)).Place),.int .i64 none ((jr (Sign.mk j k l a3 m n o p q r a c d e f g h)).Acc),.sb 0 false ((jr (Sign.mk j k l a3 m n o p q r a c d e f g h)).Color) ((jr (Sign.mk j k l a3 m n o p q r a c d e f g h)).Color=true) ((jr (Sign.mk j k l a3 m n o p q r a c d e f g h)).Color=false),.int .i64 none ((jr (Sign.mk j k l a3 m n o p q r a c d e f g h)).Stem),.sb 0 false ((jr (Sign.mk j k l a3 m n o p q r a c d e f g h)).Oblique) ((jr (Sign.mk j k l a3 m n o p q r a c d e f g h)).Oblique=true) ((jr (Sign.mk j k l a3 m n o p q r a c d e f g h)).Oblique=false),.sb 0 false ((jr (Sign.mk j k l a3 m n o p q r a c d e f g h)).Last) ((jr (Sign.mk j k l a3 m n o p q r a c d e f g h)).Last=true) ((jr (Sign.mk j k l a3 m n o p q r a c d e f g h)).Last=false),.int .i64 none ((jr (Sign.mk j k l a3 m n o p q r a c d e f g h)).MensMax),.int .i64 none ((jr (Sign.mk j k l a3 m n o p q r a c d e f g h)).MensMod),.int .i64 none ((jr (Sign.mk j k l a3 m n o p q r a c d e f g h)).MensTem),.int .i64 none ((jr (Sign.mk j k l a3 m n o p q r a c d e f g h)).MensPro),.sb 0 false ((jr (Sign.mk j k l a3 m n o p q r a c d e f g h)).Stroke) ((jr (Sign.mk j k l a3 m n o p q r a c d e f g h)).Stroke=true) ((jr (Sign.mk j k l a3 m n o p q r a c d e f g h)).Stroke=false),.int .i64 none ((jr (Sign.mk j k l a3 m n o p q r a c d e f g h)).N),.int .i64 none ((jr (Sign.mk j k l a3 m n o p q r a c d e f g h)).D),.int .i64 none ((jr (Sign.mk j k l a3 m n o p q r a c d e f g h)).ClefStep),.int .i64 none ((jr (Sign.mk j k l a3 m n o p q r a c d e f g h)).ClefLine)])
  | _=>none)
def zr6:Ct KT:=([.agg [.int .i64,.int .i64,.int .i64,.int .i64,.bool,.int .i64,.bool,.bool,.int .i64,.int .i64,.int .i64,.int .i64,.bool,.int .i64,.int .i64,.int .i64,.int .i64]],λns=>match ns with
  | [.i j,.i k,.i l,.i a3,.b m,.i n,.b o,.b p,.i q,.i r,.i a,.i c,.b d,.i e,.i f,.i g,.i h]=>some (True,.sb 0 false (decide (qdg (Sign.mk j k l a3 m n o p q r a c d e f g h))) (decide (qdg (Sign.mk j k l a3 m n o p q r a c d e f g h))=true) (decide (qdg (Sign.mk j k l a3 m n o p q r a c d e f g h))=false))
  | _=>none)
def zsr:Ct KT:=([.agg [.int .i64,.int .i64,.int .i64,.int .i64,.bool,.int .i64,.bool,.bool,.int .i64,.int .i64,.int .i64,.int .i64,.bool,.int .i64,.int .i64,.int .i64,.int .i64]],λns=>match ns with
  | [.i j,.i k,.i l,.i a3,.b m,.i n,.b o,.b p,.i q,.i r,.i a,.i c,.b d,.i e,.i f,.i g,.i h]=>some (True,.int .i64 none (zg (Sign.mk j k l a3 m n o p q r a c d e f g h)))
  | _=>none)
def zru:Ct KT:=([.agg [.str,.list 4 false false]],λns=>match ns with
  | [.s a,.l 4 b]=>some ((ln a<=1000000000/\ln b<=1000000000),.tuple [.int .i64 none ((z8 a b).1),.int .i64 none ((z8 a b).2)])
  | _=>none)
def zr0:Ct KT:=([.one (.list 4 false false)],λns=>match ns with
  | [.l 4 a]=>some ((ln a<=1000000000),.list 10 (qaq a) none)
  | _=>none)
def z3s:Ct KT:=([.one (.list 4 false false),.one (.int .i64)],λns=>match ns with
  | [.l 4 a,.i b]=>some ((0<=b/\b<=ln a/\ln a<=1000000000),.list 4 (qu4 a b) (some (0,0)))
  | _=>none)
def zr2:Ct KT:=([.one (.list 4 false false),.one (.int .i64)],λns=>match ns with
  | [.l 4 a,.i b]=>some ((0<=b/\b<=ln a/\ln a<=1000000000),.tuple [.sb 0 false ((qc1 a b).1) ((qc1 a b).1=true) ((qc1 a b).1=false),.int .i64 none ((qc1 a b).2)])
  | _=>none)
def zry:Ct KT:=([.one (.list 4 false false)],λns=>match ns with
  | [.l 4 a]=>some ((ln a<=1000000000),.int .i64 none (qij a))
  | _=>none)
def z3q:Ct KT:=([.agg [.str,.list 8 false false]],λns=>match ns with
  | [.s b,.l 8 a]=>some (smB a,.tuple [.list 7 (qa a) none,.list 1 (qiz 0 a) none,.list 1 (kh a) none])
  | _=>none)
def z3r:Ct KT:=([.one (.list 4 false false),.one (.list 4 false false)],λns=>match ns with
  | [.l 4 a,.l 4 b]=>some ((ln a<=10000000),.sb 0 false (qfl a b) (qfl a b=true) (qfl a b=false))
  | _=>none)
def zrw:Ct KT:=([.one (.list 1 false false),.one (.int .i64)],λns=>match ns with
  | [.l 1 a,.i b]=>some ((ln a<=1000000000),.int .i64 none (atO a b))
  | _=>none)
def z3t:Ct KT:=([.agg [.str,.list 4 false false],.one (.list 1 false false),.one (.list 7 false false)],λns=>match ns with
  | [.s a,.l 4 b,.l 1 c,.l 7 a3]=>some ((ln a<=1000000000/\qz2 b c a3),.tuple [.int .i64 none ((qd9 a b c a3).1),.int .i64 none ((qd9 a b c a3).2)])
  | _=>none)
def z29:Ct KT:=([.agg [.str,.list 8 false false]],λns=>match ns with
  | [.s a,.l 8 b]=>some ((ln a<=1000000000/\smB b),.tuple [.int .i64 none ((qai a b).1),.int .i64 none ((qai a b).2)])
  | _=>none)
def ct4:Ct KT:=([.agg [.str,.list 8 false false]],λns=>match ns with
  | [.s b,.l 8 a]=>some ((ln b<=9223372036854775807/\ln a<=9223372036854775807/\∀ p ∈ a,ln p.Staves<=9223372036854775807/\∀ s ∈ p.Staves,ln s.Signs<=9223372036854775807),.sb 0 false (qf9 b a) (qf9 b a=true) (qf9 b a=false))
  | _=>none)
def zsi:Ct KT:=([.one (.str),.one (.int .u8)],λns=>match ns with
  | [.s b,.i a]=>some (U8 a,.tuple [.str ((zb b a).1),.sb 0 false ((zb b a).2) ((zb b a).2=true) ((zb b a).2=false)])
  | _=>none)
def z3u:Ct KT:=([.one (.int .i64)],λns=>match ns with
  | [.i a]=>some (True,.tuple [.str ((qnq a).1),.int .i64 none ((qnq a).2)])
  | _=>none)
def zse:Ct KT:=([.one (.str)],λns=>match ns with
  | [.s a]=>some (True,.tuple [.int .i64 none ((qao a).1),.int .i64 none ((qao a).2)])
  | _=>none)
def zy2:Ct KT:=([.one (.int .i64)],λns=>match ns with
  | [.i a]=>some ((-100<=a/\a<=100),.str (qi a))
  | _=>none)
def zyz:Ct KT:=([.agg [.int .i64,.int .i64,.int .i64,.int .i64,.bool,.int .i64,.bool,.bool,.int .i64,.int .i64,.int .i64,.int .i64,.bool,.int .i64,.int .i64,.int .i64,.int .i64]],λns=>match ns with
  | [.i k,.i l,.i a,.i a3,.b m,.i n,.b o,.b p,.i q,.i r,.i c,.i d,.b e,.i f,.i g,.i h,.i j]=>some ((-100<=a/\a<=100),.str (qdw (Sign.mk k l a a3 m n o p q r c d e f g h j)))
  | _=>none)
def z3v:Ct KT:=([.agg [.int .i64,.int .i64,.int .i64,.int .i64,.bool,.int .i64,.bool,.bool,.int .i64,.int .i64,.int .i64,.int .i64,.bool,.int .i64,.int .i64,.int .i64,.int .i64]],λns=>match ns with
  | [.i l,.i m,.i a,.i a3,.b n,.i c,.b o,.b p,.i q,.i r,.i d,.i e,.b f,.i g,.i h,.i j,.i k]=>some ((-100<=a/\a<=100/\0<=c/\c<=3),.str (qfm (Sign.mk l m a a3 n c o p q r d e f g h j k)))
  | _=>none)
def z3b:Ct KT:=([.agg [.int .i64,.int .i64,.int .i64,.int .i64,.bool,.int .i64,.bool,.bool,.int .i64,.int .i64,.int .i64,.int .i64,.bool,.int .i64,.int .i64,.int .i64,.int .i64]],λns=>match ns with
  | [.i j,.i k,.i l,.i a3,.b m,.i n,.b o,.b p,.i q,.i r,.i a,.i c,.b d,.i e,.i f,.i g,.i h]=>some (True,.tuple [.str ((qb6 (Sign.mk j k l a3 m n o p q r a c d e f g h)).1),.int .i64 none ((qb6 (Sign.mk j k l a3 m n o p q r a c d e f g h)).2)])
  | _=>none)
def zsa:Ct KT:=([.one (.str)],λns=>match ns with
  | [.s a]=>some ((ln a<=30000),.tuple [.agg [.int .i64 none (((zp a).1).Kind),.int .i64 none (((zp a).1).Value),.int .i64 none (((zp a).1).Place),.int .i64 none (((zp a).1).Acc),.sb 0 false (((zp a).1).Color) (((zp a).1).Color=true) (((zp a).1).Color=false),.int .i64 none (((zp a).1).Stem),.sb 0 false (((zp a).1).Oblique) (((zp a).1).Oblique=true) (((zp a).1).Oblique=false),.sb 0 false (((zp a).1).Last) (((zp a).1).Last=true) (((zp a).1).Last=false),.int .i64 none (((zp a).1).MensMax),.int .i64 none (((zp a).1).MensMod),.int .i64 none (((zp a).1).MensTem),.int .i64 none (((zp a).1).MensPro),.sb 0 false (((zp a).1).Stroke) (((zp a).1).Stroke=true) (((zp a).1).Stroke=false),.int .i64 none (((zp a).1).N),.int .i64 none (((zp a).1).D),.int .i64 none (((zp a).1).ClefStep),.int .i64 none (((zp a).1).ClefLine)],.int .i64 none ((zp a).2)])
  | _=>none)
def zjk:Ct KT:=([.one (.str)],λns=>match ns with
  | [.s a]=>some ((ln a<=1000000),.tuple [.int .i64 none ((qz a).1),.sb 0 false ((qz a).2) ((qz a).2=true) ((qz a).2=false)])
  | _=>none)
def zsm:Ct KT:=([.one (.str)],λns=>match ns with
  | [.s a]=>some ((ln a<=1000000),.tuple [.int .i64 none ((qan a).1),.sb 0 false ((qan a).2) ((qan a).2=true) ((qan a).2=false)])
  | _=>none)
def zsg:Ct KT:=([.one (.str),.one (.int .u8)],λns=>match ns with
  | [.s a,.i b]=>some ((U8 b/\ln a<=1000000),.tuple [.str ((qgl a b).1),.str ((qgl a b).2.1),.sb 0 false ((qgl a b).2.2) ((qgl a b).2.2=true) ((qgl a b).2.2=false)])
  | _=>none)
def zy1:Ct KT:=([.agg [.int .i64,.int .i64,.int .i64,.int .i64]],λns=>match ns with
  | [.i a,.i b,.i c,.i a3]=>some (True,.tuple [.str ((qdc a b c a3).1),.int .i64 none ((qdc a b c a3).2)])
  | _=>none)
def zso:Ct KT:=([.one (.int .i64)],λns=>match ns with
  | [.i a]=>some ((0<=a/\a<=15),.tuple [.agg [.int .i64 none ((ofM a).1),.int .i64 none ((ofM a).2.1),.int .i64 none ((ofM a).2.2.1),.int .i64 none ((ofM a).2.2.2)],.int .i64 none (((0:Int)))])
  | _=>none)
def zsk:Ct KT:=([.one (.str)],λns=>match ns with
  | [.s a]=>some (True,.tuple [.agg [.int .i64 none ((qab a).1.1),.int .i64 none ((qab a).1.2.1),.int .i64 none ((qab a).1.2.2.1),.int .i64 none ((qab a).1.2.2.2)],.int .i64 none ((qab a).2)])
  | _=>none)
def z3a:Ct KT:=([.one (.int .i64)],λns=>match ns with
  | [.i a]=>some ((-100<=a/\a<=100),.str (qi a))
  | _=>none)
def zyi:Ct KT:=([.one (.str),.one (.int .u8)],λns=>match ns with
  | [.s a,.i b]=>some ((U8 b/\ln a<=100000000),.list 2 (splitI b a) none)
  | _=>none)
def zr8:Ct KT:=([.one (.str)],λns=>match ns with
  | [.s a]=>some ((ln a<=100000000),.tuple [.int .i64 none ((jt a).1),.sb 0 false ((jt a).2) ((jt a).2=true) ((jt a).2=false)])
  | _=>none)
def z3x:Ct KT:=([.one (.list 2 false false)],λns=>match ns with
  | [.l 2 a]=>some (qi4 a,.tuple [.agg [.list 4 ((kp a).1.Signs) none,.int .i64 none ((kp a).1.Lead),.sb 0 false ((kp a).1.Catch) ((kp a).1.Catch=true) ((kp a).1.Catch=false),.int .i64 none ((kp a).1.Custos)],.sb 0 false ((kp a).2) ((kp a).2=true) ((kp a).2=false)])
  | _=>none)
def z3f:Ct KT:=([.one (.list 2 false false)],λns=>match ns with
  | [.l 2 a]=>some (okR a,.tuple [.agg [.str ((qbq a).1.1),.list 8 ((qbq a).1.2) none],.sb 0 false ((qbq a).2) ((qbq a).2=true) ((qbq a).2=false)])
  | _=>none)
def ct7:Ct KT:=([.agg [.str,.list 8 false false]],λns=>match ns with
  | [.s a,.l 8 b]=>some ((ln a<=1000000/\smB b),.tuple [.str ((jy a b).1),.int .i64 none ((jy a b).2)])
  | _=>none)
def ct9:Ct KT:=([.one (.str)],λns=>match ns with
  | [.s a]=>some (okS a,.tuple [.agg [.str ((qb9 a).1.1),.list 8 ((qb9 a).1.2) none],.agg [.int .i64 none ((qb9 a).2.1),.int .i64 none ((qb9 a).2.2)]])
  | _=>none)
def ct5:Ct KT:=([],λns=>match ns with
  | []=>some (True,.sb 0 false (true) (true=true) (true=false))
  | _=>none)
abbrev zqb (a0:Int):PV KT:=.str (qi a0)
abbrev zqc (a0:List ZB) (a:ZB):PV KT:=.str (qbl a0 a)
abbrev znu  : PV KT:=.sb 0 false (true) (true=true) (true=false)
end Go.Proofs.YtpgchdcifbaioaaGreatDoor
