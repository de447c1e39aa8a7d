/- WHAT THE FUNCTIONS ON SIGNS AS WORDS COMPUTE, in plain Lean; no program in sight. -/
import Derived.Test.YtbopmiclcimjgaaGreatDoorSignSpec
namespace Go.Proofs.YtbopmiclcimjgaaGreatDoor
open Go Go.E2 Go.E3

def qp (s:Sign):Sign where
  Kind:=s.Kind
  Value:=if s.Kind=1∨s.Kind=2 then s.Value else 0
  Place:=if s.Kind=1∨s.Kind=4 then s.Place else 0
  Acc:=if s.Kind=1∨s.Kind=4 then s.Acc else 0
  Color:=if s.Kind=1∨s.Kind=4 then s.Color else false
  Stem:=if s.Kind=4 then s.Stem else 0
  Oblique:=if s.Kind=4 then s.Oblique else false
  Last:=if s.Kind=4 then s.Last else false
  MensMax:=if s.Kind=5 then s.MensMax else 0
  MensMod:=if s.Kind=5 then s.MensMod else 0
  MensTem:=if s.Kind=5 then s.MensTem else 0
  MensPro:=if s.Kind=5 then s.MensPro else 0
  Stroke:=if s.Kind=5 then s.Stroke else false
  N:=if s.Kind=6∨s.Kind=8∨s.Kind=10 then s.N else 0
  D:=if s.Kind=6 then s.D else 0
  ClefStep:=if s.Kind=7 then s.ClefStep else 0
  ClefLine:=if s.Kind=7 then s.ClefLine else 0

/-! ### Texts -/
def preB (s p:List UInt8):Bool:=decide (ln p<=ln s)&&decide (upto s (ln p)=p)
/-! ### Mensurations -/
def q00 (a:Int):List UInt8:=if a=2 then [50] else if a=3 then [51] else []
def q54 (c:Int):List UInt8:=if c=2 then [67] else if c=3 then [79] else []
def q5r (d:Int):List UInt8:=if d=3 then [46] else []
def qj (a b c d:Int):List UInt8:=(if a=3∨b=3 then q00 a++q00 b else [])++q54 c++q5r d
def zs (a b c d:Int):List UInt8×Int:=if jf a b c d=0 then (qj a b c d,0) else ([],12)
abbrev M4:=Int×Int×Int×Int
def allM:List M4:=[(2,2,2,2),(2,2,2,3),(2,2,3,2),(2,2,3,3),(2,3,2,2),(2,3,2,3),(2,3,3,2),(2,3,3,3),(3,2,2,2),(3,2,2,3),(3,2,3,2),(3,2,3,3),(3,3,2,2),(3,3,2,3),(3,3,3,2),(3,3,3,3)]
def txM (m:M4):List UInt8:=qj m.1 m.2.1 m.2.2.1 m.2.2.2
def qpe (s:List UInt8):List M4->M4×Int
  | []=>((0,0,0,0),3)
  | m::l=>if txM m=s then (m,0) else qpe s l
def qj1 (s:List UInt8):M4×Int:=qpe s allM

/-! ### Numbers -/
def qvr (b:Int):Bool:=decide (48<=b)&&decide (b<=57)
def qcl (s:List UInt8) (i n:Int):Int×Bool:=
  if h:0<=i/\i<ln s then (if qvr (bx s i)=true then (if 10 * n+(bx s i-48) > 1099511627776 then (0,false) else qcl s (i+1) (10 * n+(bx s i-48))) else (0,false)) else (n,true)
 termination_by (ln s-i).toNat
 decreasing_by omega
def kh (s:List UInt8):Int×Bool:=if ln s=0∨(bx s 0=48/\1<ln s) then (0,false) else qcl s 0 0
def qej (s:List UInt8):Int×Bool:=
  if 0<ln s/\bx s 0=45 then (if (kh (fr s 1)).2=true/\(kh (fr s 1)).1≠0 then (-(kh (fr s 1)).1,true) else (0,false)) else kh s
def d1 (n:Int):List UInt8:=[UInt8.ofNat (48+n.toNat)]
def qpy (n:Int):List UInt8:=if n<=9 then d1 n else if n<=99 then d1 (n / 10)++d1 (n % 10) else [49,48,48]
def qu (n:Int):List UInt8:=if n<0 then 45::qpy (-n) else qpy n

/-! ### Signs as words -/
def zdx:List UInt8:=[88,76,66,83,77,81,70,90]
def ltr (v:Int):List UInt8:=sub zdx (v-1) v
def qhf (v:Int):List UInt8×Int:=if v<1∨8<v then ([],2) else (ltr v,0)
def qlj (s:List UInt8):Int×Int:=
  if s=[88] then (1,0) else if s=[76] then (2,0) else if s=[66] then (3,0) else if s=[83] then (4,0) else if s=[77] then (5,0) else if s=[81] then (6,0) else if s=[70] then (7,0) else if s=[90] then (8,0) else (0,3)
def q4i (a:Int):List UInt8:=if a = -1 then [98] else if a=1 then [35] else if a=2 then [110] else []
def qs7 (c:Bool):List UInt8:=if c=true then [42] else []
def jm (s:Sign):List UInt8:=qu s.Place++q4i s.Acc++qs7 s.Color
def qkj (k:Int):List UInt8:=if k=1 then [94] else if k=2 then [118] else if k=3 then [62] else []
def j3 (b:Bool) (c:UInt8):List UInt8:=if b=true then [c] else []
def qc0 (s:Sign):List UInt8:=[116]++jm s++qkj s.Stem++j3 s.Oblique 126++j3 s.Last 33
def qmy (k:Int):List UInt8:=if k=0 then [67] else if k=3 then [70] else if k=4 then [71] else []
def qax (s:Sign):List UInt8:=
  if s.Kind=1 then ltr s.Value++jm s else if s.Kind=2 then [114]++ltr s.Value else if s.Kind=3 then [46] else if s.Kind=4 then qc0 s
  else if s.Kind=5 then [40]++qj s.MensMax s.MensMod s.MensTem s.MensPro++[41]++j3 s.Stroke 124 else if s.Kind=6 then qu s.N++[47]++qu s.D
  else if s.Kind=7 then [64]++qmy s.ClefStep++qu s.ClefLine else if s.Kind=8 then [38]++qu s.N else if s.Kind=9 then [91] else if s.Kind=10 then [93]++qu s.N
  else if s.Kind=11 then [116,117,114,110] else [115,105,103]
def qq (s:Sign):List UInt8×Int:=if qa8 s=0 then (qax s,0) else ([],qa8 s)

/-! ### Words as signs, the program's way: kind by kind -/
def sg0:Sign:=Sign.mk 0 0 0 0 false 0 false false 0 0 0 0 false 0 0 0 0
def tk (w:List UInt8) (i:Int) (c:UInt8):Bool:=preB (fr w i) [c]
def zfa (w:List UInt8) (i:Int):List UInt8×Int:=if tk w i 45=true then ([45],i+1) else ([],i)
def dgE (w:List UInt8) (i:Int):Int:=zcy qvr w i
def fin (o:Option Sign):Sign×Int:=match o with
  | some s=>if qa8 s=0 then (s,0) else (sg0,qa8 s)
  | none=>(sg0,3)
/-! ### Words as signs, by their first bytes -/
end Go.Proofs.YtbopmiclcimjgaaGreatDoor
