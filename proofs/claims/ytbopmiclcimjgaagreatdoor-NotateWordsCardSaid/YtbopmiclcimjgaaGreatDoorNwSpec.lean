/- WHAT THE FUNCTIONS ON SIGNS AS WORDS COMPUTE, in plain Lean; no program in sight. -/
import Derived.Test.YtbopmiclcimjgaaGreatDoorSignSpec
namespace Go.Proofs.YtbopmiclcimjgaaGreatDoor
open Go Go.E2 Go.E3

def qy (s:Sign):Sign where
  Kind:=s.Kind
  Value:=if s.Kind=1∨s.Kind=2 then s.Value else 0
  Place:=if s.Kind=1∨s.Kind=4 then s.Place else 0
  Acc:=if s.Kind=1∨s.Kind=4 then s.Acc else 0
  Color:=if s.Kind=1∨s.Kind=4 then s.Color else false
  Stem:=if s.Kind=4 then s.Stem else 0
  Oblique:=if s.Kind=4 then s.Oblique else false
  Last:=if s.Kind=4 then s.Last else false
  MensMax:=if s.Kind=5 then s.MensMax else 0
  MensMod:=if s.Kind=5 then s.MensMod else 0
  MensTem:=if s.Kind=5 then s.MensTem else 0
  MensPro:=if s.Kind=5 then s.MensPro else 0
  Stroke:=if s.Kind=5 then s.Stroke else false
  N:=if s.Kind=6∨s.Kind=8∨s.Kind=10 then s.N else 0
  D:=if s.Kind=6 then s.D else 0
  ClefStep:=if s.Kind=7 then s.ClefStep else 0
  ClefLine:=if s.Kind=7 then s.ClefLine else 0

/-! ### Texts -/
def preB (s p:List UInt8):Bool:=decide (ln p<=ln s)&&decide (upto s (ln p)=p)
def qe (s:List UInt8) (c:Int):List UInt8×Bool:=if 0<ln s/\bx s 0=c then (fr s 1,true) else (s,false)

/-! ### Mensurations -/
def q3x (a:Int):List UInt8:=if a=2 then [50] else if a=3 then [51] else []
def q9x (c:Int):List UInt8:=if c=2 then [67] else if c=3 then [79] else []
def q9j (d:Int):List UInt8:=if d=3 then [46] else []
def qp (a b c d:Int):List UInt8:=(if a=3∨b=3 then q3x a++q3x b else [])++q9x c++q9j d
def z6 (a b c d:Int):List UInt8×Int:=if jy a b c d=0 then (qp a b c d,0) else ([],12)
abbrev M4:=Int×Int×Int×Int
def ofM (n:Int):M4:=(2+n / 8,2+n / 4 % 2,2+n / 2 % 2,2+n % 2)
def allM:List M4:=[(2,2,2,2),(2,2,2,3),(2,2,3,2),(2,2,3,3),(2,3,2,2),(2,3,2,3),(2,3,3,2),(2,3,3,3),(3,2,2,2),(3,2,2,3),(3,2,3,2),(3,2,3,3),(3,3,2,2),(3,3,2,3),(3,3,3,2),(3,3,3,3)]
def txM (m:M4):List UInt8:=qp m.1 m.2.1 m.2.2.1 m.2.2.2
def qfn (s:List UInt8):List M4->M4×Int
  | []=>((0,0,0,0),3)
  | m::l=>if txM m=s then (m,0) else qfn s l
def za (s:List UInt8):M4×Int:=qfn s allM

/-! ### Numbers -/
def qdr (b:Int):Bool:=decide (48<=b)&&decide (b<=57)
def qcd (s:List UInt8) (i n:Int):Int×Bool:=
  if h:0<=i/\i<ln s then (if qdr (bx s i)=true then (if 10 * n+(bx s i-48) > 1099511627776 then (0,false) else qcd s (i+1) (10 * n+(bx s i-48))) else (0,false)) else (n,true)
 termination_by (ln s-i).toNat
 decreasing_by omega
def qd (s:List UInt8):Int×Bool:=if ln s=0∨(bx s 0=48/\1<ln s) then (0,false) else qcd s 0 0
def z7 (s:List UInt8):Int×Bool:=
  if 0<ln s/\bx s 0=45 then (if (qd (fr s 1)).2=true/\(qd (fr s 1)).1≠0 then (-(qd (fr s 1)).1,true) else (0,false)) else qd s
def qbe (s:List UInt8) (c i k m:Int):List UInt8×List UInt8×Bool:=
  if h:0<=i/\i<ln s then (if bx s i=c then qbe s c (i+1) i (m+1) else qbe s c (i+1) k m) else (if m=1 then (upto s k,fr s (k+1),true) else ([],[],false))
 termination_by (ln s-i).toNat
 decreasing_by all_goals omega
def qad (s:List UInt8) (c:Int):List UInt8×List UInt8×Bool:=qbe s c 0 0 0

def d1 (n:Int):List UInt8:=[UInt8.ofNat (48+n.toNat)]
def qrz (n:Int):List UInt8:=if n<=9 then d1 n else if n<=99 then d1 (n / 10)++d1 (n % 10) else [49,48,48]
def zb (n:Int):List UInt8:=if n<0 then 45::qrz (-n) else qrz n

/-! ### Signs as words -/
def q81:List UInt8:=[88,76,66,83,77,81,70,90]
def ltr (v:Int):List UInt8:=sub q81 (v-1) v
def qi0 (v:Int):List UInt8×Int:=if v<1∨8<v then ([],2) else (ltr v,0)
def jf (s:List UInt8):Int×Int:=
  if s=[88] then (1,0) else if s=[76] then (2,0) else if s=[66] then (3,0) else if s=[83] then (4,0) else if s=[77] then (5,0) else if s=[81] then (6,0) else if s=[70] then (7,0) else if s=[90] then (8,0) else (0,3)
def q78 (a:Int):List UInt8:=if a = -1 then [98] else if a=1 then [35] else if a=2 then [110] else []
def qvh (c:Bool):List UInt8:=if c=true then [42] else []
def j6 (s:Sign):List UInt8:=zb s.Place++q78 s.Acc++qvh s.Color
def qmh (k:Int):List UInt8:=if k=1 then [94] else if k=2 then [118] else if k=3 then [62] else []
def ju (b:Bool) (c:UInt8):List UInt8:=if b=true then [c] else []
def qd1 (s:Sign):List UInt8:=[116]++j6 s++qmh s.Stem++ju s.Oblique 126++ju s.Last 33
def quu (k:Int):List UInt8:=if k=0 then [67] else if k=3 then [70] else if k=4 then [71] else []
def qb3 (s:Sign):List UInt8:=
  if s.Kind=1 then ltr s.Value++j6 s else if s.Kind=2 then [114]++ltr s.Value else if s.Kind=3 then [46] else if s.Kind=4 then qd1 s
  else if s.Kind=5 then [40]++qp s.MensMax s.MensMod s.MensTem s.MensPro++[41]++ju s.Stroke 124 else if s.Kind=6 then zb s.N++[47]++zb s.D
  else if s.Kind=7 then [64]++quu s.ClefStep++zb s.ClefLine else if s.Kind=8 then [38]++zb s.N else if s.Kind=9 then [91] else if s.Kind=10 then [93]++zb s.N
  else if s.Kind=11 then [116,117,114,110] else [115,105,103]
def zk (s:Sign):List UInt8×Int:=if zh s=0 then (qb3 s,0) else ([],zh s)

/-! ### Words as signs, the program's way: kind by kind -/
def sg0:Sign:=Sign.mk 0 0 0 0 false 0 false false 0 0 0 0 false 0 0 0 0
def tk (w:List UInt8) (i:Int) (c:UInt8):Bool:=preB (fr w i) [c]
def qf2 (w:List UInt8) (i:Int):List UInt8×Int:=if tk w i 45=true then ([45],i+1) else ([],i)
def dgE (w:List UInt8) (i:Int):Int:=qc5 qdr w i
def qka (w:List UInt8) (i:Int):(Int×Bool)×Int:=(z7 ((qf2 w i).1++sub w (qf2 w i).2 (dgE w (qf2 w i).2)),dgE w (qf2 w i).2)
def qe0 (w:List UInt8) (i:Int):(Int×Bool)×Int:=(qd (sub w i (dgE w i)),dgE w i)
def qiw (w:List UInt8) (i:Int):Int×Int:=if tk w i 98=true then (-1,i+1) else if tk w i 35=true then (1,i+1) else if tk w i 110=true then (2,i+1) else (0,i)
def qcr (w:List UInt8) (i:Int) (c:UInt8):Bool×Int:=if tk w i c=true then (true,i+1) else (false,i)
/-- Place, accidental, color: whether there is a place; where it ends. -/
def qek (w:List UInt8) (i:Int):Int×Int×Bool×Bool×Int:=
  ((qka w i).1.1,(qiw w (qka w i).2).1,(qcr w (qiw w (qka w i).2).2 42).1,(qka w i).1.2,(qcr w (qiw w (qka w i).2).2 42).2)
def qrr (w:List UInt8) (i k:Int):Option Int:=if h:0<=k/\k<8 then (if preB (fr w i) (sub q81 k (k+1))=true then some (k+1) else qrr w i (k+1)) else none
 termination_by (8-k).toNat
 decreasing_by omega
/-- A value's letter. -/
def qqh (w:List UInt8) (i:Int):Option Int:=qrr w i 0
def qi5 (w:List UInt8) (i:Int):Int×Int:=if tk w i 94=true then (1,i+1) else if tk w i 118=true then (2,i+1) else if tk w i 62=true then (3,i+1) else (0,i)
def q2h (w:List UInt8) (i:Int):Option Int:=if tk w i 67=true then some 0 else if tk w i 70=true then some 3 else if tk w i 71=true then some 4 else none
def qdz (w:List UInt8):Int:=if zq (fr w 1) 41 > 0 then zq (fr w 1) 41 else 0

def rd1 (w:List UInt8):Option Sign:=match qqh w 0 with
  | some v=>if (qek w 1).2.2.2.1=true/\(qek w 1).2.2.2.2=ln w then some (Sign.mk 1 v (qek w 1).1 (qek w 1).2.1 (qek w 1).2.2.1 0 false false 0 0 0 0 false 0 0 0 0) else none
  | none=>none
def rd2 (w:List UInt8):Option Sign:=if tk w 0 114=true then (match qqh w 1 with
  | some v=>if (2:Int)=ln w then some (Sign.mk 2 v 0 0 false 0 false false 0 0 0 0 false 0 0 0 0) else none
  | none=>none) else none
def rd3 (w:List UInt8):Option Sign:=if tk w 0 46=true/\(1:Int)=ln w then some (Sign.mk 3 0 0 0 false 0 false false 0 0 0 0 false 0 0 0 0) else none
def q49 (w:List UInt8):Int×Int:=qi5 w (qek w 1).2.2.2.2
def rd4 (w:List UInt8):Option Sign:=if tk w 0 116=true/\(qek w 1).2.2.2.1=true/\(qcr w (qcr w (q49 w).2 126).2 33).2=ln w then
  some (Sign.mk 4 0 (qek w 1).1 (qek w 1).2.1 (qek w 1).2.2.1 (q49 w).1 (qcr w (q49 w).2 126).1 (qcr w (qcr w (q49 w).2 126).2 33).1 0 0 0 0 false 0 0 0 0) else none
def q4e (w:List UInt8):M4×Int:=za (sub w 1 (1+qdz w))
def rd5 (w:List UInt8):Option Sign:=if tk w 0 40=true/\(q4e w).2=0/\tk w (1+qdz w) 41=true/\(qcr w (1+qdz w+1) 124).2=ln w then
  some (Sign.mk 5 0 0 0 false 0 false false (q4e w).1.1 (q4e w).1.2.1 (q4e w).1.2.2.1 (q4e w).1.2.2.2 (qcr w (1+qdz w+1) 124).1 0 0 0 0) else none
def rd6 (w:List UInt8):Option Sign:=if (qe0 w 0).1.2=true/\tk w (qe0 w 0).2 47=true/\(qe0 w ((qe0 w 0).2+1)).1.2=true/\(qe0 w ((qe0 w 0).2+1)).2=ln w then
  some (Sign.mk 6 0 0 0 false 0 false false 0 0 0 0 false (qe0 w 0).1.1 (qe0 w ((qe0 w 0).2+1)).1.1 0 0) else none
def rd7 (w:List UInt8):Option Sign:=if tk w 0 64=true then (match q2h w 1 with
  | some k=>if (qe0 w 2).1.2=true/\(qe0 w 2).2=ln w then some (Sign.mk 7 0 0 0 false 0 false false 0 0 0 0 false 0 0 k (qe0 w 2).1.1) else none
  | none=>none) else none
def rdN (w:List UInt8) (c:UInt8) (k:Int):Option Sign:=if tk w 0 c=true/\(qe0 w 1).1.2=true/\(qe0 w 1).2=ln w then some (Sign.mk k 0 0 0 false 0 false false 0 0 0 0 false (qe0 w 1).1.1 0 0 0) else none
def rdW (w p:List UInt8) (k:Int):Option Sign:=if preB w p=true/\ln p=ln w then some (Sign.mk k 0 0 0 false 0 false false 0 0 0 0 false 0 0 0 0) else none
def rdK (w:List UInt8) (k:Int):Option Sign:=
  if k=1 then rd1 w else if k=2 then rd2 w else if k=3 then rd3 w else if k=4 then rd4 w else if k=5 then rd5 w else if k=6 then rd6 w else if k=7 then rd7 w else if k=8 then rdN w 38 8
  else if k=9 then rdW w [91] 9 else if k=10 then rdN w 93 10 else if k=11 then rdW w [116,117,114,110] 11 else if k=12 then rdW w [115,105,103] 12 else none
def qj9 (w:List UInt8) (k:Int):Option Sign:=if h:1<=k/\k<=12 then (match rdK w k with
  | some s=>some s
  | none=>qj9 w (k+1)) else none
 termination_by (13-k).toNat
 decreasing_by omega
def fin (o:Option Sign):Sign×Int:=match o with
  | some s=>if zh s=0 then (s,0) else (sg0,zh s)
  | none=>(sg0,3)
def qw (w:List UInt8):Sign×Int:=fin (qj9 w 1)

/-! ### Words as signs, by their first bytes -/
def hdE (s:List UInt8) (i:Int):Int:=if h:0<=i/\i<ln s then (if qdr (bx s i)=true∨(i=0/\bx s i=45) then hdE s (i+1) else i) else i
 termination_by (ln s-i).toNat
 decreasing_by omega
def qmq (s:List UInt8):Int×List UInt8:=if (qe s 98).2=true then (-1,(qe s 98).1) else if (qe s 35).2=true then (1,(qe s 35).1) else if (qe s 110).2=true then (2,(qe s 110).1) else (0,s)
def qqd (s:List UInt8):Int×List UInt8:=if (qe s 94).2=true then (1,(qe s 94).1) else if (qe s 118).2=true then (2,(qe s 118).1) else if (qe s 62).2=true then (3,(qe s 62).1) else (0,s)
/-- Place and whether it is one; accidental; color; the rest. -/
def hdF (s:List UInt8):(Int×Bool)×Int×Bool×List UInt8:=
  (z7 (upto s (hdE s 0)),(qmq (fr s (hdE s 0))).1,(qe (qmq (fr s (hdE s 0))).2 42).2,(qe (qmq (fr s (hdE s 0))).2 42).1)
def q1d (w:List UInt8):Option Sign:=if (hdF (fr w 1)).1.2=true/\(hdF (fr w 1)).2.2.2=[] then some (Sign.mk 1 (jf (upto w 1)).1 (hdF (fr w 1)).1.1 (hdF (fr w 1)).2.1 (hdF (fr w 1)).2.2.1 0 false false 0 0 0 0 false 0 0 0 0) else none
def q14 (s:List UInt8):Option Sign:=if (jf s).2=0 then some (Sign.mk 2 (jf s).1 0 0 false 0 false false 0 0 0 0 false 0 0 0 0) else none
def qvy (s:List UInt8):Option Sign:=
  let h:=hdF s
  let t:=qqd h.2.2.2
  let o:=qe t.2 126
  let l:=qe o.1 33
  if h.1.2=true/\l.1=[] then some (Sign.mk 4 0 h.1.1 h.2.1 h.2.2.1 t.1 o.2 l.2 0 0 0 0 false 0 0 0 0) else none
def qvm (s:List UInt8):Option Sign:=
  let b:=decide (0<ln s/\bx s (ln s-1)=124)
  let u:=if b=true then upto s (ln s-1) else s
  if 0<ln u/\bx u (ln u-1)=41/\(za (upto u (ln u-1))).2=0 then
    some (Sign.mk 5 0 0 0 false 0 false false (za (upto u (ln u-1))).1.1 (za (upto u (ln u-1))).1.2.1 (za (upto u (ln u-1))).1.2.2.1 (za (upto u (ln u-1))).1.2.2.2 b 0 0 0 0) else none
def qs8 (s:List UInt8):Option Sign:=
  let f (k:Int) (r:List UInt8):Option Sign:=if (qd r).2=true then some (Sign.mk 7 0 0 0 false 0 false false 0 0 0 0 false 0 0 k (qd r).1) else none
  if (qe s 67).2=true then f 0 (qe s 67).1 else if (qe s 70).2=true then f 3 (qe s 70).1 else if (qe s 71).2=true then f 4 (qe s 71).1 else none
def qvn (k:Int) (s:List UInt8):Option Sign:=if (qd s).2=true then some (Sign.mk k 0 0 0 false 0 false false 0 0 0 0 false (qd s).1 0 0 0) else none
def qp5 (w:List UInt8):Option Sign:=
  let p:=qad w 47
  if p.2.2=true/\(qd p.1).2=true/\(qd p.2.1).2=true then some (Sign.mk 6 0 0 0 false 0 false false 0 0 0 0 false (qd p.1).1 (qd p.2.1).1 0 0) else none
def wdS (k:Int):Option Sign:=some (Sign.mk k 0 0 0 false 0 false false 0 0 0 0 false 0 0 0 0)
def qc4 (w:List UInt8):Option Sign:=
  if w=[] then none else if w=[46] then wdS 3 else if w=[91] then wdS 9 else if w=[116,117,114,110] then wdS 11 else if w=[115,105,103] then wdS 12
  else if bx w 0=114 then q14 (fr w 1) else if bx w 0=116 then qvy (fr w 1) else if bx w 0=40 then qvm (fr w 1) else if bx w 0=64 then qs8 (fr w 1) else if bx w 0=38 then qvn 8 (fr w 1) else if bx w 0=93 then qvn 10 (fr w 1)
  else if (jf (upto w 1)).2=0 then q1d w else qp5 w
def qu (w:List UInt8):Sign×Int:=fin (qc4 w)
end Go.Proofs.YtbopmiclcimjgaaGreatDoor
