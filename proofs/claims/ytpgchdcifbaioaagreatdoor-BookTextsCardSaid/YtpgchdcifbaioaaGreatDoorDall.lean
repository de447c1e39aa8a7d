import Derived.Test.YtpgchdcifbaioaaGreatDoorNat
import Derived.Test.YtpgchdcifbaioaaGreatDoorM5
namespace Go.Proofs.YtpgchdcifbaioaaGreatDoor
open Go Go.E2 Go.E3
def qzt (b:Int):Bool:=decide (97<=b)&&decide (b<=122)
def qsb (b:Int):Bool:=qzt b || (decide (48<=b)&&decide (b<=57)) || decide (b=45)
def jh (s:ZB):Bool:=decide (1<=ln s)&&decide (ln s<=20)&&qzt (bx s 0)&&s.all λb=>qsb b.toNat
def qbe (a b c d:Int):Int:=if (a=2∨a=3)/\(b=2∨b=3)/\(c=2∨c=3)/\(d=2∨d=3) then 0 else 12
def q18 (s:Sign):Prop:=
 (s.Value=0∨s.Kind=1∨s.Kind=2)/\((s.Place=0/\s.Acc=0/\s.Color=false)∨s.Kind=1∨s.Kind=4)/\((s.Stem=0/\s.Oblique=false/\s.Last=false)∨s.Kind=4)/\
 ((s.MensMax=0/\s.MensMod=0/\s.MensTem=0/\s.MensPro=0/\s.Stroke=false)∨s.Kind=5)/\(s.N=0∨s.Kind=6∨s.Kind=8∨s.Kind=10)/\(s.D=0∨s.Kind=6)/\
 ((s.ClefStep=0/\s.ClefLine=0)∨s.Kind=7)
instance (s:Sign):Decidable (q18 s):=by unfold q18;infer_instance
def qdg (s:Sign):Prop:=
 ((s.Kind≠1/\s.Kind≠2)∨(1<=s.Value/\s.Value<=8))/\((s.Kind≠1/\s.Kind≠4)∨(-4<=s.Place/\s.Place<=12/\-1<=s.Acc/\s.Acc<=2))/\(s.Kind≠4∨(0<=s.Stem/\s.Stem<=3))/\
 (s.Kind≠6∨(1<=s.N/\s.N<=100/\1<=s.D/\s.D<=100))/\(s.Kind≠7∨((s.ClefStep=0∨s.ClefStep=3∨s.ClefStep=4)/\1<=s.ClefLine/\s.ClefLine<=5))/\
 (s.Kind≠8∨(0<=s.N/\s.N<=2))/\(s.Kind≠10∨(2<=s.N/\s.N<=4))
instance (s:Sign):Decidable (qdg s):=by unfold qdg;infer_instance
def zg (s:Sign):Int:=
 if s.Kind<1∨12<s.Kind then 8 else if ¬ q18 s then 3 else if s.Kind=5/\qbe s.MensMax s.MensMod s.MensTem s.MensPro≠0 then 12 else if ¬ qdg s then 2
 else if s.Oblique=true/\s.Last=true then 3 else 0
def jr (s:Sign):Sign where
 Kind:=s.Kind
 Value:=if s.Kind=1∨s.Kind=2 then s.Value else 0
 Place:=if s.Kind=1∨s.Kind=4 then s.Place else 0
 Acc:=if s.Kind=1∨s.Kind=4 then s.Acc else 0
 Color:=if s.Kind=1∨s.Kind=4 then s.Color else false
 Stem:=if s.Kind=4 then s.Stem else 0
 Oblique:=if s.Kind=4 then s.Oblique else false
 Last:=if s.Kind=4 then s.Last else false
 MensMax:=if s.Kind=5 then s.MensMax else 0
 MensMod:=if s.Kind=5 then s.MensMod else 0
 MensTem:=if s.Kind=5 then s.MensTem else 0
 MensPro:=if s.Kind=5 then s.MensPro else 0
 Stroke:=if s.Kind=5 then s.Stroke else false
 N:=if s.Kind=6∨s.Kind=8∨s.Kind=10 then s.N else 0
 D:=if s.Kind=6 then s.D else 0
 ClefStep:=if s.Kind=7 then s.ClefStep else 0
 ClefLine:=if s.Kind=7 then s.ClefLine else 0
def preB (s p:ZB):Bool:=decide (ln p<=ln s)&&decide (upto s (ln p)=p)
def zb (s:ZB) (c:Int):ZB×Bool:=if 0<ln s/\bx s 0=c then (fr s 1,true) else (s,false)
def zgs (a:Int):ZB:=if a=2 then [50] else if a=3 then [51] else []
def zpv (c:Int):ZB:=if c=2 then [67] else if c=3 then [79] else []
def zop (d:Int):ZB:=if d=3 then [46] else []
def qah (a b c d:Int):ZB:=(if a=3∨b=3 then zgs a++zgs b else [])++zpv c++zop d
def qdc (a b c d:Int):ZB×Int:=if qbe a b c d=0 then (qah a b c d,0) else ([],12)
abbrev M4:=Int×Int×Int×Int
def ofM (n:Int):M4:=(2+n / 8,2+n / 4 % 2,2+n / 2 % 2,2+n % 2)
def allM:List M4:=[(2,2,2,2),(2,2,2,3),(2,2,3,2),(2,2,3,3),(2,3,2,2),(2,3,2,3),(2,3,3,2),(2,3,3,3),(3,2,2,2),(3,2,2,3),(3,2,3,2),(3,2,3,3),(3,3,2,2),(3,3,2,3),(3,3,3,2),(3,3,3,3)]
def txM (m:M4):ZB:=qah m.1 m.2.1 m.2.2.1 m.2.2.2
def qii (s:ZB):List M4->M4×Int
 | []=>((0,0,0,0),3)
 | m::l=>if txM m=s then (m,0) else qii s l
def qab (s:ZB):M4×Int:=qii s allM
def qfo (b:Int):Bool:=decide (48<=b)&&decide (b<=57)
def qei (s:ZB) (i n:Int):Int×Bool:=
 if h:0<=i/\i<ln s then (if qfo (bx s i)=true then (if 10 * n+(bx s i-48) > 1099511627776 then (0,false) else qei s (i+1) (10 * n+(bx s i-48))) else (0,false)) else (n,true)
 termination_by (ln s-i).toNat
 decreasing_by omega
def qz (s:ZB):Int×Bool:=if ln s=0∨(bx s 0=48/\1<ln s) then (0,false) else qei s 0 0
def qan (s:ZB):Int×Bool:=
 if 0<ln s/\bx s 0=45 then (if (qz (fr s 1)).2=true/\(qz (fr s 1)).1≠0 then (-(qz (fr s 1)).1,true) else (0,false)) else qz s
def qdf (s:ZB) (c i k m:Int):ZB×ZB×Bool:=
 if h:0<=i/\i<ln s then (if bx s i=c then qdf s c (i+1) i (m+1) else qdf s c (i+1) k m) else (if m=1 then (upto s k,fr s (k+1),true) else ([],[],false))
 termination_by (ln s-i).toNat
 decreasing_by all_goals omega
def qgl (s:ZB) (c:Int):ZB×ZB×Bool:=qdf s c 0 0 0
def d1 (n:Int):ZB:=[UInt8.ofNat (48+n.toNat)]
def qcq (n:Int):ZB:=if n<=9 then d1 n else if n<=99 then d1 (n / 10)++d1 (n % 10) else [49,48,48]
def qi (n:Int):ZB:=if n<0 then 45::qcq (-n) else qcq n
def zn1:ZB:=[88,76,66,83,77,81,70,90]
def ltr (v:Int):ZB:=sub zn1 (v-1) v
def qnq (v:Int):ZB×Int:=if v<1∨8<v then ([],2) else (ltr v,0)
def qao (s:ZB):Int×Int:=
 if s=[88] then (1,0) else if s=[76] then (2,0) else if s=[66] then (3,0) else if s=[83] then (4,0) else if s=[77] then (5,0) else if s=[81] then (6,0) else if s=[70] then (7,0) else if s=[90] then (8,0) else (0,3)
def qnk (a:Int):ZB:=if a = -1 then [98] else if a=1 then [35] else if a=2 then [110] else []
def q4s (c:Bool):ZB:=if c=true then [42] else []
def qdw (s:Sign):ZB:=qi s.Place++qnk s.Acc++q4s s.Color
def qia (k:Int):ZB:=if k=1 then [94] else if k=2 then [118] else if k=3 then [62] else []
def zu (b:Bool) (c:UInt8):ZB:=if b=true then [c] else []
def qfm (s:Sign):ZB:=[116]++qdw s++qia s.Stem++zu s.Oblique 126++zu s.Last 33
def qmm (k:Int):ZB:=if k=0 then [67] else if k=3 then [70] else if k=4 then [71] else []
def qa5 (s:Sign):ZB:=
 if s.Kind=1 then ltr s.Value++qdw s else if s.Kind=2 then [114]++ltr s.Value else if s.Kind=3 then [46] else if s.Kind=4 then qfm s
 else if s.Kind=5 then [40]++qah s.MensMax s.MensMod s.MensTem s.MensPro++[41]++zu s.Stroke 124 else if s.Kind=6 then qi s.N++[47]++qi s.D
 else if s.Kind=7 then [64]++qmm s.ClefStep++qi s.ClefLine else if s.Kind=8 then [38]++qi s.N else if s.Kind=9 then [91] else if s.Kind=10 then [93]++qi s.N
 else if s.Kind=11 then [116,117,114,110] else [115,105,103]
def qb6 (s:Sign):ZB×Int:=if zg s=0 then (qa5 s,0) else ([],zg s)
def sg0:Sign:=Sign.mk 0 0 0 0 false 0 false false 0 0 0 0 false 0 0 0 0
def tk (w:ZB) (i:Int) (c:UInt8):Bool:=preB (fr w i) [c]
def qiw (w:ZB) (i:Int):ZB×Int:=if tk w i 45=true then ([45],i+1) else ([],i)
def dgE (w:ZB) (i:Int):Int:=qfk qfo w i
def qpp (w:ZB) (i:Int):(Int×Bool)×Int:=(qan ((qiw w i).1++sub w (qiw w i).2 (dgE w (qiw w i).2)),dgE w (qiw w i).2)
def qhp (w:ZB) (i:Int):(Int×Bool)×Int:=(qz (sub w i (dgE w i)),dgE w i)
def qnl (w:ZB) (i:Int):Int×Int:=if tk w i 98=true then (-1,i+1) else if tk w i 35=true then (1,i+1) else if tk w i 110=true then (2,i+1) else (0,i)
def qe3 (w:ZB) (i:Int) (c:UInt8):Bool×Int:=if tk w i c=true then (true,i+1) else (false,i)
def qg3 (w:ZB) (i:Int):Int×Int×Bool×Bool×Int:=
 ((qpp w i).1.1,(qnl w (qpp w i).2).1,(qe3 w (qnl w (qpp w i).2).2 42).1,(qpp w i).1.2,(qe3 w (qnl w (qpp w i).2).2 42).2)
def qy2 (w:ZB) (i k:Int):Option Int:=if h:0<=k/\k<8 then (if preB (fr w i) (sub zn1 k (k+1))=true then some (k+1) else qy2 w i (k+1)) else none
 termination_by (8-k).toNat
 decreasing_by omega
def qxp (w:ZB) (i:Int):Option Int:=qy2 w i 0
def qnv (w:ZB) (i:Int):Int×Int:=if tk w i 94=true then (1,i+1) else if tk w i 118=true then (2,i+1) else if tk w i 62=true then (3,i+1) else (0,i)
def zet (w:ZB) (i:Int):Option Int:=if tk w i 67=true then some 0 else if tk w i 70=true then some 3 else if tk w i 71=true then some 4 else none
def qgk (w:ZB):Int:=if qtf (fr w 1) 41 > 0 then qtf (fr w 1) 41 else 0
def rd1 (w:ZB):Option Sign:=match qxp w 0 with
 | some v=>if (qg3 w 1).2.2.2.1=true/\(qg3 w 1).2.2.2.2=ln w then some (Sign.mk 1 v (qg3 w 1).1 (qg3 w 1).2.1 (qg3 w 1).2.2.1 0 false false 0 0 0 0 false 0 0 0 0) else none
 | none=>none
def rd2 (w:ZB):Option Sign:=if tk w 0 114=true then (match qxp w 1 with
 | some v=>if (2:Int)=ln w then some (Sign.mk 2 v 0 0 false 0 false false 0 0 0 0 false 0 0 0 0) else none
 | none=>none) else none
def rd3 (w:ZB):Option Sign:=if tk w 0 46=true/\(1:Int)=ln w then some (Sign.mk 3 0 0 0 false 0 false false 0 0 0 0 false 0 0 0 0) else none
def ziz (w:ZB):Int×Int:=qnv w (qg3 w 1).2.2.2.2
def rd4 (w:ZB):Option Sign:=if tk w 0 116=true/\(qg3 w 1).2.2.2.1=true/\(qe3 w (qe3 w (ziz w).2 126).2 33).2=ln w then
 some (Sign.mk 4 0 (qg3 w 1).1 (qg3 w 1).2.1 (qg3 w 1).2.2.1 (ziz w).1 (qe3 w (ziz w).2 126).1 (qe3 w (qe3 w (ziz w).2 126).2 33).1 0 0 0 0 false 0 0 0 0) else none
def zhj (w:ZB):M4×Int:=qab (sub w 1 (1+qgk w))
def rd5 (w:ZB):Option Sign:=if tk w 0 40=true/\(zhj w).2=0/\tk w (1+qgk w) 41=true/\(qe3 w (1+qgk w+1) 124).2=ln w then
 some (Sign.mk 5 0 0 0 false 0 false false (zhj w).1.1 (zhj w).1.2.1 (zhj w).1.2.2.1 (zhj w).1.2.2.2 (qe3 w (1+qgk w+1) 124).1 0 0 0 0) else none
def rd6 (w:ZB):Option Sign:=if (qhp w 0).1.2=true/\tk w (qhp w 0).2 47=true/\(qhp w ((qhp w 0).2+1)).1.2=true/\(qhp w ((qhp w 0).2+1)).2=ln w then
 some (Sign.mk 6 0 0 0 false 0 false false 0 0 0 0 false (qhp w 0).1.1 (qhp w ((qhp w 0).2+1)).1.1 0 0) else none
def rd7 (w:ZB):Option Sign:=if tk w 0 64=true then (match zet w 1 with
 | some k=>if (qhp w 2).1.2=true/\(qhp w 2).2=ln w then some (Sign.mk 7 0 0 0 false 0 false false 0 0 0 0 false 0 0 k (qhp w 2).1.1) else none
 | none=>none) else none
def rdN (w:ZB) (c:UInt8) (k:Int):Option Sign:=if tk w 0 c=true/\(qhp w 1).1.2=true/\(qhp w 1).2=ln w then some (Sign.mk k 0 0 0 false 0 false false 0 0 0 0 false (qhp w 1).1.1 0 0 0) else none
def rdW (w p:ZB) (k:Int):Option Sign:=if preB w p=true/\ln p=ln w then some (Sign.mk k 0 0 0 false 0 false false 0 0 0 0 false 0 0 0 0) else none
def rdK (w:ZB) (k:Int):Option Sign:=
 if k=1 then rd1 w else if k=2 then rd2 w else if k=3 then rd3 w else if k=4 then rd4 w else if k=5 then rd5 w else if k=6 then rd6 w else if k=7 then rd7 w else if k=8 then rdN w 38 8
 else if k=9 then rdW w [91] 9 else if k=10 then rdN w 93 10 else if k=11 then rdW w [116,117,114,110] 11 else if k=12 then rdW w [115,105,103] 12 else none
def qpo (w:ZB) (k:Int):Option Sign:=if h:1<=k/\k<=12 then (match rdK w k with
 | some s=>some s
 | none=>qpo w (k+1)) else none
 termination_by (13-k).toNat
 decreasing_by omega
def fin (o:Option Sign):Sign×Int:=match o with
 | some s=>if zg s=0 then (s,0) else (sg0,zg s)
 | none=>(sg0,3)
def zl (w:ZB):Sign×Int:=fin (qpo w 1)
def hdE (s:ZB) (i:Int):Int:=if h:0<=i/\i<ln s then (if qfo (bx s i)=true∨(i=0/\bx s i=45) then hdE s (i+1) else i) else i
 termination_by (ln s-i).toNat
 decreasing_by omega
def qkk (s:ZB):Int×ZB:=if (zb s 98).2=true then (-1,(zb s 98).1) else if (zb s 35).2=true then (1,(zb s 35).1) else if (zb s 110).2=true then (2,(zb s 110).1) else (0,s)
def qmo (s:ZB):Int×ZB:=if (zb s 94).2=true then (1,(zb s 94).1) else if (zb s 118).2=true then (2,(zb s 118).1) else if (zb s 62).2=true then (3,(zb s 62).1) else (0,s)
def hdF (s:ZB):(Int×Bool)×Int×Bool×ZB:=
 (qan (upto s (hdE s 0)),(qkk (fr s (hdE s 0))).1,(zb (qkk (fr s (hdE s 0))).2 42).2,(zb (qkk (fr s (hdE s 0))).2 42).1)
def q41 (w:ZB):Option Sign:=if (hdF (fr w 1)).1.2=true/\(hdF (fr w 1)).2.2.2=[] then some (Sign.mk 1 (qao (upto w 1)).1 (hdF (fr w 1)).1.1 (hdF (fr w 1)).2.1 (hdF (fr w 1)).2.2.1 0 false false 0 0 0 0 false 0 0 0 0) else none
def q48 (s:ZB):Option Sign:=if (qao s).2=0 then some (Sign.mk 2 (qao s).1 0 0 false 0 false false 0 0 0 0 false 0 0 0 0) else none
def qzi (s:ZB):Option Sign:=
 let h:=hdF s;let t:=qmo h.2.2.2;let o:=zb t.2 126;let l:=zb o.1 33
 if h.1.2=true/\l.1=[] then some (Sign.mk 4 0 h.1.1 h.2.1 h.2.2.1 t.1 o.2 l.2 0 0 0 0 false 0 0 0 0) else none
def q2f (s:ZB):Option Sign:=
 let b:=decide (0<ln s/\bx s (ln s-1)=124);let u:=if b=true then upto s (ln s-1) else s
 if 0<ln u/\bx u (ln u-1)=41/\(qab (upto u (ln u-1))).2=0 then
  some (Sign.mk 5 0 0 0 false 0 false false (qab (upto u (ln u-1))).1.1 (qab (upto u (ln u-1))).1.2.1 (qab (upto u (ln u-1))).1.2.2.1 (qab (upto u (ln u-1))).1.2.2.2 b 0 0 0 0) else none
def qpm (s:ZB):Option Sign:=
 let f (k:Int) (r:ZB):Option Sign:=if (qz r).2=true then some (Sign.mk 7 0 0 0 false 0 false false 0 0 0 0 false 0 0 k (qz r).1) else none
 if (zb s 67).2=true then f 0 (zb s 67).1 else if (zb s 70).2=true then f 3 (zb s 70).1 else if (zb s 71).2=true then f 4 (zb s 71).1 else none
def qzd (k:Int) (s:ZB):Option Sign:=if (qz s).2=true then some (Sign.mk k 0 0 0 false 0 false false 0 0 0 0 false (qz s).1 0 0 0) else none
def qvk (w:ZB):Option Sign:=
 let p:=qgl w 47
 if p.2.2=true/\(qz p.1).2=true/\(qz p.2.1).2=true then some (Sign.mk 6 0 0 0 false 0 false false 0 0 0 0 false (qz p.1).1 (qz p.2.1).1 0 0) else none
def wdS (k:Int):Option Sign:=some (Sign.mk k 0 0 0 false 0 false false 0 0 0 0 false 0 0 0 0)
def qb3 (w:ZB):Option Sign:=
 if w=[] then none else if w=[46] then wdS 3 else if w=[91] then wdS 9 else if w=[116,117,114,110] then wdS 11 else if w=[115,105,103] then wdS 12
 else if bx w 0=114 then q48 (fr w 1) else if bx w 0=116 then qzi (fr w 1) else if bx w 0=40 then q2f (fr w 1) else if bx w 0=64 then qpm (fr w 1) else if bx w 0=38 then qzd 8 (fr w 1) else if bx w 0=93 then qzd 10 (fr w 1)
 else if (qao (upto w 1)).2=0 then q41 w else qvk w
def zp (w:ZB):Sign×Int:=fin (qb3 w)
theorem q3j (s:Sign):Sign.mk s.Kind s.Value s.Place s.Acc s.Color s.Stem s.Oblique s.Last s.MensMax s.MensMod s.MensTem s.MensPro s.Stroke s.N s.D s.ClefStep s.ClefLine=s:=rfl
theorem qrt (s:Staff):Staff.mk s.Signs s.Lead s.Catch s.Custos=s:=rfl
def ins (l:List Sign) (i:Int):Bool:=decide (0<i)&&(decide ((ix l (i-1)).Kind=4)&&!(ix l (i-1)).Last)
def zrm (l:List Sign) (i:Int):Prop:=
 (ix l i).Kind=4/\(((ix l i).Last=true/\ins l i=false)∨((ix l i).Last=false/\(ln l<=i+1∨(ix l (i+1)).Kind≠4)))
instance (l:List Sign) (i:Int):Decidable (zrm l i):=by unfold zrm;infer_instance
def qqc (l:List Sign) (i:Int):Int:=if zg (ix l i)≠0 then zg (ix l i) else if zrm l i then 3 else 0
def qig (l:List Sign) (i:Int):Int×Int:=if h:i<ln l then (if qqc l i≠0 then (qqc l i,i) else qig l (i+1)) else (0,0)
 termination_by (ln l-i).toNat
 decreasing_by omega
def z8 (nm:ZB) (l:List Sign):Int×Int:=if jh nm=false then (7,0) else if 400<ln l then (11,0) else qig l 0
theorem quh {l:List Sign} {i:Int} (h:i<ln l) (he:qqc l i=0):qig l i=qig l (i+1):=by
 rw [qig,dif_pos h,zF (by simp [he])]
theorem qzm {l:List Sign} {i:Int} (h:i<ln l) (he:qqc l i≠0):qig l i=(qqc l i,i):=by
 rw [qig,dif_pos h,zT he]
theorem qzl {l:List Sign} {i:Int} (h:ln l<=i):qig l i=(0,0):=by
 rw [qig,dif_neg (by omega)]
theorem zei (a b:Sign):(a.Kind=b.Kind/\a.Value=b.Value/\a.Place=b.Place/\a.Acc=b.Acc/\a.Color=b.Color/\a.Stem=b.Stem/\a.Oblique=b.Oblique/\a.Last=b.Last/\a.MensMax=b.MensMax/\a.MensMod=b.MensMod/\a.MensTem=b.MensTem/\a.MensPro=b.MensPro/\a.Stroke=b.Stroke/\a.N=b.N/\a.D=b.D/\a.ClefStep=b.ClefStep/\a.ClefLine=b.ClefLine)↔a=b:=by
 cases a;cases b;simp only [Sign.mk.injEq]
instance:DecidableEq Sign:=λa b=>decidable_of_iff _ (zei a b)
theorem zpm (a b:Staff):(a.Signs=b.Signs/\a.Lead=b.Lead/\a.Catch=b.Catch/\a.Custos=b.Custos)↔a=b:=by
 cases a;cases b;simp only [Staff.mk.injEq]
instance:DecidableEq Staff:=λa b=>decidable_of_iff _ (zpm a b)
theorem zvm (a b:Page):(a.Staves=b.Staves)↔a=b:=by
 cases a;cases b;simp only [Page.mk.injEq]
instance:DecidableEq Page:=λa b=>decidable_of_iff _ (zvm a b)
def qfl (a b:List Sign):Bool:=decide (a=b)
def qb4 (n:ZB) (a:List Sign) (m:ZB) (b:List Sign):Bool:=decide (n=m/\a=b)
def qh9 (a b:Staff):Bool:=decide (a=b)
def qmi (n:ZB) (a:List Page) (m:ZB) (b:List Page):Bool:=decide (n=m/\a=b)
def okB (b:List Page):Prop:=∀ p ∈ b,ln p.Staves<=1000000000/\∀ s ∈ p.Staves,ln s.Signs<=10000000
def tT (l:List Sign) (to:Int):Int:=if h:to<ln l/\(ix l (to-1)).Kind=4/\(ix l (to-1)).Last=false then tT l (to+1) else to
 termination_by (ln l-to).toNat
 decreasing_by omega
theorem zaj {l:List Sign} {to:Int} (h:to<ln l/\(ix l (to-1)).Kind=4/\(ix l (to-1)).Last=false):tT l to=tT l (to+1):=by rw [tT,dif_pos h]
theorem qz0 {l:List Sign} {to:Int} (h:¬ (to<ln l/\(ix l (to-1)).Kind=4/\(ix l (to-1)).Last=false)):tT l to=to:=by rw [tT,dif_neg h]
theorem z2l {l:List Sign} {to:Int} (h:to<=ln l):to<=tT l to/\tT l to<=ln l:=by
 by_cases a:to<ln l/\(ix l (to-1)).Kind=4/\(ix l (to-1)).Last=false
 .have:=z2l (l:=l) (to:=to+1) (by omega);rw [zaj a];omega
 .rw [qz0 a];omega
 termination_by (ln l-to).toNat
 decreasing_by omega
def gE (l:List Sign) (i:Int):Int:=if tT l (i+1)<ln l/\(ix l (tT l (i+1))).Kind=3 then tT l (i+1)+1 else tT l (i+1)
theorem qr8 {l:List Sign} {i:Int} (h:i<ln l):i+1<=gE l i/\gE l i<=ln l:=by
 have:=z2l (l:=l) (to:=i+1) (by omega);unfold gE;split<;>omega
def qby (c k:List Sign) (s:Sign):List Sign×List Sign:=if s.Kind=7 then ([s],k) else if s.Kind=8 then (c,[s]) else (c,k)
def qwl (l:List Sign):Nat->List Sign×List Sign
 | 0=>([],[])
 | n+1=>qby (qwl l n).1 (qwl l n).2 (ix l (n:Int))
def qf8 (l:List Sign) (i:Int):List Sign×List Sign:=qwl l i.toNat
def qu4 (l:List Sign) (i:Int):List Sign:=(qf8 l i).1++(qf8 l i).2
theorem zg3 (l:List Sign):qf8 l 0=([],[]):=rfl
theorem qop {l:List Sign} {i:Int} (h:0<=i):qf8 l (i+1)=qby (qf8 l i).1 (qf8 l i).2 (ix l i):=by
 unfold qf8;have:(i+1).toNat=i.toNat+1:=by omega
 have e:((i.toNat:Nat):Int)=i:=by omega
 rw [this,qwl,e]
theorem qwd {c k:List Sign} {s:Sign} (a:ln c<=1) (b:ln k<=1):ln (qby c k s).1<=1/\ln (qby c k s).2<=1:=by
 unfold qby
 split
 .exact ⟨by simp [ln],b⟩
 .split
  .exact ⟨a,by simp [ln]⟩
  .exact ⟨a,b⟩
theorem zni (l:List Sign) (i:Int):ln (qf8 l i).1<=1/\ln (qf8 l i).2<=1:=by
 unfold qf8
 induction i.toNat with
 | zero=>exact ⟨by simp [qwl,ln],by simp [qwl,ln]⟩
 | succ n a=>exact qwd a.1 a.2
def jf:List Sign->Bool×Int
 | []=>(false,0)
 | s::l=>if s.Kind=1∨s.Kind=4 then (true,s.Place) else jf l
def qc1 (l:List Sign) (i:Int):Bool×Int:=jf (fr l i)
def qrb:List Sign->Int->Int
 | [],_=>-1
 | s::l,i=>if s.Kind=11 then i else qrb l (i+1)
theorem qnh {l:List Sign} {i:Int} (a:0<=i) (h:i<ln l):qrb (fr l i) i=if (ix l i).Kind=11 then i else qrb (fr l (i+1)) (i+1):=by rw [j5 a h,qrb]
theorem q35 {l:List Sign} {i:Int} (h:ln l<=i):qrb (fr l i) i = -1:=by rw [qcn h];rfl
def qij (l:List Sign):Int:=qrb l 0
def fA (l:List Sign) (lim i rest:Int):Int×Int:=if h:i<ln l/\gE l i<=lim then fA l lim (gE l i) (if (ix l i).Kind=2 then gE l i else rest) else (i,rest)
 termination_by (ln l-i).toNat
 decreasing_by have:=qr8 h.1;omega
def zz4 (l:List Sign) (w i:Int):Int:=i+(w-ln (qu4 l i))
def nxt (l:List Sign) (w i:Int) (last:Bool):Int:=
 if last=true/\(fA l (zz4 l w i) i i).1<ln l/\i<(fA l (zz4 l w i) i i).2 then (fA l (zz4 l w i) i i).2 else (fA l (zz4 l w i) i i).1
def qn5 (l:List Sign) (i:Int):List Group:=if h:i<ln l then Group.mk i (gE l i)::qn5 l (gE l i) else []
 termination_by (ln l-i).toNat
 decreasing_by have:=qr8 h;omega
def qaq (l:List Sign):List Group:=qn5 l 0
theorem q1t {l:List Sign} {i:Int} (h:i<ln l):qn5 l i=Group.mk i (gE l i)::qn5 l (gE l i):=by rw [qn5,dif_pos h]
theorem q88 {l:List Sign} {i:Int} (h:ln l<=i):qn5 l i=[]:=by rw [qn5,dif_neg (by omega)]
inductive Ch (l:List Sign):Int->Int->Prop
 | refl (a:Int):Ch l a a
 | step {a b:Int} (ha:a<ln l) (h:Ch l (gE l a) b):Ch l a b
theorem Ch.le {l:List Sign} {a b:Int} (h:Ch l a b):a<=b:=by
 induction h with
 | refl=>exact zK _
 | step c _ d=>have:=qr8 c;omega
structure GrpOk (l:List Sign) (i:Int) (g:List Group):Prop where
 len:ln g<=ln l-i
 at0:0<ln g->(ix g 0).fro=i
 none:ln g<=0->ln l<=i
 bd:∀ k,0<=k->k<ln g->i<=(ix g k).fro/\(ix g k).fro<ln l/\(ix g k).to=gE l (ix g k).fro/\Ch l i (ix g k).fro
 next:∀ k,0<=k->k+1<ln g->(ix g (k+1)).fro=(ix g k).to
 last:∀ k,0<=k->k+1=ln g->(ix g k).to=ln l
theorem zth {l:List Sign} {i:Int} (h:i<=ln l):GrpOk l i (qn5 l i):=by
 by_cases m:i<ln l
 .have p:=qr8 m;have e:=zth (l:=l) (i:=gE l i) p.2;rw [q1t m];have o:ln (Group.mk i (gE l i)::qn5 l (gE l i))=ln (qn5 l (gE l i))+1:=zh _ _;have n:ix (Group.mk i (gE l i)::qn5 l (gE l i)) 0=Group.mk i (gE l i):=rfl;have f:∀ k,0<=k->ix (Group.mk i (gE l i)::qn5 l (gE l i)) (k+1)=ix (qn5 l (gE l i)) k:=λk d=>q9e d;have q:=e.len;refine ⟨by omega,λ_=>by rw [n],λr=>by have:=ln_nonneg (qn5 l (gE l i));omega,λk g d=>?_,λk g d=>?_,λk g d=>?_⟩
  .by_cases j:k=0
   .subst j;rw [n];exact ⟨zK _,m,rfl,.refl _⟩
   .have c:=e.bd (k-1) (by omega) (by omega);have:=f (k-1) (by omega);rw [show k-1+1=k by omega] at this;rw [this];exact ⟨by omega,c.2.1,c.2.2.1,.step m c.2.2.2⟩
  .by_cases j:k=0
   .subst j;have:=f 0 (by omega);rw [this,n];exact e.at0 (by omega)
   .have c:=e.next (k-1) (by omega) (by omega)
    have a:=f (k-1) (by omega);have b:=f k (by omega);rw [show k-1+1=k by omega] at a c;rw [a,b];exact c
  .by_cases j:k=0
   .subst j;rw [n];have:=e.none (by omega);show gE l i=ln l;omega
   .have c:=e.last (k-1) (by omega) (by omega);have a:=f (k-1) (by omega);rw [show k-1+1=k by omega] at a;rw [a];exact c
 .rw [q88 (by omega)];exact ⟨by simp [ln];omega,λh=>absurd h (by simp [ln]),λ_=>by omega,λk g d=>absurd d (by simp [ln];omega),λk g d=>absurd d (by simp [ln];omega),λk g d=>absurd d (by simp [ln];omega)⟩
 termination_by (ln l-i).toNat
 decreasing_by omega
theorem znk (l:List Sign):GrpOk l 0 (qaq l):=zth (ln_nonneg l)
def qa (g:List Page):List Staff:=g.flatMap λp=>p.Staves
def smB (g:List Page):Prop:=(ln g<=5000/\ln (qa g)<=50000)/\∀ p ∈ g,ln p.Staves<=5000/\∀ s ∈ p.Staves,ln s.Signs<=5000
def qj0 (s:Staff):List Sign:=fr s.Signs s.Lead
def qat (l:List Staff):List Sign:=l.flatMap qj0
def ze (g:List Page):List Sign:=qat (qa g)
def qpt (s:Staff):Prop:=0<=s.Lead/\s.Lead<=ln s.Signs
def qy (g:List Page):Prop:=∀ s ∈ qa g,qpt s
def q2o:List Staff->Int->Int->Int
 | [],_,_=>0
 | s::l,n,i=>if i-(ln s.Signs-s.Lead)<0 then n else q2o l (n+1) (i-(ln s.Signs-s.Lead))
def qdn (g:List Page) (i:Int):Int:=q2o (qa g) 0 i
def kj (s:Staff) (c k:List Sign):Int:=if 60<ln s.Signs then 11 else if s.Lead<0 then 2 else if ln s.Signs<=s.Lead then 2 else if upto s.Signs s.Lead=c++k then 0 else 6
def qbb (f:List Sign×List Sign) (l:List Sign):List Sign×List Sign:=l.foldl (λf s=>qby f.1 f.2 s) f
def qqh (g:List Page) (l:List Sign) (i:Int):Int×Int:=if h:i<ln l then (if qdn g i=qdn g (gE l i-1) then qqh g l (gE l i) else (6,qdn g i)) else (0,0)
 termination_by (ln l-i).toNat
 decreasing_by have:=qr8 h;omega
theorem q6i {g:List Page} {l:List Sign} {i:Int} (h:i<ln l) (he:qdn g i=qdn g (gE l i-1)):qqh g l i=qqh g l (gE l i):=by rw [qqh,dif_pos h,zT he]
theorem zcv {g:List Page} {l:List Sign} {i:Int} (h:i<ln l) (he:qdn g i≠qdn g (gE l i-1)):qqh g l i=(6,qdn g i):=by rw [qqh,dif_pos h,zF he]
theorem zcw {g:List Page} {l:List Sign} {i:Int} (h:ln l<=i):qqh g l i=(0,0):=by rw [qqh,dif_neg (by omega)]
def qp5 (l:List Sign):List Staff->Int->Int->Int×Int
 | [],_,_=>(0,0)
 | s::r,n,a=>if s.Catch=(qc1 l (a+(ln s.Signs-s.Lead))).1/\s.Custos=(qc1 l (a+(ln s.Signs-s.Lead))).2 then qp5 l r (n+1) (a+(ln s.Signs-s.Lead)) else (3,n)
def qc6 (nm:ZB) (g:List Page):Int×Int:=
 if (z8 nm (ze g)).1≠0 then ((z8 nm (ze g)).1,qdn g (z8 nm (ze g)).2)
 else if 0<=qij (ze g) then (8,qdn g (qij (ze g)))
 else if (qqh g (ze g) 0).1≠0 then qqh g (ze g) 0
 else qp5 (ze g) (qa g) 0 0
def qch (f:List Sign×List Sign) (n j:Int):List Staff->Int×(List Sign×List Sign)×Int
 | []=>(0,f,n)
 | s::l=>if 12<=j then (11,f,n) else if kj s f.1 f.2≠0 then (kj s f.1 f.2,f,n) else qch (qbb f (qj0 s)) (n+1) (j+1) l
def qbz (f:List Sign×List Sign) (n:Int) (empty:Bool):List Page->Int×Int×Bool
 | []=>(0,n,empty)
 | p::g=>if p.Staves=[] then qbz f n true g
   else if (qch f n 0 p.Staves).1≠0 then ((qch f n 0 p.Staves).1,(qch f n 0 p.Staves).2.2,false)
   else qbz (qch f n 0 p.Staves).2.1 (qch f n 0 p.Staves).2.2 empty g
def q53 (r:Int×(List Sign×List Sign)×Int) (empty:Bool) (g:List Page):Int×Int×Bool:=if r.1≠0 then (r.1,r.2.2,false) else qbz r.2.1 r.2.2 empty g
theorem qx9 {f:List Sign×List Sign} {n:Int} {empty:Bool} {p:Page} {g:List Page} (h:p.Staves≠[]):qbz f n empty (p::g)=q53 (qch f n 0 p.Staves) empty g:=by
 simp only [qbz,zF h,q53]
def qai (nm:ZB) (g:List Page):Int×Int:=
 if jh nm=false then (7,0) else if (qbz ([],[]) 0 false g).1≠0 then ((qbz ([],[]) 0 false g).1,(qbz ([],[]) 0 false g).2.1)
 else if (qbz ([],[]) 0 false g).2.2=true then (2,(qbz ([],[]) 0 false g).2.1) else qc6 nm g
def q9s (l:List Staff) (n:Int):List Int:=l.map λ_=>n
def qiz:Int->List Page->List Int
 | _,[]=>[]
 | n,p::g=>q9s p.Staves n++qiz (n+1) g
def qs0:Int->List Staff->List Int
 | _,[]=>[]
 | k,_::l=>k::qs0 (k+1) l
def kh:List Page->List Int
 | []=>[]
 | p::g=>qs0 0 p.Staves++kh g
def qpn (n:Int) (l:List Sign):List Int:=l.map λ_=>n
def qo6:Int->List Staff->List Int
 | _,[]=>[]
 | n,s::l=>qpn n (qj0 s)++qo6 (n+1) l
def atO (o:List Int) (x:Int):Int:=if x<0∨ln o<=x then 0 else ix o x
def qif (f:List Sign×List Sign) (n:Int):List Staff->List Int->Int×Int
 | s::l,k::a=>if 12<=k then (11,n) else if kj s f.1 f.2≠0 then (kj s f.1 f.2,n) else qif (qbb f (qj0 s)) (n+1) l a
 | _,_=>(0,n)
def qza (o:List Int):List Group->Int×Int
 | []=>(0,0)
 | g::l=>if ix o g.fro=ix o (g.to-1) then qza o l else (6,ix o g.fro)
def qd9 (nm:ZB) (p:List Sign) (o:List Int) (l:List Staff):Int×Int:=
 if (z8 nm p).1≠0 then ((z8 nm p).1,atO o (z8 nm p).2)
 else if 0<=qij p then (8,atO o (qij p))
 else if (qza o (qaq p)).1≠0 then qza o (qaq p)
 else qp5 p l 0 0
def q8q (nm:ZB) (g:List Page):Int×Int:=
 if jh nm=false then (7,0) else if (qif ([],[]) 0 (qa g) (kh g)).1≠0 then qif ([],[]) 0 (qa g) (kh g)
 else if g.any (λp=>decide (p.Staves=[]))=true then (2,ln (qa g)) else qd9 nm (ze g) (qo6 0 (qa g)) (qa g)
def wrS (l:List Staff):List Sign:=l.flatMap λs=>s.Signs
def zz8 (l:List Staff):Prop:=∀ s ∈ l,ln s.Signs<=70
instance (l:List Staff):Decidable (zz8 l):=by unfold zz8;infer_instance
def zn0 (l:List Page):Prop:=∀ p ∈ l,ln p.Staves<=15/\zz8 p.Staves
instance (l:List Page):Decidable (zn0 l):=by unfold zn0;infer_instance
def qf9 (nm:ZB) (g:List Page):Bool:=decide (ln nm<=100/\ln g<=20/\zn0 g/\ln (wrS (qa g))<=600)
theorem q06:∀ (l:List Staff) (k:Int),ln (qs0 k l)=ln l
 | [],_=>rfl
 | _::l,k=>by rw [qs0,zh,zh,q06 l]
theorem zdg (l:List Staff) (n:Int):ln (q9s l n)=ln l:=by simp [q9s,ln]
theorem qpb (p:Page) (g:List Page):qa (p::g)=p.Staves++qa g:=rfl
theorem qj1:∀ g:List Page,ln (kh g)=ln (qa g)
 | []=>rfl
 | p::g=>by rw [kh,qpb,qj,qj,q06,qj1 g]
theorem q2s:∀ (g:List Page) (n:Int),ln (qiz n g)=ln (qa g)
 | [],_=>rfl
 | p::g,n=>by rw [qiz,qpb,qj,qj,zdg,q2s g]
theorem q52:∀ (l:List Staff) (k:Int) (s:Staff),qs0 k (l++[s])=qs0 k l++[k+ln l]
 | [],k,s=>by simp [qs0,ln]
 | a::l,k,s=>by
  rw [List.cons_append,qs0,q52 l,qs0,zh,List.cons_append];congr 2;simp only [List.cons.injEq,and_true];omega
theorem zn8 (l:List Staff) (n:Int) (s:Staff):q9s (l++[s]) n=q9s l n++[n]:=by simp [q9s]
theorem qyp:∀ (g:List Page) (n:Int) (p:Page),qiz n (g++[p])=qiz n g++q9s p.Staves (n+ln g)
 | [],n,p=>by simp [qiz,ln]
 | a::g,n,p=>by
  rw [List.cons_append,qiz,qyp g,qiz,zh,List.append_assoc];congr 3;omega
theorem qvj:∀ (g:List Page) (p:Page),kh (g++[p])=kh g++qs0 0 p.Staves
 | [],p=>by simp [kh]
 | a::g,p=>by rw [List.cons_append,kh,qvj g,kh,List.append_assoc]
theorem q69:∀ (l:List Staff) (n:Int) (s:Staff),qo6 n (l++[s])=qo6 n l++qpn (n+ln l) (qj0 s)
 | [],n,s=>by simp [qo6,ln]
 | a::l,n,s=>by
  rw [List.cons_append,qo6,q69 l,qo6,zh,List.append_assoc];congr 3;omega
theorem q2p:∀ (l:List Staff) (n:Int),ln (qo6 n l)=ln (qat l)
 | [],_=>rfl
 | s::l,n=>by
  rw [qo6,qj,q2p l];show _=ln (qj0 s++qat l);rw [qj];simp [qpn,ln]
theorem zbu:∀ (l:List Staff) (f:List Sign×List Sign) (n k:Int) (L:List Staff) (a:List Int),
  qif f n (l++L) (qs0 k l++a)=if (qch f n k l).1≠0 then ((qch f n k l).1,(qch f n k l).2.2) else qif (qch f n k l).2.1 (qch f n k l).2.2 L a
 | [],f,n,k,L,a=>by simp [qch,qs0]
 | s::l,f,n,k,L,a=>by
  simp only [qs0,List.cons_append,qif,qch];by_cases h:12<=k
  .simp [h]
  .by_cases b:kj s f.1 f.2=0
   .simp only [h,if_false,b,ne_eq,not_true_eq_false];exact zbu l _ _ _ _ _
   .simp [h,b]
theorem q04:∀ (g:List Page) (f:List Sign×List Sign) (n:Int) (a:Bool),
  qbz f n a g=if (qif f n (qa g) (kh g)).1≠0 then ((qif f n (qa g) (kh g)).1,(qif f n (qa g) (kh g)).2,false) else (0,(qif f n (qa g) (kh g)).2,a || g.any λp=>decide (p.Staves=[]))
 | [],f,n,a=>by simp [qbz,qa,kh,qif]
 | p::g,f,n,a=>by
  rw [qpb,kh,zbu];by_cases h:p.Staves=[]
  .simp only [qbz,zT h,h,qch];rw [q04 g];simp [h]
  .rw [qx9 h];unfold q53;by_cases b:(qch f n 0 p.Staves).1=0
   .simp only [b,ne_eq,not_true_eq_false,if_false];rw [q04 g];simp [h]
   .simp [b]
theorem zbr:∀ (l:List Staff) (b:List Int) (f:List Sign×List Sign) (n:Int),ln b=ln l->(qif f n l b).1=0->(qif f n l b).2=n+ln l
 | [],_,f,n,_,_=>by simp [qif,ln]
 | s::l,[],f,n,h,_=>by rw [zh,jc] at h;have:=ln_nonneg l;omega
 | s::l,k::b,f,n,h,a=>by
  simp only [qif] at a ⊢;split at a
  .simp at a
  .rename_i d;split at a
   .rename_i c;exact absurd a c
   .rename_i c;rw [zF d,zF c,zbr l b _ _ (by rw [zh,zh] at h;omega) a,zh];omega
def zfo (s:Staff):Prop:=0<=s.Lead/\s.Lead<ln s.Signs
theorem zo9 {s:Staff} {c k:List Sign} (h:kj s c k=0):zfo s:=by
 unfold kj at h;split at h
 .omega
 .split at h
  .omega
  .split at h
   .omega
   .exact ⟨by omega,by omega⟩
theorem q50:∀ (l:List Staff) (b:List Int) (f:List Sign×List Sign) (n:Int),ln b=ln l->(qif f n l b).1=0->∀ s ∈ l,zfo s
 | [],_,_,_,_,_=>λs h=>by cases h
 | s::l,[],f,n,h,_=>by rw [zh,jc] at h;have:=ln_nonneg l;omega
 | s::l,k::b,f,n,h,a=>by
  simp only [qif] at a;split at a
  .simp at a
  .split at a
   .rename_i c;exact absurd a c
   .rename_i c;intro x d;rcases zD.1 d with rfl | d
    .exact zo9 (Decidable.not_not.1 c)
    .exact q50 l b _ _ (by rw [zh,zh] at h;omega) a x d
theorem q9d {α:Type} [Inhabited α] {l m:List α} {i:Int} (h:ln l<=i):ix (l++m) i=ix m (i-ln l):=by
 have b:=ln_nonneg l;have e:(i-ln l).toNat=i.toNat-l.length:=by simp only [ln] at *;omega
 have a:l.length<=i.toNat:=by simp only [ln] at *;omega
 unfold ix;rw [e,List.getD_eq_getElem?_getD,List.getD_eq_getElem?_getD,List.getElem?_append_right a]
theorem zzr {n:Int} {l:List Sign} {i:Int} (a:0<=i) (h:i<ln l):ix (qpn n l) i=n:=by
 have:ix (qpn n l) i ∈ qpn n l:=qam a (by simpa [qpn,ln] using h);unfold qpn at this;obtain ⟨_,_,h⟩:=List.mem_map.1 this;exact h.symm
theorem q8m:∀ (l:List Staff) (n x:Int),(∀ s ∈ l,0<=s.Lead/\s.Lead<=ln s.Signs)->0<=x->atO (qo6 n l) x=q2o l n x
 | [],n,x,_,a=>by simp [qo6,q2o,atO,ln,a]
 | s::l,n,x,c,a=>by
  have b:=c s zC;have e:ln (qpn n (qj0 s))=ln s.Signs-s.Lead:=by
   have:ln (qpn n (qj0 s))=ln (qj0 s):=by simp [qpn,ln]
   rw [this];exact qkg b.1 b.2
  have g:ln (qj0 s)=ln s.Signs-s.Lead:=qkg b.1 b.2;have d:=q8m l (n+1) (x-(ln s.Signs-s.Lead)) (λy f=>c y (zG _ f));have i:=ln_nonneg (qo6 (n+1) l);simp only [qo6,q2o];by_cases h:x-(ln s.Signs-s.Lead)<0
  .rw [zT h];unfold atO;rw [zF (by rw [qj,e];omega),ql0 a (by omega)];exact zzr a (by omega)
  .rw [zF h,<-d (by omega)];unfold atO;rw [qj,e];by_cases j:ln (qo6 (n+1) l)<=x-(ln s.Signs-s.Lead)
   .rw [zT (by omega),zT (by omega)]
   .rw [zF (by omega),zF (by omega),q9d (by omega),e]
theorem zka {g:List Page} (b:∀ s ∈ qa g,0<=s.Lead/\s.Lead<=ln s.Signs) {i:Int} (d:0<=i):qza (qo6 0 (qa g)) (qn5 (ze g) i)=qqh g (ze g) i:=by
 have c:∀ x,0<=x->x<ln (ze g)->ix (qo6 0 (qa g)) x=qdn g x:=by
  intro x e f;have:=q8m (qa g) 0 x b e;unfold atO at this;rw [zF (by rw [q2p];exact λh=>by rcases h with h | h;omega;have:ln (ze g)<=x:=h;omega)] at this;exact this
 by_cases h:i<ln (ze g)
 .have k:=qr8 h;have j:=zka b (i:=gE (ze g) i) (by omega);rw [q1t h];simp only [qza];rw [c i d h,c _ (by omega) (by omega)];by_cases a:qdn g i=qdn g (gE (ze g) i-1)
  .rw [zT a,q6i h a,j]
  .rw [zF a,zcv h a]
 .rw [q88 (by omega),zcw (by omega)];rfl
 termination_by (ln (ze g)-i).toNat
 decreasing_by have:=qr8 h;omega
theorem zbt {l:List Sign} {i:Int} (h:0<=i):0<=(qig l i).2:=by
 by_cases a:i<ln l
 .by_cases b:qqc l i=0
  .rw [quh a b];exact zbt (by omega)
  .rw [qzm a b];exact h
 .rw [qzl (by omega)];exact zK _
 termination_by (ln l-i).toNat
 decreasing_by omega
theorem zm5 (nm:ZB) (l:List Sign):0<=(z8 nm l).2:=by
 unfold z8;split
 .exact zK _
 .split
  .exact zK _
  .exact zbt (zK _)
theorem q03 (nm:ZB) (g:List Page):q8q nm g=qai nm g:=by
 unfold q8q qai;have h:=q04 g ([],[]) 0 false;have a:=qj1 g;by_cases e:jh nm=false
 .rw [zT e,zT e]
 .rw [zF e,zF e];by_cases b:(qif ([],[]) 0 (qa g) (kh g)).1=0
  .rw [zF (by simp [b])] at h;rw [zF (by simp [b]),h,Bool.false_or];dsimp only;rw [zF (show ¬ ((0:Int)≠0) by decide)];have k:=zbr _ _ _ _ a b;by_cases f:(g.any λp=>decide (p.Staves=[]))=true
   .rw [zT f,zT f,k,Int.zero_add]
   .rw [zF f,zF f];have i:∀ s ∈ qa g,0<=s.Lead/\s.Lead<=ln s.Signs:=λs l=>by have:=q50 _ _ _ _ a b s l;exact ⟨this.1,Int.le_of_lt this.2⟩
    have m:=zka i (zK 0);unfold qd9 qc6 qaq;rw [m,q8m _ _ _ i (zm5 _ _)];by_cases j:(z8 nm (ze g)).1=0
    .have c:¬ (z8 nm (ze g)).1≠0:=by simp [j]
     rw [zF c,zF c];by_cases d:0<=qij (ze g)
     .rw [zT d,zT d,q8m _ _ _ i d];rfl
     .rw [zF d,zF d]
    .rw [zT j,zT j];rfl
  .rw [zT b,h,zT b];dsimp only;rw [zT b]
theorem zpt {l:List Sign} {i j:Int} (a:0<=i) (b:i<j) (c:j<=ln l):sub l i j=ix l i::sub l (i+1) j:=by
 rw [qib a (by omega),j5 a (by omega),qib (by omega) (by omega)];unfold upto;rw [show (j-i).toNat=(j-(i+1)).toNat+1 by omega];rfl
theorem q1l {l:List Sign} {i j:Int} (a:0<=i) (c:i<=j) (b:j<=ln l):qbb (qf8 l i) (sub l i j)=qf8 l j:=by
 by_cases d:i<j
 .rw [zpt a d b];show qbb (qby (qf8 l i).1 (qf8 l i).2 (ix l i)) (sub l (i+1) j)=_;rw [<-qop a];exact q1l (by omega) (by omega) b
 .have:i=j:=by omega
  subst this;rw [qib a (zK i),Int.sub_self];rfl
 termination_by (j-i).toNat
 decreasing_by omega
theorem znh (l:List Sign):qf8 l (ln l)=qbb ([],[]) l:=by
 rw [<-q1l (zK 0) (ln_nonneg l) (zK _),zg3,qib (zK 0) (ln_nonneg l),qc9,j9 (by omega)]
theorem zc4 (l:List Sign):qu4 l (ln l)=(qbb ([],[]) l).1++(qbb ([],[]) l).2:=by
 unfold qu4;rw [znh]
theorem zg2 (f:List Sign×List Sign) (l m:List Sign):qbb f (l++m)=qbb (qbb f l) m:=by
 unfold qbb;rw [List.foldl_append]
def qcf (s p:ZB):ZB×Bool:=if ln p<=ln s/\upto s (ln p)=p then (fr s (ln p),true) else (s,false)
def qbl:List ZB->ZB->ZB
 | [],_=>[]
 | [x],_=>x
 | x::y::l,s=>x++s++qbl (y::l) s
abbrev qry:ZB:=[115,116,97,102,102]
abbrev q2r:ZB:=[112,97,103,101]
abbrev qkm:ZB:=[98,111,111,107,32]
def qc5 (l:List Sign):List (ZB):=l.map λx=>(qb6 x).1
def qf7 (s:Staff):List (ZB):=([qry,qi s.Lead]++qc5 s.Signs)++(if s.Catch=true then [[126]++qi s.Custos] else [])
def qvn (s:Staff):ZB:=qbl (qf7 s) [32]++[10]
def qnc (l:List Staff):ZB:=l.flatMap qvn
def qpg (g:List Page):ZB:=g.flatMap λp=>[112,97,103,101,10]++qnc p.Staves
def qls (nm:ZB) (g:List Page):ZB:=(((qkm++nm)++[10])++qpg g)++[101,110,100,10]
def jy (nm:ZB) (g:List Page):ZB×Int:=if (qai nm g).1≠0 then ([],(qai nm g).1) else if 20000<ln (qls nm g) then ([],4) else (qls nm g,0)
def zhh (r:List ZB):ZB:=ix (fr r 2) (ln (fr r 2)-1)
def qwn (r:List ZB):Bool:=decide (0<ln (fr r 2))&&preB (zhh r) [126]
def q8y (r:List ZB):Int×Bool:=qan (fr (zhh r) 1)
def qg9 (r:List ZB):List (ZB):=if qwn r=true then upto (fr r 2) (ln (fr r 2)-1) else fr r 2
def qkb:List ZB->List Sign->List Sign×Bool
 | [],S=>(S,true)
 | w::l,S=>if (zl w).2≠0 then (S,false) else qkb l (S++[(zl w).1])
def kc (r:List ZB):Staff×Bool:=
 if ln r<2 then (Staff.mk [] 0 false 0,false)
 else if ix r 0≠qry then (Staff.mk [] 0 false 0,false)
 else if (qz (ix r 1)).2=false then (Staff.mk [] (qz (ix r 1)).1 false 0,false)
 else if qwn r=true then (if (q8y r).2=false then (Staff.mk [] (qz (ix r 1)).1 false (q8y r).1,false) else (Staff.mk (qkb (qg9 r) []).1 (qz (ix r 1)).1 true (q8y r).1,(qkb (qg9 r) []).2))
 else (Staff.mk (qkb (qg9 r) []).1 (qz (ix r 1)).1 false 0,(qkb (qg9 r) []).2)
def qi4 (r:List ZB):Prop:=ln r<=30000/\∀ w ∈ r,ln w<=30000
def qtq:List ZB->List Page->List Staff->Option (List Page)
 | [],P,Q=>some (P++[Page.mk Q])
 | r::l,P,Q=>if r=q2r then qtq l (P++[Page.mk Q]) [] else if (kc (splitI 32 r)).2=true then qtq l P (Q++[(kc (splitI 32 r)).1]) else none
def qg0 (t:ZB):List (ZB):=splitI 10 t
def qgg (t:ZB):List (ZB):=sub (qg0 t) 1 (ln (qg0 t)-2)
def qy5:List ZB->Option (List Page)
 | []=>some []
 | r::l=>if r=q2r then qtq l [] [] else none
def nmK (t:ZB):ZB:=(qcf (ix (qg0 t) 0) qkm).1
abbrev zqo:=(ZB×List Page)×(Int×Int)
def qwe:zqo:=(([],[]),(3,0))
def znf (t:ZB):Option (List Page)->zqo
 | none=>qwe
 | some g=>if (jy (nmK t) g).2=0/\(jy (nmK t) g).1=t then ((nmK t,g),(0,0)) else qwe
def qbc (t:ZB):zqo:=if 20000<ln t then qwe else if (qcf (ix (qg0 t) 0) qkm).2=false then qwe else if ln (qg0 t)<3 then qwe else znf t (qy5 (qgg t))
def okP (t:ZB):Prop:=ln t<=100000000/\(ln t<=20000->(∀ r ∈ qg0 t,qi4 (splitI 32 r))/\∀ g,qy5 (qgg t)=some g->smB g)
def q5b:ZB->Int->Option Int
 | [],n=>some n
 | b::l,n=>if 48<=(b.toNat:Int)/\(b.toNat:Int)<=57 then q5b l (10 * n+((b.toNat:Int)-48)) else none
def zus (s:ZB):Bool:=decide (0<ln s/\bx s 0=45)
def qxi (s:ZB):ZB:=if zus s=true then fr s 1 else s
def zo6 (s:ZB):Int:=if zus s=true then -1 else 1
def jt (s:ZB):Int×Bool:=
 if ln (qxi s)<1∨2<ln (qxi s) then (0,false) else match q5b (qxi s) 0 with
  | some n=>(zo6 s * n,true)
  | none=>(0,false)
abbrev z8q:=(List Sign×Bool×Int)×Bool
def qkc:List ZB->List Sign->z8q
 | [],S=>((S,false,0),true)
 | w::l,S=>if l=[]/\1<ln w/\bx w 0=126 then ((S,(jt (fr w 1)).2,(jt (fr w 1)).1),(jt (fr w 1)).2)
  else if (zp w).2≠0 then ((S,false,0),false) else qkc l (S++[(zp w).1])
def kp (w:List ZB):Staff×Bool:=
 if ln w<2 then (Staff.mk [] 0 false 0,false) else if (jt (ix w 1)).2=false then (Staff.mk [] 0 false 0,false)
 else (Staff.mk (qkc (fr w 2) []).1.1 (jt (ix w 1)).1 (qkc (fr w 2) []).1.2.1 (qkc (fr w 2) []).1.2.2,(qkc (fr w 2) []).2)
def qq1:List ZB->List Page->List Staff->List Page×Bool
 | [],P,Q=>(P++[Page.mk Q],false)
 | r::l,P,Q=>if r=[101,110,100] then (P++[Page.mk Q],true) else if r=q2r then qq1 l (P++[Page.mk Q]) []
  else if ix (splitI 32 r) 0=qry/\(kp (splitI 32 r)).2=true then qq1 l P (Q++[(kp (splitI 32 r)).1]) else (P++[Page.mk Q],false)
def qtn:List ZB->List Page×Bool
 | []=>([],false)
 | r::l=>if r=[101,110,100] then ([],true) else if r=q2r then qq1 l [] [] else ([],false)
def qbq (rows:List ZB):(ZB×List Page)×Bool:=
 if ln rows<1 then (([],[]),false) else if ln (splitI 32 (ix rows 0))≠2∨ix (splitI 32 (ix rows 0)) 0≠[98,111,111,107] then (([],[]),false)
 else ((ix (splitI 32 (ix rows 0)) 1,(qtn (fr rows 1)).1),(qtn (fr rows 1)).2)
def qb9 (t:ZB):zqo:=
 if 20000<ln t then qwe else if (qbq (splitI 10 t)).2=false then qwe
 else if (jy (qbq (splitI 10 t)).1.1 (qbq (splitI 10 t)).1.2).2=0/\(jy (qbq (splitI 10 t)).1.1 (qbq (splitI 10 t)).1.2).1=t then ((qbq (splitI 10 t)).1,(0,0)) else qwe
def qb1 (a0:ZB) (i:Int):Prop:=0<=i/\i<=ln a0/\∀ j,0<=j->j<i->qsb (bx a0 j)=true
def jm (a0:ZB) (i:Int):Nat:=(ln a0-i).toNat
def qb0 (a0:ZB) (i:Int):Prop:=0<=i/\i<=ln a0/\∀ j,0<=j->j<i->qsb (bx a0 j)=true
def jl (a0:ZB) (i:Int):Nat:=(ln a0-i).toNat
def z7p (l:List Int) (i:Int):Prop:=0<=i/\i<=4/\∀ j,0<=j->j<i->(ix l j=2∨ix l j=3)
def qa9 (a0 a a2 a3 i:Int):Prop:=0<=i/\i<=4/\(i<1∨a0=2∨a0=3)/\(i<2∨a=2∨a=3)/\(i<3∨a2=2∨a2=3)/\(i<4∨a3=2∨a3=3)
def ka (_ _ _ _ i:Int):Nat:=(4-i).toNat
def qe6 (a0 a a2 a3 i:Int):Prop:=z7p [a0,a,a2,a3] i
def qd2 (_ _ _ _ i:Int):Nat:=(4-i).toNat
def qdq (_:ZB) (l:List Sign) (b:Bool) (i:Int):Prop:=0<=i/\i<=ln l/\qig l i=qig l 0/\b=ins l i/\(b=true->i<ln l/\(ix l i).Kind=4)
def qb2 (_:ZB) (l:List Sign) (_:Bool) (i:Int):Nat:=(ln l-i).toNat
def qaz (_:ZB) (l:List Sign) (i:Int):Prop:=0<=i/\i<=ln l/\qig l i=qig l 0
def kb (_:ZB) (l:List Sign) (i:Int):Nat:=(ln l-i).toNat
def qex (a0 a:List Sign) (i:Int):Prop:=0<=i/\i<=ln a0/\∀ j,0<=j->j<i->ix a0 j=ix a j
def qd5 (a0 _:List Sign) (i:Int):Nat:=(ln a0-i).toNat
def qkv (_:ZB) (a:List Page) (_:ZB) (a3:List Page) (i:Int):Prop:=0<=i/\i<=ln a/\∀ j,0<=j->j<i->ix a j=ix a3 j
def qjk (_:ZB) (a:List Page) (_:ZB) (_:List Page) (i:Int):Nat:=(ln a-i).toNat
def qkw (_:ZB) (a:List Page) (_:ZB) (a3:List Page) (k i:Int):Prop:=0<=k/\k<=ln (ix a i).Staves/\∀ j,0<=j->j<k->ix (ix a i).Staves j=ix (ix a3 i).Staves j
def qjl (_:ZB) (a:List Page) (_:ZB) (_:List Page) (k i:Int):Nat:=(ln (ix a i).Staves-k).toNat
def qkt (a0:List Sign) (i:Int):Prop:=0<=i/\i<=ln a0/\jf (fr a0 i)=jf a0
def qji (a0:List Sign) (i:Int):Nat:=(ln a0-i).toNat
def qku (a0:List Sign) (a:Int) (i:Int):Prop:=0<=i/\i<=ln a0/\jf (fr a0 i)=qc1 a0 a
def qjj (a0:List Sign) (_:Int) (i:Int):Nat:=(ln a0-i).toNat
def qov (a0:List Sign) (i:Int):Prop:=0<=i/\i<=ln a0/\qrb (fr a0 i) i=qij a0
def qm8 (a0:List Sign) (i:Int):Nat:=(ln a0-i).toNat
def ja (l:List Sign) (g:List Group) (i:Int):Prop:=0<=i/\i<=ln l/\g++qn5 l i=qaq l/\ln g<=i
def zd (l:List Sign) (_:List Group) (i:Int):Nat:=(ln l-i).toNat
def qgj (l:List Sign) (to i:Int):Prop:=i+1<=to/\to<=ln l/\tT l to=tT l (i+1)
def qh1 (l:List Sign) (to _:Int):Nat:=(ln l-to).toNat
def qhh (l:List Sign) (a:Int) (c k:List Sign) (i:Int):Prop:=0<=i/\i<=a/\(c,k)=qf8 l i
def qbw (_:List Sign) (a:Int) (_ _:List Sign) (i:Int):Nat:=(a-i).toNat
structure Hold (p:Prop):Prop where
 out:p
structure Hold2 (p:Prop):Prop where
 get:p
def qky (_:ZB) (a:List Page) (out:List Staff) (i:Int):Prop:=Hold2 (0<=i/\i<=ln a/\out=qa (upto a i))
def qnt (_:ZB) (a:List Page) (_:List Staff) (i:Int):Nat:=(ln a-i).toNat
def qou (a0:ZB) (a:List Page) (i:Int) (nm:ZB) (S:List Sign):Prop:=Hold2 (0<=i/\i<=ln (qa a)/\nm=a0/\S=qat (upto (qa a) i))
def qqt (_:ZB) (a:List Page) (i:Int) (_:ZB) (_:List Sign):Nat:=(ln (qa a)-i).toNat
def qm3 (_:ZB) (a:List Page) (a2:Int) (x n:Int):Prop:=Hold2 (0<=n/\n<=ln (qa a)/\0<=x/\x<=a2/\q2o (fr (qa a) n) n x=qdn a a2)
def qo0 (_:ZB) (a:List Page) (_:Int) (_ n:Int):Nat:=(ln (qa a)-n).toNat
def qkx (a0:List Sign) (a:Int) (_:Bool) (_:Int) (a4 a5:List Sign) (i:Int):Prop:=Hold2 (0<=i/\i<=ln (upto a0 a)/\∀ j,0<=j->j<i->ix (upto a0 a) j=ix (a4++a5) j)
def qns (a0:List Sign) (a:Int) (_:Bool) (_:Int) (_ _:List Sign) (i:Int):Nat:=(ln (upto a0 a)-i).toNat
def qbk (_:ZB) (a:List Page) (x:Int):Prop:=Hold2 (0<=x/\x<=ln (ze a)/\qrb (fr (ze a) x) x=qij (ze a))
def qk8 (_:ZB) (a:List Page) (x:Int):Nat:=(ln (ze a)-x).toNat
def zk (_:ZB) (a:List Page) (x:Int):Prop:=Hold2 (0<=x/\x<=ln (ze a)/\qqh a (ze a) x=qqh a (ze a) 0)
def qt (_:ZB) (a:List Page) (x:Int):Nat:=(ln (ze a)-x).toNat
def qbd (_:ZB) (a:List Page) (y x:Int):Prop:=Hold2 (x+1<=y/\y<=ln (ze a)/\tT (ze a) y=tT (ze a) (x+1))
def qf0 (_:ZB) (a:List Page) (y _:Int):Nat:=(ln (ze a)-y).toNat
def qax (_:ZB) (b:List Page) (a n:Int):Prop:=Hold2 (0<=n/\n<=ln (qa b)/\a=ln (qat (upto (qa b) n))/\qp5 (ze b) (fr (qa b) n) n a=qp5 (ze b) (qa b) 0 0)
def qf1 (_:ZB) (a:List Page) (_ n:Int):Nat:=(ln (qa a)-n).toNat
def qae (_:ZB) (a:List Page) (n:Int) (em:Bool) (i:Int) (c k:List Sign):Prop:=Hold2 (0<=i/\i<=ln a/\0<=n/\n<=5000 * i/\ln c<=1/\ln k<=1/\qy (upto a i)/\qbz (c,k) n em (fr a i)=qbz ([],[]) 0 false a)
def qds (_:ZB) (a:List Page) (_:Int) (_:Bool) (i:Int) (_ _:List Sign):Nat:=(ln a-i).toNat
def qa8 (_:ZB) (a:List Page) (n j:Int) (c k:List Sign) (em:Bool) (i:Int):Prop:=Hold2 (0<=j/\j<=ln (ix a i).Staves/\0<=n/\n<=5000 * i+j/\ln c<=1/\ln k<=1/\(∀ s ∈ upto (ix a i).Staves j,qpt s)/\q53 (qch (c,k) n j (fr (ix a i).Staves j)) em (fr a (i+1))=qbz ([],[]) 0 false a)
def qjd (_:ZB) (a:List Page) (_ j:Int) (_ _:List Sign) (_:Bool) (i:Int):Nat:=(ln (ix a i).Staves-j).toNat
def qbs (_:ZB) (a:List Page) (x:Int) (c k:List Sign) (n:Int) (em:Bool) (i j:Int):Prop:=Hold2 (0<=x/\x<=ln (qj0 (ix (ix a i).Staves j))/\ln c<=1/\ln k<=1/\
 q53 (qch (qbb (c,k) (fr (qj0 (ix (ix a i).Staves j)) x)) (n+1) (j+1) (fr (ix a i).Staves (j+1))) em (fr a (i+1))=qbz ([],[]) 0 false a)
def qje (_:ZB) (a:List Page) (x:Int) (_ _:List Sign) (_:Int) (_:Bool) (i j:Int):Nat:=(ln (qj0 (ix (ix a i).Staves j))-x).toNat
theorem ztp {p:Prop}:Hold p↔p:=⟨λh=>h.out,λh=>⟨h⟩⟩
def qcv (s:ZB) (n i:Int):Prop:=0<=i/\i<=ln s/\0<=n/\n<=1099511627776/\qei s i n=qz s
def qd4 (s:ZB) (_ i:Int):Nat:=(ln s-i).toNat
def qcu (s:ZB) (n i:Int):Prop:=0<=i/\i<=ln s/\0<=n/\n<=1099511627776/\qei s i n=qz s
def qd3 (s:ZB) (_ i:Int):Nat:=(ln s-i).toNat
def qhf (s:ZB) (c k m i:Int):Prop:=0<=i/\i<=ln s/\0<=m/\m<=i/\0<=k/\k<=i/\(m=1->k<i)/\qdf s c i k m=qgl s c
def qfy (s:ZB) (_ _ _ i:Int):Nat:=(ln s-i).toNat
def qgi (s:ZB) (i:Int):Prop:=0<=i/\i<=16/\qii s (fr allM i)=qab s
def qh0 (_:ZB) (i:Int):Nat:=(16-i).toNat
def acA (a:Int):ZB:=if a = -1 then [98] else []
def acB (a:Int):ZB:=if a=1 then [35] else []
def acC (a:Int):ZB:=if a=2 then [110] else []
def qed (_ _ _ _:Int) (_:Bool) (_:Int) (_ _:Bool) (_ _ _ _:Int) (_:Bool) (_ _ _ _:Int) (b b0:ZB) (acc:Int):Prop:=Hold (b=b0++acA acc)
def qee (_ _ _ _:Int) (_:Bool) (_:Int) (_ _:Bool) (_ _ _ _:Int) (_:Bool) (_ _ _ _:Int) (b b0:ZB) (acc:Int):Prop:=Hold (b=b0++acB acc)
def qef (_ _ _ _:Int) (_:Bool) (_:Int) (_ _:Bool) (_ _ _ _:Int) (_:Bool) (_ _ _ _:Int) (b b0:ZB) (acc:Int):Prop:=Hold (b=b0++acC acc)
def qeg (_ _ _ _:Int) (_:Bool) (_:Int) (_ _:Bool) (_ _ _ _:Int) (_:Bool) (_ _ _ _:Int) (b b0:ZB) (k:Int):Prop:=Hold (b=b0++qia k)
def qeh (_ _ _ _:Int) (_:Bool) (_:Int) (_ _:Bool) (_ _ _ _:Int) (_:Bool) (_ _ _ _:Int) (b b0:ZB) (o:Bool):Prop:=Hold (b=b0++zu o 126)
def Rng (w:ZB) (i j:Int):Prop:=i<=j/\j<=ln w
def qal (w m:ZB) (i i0:Int):Prop:=Hold (m=(qiw w i0).1/\i=(qiw w i0).2/\Rng w i0 i/\ln m<=1)
def zj (w:ZB) (i i0:Int):Prop:=Hold (Rng w i0 i/\dgE w i0=dgE w i)
def ku (w:ZB) (i _:Int):Nat:=(ln w-i).toNat
def qp (w:ZB) (i i0:Int):Prop:=Hold (Rng w i0 i/\i=dgE w i0)
def qac (_:ZB) (b b0 ok:Bool):Prop:=Hold (b=(b0 || !ok))
def qdj (_:ZB) (b b0 ok:Bool):Prop:=Hold (b=(b0 || !ok))
def jg (w:ZB) (k i:Int):Prop:=Hold (0<=k/\k<=8/\qy2 w i k=qxp w i)
def qdl (_:ZB) (k _:Int):Nat:=(8-k).toNat
def qcx (w:ZB) (i:Int) (bad:Bool) (v:Int):Prop:=Hold (Rng w 0 i/\((bad=false/\i=1/\qxp w 0=some v)∨(bad=true/\qxp w 0=none)))
def kg (w:ZB) (i a i0:Int):Prop:=Hold (Rng w i0 i/\a=(qnl w i0).1/\i=(qnl w i0).2)
def qdk (w:ZB) (i:Int) (bad:Bool) (p a:Int) (c:Bool) (i0:Int) (b:Bool):Prop:=Hold (Rng w i0 i/\p=(qg3 w i0).1/\a=(qg3 w i0).2.1/\c=(qg3 w i0).2.2.1/\bad=(b || !(qg3 w i0).2.2.2.1)/\i=(qg3 w i0).2.2.2.2)
def qaw (w:ZB) (i k i0:Int):Prop:=Hold (Rng w i0 i/\k=(qnv w i0).1/\i=(qnv w i0).2)
def qbt (w:ZB) (i:Int) (o:Bool) (i0:Int):Prop:=Hold (Rng w i0 i/\o=(qe3 w i0 126).1/\i=(qe3 w i0 126).2)
def qbu (w:ZB) (i:Int) (bad:Bool) (i0:Int) (a:Bool):Prop:=Hold (Rng w i0 i/\((tk w i0 47=true/\i=i0+1/\bad=a)∨(tk w i0 47=false/\bad=true)))
def qaf (w:ZB) (i:Int) (bad:Bool) (k i0:Int):Prop:=Hold (Rng w i0 i/\((bad=false/\i=i0+1/\zet w i0=some k)∨(bad=true/\zet w i0=none)))
def qc (w:ZB) (i:Int):Prop:=Hold (∀ j,1<=j->j<=i->rdK w j=none)
def ky (_:ZB) (i:Int) (s:ZB):Prop:=Hold (0<=i/\i<=ln s/\hdE s i=hdE s 0)
def j6 (_:ZB) (i:Int) (s:ZB):Nat:=(ln s-i).toNat
def jv (_:ZB) (i:Int) (s:ZB):Prop:=Hold (0<=i/\i<=ln s/\i=hdE s 0)
def qak (_:ZB) (s:ZB) (a:Int) (b:ZB):Prop:=Hold (a=(qkk b).1/\s=(qkk b).2/\ln s<=ln b)
def qcw (_:ZB) (s:ZB) (k:Int) (a:ZB):Prop:=Hold (k=(qmo a).1/\s=(qmo a).2/\ln s<=ln a)
def qjt (a0:ZB) (a:List Page) (t:ZB) (i:Int):Prop:=Hold2 (0<=i/\i<=ln a/\t=((qkm++a0)++[10])++qpg (upto a i))
def qfz (_:ZB) (a:List Page) (_:ZB) (i:Int):Nat:=(ln a-i).toNat
def qhg (a0:ZB) (a:List Page) (t:ZB) (j i:Int):Prop:=Hold2 (0<=j/\j<=ln (ix a i).Staves/\t=(((qkm++a0)++[10])++qpg (upto a i))++([112,97,103,101,10]++qnc (upto (ix a i).Staves j)))
def qbv (_:ZB) (a:List Page) (_:ZB) (j i:Int):Nat:=(ln (ix a i).Staves-j).toNat
def qmx (_:ZB) (a:List Page) (r:List ZB) (k i j:Int):Prop:=Hold2 (0<=k/\k<=ln (ix (ix a i).Staves j).Signs/\r=[qry,qi (ix (ix a i).Staves j).Lead]++qc5 (upto (ix (ix a i).Staves j).Signs k))
def qk3 (_:ZB) (a:List Page) (_:List ZB) (k i j:Int):Nat:=(ln (ix (ix a i).Staves j).Signs-k).toNat
def qaa (a0:List ZB) (i:Int) (S:List Sign):Prop:=Hold2 (0<=i/\i<=ln (qg9 a0)/\ln S=i/\qkb (fr (qg9 a0) i) S=qkb (qg9 a0) [])
def qa1 (a0:List ZB) (i:Int) (_:List Sign):Nat:=(ln (qg9 a0)-i).toNat
def qhy (t:ZB) (i n:Int) (P:List Page) (Q:List Staff):Prop:=Hold2 (1<=i/\i<=ln (qgg t)/\n=ln P/\ln P<=i/\ln Q<=i/\qtq (fr (qgg t) i) P Q=qy5 (qgg t))
def qdt (t:ZB) (i _:Int) (_:List Page) (_:List Staff):Nat:=(ln (qgg t)-i).toNat
def qjb (_:ZB) (a:List Page) (x:List Staff) (b c:List Int) (i:Int):Prop:=Hold2 (0<=i/\i<=ln a/\x=qa (upto a i)/\b=qiz 0 (upto a i)/\c=kh (upto a i))
def qh2 (_:ZB) (a:List Page) (_:List Staff) (_ _:List Int) (i:Int):Nat:=(ln a-i).toNat
def qjc (_:ZB) (a:List Page) (x:List Staff) (b c:List Int) (k i:Int):Prop:=
 Hold2 (0<=k/\k<=ln (ix a i).Staves/\x=qa (upto a i)++upto (ix a i).Staves k/\b=qiz 0 (upto a i)++q9s (upto (ix a i).Staves k) i/\c=kh (upto a i)++qs0 0 (upto (ix a i).Staves k))
def qh3 (_:ZB) (a:List Page) (_:List Staff) (_ _:List Int) (k i:Int):Nat:=(ln (ix a i).Staves-k).toNat
def qm4 (a0 a:List Sign) (x:Int):Prop:=qex a0 a x
def qo1 (a0 a:List Sign) (x:Int):Nat:=qd5 a0 a x
def qz2 (p:List Sign) (o:List Int) (l:List Staff):Prop:=ln o=ln p/\p=qat l/\ln l<=50000/\∀ s ∈ l,ln s.Signs<=5000/\qpt s
def qkz (_:ZB) (a:List Sign) (a2:List Int) (_:List Staff) (x:Int):Prop:=Hold2 (0<=x/\x<=ln (qaq a)/\qza a2 (fr (qaq a) x)=qza a2 (qaq a))
def qjm (_:ZB) (a:List Sign) (_:List Int) (_:List Staff) (x:Int):Nat:=(ln (qaq a)-x).toNat
def qk0 (_:ZB) (b:List Sign) (_:List Int) (a3:List Staff) (a n:Int):Prop:=Hold2 (0<=n/\n<=ln a3/\a=ln (qat (upto a3 n))/\qp5 b (fr a3 n) n a=qp5 b a3 0 0)
def qjn (_:ZB) (_:List Sign) (_:List Int) (a3:List Staff) (_ n:Int):Nat:=(ln a3-n).toNat
def qeo (a0:ZB) (a:List Page) (o:List Int) (i:Int) (nm:ZB) (S:List Sign):Prop:=
 Hold2 (0<=i/\i<=ln (qa a)/\nm=a0/\S=qat (upto (qa a) i)/\o=qo6 0 (upto (qa a) i)/\(∀ s ∈ upto (qa a) i,zfo s)/\qif (qbb ([],[]) S) i (fr (qa a) i) (fr (kh a) i)=qif ([],[]) 0 (qa a) (kh a))
def qjf (_:ZB) (a:List Page) (_:List Int) (i:Int) (_:ZB) (_:List Sign):Nat:=(ln (qa a)-i).toNat
def qkr (a0:ZB) (a:List Page) (o:List Int) (k:Int) (nm:ZB) (S:List Sign) (i:Int):Prop:=
 Hold2 ((ix (qa a) i).Lead<=k/\k<=ln (ix (qa a) i).Signs/\nm=a0/\S=qat (upto (qa a) i)++sub (ix (qa a) i).Signs (ix (qa a) i).Lead k/\o=qo6 0 (upto (qa a) i)++qpn i (sub (ix (qa a) i).Signs (ix (qa a) i).Lead k))
def qjg (_:ZB) (a:List Page) (_:List Int) (k:Int) (_:ZB) (_:List Sign) (i:Int):Nat:=(ln (ix (qa a) i).Signs-k).toNat
def qks (_:ZB) (a:List Page) (x:Int):Prop:=Hold2 (0<=x/\x<=ln a/\∀ p ∈ upto a x,p.Staves≠[])
def qjh (_:ZB) (a:List Page) (x:Int):Nat:=(ln a-x).toNat
def qm0 (_:ZB) (a:List Page) (n i:Int):Prop:=Hold2 (0<=i/\i<=ln a/\zn0 (upto a i)/\n=ln (wrS (qa (upto a i))))
def qk6 (_:ZB) (a:List Page) (_ i:Int):Nat:=(ln a-i).toNat
def qm1 (_:ZB) (a:List Page) (n k i:Int):Prop:=Hold2 (0<=k/\k<=ln (ix a i).Staves/\zz8 (upto (ix a i).Staves k)/\n=ln (wrS (qa (upto a i)))+ln (wrS (upto (ix a i).Staves k)))
def qk7 (_:ZB) (a:List Page) (_ k i:Int):Nat:=(ln (ix a i).Staves-k).toNat
def okR (rows:List ZB):Prop:=ln rows<=100000/\∀ r ∈ rows,ln r<=20100
def okS (t:ZB):Prop:=ln t<=100000000/\(ln t<=20000->okR (splitI 10 t)/\ln (qbq (splitI 10 t)).1.1<=1000000/\smB (qbq (splitI 10 t)).1.2)
def qdr (a0 n:Int) (o:ZB):Prop:=Hold2 (0<=n/\n<=100/\0<=a0/\a0<=100/\ln o<=100-n/\((o=[]/\n=a0)∨(o≠[]/\(if n=0 then [] else qcq n)++o=qcq a0)))
def qc3 (_ n:Int) (o:ZB):Nat:=n.toNat+(if o=[] then 1 else 0)
def qgz (s:ZB) (c:Int) (out:List ZB) (a i:Int):Prop:=Hold2 (0<=i/\i<=ln s+1/\0<=a/\ln out<=i/\((i<=ln s/\a<=i/\(∀ j,a<=j->j<i->bx s j≠c)/\out++splitI c (fr s a)=splitI c s)∨(i=ln s+1/\out=splitI c s)))
def qcy (s:ZB) (_:Int) (_:List ZB) (_ i:Int):Nat:=(ln s+1-i).toNat
def kq (_:ZB) (n i:Int) (t:ZB):Prop:=Hold2 (0<=i/\i<=ln t/\0<=n/\(i=0->n=0)/\(i<=1->n<=9)/\n<=99/\q5b (fr t i) n=q5b t 0)
def qbf (_:ZB) (_ i:Int) (t:ZB):Nat:=(ln t-i).toNat
def qep (w:List ZB) (i:Int) (S:List Sign):Prop:=Hold2 (2<=i/\i<=ln w/\ln S=i-2/\qkc (fr w i) S=qkc (fr w 2) [])
def qbg (w:List ZB) (i:Int) (_:List Sign):Nat:=(ln w-i).toNat
def qjv (w:List ZB) (i n:Int) (P:List Page) (Q:List Staff):Prop:=Hold2 (1<=i/\i<=ln w/\n=ln P/\ln P<=i/\ln Q<=i/\qq1 (fr w i) P Q=qtn (fr w 1))
def qes (w:List ZB) (i _:Int) (_:List Page) (_:List Staff):Nat:=(ln w-i).toNat
def qmy (a0:ZB) (a:List Page) (t:ZB) (i:Int):Prop:=qjt a0 a t i
def qk4 (a0:ZB) (a:List Page) (t:ZB) (i:Int):Nat:=qfz a0 a t i
def qju (a0:ZB) (a:List Page) (t:ZB) (j i:Int):Prop:=qhg a0 a t j i
def qer (a0:ZB) (a:List Page) (t:ZB) (j i:Int):Nat:=qbv a0 a t j i
def qmz (_:ZB) (a:List Page) (r:ZB) (k i j:Int):Prop:=Hold2 (0<=k/\k<=ln (ix (ix a i).Staves j).Signs/\r=qbl ([qry,qi (ix (ix a i).Staves j).Lead]++qc5 (upto (ix (ix a i).Staves j).Signs k)) [32])
def qk5 (_:ZB) (a:List Page) (_:ZB) (k i j:Int):Nat:=(ln (ix (ix a i).Staves j).Signs-k).toNat
theorem zrs {l:List Sign}:∀ {i:Int},0<=i->(qig l i).1=0->∀ j,i<=j->j<ln l->qqc l j=0:=by
 intro i
 fun_induction qig l i with
 | case1 i h a=>intro _ b;exact absurd b a
 | case2 i h a d=>
  intro g b j e c;by_cases f:j=i
  .subst f;exact Decidable.not_not.1 a
  .exact d (by omega) b j (by omega) c
 | case3 i h=>intro _ _ j e c;omega
theorem zm6 {nm:ZB} {l:List Sign} (h:(z8 nm l).1=0):jh nm=true/\ln l<=400/\∀ s ∈ l,zg s=0:=by
 unfold z8 at h;split at h
 .cases h
 .rename_i d;split at h
  .cases h
  .rename_i f;refine ⟨by simpa using d,by omega,λs e=>?_⟩;obtain ⟨i,a,b,rfl⟩:=q2e e;have:=zrs (zK _) h i a b;unfold qqc at this;by_cases c:zg (ix l i)=0
   .exact c
   .rw [zT c] at this;exact absurd this c
def VF (f:List Sign×List Sign):Prop:=(∀ x ∈ f.1++f.2,zg x=0)/\ln f.1<=1/\ln f.2<=1
def zme (s:Staff):Prop:=ln s.Signs<=60/\0<=s.Lead/\(s.Lead<=2/\s.Lead<ln s.Signs)/\∀ x ∈ s.Signs,zg x=0
def zxl (s:Staff):Prop:=-4<=s.Custos/\s.Custos<=12/\(s.Catch=false->s.Custos=0)
theorem zw5 {f:List Sign×List Sign} {s:Sign} (h:VF f) (b:zg s=0):VF (qby f.1 f.2 s):=by
 refine ⟨λx a=>?_,qwd h.2.1 h.2.2⟩;unfold qby at a;split at a
 .rcases List.mem_append.1 a with a | a
  .rw [List.mem_singleton.1 a];exact b
  .exact h.1 x (List.mem_append.2 (.inr a))
 .split at a
  .rcases List.mem_append.1 a with a | a
   .exact h.1 x (List.mem_append.2 (.inl a))
   .rw [List.mem_singleton.1 a];exact b
  .exact h.1 x a
theorem ze3:∀ {l:List Sign} {f:List Sign×List Sign},VF f->(∀ x ∈ l,zg x=0)->VF (qbb f l)
 | [],_,h,_=>h
 | s::l,_,h,a=>ze3 (l:=l) (zw5 h (a s zC)) (λx b=>a x (zG _ b))
theorem zig {s:Staff} {c k:List Sign} (h:kj s c k=0) (d:VF (c,k)) (f:∀ x ∈ qj0 s,zg x=0):zme s:=by
 unfold kj at h;split at h
 .cases h
 .split at h
  .cases h
  .split at h
   .cases h
   .split at h
    .rename_i e;have b:s.Lead<=2:=by
      have q:=qda (l:=s.Signs) (i:=s.Lead) (by omega) (by omega);rw [e,qj] at q;have:=d.2;dsimp only at this;omega
     refine ⟨by omega,by omega,⟨b,by omega⟩,λx a=>?_⟩;have:s.Signs=upto s.Signs s.Lead++fr s.Signs s.Lead:=(List.take_append_drop _ _).symm;rw [this,e] at a;rcases List.mem_append.1 a with a | a
     .exact d.1 x a
     .exact f x a
    .cases h
theorem zdt:∀ {l:List Staff} {f:List Sign×List Sign} {n j:Int},(qch f n j l).1=0->VF f->(∀ s ∈ l,∀ x ∈ qj0 s,zg x=0)->(l=[]∨j+ln l<=12)/\(∀ s ∈ l,zme s)/\VF (qch f n j l).2.1
 | [],f,n,j,_,c,_=>⟨.inl rfl,λs a=>(by cases a),c⟩
 | s::l,f,n,j,h,c,d=>by
  simp only [qch] at h ⊢;by_cases e:12<=j
  .rw [zT e] at h;cases h
  .rw [zF e] at h ⊢;by_cases a:kj s f.1 f.2≠0
   .rw [zT a] at h;exact absurd h a
   .rw [zF a] at h ⊢;have a:=Decidable.not_not.1 a;have g:=d s zC;obtain ⟨i,k,m⟩:=zdt h (ze3 c g) (λs a=>d s (zG _ a));refine ⟨.inr ?_,λo b=>?_,m⟩
    .rw [zh];rcases i with rfl | i
     .simp only [jc];omega
     .omega
    .rcases zD.1 b with rfl | b
     .exact zig a c g
     .exact k o b
theorem q0u:∀ {g:List Page} {f:List Sign×List Sign} {n:Int} {e:Bool},(qbz f n e g).1=0->VF f->(∀ p ∈ g,∀ s ∈ p.Staves,∀ x ∈ qj0 s,zg x=0)->∀ p ∈ g,ln p.Staves<=12/\∀ s ∈ p.Staves,zme s
 | [],_,_,_,_,_,_,p,a=>by cases a
 | d::g,f,n,e,h,j,i,p,a=>by
  simp only [qbz] at h;by_cases b:d.Staves=[]
  .rw [zT b] at h;rcases zD.1 a with rfl | a
   .rw [b];exact ⟨by decide,λs k=>by cases k⟩
   .exact q0u h j (λp a=>i p (zG _ a)) p a
  .rw [zF b] at h;by_cases c:(qch f n 0 d.Staves).1≠0
   .rw [zT c] at h;exact absurd h c
   .rw [zF c] at h;obtain ⟨l,m,o⟩:=zdt (Decidable.not_not.1 c) j (i d zC);rcases zD.1 a with rfl | a
    .exact ⟨l.elim (λq=>absurd q b) (λq=>by omega),m⟩
    .exact q0u h o (λp a=>i p (zG _ a)) p a
theorem zbq:∀ {l:List Sign},(∀ x ∈ l,zg x=0)->-4<=(jf l).2/\(jf l).2<=12/\((jf l).1=false->(jf l).2=0)
 | [],_=>⟨by decide,by decide,λ_=>rfl⟩
 | s::l,h=>by
  simp only [jf];by_cases c:s.Kind=1∨s.Kind=4
  .rw [zT c];have a:=h s zC;unfold zg at a;split at a
   .cases a
   .split at a
    .cases a
    .split at a
     .cases a
     .split at a
      .cases a
      .rename_i b;have b:=Decidable.not_not.1 b;have:=b.2.1;refine ⟨?_,?_,λh=>by cases h⟩<;>show _<;>rcases this with q | q<;>first | omega | (exfalso;omega)
  .rw [zF c];exact zbq λx d=>h x (zG _ d)
theorem zjg {l:List Sign} (d:∀ x ∈ l,zg x=0):∀ {r:List Staff} {n a:Int},(qp5 l r n a).1=0->∀ s ∈ r,zxl s
 | [],_,_,_,s,b=>by cases b
 | f::r,n,a,h,s,b=>by
  simp only [qp5] at h;split at h
  .rename_i c;rcases zD.1 b with rfl | b
   .have:=zbq (l:=fr l (a+(ln s.Signs-s.Lead))) λx e=>d x (List.mem_of_mem_drop e);refine ⟨by rw [c.2];exact this.1,by rw [c.2];exact this.2.1,λh=>?_⟩;rw [c.1] at h;rw [c.2];exact this.2.2 h
   .exact zjg d h s b
  .cases h
theorem qc2 {nm:ZB} {g:List Page} (h:(qai nm g).1=0):(jh nm=true/\ln (ze g)<=400)/\∀ p ∈ g,ln p.Staves<=12/\∀ s ∈ p.Staves,zme s/\zxl s:=by
 unfold qai at h;split at h
 .cases h
 .rename_i n;split at h
  .rename_i c;exact absurd h c
  .rename_i c;split at h
   .cases h
   .unfold qc6 at h;split at h
    .rename_i d;exact absurd h d
    .rename_i d;obtain ⟨k,l,i⟩:=zm6 (Decidable.not_not.1 d);split at h
     .cases h
     .split at h
      .rename_i m;exact absurd h m
      .have e:=zjg i h;have j:=q0u (Decidable.not_not.1 c) ⟨λx f=>(by cases f),by decide,by decide⟩ λp a s b x f=>i x (List.mem_flatMap.2 ⟨s,List.mem_flatMap.2 ⟨p,a,b⟩,f⟩);exact ⟨⟨k,l⟩,λp a=>⟨(j p a).1,λs b=>⟨(j p a).2 s b,e s (List.mem_flatMap.2 ⟨p,a,b⟩)⟩⟩⟩
def no (c:Int) (s:ZB):Prop:=∀ b ∈ s,(b.toNat:Int)≠c
theorem q2h {c:Int} {s t:ZB} (h:no c s) (a:no c t):no c (s++t):=λb d=>(List.mem_append.1 d).elim (h b) (a b)
def qzc (ls:List ZB):ZB:=ls.flatMap λl=>l++[10]
theorem q7r:∀ {ls:List ZB},(∀ l ∈ ls,no 10 l)->splitI 10 (qzc ls)=ls++[[]]
 | [],_=>rfl
 | l::ls,h=>by
  have e:qzc (l::ls)=l++10::qzc ls:=by simp [qzc]
  rw [e,qml (by decide) (h l zC),q7r λx a=>h x (zG _ a)];rfl
theorem q3o:∀ {a:List ZB},a≠[]->(∀ w ∈ a,no 32 w)->splitI 32 (qbl a [32])=a
 | [],h,_=>absurd rfl h
 | [x],_,h=>qnd (h x zC)
 | x::y::l,_,h=>by
  have e:qbl (x::y::l) [32]=x++32::qbl (y::l) [32]:=by simp [qbl]
  rw [e,qml (by decide) (h x zC),q3o (by simp) λw b=>h w (zG _ b)]
theorem zkf:∀ {c:List ZB},(∀ w ∈ c,no 10 w)->no 10 (qbl c [32])
 | [],_=>λb a=>(by cases a)
 | [x],h=>h x zC
 | x::y::l,h=>by
  have e:qbl (x::y::l) [32]=x++[32]++qbl (y::l) [32]:=rfl;rw [e];exact q2h (q2h (h x zC) (λb a=>by rw [List.mem_singleton.1 a];decide)) (zkf λw d=>h w (zG _ d))
def qj3 (s:Staff):ZB:=qbl (qf7 s) [32]
def z4y (p:Page):List (ZB):=q2r::p.Staves.map qj3
def qbm (g:List Page):List (ZB):=g.flatMap z4y
theorem zd5:∀ {l:List Staff},qnc l=qzc (l.map qj3)
 | []=>rfl
 | s::l=>by
  have e:qnc (s::l)=qvn s++qnc l:=rfl;rw [e,zd5];rfl
theorem zkr {a b:List ZB}:qzc (a++b)=qzc a++qzc b:=by simp [qzc]
theorem zdu:∀ {g:List Page},qpg g=qzc (qbm g)
 | []=>rfl
 | p::g=>by
  have e:qpg (p::g)=([112,97,103,101,10]++qnc p.Staves)++qpg g:=rfl;have a:qbm (p::g)=(q2r::p.Staves.map qj3)++qbm g:=rfl;rw [e,zdu,zd5,a,zkr];rfl
def Rd (s:Staff):Prop:=kc (qf7 s)=(s,true)/\∀ w ∈ qf7 s,no 10 w/\no 32 w
theorem z6d (s:Staff):qf7 s≠[]:=by unfold qf7;simp
theorem zv7 (s:Staff):qj3 s≠q2r:=by
 intro h;have b:(qj3 s).head? = some 115:=by
  unfold qj3 qf7;cases c:(([qi s.Lead]++qc5 s.Signs)++(if s.Catch=true then [[126]++qi s.Custos] else [])) with
  | nil=>simp at c
  | cons a l=>
   have e:([qry,qi s.Lead]++qc5 s.Signs)++(if s.Catch=true then [[126]++qi s.Custos] else [])=qry::a::l:=by rw [<-c];rfl
   rw [e];rfl
 rw [h] at b;cases b
theorem qxe {s:Staff} (h:Rd s):splitI 32 (qj3 s)=qf7 s:=q3o (z6d s) λw a=>(h.2 w a).2
theorem z5i {s:Staff} (h:Rd s):no 10 (qj3 s):=zkf λw a=>(h.2 w a).1
theorem q3a:∀ {g:List Page} {l:List Staff} {P:List Page} {Q:List Staff},(∀ s ∈ l,Rd s)->(∀ p ∈ g,∀ s ∈ p.Staves,Rd s)->qtq (l.map qj3++qbm g) P Q=some ((P++[Page.mk (Q++l)])++g)
 | [],[],P,Q,_,_=>by simp [qtq,qbm]
 | p::g,[],P,Q,_,a=>by
  have e:([]:List Staff).map qj3++qbm (p::g)=q2r::(p.Staves.map qj3++qbm g):=rfl;rw [e,qtq,zT rfl,q3a (g:=g) (l:=p.Staves) (a p zC) λd f=>a d (zG _ f)];simp
 | g,s::l,P,Q,b,a=>by
  have c:=b s zC;have e:(s::l).map qj3++qbm g=qj3 s::(l.map qj3++qbm g):=rfl;rw [e,qtq,zF (zv7 s),qxe c,c.1,zT rfl,q3a (g:=g) (l:=l) (λi h=>b i (zG _ h)) a];simp
theorem zbi {g:List Page} (a:∀ p ∈ g,∀ s ∈ p.Staves,Rd s):qy5 (qbm g)=some g:=by
 cases g with
 | nil=>rfl
 | cons p g=>
  have e:qbm (p::g)=q2r::(p.Staves.map qj3++qbm g):=rfl;rw [e,qy5,zT rfl,q3a (a p zC) λb c=>a b (zG _ c)];rfl
theorem zxv (nm:ZB) (g:List Page):qls nm g=qzc (((qkm++nm)::qbm g)++[[101,110,100]]):=by
 unfold qls;rw [zdu,zkr];show _=((qkm++nm++[10])++qzc (qbm g))++_;rfl
theorem z0p {g:List Page} (b:∀ p ∈ g,∀ s ∈ p.Staves,Rd s):∀ l ∈ qbm g,no 10 l:=by
 intro l a;obtain ⟨p,c,a⟩:=List.mem_flatMap.1 a;rcases zD.1 a with rfl | a
 .unfold no;decide
 .obtain ⟨s,d,rfl⟩:=List.mem_map.1 a;exact z5i (b p c s d)
theorem zc6 {nm:ZB} {g:List Page} (b:no 10 nm) (c:∀ p ∈ g,∀ s ∈ p.Staves,Rd s):qg0 (qls nm g)=(((qkm++nm)::qbm g)++[[101,110,100]])++[[]]:=by
 unfold qg0;rw [zxv,q7r];intro l a;rcases List.mem_append.1 a with a | a
 .rcases zD.1 a with rfl | a
  .exact q2h (by unfold no;decide) b
  .exact z0p c l a
 .rw [List.mem_singleton.1 a];unfold no;decide
theorem zbh {nm:ZB} {g:List Page} (b:no 10 nm) (c:∀ p ∈ g,∀ s ∈ p.Staves,Rd s):qgg (qls nm g)=qbm g/\ln (qg0 (qls nm g))=ln (qbm g)+3/\ix (qg0 (qls nm g)) 0=qkm++nm:=by
 have e:=zc6 b c;have a:ln (qg0 (qls nm g))=ln (qbm g)+3:=by rw [e];simp only [ln,List.length_append,List.length_cons,List.length_nil];omega
 refine ⟨?_,a,by rw [e];rfl⟩;unfold qgg;rw [a,e];have d:(ln (qbm g)+3-2).toNat=(qbm g).length+1:=by simp only [ln];omega
 unfold sub;rw [d];simp [List.take_append]
theorem zvp {nm:ZB} {g:List Page} (f:(qai nm g).1=0) (k:ln (qls nm g)<=20000) (h:no 10 nm) (c:∀ p ∈ g,∀ s ∈ p.Staves,Rd s):jy nm g=(qls nm g,0)/\qbc (qls nm g)=((nm,g),(0,0)):=by
 have d:jy nm g=(qls nm g,0):=by unfold jy;rw [zF (by simp [f]),zF (by omega)]
 obtain ⟨i,l,e⟩:=zbh h c;have m:=ln_nonneg nm;have n:=ln_nonneg (qbm g);have a:qcf (qkm++nm) qkm=(nm,true):=by
  unfold qcf;have o:ln qkm=5:=rfl;have j:upto (qkm++nm) (ln qkm)=qkm:=rfl;rw [zT ⟨by rw [qj];omega,j⟩];rfl
 refine ⟨d,?_⟩;unfold qbc;have b:nmK (qls nm g)=nm:=by unfold nmK;rw [e,a]
 rw [zF (by omega),e,a,zF (by simp),zF (by omega),i,zbi c];simp only [znf];rw [b,d,zT ⟨rfl,rfl⟩]
end Go.Proofs.YtpgchdcifbaioaaGreatDoor
