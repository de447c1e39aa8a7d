/- WHAT THE FUNCTIONS ON SIGNS AND PARTS COMPUTE, in plain Lean; no program in sight. -/
import Derived.Test.YtbopmiclcimjgaaGreatDoorNat
import Derived.Test.YtbopmiclcimjgaaGreatDoorM6
namespace Go.Proofs.YtbopmiclcimjgaaGreatDoor
open Go Go.E2 Go.E3
def qrg (b:Int):Bool:=decide (97<=b)&&decide (b<=122)
def qoz (b:Int):Bool:=qrg b || (decide (48<=b)&&decide (b<=57)) || decide (b=45)
def qaj (s:ZB):Bool:=decide (1<=ln s)&&decide (ln s<=20)&&qrg (bx s 0)&&s.all fun b=>qoz b.toNat
def qb5 (a b c d:Int):Int:=if (a=2∨a=3)/\(b=2∨b=3)/\(c=2∨c=3)/\(d=2∨d=3) then 0 else 12
def qm9 (s:Sign):Prop:=
 (s.Value=0∨s.Kind=1∨s.Kind=2)/\((s.Place=0/\s.Acc=0/\s.Color=false)∨s.Kind=1∨s.Kind=4)/\((s.Stem=0/\s.Oblique=false/\s.Last=false)∨s.Kind=4)/\
 ((s.MensMax=0/\s.MensMod=0/\s.MensTem=0/\s.MensPro=0/\s.Stroke=false)∨s.Kind=5)/\(s.N=0∨s.Kind=6∨s.Kind=8∨s.Kind=10)/\(s.D=0∨s.Kind=6)/\
 ((s.ClefStep=0/\s.ClefLine=0)∨s.Kind=7)
instance (s:Sign):Decidable (qm9 s):=by unfold qm9;infer_instance
def qg9 (s:Sign):Prop:=
 ((s.Kind≠1/\s.Kind≠2)∨(1<=s.Value/\s.Value<=8))/\((s.Kind≠1/\s.Kind≠4)∨(-4<=s.Place/\s.Place<=12/\-1<=s.Acc/\s.Acc<=2))/\(s.Kind≠4∨(0<=s.Stem/\s.Stem<=3))/\
 (s.Kind≠6∨(1<=s.N/\s.N<=100/\1<=s.D/\s.D<=100))/\(s.Kind≠7∨((s.ClefStep=0∨s.ClefStep=3∨s.ClefStep=4)/\1<=s.ClefLine/\s.ClefLine<=5))/\
 (s.Kind≠8∨(0<=s.N/\s.N<=2))/\(s.Kind≠10∨(2<=s.N/\s.N<=4))
instance (s:Sign):Decidable (qg9 s):=by unfold qg9;infer_instance
def ku (s:Sign):Int:=
 if s.Kind<1∨12<s.Kind then 8 else if ¬ qm9 s then 3 else if s.Kind=5/\qb5 s.MensMax s.MensMod s.MensTem s.MensPro≠0 then 12 else if ¬ qg9 s then 2
 else if s.Oblique=true/\s.Last=true then 3 else 0
end Go.Proofs.YtbopmiclcimjgaaGreatDoor
namespace Go.Proofs.YtbopmiclcimjgaaGreatDoor
open Go Go.E2 Go.E3
def preB (s p:ZB):Bool:=decide (ln p<=ln s)&&decide (upto s (ln p)=p)
def qbx (s:ZB) (c:Int):ZB×Bool:=if 0<ln s/\bx s 0=c then (fr s 1,true) else (s,false)
def zep (a:Int):ZB:=if a=2 then [50] else if a=3 then [51] else []
def zl2 (c:Int):ZB:=if c=2 then [67] else if c=3 then [79] else []
def zk1 (d:Int):ZB:=if d=3 then [46] else []
def jr (a b c d:Int):ZB:=(if a=3∨b=3 then zep a++zep b else [])++zl2 c++zk1 d
def qki (a b c d:Int):ZB×Int:=if qb5 a b c d=0 then (jr a b c d,0) else ([],12)
abbrev M4:=Int×Int×Int×Int
def allM:List M4:=[(2,2,2,2),(2,2,2,3),(2,2,3,2),(2,2,3,3),(2,3,2,2),(2,3,2,3),(2,3,3,2),(2,3,3,3),(3,2,2,2),(3,2,2,3),(3,2,3,2),(3,2,3,3),(3,3,2,2),(3,3,2,3),(3,3,3,2),(3,3,3,3)]
def txM (m:M4):ZB:=jr m.1 m.2.1 m.2.2.1 m.2.2.2
def qnk (s:ZB):List M4->M4×Int
 | []=>((0,0,0,0),3)
 | m::l=>if txM m=s then (m,0) else qnk s l
def qgf (s:ZB):M4×Int:=qnk s allM
def qdw (b:Int):Bool:=decide (48<=b)&&decide (b<=57)
def qda (s:ZB) (i n:Int):Int×Bool:=
 if h:0<=i/\i<ln s then (if qdw (bx s i)=true then (if 10 * n+(bx s i-48) > 1099511627776 then (0,false) else qda s (i+1) (10 * n+(bx s i-48))) else (0,false)) else (n,true)
 termination_by (ln s-i).toNat
 decreasing_by omega
def qx (s:ZB):Int×Bool:=if ln s=0∨(bx s 0=48/\1<ln s) then (0,false) else qda s 0 0
def qbg (s:ZB):Int×Bool:=
 if 0<ln s/\bx s 0=45 then (if (qx (fr s 1)).2=true/\(qx (fr s 1)).1≠0 then (-(qx (fr s 1)).1,true) else (0,false)) else qx s
def qek (s:ZB) (c i k m:Int):ZB×ZB×Bool:=
 if h:0<=i/\i<ln s then (if bx s i=c then qek s c (i+1) i (m+1) else qek s c (i+1) k m) else (if m=1 then (upto s k,fr s (k+1),true) else ([],[],false))
 termination_by (ln s-i).toNat
 decreasing_by all_goals omega
def zc2 (s:ZB) (c:Int):ZB×ZB×Bool:=qek s c 0 0 0
def d1 (n:Int):ZB:=[UInt8.ofNat (48+n.toNat)]
def qd3 (n:Int):ZB:=if n<=9 then d1 n else if n<=99 then d1 (n / 10)++d1 (n % 10) else [49,48,48]
def zf (n:Int):ZB:=if n<0 then 45::qd3 (-n) else qd3 n
def zjl:ZB:=[88,76,66,83,77,81,70,90]
def ltr (v:Int):ZB:=sub zjl (v-1) v
def qdt (s:ZB):Int×Int:=
 if s=[88] then (1,0) else if s=[76] then (2,0) else if s=[66] then (3,0) else if s=[83] then (4,0) else if s=[77] then (5,0) else if s=[81] then (6,0) else if s=[70] then (7,0) else if s=[90] then (8,0) else (0,3)
def qmb (a:Int):ZB:=if a = -1 then [98] else if a=1 then [35] else if a=2 then [110] else []
def q82 (c:Bool):ZB:=if c=true then [42] else []
def qhn (s:Sign):ZB:=zf s.Place++qmb s.Acc++q82 s.Color
def qgo (k:Int):ZB:=if k=1 then [94] else if k=2 then [118] else if k=3 then [62] else []
def zm (b:Bool) (c:UInt8):ZB:=if b=true then [c] else []
def qjs (s:Sign):ZB:=[116]++qhn s++qgo s.Stem++zm s.Oblique 126++zm s.Last 33
def qnt (k:Int):ZB:=if k=0 then [67] else if k=3 then [70] else if k=4 then [71] else []
def jn (s:Sign):ZB:=
 if s.Kind=1 then ltr s.Value++qhn s else if s.Kind=2 then [114]++ltr s.Value else if s.Kind=3 then [46] else if s.Kind=4 then qjs s
 else if s.Kind=5 then [40]++jr s.MensMax s.MensMod s.MensTem s.MensPro++[41]++zm s.Stroke 124 else if s.Kind=6 then zf s.N++[47]++zf s.D
 else if s.Kind=7 then [64]++qnt s.ClefStep++zf s.ClefLine else if s.Kind=8 then [38]++zf s.N else if s.Kind=9 then [91] else if s.Kind=10 then [93]++zf s.N
 else if s.Kind=11 then [116,117,114,110] else [115,105,103]
def qle (s:Sign):ZB×Int:=if ku s=0 then (jn s,0) else ([],ku s)
def sg0:Sign:=Sign.mk 0 0 0 0 false 0 false false 0 0 0 0 false 0 0 0 0
def tk (w:ZB) (i:Int) (c:UInt8):Bool:=preB (fr w i) [c]
def qg5 (w:ZB) (i:Int):ZB×Int:=if tk w i 45=true then ([45],i+1) else ([],i)
def dgE (w:ZB) (i:Int):Int:=zj qdw w i
def qmd (w:ZB) (i:Int):(Int×Bool)×Int:=(qbg ((qg5 w i).1++sub w (qg5 w i).2 (dgE w (qg5 w i).2)),dgE w (qg5 w i).2)
def qfx (w:ZB) (i:Int):(Int×Bool)×Int:=(qx (sub w i (dgE w i)),dgE w i)
def qko (w:ZB) (i:Int):Int×Int:=if tk w i 98=true then (-1,i+1) else if tk w i 35=true then (1,i+1) else if tk w i 110=true then (2,i+1) else (0,i)
def qde (w:ZB) (i:Int) (c:UInt8):Bool×Int:=if tk w i c=true then (true,i+1) else (false,i)
def qff (w:ZB) (i:Int):Int×Int×Bool×Bool×Int:=
 ((qmd w i).1.1,(qko w (qmd w i).2).1,(qde w (qko w (qmd w i).2).2 42).1,(qmd w i).1.2,(qde w (qko w (qmd w i).2).2 42).2)
def qu6 (w:ZB) (i k:Int):Option Int:=if h:0<=k/\k<8 then (if preB (fr w i) (sub zjl k (k+1))=true then some (k+1) else qu6 w i (k+1)) else none
 termination_by (8-k).toNat
 decreasing_by omega
def qtn (w:ZB) (i:Int):Option Int:=qu6 w i 0
def qkv (w:ZB) (i:Int):Int×Int:=if tk w i 94=true then (1,i+1) else if tk w i 118=true then (2,i+1) else if tk w i 62=true then (3,i+1) else (0,i)
def q70 (w:ZB) (i:Int):Option Int:=if tk w i 67=true then some 0 else if tk w i 70=true then some 3 else if tk w i 71=true then some 4 else none
def qet (w:ZB):Int:=if jc (fr w 1) 41 > 0 then jc (fr w 1) 41 else 0
def rd1 (w:ZB):Option Sign:=match qtn w 0 with
 | some v=>if (qff w 1).2.2.2.1=true/\(qff w 1).2.2.2.2=ln w then some (Sign.mk 1 v (qff w 1).1 (qff w 1).2.1 (qff w 1).2.2.1 0 false false 0 0 0 0 false 0 0 0 0) else none
 | none=>none
def rd2 (w:ZB):Option Sign:=if tk w 0 114=true then (match qtn w 1 with
 | some v=>if (2:Int)=ln w then some (Sign.mk 2 v 0 0 false 0 false false 0 0 0 0 false 0 0 0 0) else none
 | none=>none) else none
def rd3 (w:ZB):Option Sign:=if tk w 0 46=true/\(1:Int)=ln w then some (Sign.mk 3 0 0 0 false 0 false false 0 0 0 0 false 0 0 0 0) else none
def zay (w:ZB):Int×Int:=qkv w (qff w 1).2.2.2.2
def rd4 (w:ZB):Option Sign:=if tk w 0 116=true/\(qff w 1).2.2.2.1=true/\(qde w (qde w (zay w).2 126).2 33).2=ln w then
 some (Sign.mk 4 0 (qff w 1).1 (qff w 1).2.1 (qff w 1).2.2.1 (zay w).1 (qde w (zay w).2 126).1 (qde w (qde w (zay w).2 126).2 33).1 0 0 0 0 false 0 0 0 0) else none
def q9r (w:ZB):M4×Int:=qgf (sub w 1 (1+qet w))
def rd5 (w:ZB):Option Sign:=if tk w 0 40=true/\(q9r w).2=0/\tk w (1+qet w) 41=true/\(qde w (1+qet w+1) 124).2=ln w then
 some (Sign.mk 5 0 0 0 false 0 false false (q9r w).1.1 (q9r w).1.2.1 (q9r w).1.2.2.1 (q9r w).1.2.2.2 (qde w (1+qet w+1) 124).1 0 0 0 0) else none
def rd6 (w:ZB):Option Sign:=if (qfx w 0).1.2=true/\tk w (qfx w 0).2 47=true/\(qfx w ((qfx w 0).2+1)).1.2=true/\(qfx w ((qfx w 0).2+1)).2=ln w then
 some (Sign.mk 6 0 0 0 false 0 false false 0 0 0 0 false (qfx w 0).1.1 (qfx w ((qfx w 0).2+1)).1.1 0 0) else none
def rd7 (w:ZB):Option Sign:=if tk w 0 64=true then (match q70 w 1 with
 | some k=>if (qfx w 2).1.2=true/\(qfx w 2).2=ln w then some (Sign.mk 7 0 0 0 false 0 false false 0 0 0 0 false 0 0 k (qfx w 2).1.1) else none
 | none=>none) else none
def rdN (w:ZB) (c:UInt8) (k:Int):Option Sign:=if tk w 0 c=true/\(qfx w 1).1.2=true/\(qfx w 1).2=ln w then some (Sign.mk k 0 0 0 false 0 false false 0 0 0 0 false (qfx w 1).1.1 0 0 0) else none
def rdW (w p:ZB) (k:Int):Option Sign:=if preB w p=true/\ln p=ln w then some (Sign.mk k 0 0 0 false 0 false false 0 0 0 0 false 0 0 0 0) else none
def rdK (w:ZB) (k:Int):Option Sign:=
 if k=1 then rd1 w else if k=2 then rd2 w else if k=3 then rd3 w else if k=4 then rd4 w else if k=5 then rd5 w else if k=6 then rd6 w else if k=7 then rd7 w else if k=8 then rdN w 38 8
 else if k=9 then rdW w [91] 9 else if k=10 then rdN w 93 10 else if k=11 then rdW w [116,117,114,110] 11 else if k=12 then rdW w [115,105,103] 12 else none
def qmc (w:ZB) (k:Int):Option Sign:=if h:1<=k/\k<=12 then (match rdK w k with
 | some s=>some s
 | none=>qmc w (k+1)) else none
 termination_by (13-k).toNat
 decreasing_by omega
def fin (o:Option Sign):Sign×Int:=match o with
 | some s=>if ku s=0 then (s,0) else (sg0,ku s)
 | none=>(sg0,3)
def zg (w:ZB):Sign×Int:=fin (qmc w 1)
def hdE (s:ZB) (i:Int):Int:=if h:0<=i/\i<ln s then (if qdw (bx s i)=true∨(i=0/\bx s i=45) then hdE s (i+1) else i) else i
 termination_by (ln s-i).toNat
 decreasing_by omega
def qqg (s:ZB):Int×ZB:=if (qbx s 98).2=true then (-1,(qbx s 98).1) else if (qbx s 35).2=true then (1,(qbx s 35).1) else if (qbx s 110).2=true then (2,(qbx s 110).1) else (0,s)
def qvk (s:ZB):Int×ZB:=if (qbx s 94).2=true then (1,(qbx s 94).1) else if (qbx s 118).2=true then (2,(qbx s 118).1) else if (qbx s 62).2=true then (3,(qbx s 62).1) else (0,s)
def hdF (s:ZB):(Int×Bool)×Int×Bool×ZB:=
 (qbg (upto s (hdE s 0)),(qqg (fr s (hdE s 0))).1,(qbx (qqg (fr s (hdE s 0))).2 42).2,(qbx (qqg (fr s (hdE s 0))).2 42).1)
def zfk (w:ZB):Option Sign:=if (hdF (fr w 1)).1.2=true/\(hdF (fr w 1)).2.2.2=[] then some (Sign.mk 1 (qdt (upto w 1)).1 (hdF (fr w 1)).1.1 (hdF (fr w 1)).2.1 (hdF (fr w 1)).2.2.1 0 false false 0 0 0 0 false 0 0 0 0) else none
def q7m (s:ZB):Option Sign:=if (qdt s).2=0 then some (Sign.mk 2 (qdt s).1 0 0 false 0 false false 0 0 0 0 false 0 0 0 0) else none
def q38 (s:ZB):Option Sign:=
 let h:=hdF s
 let t:=qvk h.2.2.2
 let o:=qbx t.2 126
 let l:=qbx o.1 33
 if h.1.2=true/\l.1=[] then some (Sign.mk 4 0 h.1.1 h.2.1 h.2.2.1 t.1 o.2 l.2 0 0 0 0 false 0 0 0 0) else none
def q3h (s:ZB):Option Sign:=
 let b:=decide (0<ln s/\bx s (ln s-1)=124)
 let u:=if b=true then upto s (ln s-1) else s
 if 0<ln u/\bx u (ln u-1)=41/\(qgf (upto u (ln u-1))).2=0 then
  some (Sign.mk 5 0 0 0 false 0 false false (qgf (upto u (ln u-1))).1.1 (qgf (upto u (ln u-1))).1.2.1 (qgf (upto u (ln u-1))).1.2.2.1 (qgf (upto u (ln u-1))).1.2.2.2 b 0 0 0 0) else none
def qwz (s:ZB):Option Sign:=
 let f (k:Int) (r:ZB):Option Sign:=if (qx r).2=true then some (Sign.mk 7 0 0 0 false 0 false false 0 0 0 0 false 0 0 k (qx r).1) else none
 if (qbx s 67).2=true then f 0 (qbx s 67).1 else if (qbx s 70).2=true then f 3 (qbx s 70).1 else if (qbx s 71).2=true then f 4 (qbx s 71).1 else none
def q6y (k:Int) (s:ZB):Option Sign:=if (qx s).2=true then some (Sign.mk k 0 0 0 false 0 false false 0 0 0 0 false (qx s).1 0 0 0) else none
def qzw (w:ZB):Option Sign:=
 let p:=zc2 w 47
 if p.2.2=true/\(qx p.1).2=true/\(qx p.2.1).2=true then some (Sign.mk 6 0 0 0 false 0 false false 0 0 0 0 false (qx p.1).1 (qx p.2.1).1 0 0) else none
def wdS (k:Int):Option Sign:=some (Sign.mk k 0 0 0 false 0 false false 0 0 0 0 false 0 0 0 0)
def qcg (w:ZB):Option Sign:=
 if w=[] then none else if w=[46] then wdS 3 else if w=[91] then wdS 9 else if w=[116,117,114,110] then wdS 11 else if w=[115,105,103] then wdS 12
 else if bx w 0=114 then q7m (fr w 1) else if bx w 0=116 then q38 (fr w 1) else if bx w 0=40 then q3h (fr w 1) else if bx w 0=64 then qwz (fr w 1) else if bx w 0=38 then q6y 8 (fr w 1) else if bx w 0=93 then q6y 10 (fr w 1)
 else if (qdt (upto w 1)).2=0 then zfk w else qzw w
def qlb (w:ZB):Sign×Int:=fin (qcg w)
end Go.Proofs.YtbopmiclcimjgaaGreatDoor
namespace Go.Proofs.YtbopmiclcimjgaaGreatDoor
open Go Go.E2 Go.E3
theorem q7u (s:Sign):Sign.mk s.Kind s.Value s.Place s.Acc s.Color s.Stem s.Oblique s.Last s.MensMax s.MensMod s.MensTem s.MensPro s.Stroke s.N s.D s.ClefStep s.ClefLine=s:=rfl
def ins (l:List Sign) (i:Int):Bool:=decide (0<i)&&(decide ((ix l (i-1)).Kind=4)&&!(ix l (i-1)).Last)
def zmv (l:List Sign) (i:Int):Prop:=
 (ix l i).Kind=4/\(((ix l i).Last=true/\ins l i=false)∨((ix l i).Last=false/\(ln l<=i+1∨(ix l (i+1)).Kind≠4)))
instance (l:List Sign) (i:Int):Decidable (zmv l i):=by unfold zmv;infer_instance
def qqy (l:List Sign) (i:Int):Int:=if ku (ix l i)≠0 then ku (ix l i) else if zmv l i then 3 else 0
def qi2 (l:List Sign) (i:Int):Int×Int:=if h:i<ln l then (if qqy l i≠0 then (qqy l i,i) else qi2 l (i+1)) else (0,0)
 termination_by (ln l-i).toNat
 decreasing_by omega
def zy (nm:ZB) (l:List Sign):Int×Int:=if qaj nm=false then (7,0) else if 400<ln l then (11,0) else qi2 l 0
theorem qwy {l:List Sign} {i:Int} (h:i<ln l) (he:qqy l i=0):qi2 l i=qi2 l (i+1):=by
 rw [qi2,dif_pos h,zF (by simp [he])]
theorem zbe {l:List Sign} {i:Int} (h:i<ln l) (he:qqy l i≠0):qi2 l i=(qqy l i,i):=by
 rw [qi2,dif_pos h,zT he]
theorem q2p {l:List Sign} {i:Int} (h:ln l<=i):qi2 l i=(0,0):=by
 rw [qi2,dif_neg (by omega)]
theorem zlt (a b:Sign):(a.Kind=b.Kind/\a.Value=b.Value/\a.Place=b.Place/\a.Acc=b.Acc/\a.Color=b.Color/\a.Stem=b.Stem/\a.Oblique=b.Oblique/\a.Last=b.Last/\a.MensMax=b.MensMax/\a.MensMod=b.MensMod/\a.MensTem=b.MensTem/\a.MensPro=b.MensPro/\a.Stroke=b.Stroke/\a.N=b.N/\a.D=b.D/\a.ClefStep=b.ClefStep/\a.ClefLine=b.ClefLine)↔a=b:=by
 cases a;cases b;simp only [Sign.mk.injEq]
instance:DecidableEq Sign:=fun a b=>decidable_of_iff _ (zlt a b)
def qk9 (a b:List Sign):Bool:=decide (a=b)
def je (n:ZB) (a:List Sign) (m:ZB) (b:List Sign):Bool:=decide (n=m/\a=b)
end Go.Proofs.YtbopmiclcimjgaaGreatDoor
namespace Go.Proofs.YtbopmiclcimjgaaGreatDoor
open Go Go.E2 Go.E3
def jy (b:Int):Int:=if b<32∨126<b then 120 else if b=32 then 32 else if b=34 then 113 else if b=59 then 99 else 112
def z6 (b:Int):Bool:=decide (33<=b)&&decide (b<=126)&&!decide (b=59)&&!decide (b=34)
def j7 (b:Int):Bool:=decide (32<=b)&&decide (b<=126)&&!decide (b=34)
def kq (b:Int):Bool:=decide (b=32)
def qal (s:ZB):Bool:=s.all fun b=>j7 b.toNat
theorem qfg {b:Int}:z6 b=true↔33<=b/\b<=126/\b≠59/\b≠34:=by simp [z6,and_assoc]
theorem q98 {b:Int}:z6 b=false↔(b<33∨126<b∨b=59∨b=34):=by
 rw [<-Bool.not_eq_true,qfg];omega
theorem quc {b:Int}:j7 b=true↔32<=b/\b<=126/\b≠34:=by simp [j7,and_assoc]
theorem qud {b:Int}:j7 b=false↔(b<32∨126<b∨b=34):=by
 rw [<-Bool.not_eq_true,quc];omega
theorem qwo {b:Int}:kq b=true↔b=32:=by simp [kq]
theorem q8x {b:Int}:kq b=false↔b≠32:=by simp [kq]
theorem qvn {b:Int}:jy b=120↔b<32∨126<b:=by unfold jy;split<;>(try split)<;>(try split)<;>(try split)<;>omega
theorem qqq {b:Int}:jy b=113↔b=34:=by unfold jy;split<;>(try split)<;>(try split)<;>(try split)<;>omega
theorem zbf {b:Int}:jy b=112↔z6 b=true:=by rw [qfg];unfold jy;split<;>(try split)<;>(try split)<;>(try split)<;>omega
theorem qkg {s:ZB}:qal s=true↔∀ i,0<=i->i<ln s->j7 (bx s i)=true:=by
 simp only [qal,List.all_eq_true]
 constructor
 .intro h i h0 h1
  exact h _ (qg0 h0 h1)
 .intro h b hb
  obtain ⟨i,h0,h1,rfl⟩:=qyb hb
  exact h i h0 h1
theorem qus {s:ZB} {i:Int} (h0:0<=i) (h1:i<ln s) (h:j7 (bx s i)=false):qal s=false:=by
 rw [<-Bool.not_eq_true,qkg]
 intro hq
 rw [hq i h0 h1] at h
 cases h
def q89 (l:ZB) (i:Int):Prop:=ln l<=i∨bx l i=32∨bx l i=59
instance (l:ZB) (i:Int):Decidable (q89 l i):=by unfold q89;infer_instance
def qar (l:ZB) (a:Int):Int:=
 if (0<a/\bx l (a-1)≠32)∨ln l<=zj j7 l (a+1)∨bx l (zj j7 l (a+1))≠34∨¬ q89 l (zj j7 l (a+1)+1) then -1 else zj j7 l (a+1)+1
theorem zac {l:ZB} {a:Int} (h0:0<=a) (h1:a<ln l):qar l a = -1∨(a+2<=qar l a/\qar l a<=ln l):=by
 unfold qar
 split
 .exact .inl rfl
 .have:=qcm (p:=j7) (s:=l) (i:=a+1)
  right;omega
def jf (l:ZB) (from_:Int) (i:Int):List Word×Int:=
 if ln l<=zj kq l i∨bx l (zj kq l i)=59 then ([],-1)
 else if bx l (zj kq l i)=34 then
  (if h:zj kq l i<qar l (zj kq l i)/\qar l (zj kq l i)<=ln l then
    (if (jf l from_ (qar l (zj kq l i))).2<0 then (⟨from_+zj kq l i,sub l (zj kq l i+1) (qar l (zj kq l i)-1),true⟩::(jf l from_ (qar l (zj kq l i))).1,-1)
      else ([],(jf l from_ (qar l (zj kq l i))).2)) else ([],zj kq l i))
 else if z6 (bx l (zj kq l i))=true then
  (if h:zj kq l i<zj z6 l (zj kq l i)/\zj z6 l (zj kq l i)<=ln l then
    (if (jf l from_ (zj z6 l (zj kq l i))).2<0 then (⟨from_+zj kq l i,sub l (zj kq l i) (zj z6 l (zj kq l i)),false⟩::(jf l from_ (zj z6 l (zj kq l i))).1,-1)
      else ([],(jf l from_ (zj z6 l (zj kq l i))).2)) else ([],zj kq l i))
 else ([],zj kq l i)
 termination_by (ln l-i).toNat
 decreasing_by all_goals (have:=qcm (p:=kq) (s:=l) (i:=i);omega)
theorem zen {l:ZB} {f x:Int} (h0:0<=x) (h1:x<ln l) (h:bx l x=32):jf l f x=jf l f (x+1):=by
 rw [jf,qd5 h0 h1 (qwo.2 h)]
 exact (jf.eq_1 l f (x+1)).symm
theorem qgr {l:ZB} {x:Int} (h:ln l<=x∨bx l x≠32):zj kq l x=x:=
 qd6 (h.imp id fun h=>q8x.2 h)
theorem qqt {l:ZB} {f x:Int} (h:ln l<=x∨bx l x=59):jf l f x=([],-1):=by
 rw [jf,qgr (by omega),zT h]
theorem zng {l:ZB} {f x:Int} (h1:x<ln l) (h2:bx l x≠59) (h:(bx l x=34/\qar l x<0)∨(bx l x≠34/\bx l x≠32/\z6 (bx l x)=false)) (h0:0<=x):jf l f x=([],x):=by
 rw [jf,qgr (by omega),zF (by omega)]
 rcases h with ⟨h3,h4⟩ | ⟨h3,h4,h5⟩
 .rw [zT h3,dif_neg (by omega)]
 .rw [zF h3,zF (by rw [h5];exact Bool.false_ne_true)]
theorem zeo {l:ZB} {f x e:Int} (h0:0<=x) (h1:x<ln l) (h:bx l x=34) (he:qar l x=e) (h3:0<=e) :
  jf l f x=if (jf l f e).2<0 then (⟨f+x,sub l (x+1) (e-1),true⟩::(jf l f e).1,-1) else ([],(jf l f e).2):=by
 have hb:=zac h0 h1
 rw [jf,qgr (by omega),zF (by omega),zT h,he,dif_pos (by omega)]
theorem q0n {l:ZB} {f x e:Int} (h0:0<=x) (h1:x<ln l) (h:z6 (bx l x)=true) (he:zj z6 l x=e) :
  jf l f x=if (jf l f e).2<0 then (⟨f+x,sub l x e,false⟩::(jf l f e).1,-1) else ([],(jf l f e).2):=by
 have hp:=qfg.1 h
 have h2:=qd5 h0 h1 h
 have h3:=qcm (p:=z6) (s:=l) (i:=x+1)
 have h4:=qjq (p:=z6) (s:=l) (i:=x) (by omega)
 rw [jf,qgr (by omega),zF (by omega),zF (by omega),zT h,he,dif_pos (by omega)]
def qau:List ZB->Int->List Row×Int×Int
 | [],_=>([],0,0)
 | l::ls,at_=>
  if 1000<ln l then ([],4,at_)
  else if 0<=(jf l at_ 0).2 then ([],3,at_+(jf l at_ 0).2)
  else if (qau ls (at_+ln l+1)).2.1=0 then (if (jf l at_ 0).1=[] then (qau ls (at_+ln l+1)).1 else ⟨at_,(jf l at_ 0).1⟩::(qau ls (at_+ln l+1)).1,0,0)
  else ([],(qau ls (at_+ln l+1)).2)
def qd (text:ZB):List Row×Int×Int:=if 20000<ln text then ([],4,20000) else qau (qy 10 text) 0
end Go.Proofs.YtbopmiclcimjgaaGreatDoor
namespace Go.Proofs.YtbopmiclcimjgaaGreatDoor
open Go Go.E2 Go.E3
abbrev Res:=(ZB×List Sign)×(Int×Int)
def qva (e x:Int):Res:=(([],[]),(e,x))
def qr2 (w:Word):Int:=if w.Quoted=true then 3 else (qlb w.Text).2
def wds:List Word->List Sign->List Int->(List Sign×List Int)×(Int×Int)
 | [],acc,pl=>((acc,pl),(0,0))
 | w::ws,acc,pl=>if qr2 w≠0 then (([],[]),(qr2 w,w.At)) else wds ws (acc++[(qlb w.Text).1]) (pl++[w.At])
def qpi (r:Row):Prop:=(ix r.Words 0).Text=[101,110,100]/\(ix r.Words 0).Quoted=false
instance (r:Row):Decidable (qpi r):=by unfold qpi;infer_instance
def qsk (nm:ZB) (r:Row) (rs:List Row) (acc:List Sign) (pl:List Int):Res:=
 if 1<ln r.Words then qva 3 (ix r.Words 1).At else if 0<ln rs then qva 3 (ix (ix rs 0).Words 0).At
 else if (zy nm acc).1≠0 then qva (zy nm acc).1 (ix pl (zy nm acc).2) else ((nm,acc),(0,0))
def rws (nm:ZB) (len:Int):List Row->List Sign->List Int->Res
 | [],_,_=>qva 9 len
 | r::rs,acc,pl=>if qpi r then qsk nm r rs acc pl
  else if (wds r.Words acc pl).2.1≠0 then qva (wds r.Words acc pl).2.1 (wds r.Words acc pl).2.2 else rws nm len rs (wds r.Words acc pl).1.1 (wds r.Words acc pl).1.2
def hd0 (t:ZB):Row:=ix (qd t).1 0
def nmB (t:ZB):ZB:=(ix (hd0 t).Words 1).Text
def qf8 (t:ZB):Int:=if (ix (hd0 t).Words 0).Text≠[112,97,114,116]∨(ix (hd0 t).Words 0).Quoted=true∨ln (hd0 t).Words≠2 then 3
 else if (ix (hd0 t).Words 1).Quoted=true∨qaj (nmB t)=false then 7 else 0
def q9i (t:ZB):Int:=if qf8 t=3 then (ix (hd0 t).Words 0).At else (ix (hd0 t).Words 1).At
def zr (t:ZB):Res:=
 if (qd t).2.1≠0 then qva (qd t).2.1 (qd t).2.2 else if ln (qd t).1=0 then qva 9 (ln t)
 else if qf8 t≠0 then qva (qf8 t) (q9i t) else rws (nmB t) (ln t) (fr (qd t).1 1) [] []
def qqr (nm:ZB) (len:Int) (rs:List Row) (p:(List Sign×List Int)×(Int×Int)):Res:=
 if p.2.1≠0 then qva p.2.1 p.2.2 else rws nm len rs p.1.1 p.1.2
end Go.Proofs.YtbopmiclcimjgaaGreatDoor
namespace Go.Proofs.YtbopmiclcimjgaaGreatDoor
open Go Go.E2 Go.E3
def qk5 (l:List Int):Prop:=ln l<=9223372036854775807/\∀ n ∈ l,I64 n
def qa6 (a b:Int):Int:=if b<1 then 0 else if Int.tmod a b<0 then Int.tmod a b+b else Int.tmod a b
def atI (l:List Int) (i:Int):Int:=if i<0∨ln l<=i then 0 else ix l i
theorem q75 {a b:Int} (hb:0<b):-b<Int.tmod a b/\Int.tmod a b<b:=by
 by_cases h:0<=a
 .exact ⟨by have:=Int.tmod_nonneg b h;omega,Int.tmod_lt_of_pos a hb⟩
 .have h1:Int.tmod a b = -Int.tmod (-a) b:=by rw [Int.neg_tmod,Int.neg_neg]
  have h2:=Int.tmod_nonneg b (show 0<=-a by omega)
  have h3:=Int.tmod_lt_of_pos (-a) hb
  omega
theorem qkb {a b:Int} (hb:0<b):0<=qa6 a b/\qa6 a b<b:=by
 have:=q75 (a:=a) hb
 unfold qa6
 split
 .omega
 .split<;>omega
def qci (a b c d v:Int):Bool:=(decide (a=3)&&decide (1<v)) || (decide (b=3)&&decide (2<v)) || (decide (c=3)&&decide (3<v)) || (decide (d=3)&&decide (4<v))
def quj (n:Int):Int:=2+Int.tdiv (qa6 n 16) 8
def quk (n:Int):Int:=2+Int.tmod (Int.tdiv (qa6 n 16) 4) 2
def qum (n:Int):Int:=2+Int.tmod (Int.tdiv (qa6 n 16) 2) 2
def qul (n:Int):Int:=2+Int.tmod (qa6 n 16) 2
def sg (k:Int):Sign:=Sign.mk k 0 0 0 false 0 false false 0 0 0 0 false 0 0 0 0
def zaj (n:Int):Int:=ix ([3,4,4,5,5,3,2,6]:List Int) (Int.tmod n 8)
def q7n (n:Int):Int:=Int.tmod (Int.tdiv n 8) 9
def qnp (n i:Int):Sign:=
 if q7n n=0 then Sign.mk 2 (zaj n) 0 0 false 0 false false 0 0 0 0 false 0 0 0 0
 else if q7n n=1∨q7n n=2 then Sign.mk 1 (zaj n) (Int.tmod i 9) 0 true 0 false false 0 0 0 0 false 0 0 0 0
 else Sign.mk 1 (zaj n) (Int.tmod i 9) 0 false 0 false false 0 0 0 0 false 0 0 0 0
def zso (a b c d m n i o:Int):Prop:=Int.tdiv n 72=0/\o+1<m/\((qnp n i).Kind=1∨qci a b c d (qnp n i).Value=true)
instance (a b c d m n i o:Int):Decidable (zso a b c d m n i o):=by unfold zso;infer_instance
def qoi (a b c d m n i:Int) (o:List Sign):List Sign:=if zso a b c d m n i (ln o) then (o++[qnp n i])++[sg 3] else o++[qnp n i]
def qo5 (a b c d:Int) (l:List Int) (m i:Int) (o:List Sign):List Sign:=
 if h:i<ln l/\ln o<m then qo5 a b c d l m (i+1) (qoi a b c d m (qa6 (ix l i) 504) i o) else o
 termination_by (ln l-i).toNat
 decreasing_by omega
def qel (a b c d:Int) (l:List Int) (m:Int):List Sign:=qo5 a b c d l m 0 []
theorem qyt {a b c d:Int} {l:List Int} {m i:Int} {o:List Sign} (h:i<ln l) (h':ln o<m):qo5 a b c d l m i o=qo5 a b c d l m (i+1) (qoi a b c d m (qa6 (ix l i) 504) i o):=by rw [qo5,dif_pos ⟨h,h'⟩]
theorem q3z {a b c d:Int} {l:List Int} {m i:Int} {o:List Sign} (h:ln l<=i∨m<=ln o):qo5 a b c d l m i o=o:=by rw [qo5,dif_neg (by omega)]
def q9v (k n:Int):Sign:=Sign.mk k 0 0 0 false 0 false false 0 0 0 0 false n 0 0 0
def q9s (a b c d:Int) (st:Bool):Sign:=Sign.mk 5 0 0 0 false 0 false false a b c d st 0 0 0 0
def zuq (n d:Int):Sign:=Sign.mk 6 0 0 0 false 0 false false 0 0 0 0 false n d 0 0
def ztf:Sign:=Sign.mk 7 0 0 0 false 0 false false 0 0 0 0 false 0 0 0 3
def qaz (a b c d n i:Int) (o:List Sign) (p:Bool):List Sign×Bool:=
 if n=0 then (o++[sg 11],p) else if n=1 then (o++[sg 12],p) else if n=2/\p=false then (o++[sg 9],true) else if n<6/\p=true then (o++[q9v 10 (2+Int.tmod i 3)],false)
 else if n=6/\p=false then (o++[q9s a b c d (decide (Int.tmod i 2=0))],p) else if n=7/\p=false then (o++[zuq 3 2],p) else (o,p)
def qjf (a b c d:Int) (g:List Int) (s:Sign) (i:Int) (x:List Sign×Bool):List Sign×Bool:=
 if s.Kind=3 then (x.1++[s],x.2) else ((qaz a b c d (qa6 (Int.tdiv (atI g i) 7) 23) i x.1 x.2).1++[s],(qaz a b c d (qa6 (Int.tdiv (atI g i) 7) 23) i x.1 x.2).2)
def qhx (a b c d:Int) (g:List Int) (l:List Sign) (i:Int) (x:List Sign×Bool):List Sign×Bool:=
 if h:i<ln l then qhx a b c d g l (i+1) (qjf a b c d g (ix l i) i x) else x
 termination_by (ln l-i).toNat
 decreasing_by omega
theorem qs0 {a b c d:Int} {g:List Int} {l:List Sign} {i:Int} {x:List Sign×Bool} (h:i<ln l):qhx a b c d g l i x=qhx a b c d g l (i+1) (qjf a b c d g (ix l i) i x):=by rw [qhx,dif_pos h]
theorem qx8 {a b c d:Int} {g:List Int} {l:List Sign} {i:Int} {x:List Sign×Bool} (h:ln l<=i):qhx a b c d g l i x=x:=by rw [qhx,dif_neg (by omega)]
def q2q (x:List Sign×Bool):List Sign:=if x.2=true then x.1++[q9v 10 2] else x.1
def zp4 (a b c d:Int) (g:List Int) (m:Int):List Sign×Bool:=qhx a b c d g (qel a b c d g m) 0 ([ztf,q9s a b c d false],false)
def qj8 (a b c d:Int) (g:List Int) (m:Int):List Sign:=q2q (zp4 a b c d g m)
def qhq:ZB:=[112,97,114,116]
def qgg (g:List Int):List Sign:=qj8 (quj (ln g)) (quk (ln g)) (qum (ln g)) (qul (ln g)) g 30
def ztm:List (ZB):=[[32],[10],[32,32,32],[32,59,32,83,52,10],[10,10,32,32]]
def q9e (g:List Int) (i:Int):ZB:=ix ztm (qa6 (atI g i) 5)
def qg4 (l:List Sign) (g:List Int):Nat->ZB
 | 0=>([112,97,114,116,32]++qhq)++[10]
 | n+1=>(qg4 l g n++(qle (ix l n)).1)++q9e g n
end Go.Proofs.YtbopmiclcimjgaaGreatDoor
namespace Go.Proofs.YtbopmiclcimjgaaGreatDoor
open Go Go.E2 Go.E3
structure Hold (p:Prop):Prop where
 out:p
theorem zi0 {p:Prop}:Hold p↔p:=⟨fun h=>h.out,fun h=>⟨h⟩⟩
def j8 (a0 a1 a2 a3 i:Int):Prop:=0<=i/\i<=4/\(i<1∨a0=2∨a0=3)/\(i<2∨a1=2∨a1=3)/\(i<3∨a2=2∨a2=3)/\(i<4∨a3=2∨a3=3)
def zq (_ _ _ _ i:Int):Nat:=(4-i).toNat
def qbj (s:ZB) (n i:Int):Prop:=0<=i/\i<=ln s/\0<=n/\n<=1099511627776/\qda s i n=qx s
def qcl (s:ZB) (_ i:Int):Nat:=(ln s-i).toNat
def acA (a:Int):ZB:=if a = -1 then [98] else []
def acB (a:Int):ZB:=if a=1 then [35] else []
def acC (a:Int):ZB:=if a=2 then [110] else []
def qcw (_ _ _ _:Int) (_:Bool) (_:Int) (_ _:Bool) (_ _ _ _:Int) (_:Bool) (_ _ _ _:Int) (b b0:ZB) (acc:Int):Prop:=Hold (b=b0++acA acc)
def qcx (_ _ _ _:Int) (_:Bool) (_:Int) (_ _:Bool) (_ _ _ _:Int) (_:Bool) (_ _ _ _:Int) (b b0:ZB) (acc:Int):Prop:=Hold (b=b0++acB acc)
def qcy (_ _ _ _:Int) (_:Bool) (_:Int) (_ _:Bool) (_ _ _ _:Int) (_:Bool) (_ _ _ _:Int) (b b0:ZB) (acc:Int):Prop:=Hold (b=b0++acC acc)
def qcz (_ _ _ _:Int) (_:Bool) (_:Int) (_ _:Bool) (_ _ _ _:Int) (_:Bool) (_ _ _ _:Int) (b b0:ZB) (k:Int):Prop:=Hold (b=b0++qgo k)
def qc0 (_ _ _ _:Int) (_:Bool) (_:Int) (_ _:Bool) (_ _ _ _:Int) (_:Bool) (_ _ _ _:Int) (b b0:ZB) (o:Bool):Prop:=Hold (b=b0++zm o 126)
def Rng (w:ZB) (i j:Int):Prop:=i<=j/\j<=ln w
def jq (w m:ZB) (i i0:Int):Prop:=Hold (m=(qg5 w i0).1/\i=(qg5 w i0).2/\Rng w i0 i/\ln m<=1)
def zb (w:ZB) (i i0:Int):Prop:=Hold (Rng w i0 i/\dgE w i0=dgE w i)
def z9 (w:ZB) (i _:Int):Nat:=(ln w-i).toNat
def qj (w:ZB) (i i0:Int):Prop:=Hold (Rng w i0 i/\i=dgE w i0)
def jd (_:ZB) (b b0 ok:Bool):Prop:=Hold (b=(b0 || !ok))
def qb3 (_:ZB) (b b0 ok:Bool):Prop:=Hold (b=(b0 || !ok))
def kg (w:ZB) (k i:Int):Prop:=Hold (0<=k/\k<=8/\qu6 w i k=qtn w i)
def qb6 (_:ZB) (k _:Int):Nat:=(8-k).toNat
def qbk (w:ZB) (i:Int) (bad:Bool) (v:Int):Prop:=Hold (Rng w 0 i/\((bad=false/\i=1/\qtn w 0=some v)∨(bad=true/\qtn w 0=none)))
def zv (w:ZB) (i a i0:Int):Prop:=Hold (Rng w i0 i/\a=(qko w i0).1/\i=(qko w i0).2)
def qb4 (w:ZB) (i:Int) (bad:Bool) (p a:Int) (c:Bool) (i0:Int) (bad0:Bool):Prop:=Hold (Rng w i0 i/\p=(qff w i0).1/\a=(qff w i0).2.1/\c=(qff w i0).2.2.1/\bad=(bad0 || !(qff w i0).2.2.2.1)/\i=(qff w i0).2.2.2.2)
def ju (w:ZB) (i k i0:Int):Prop:=Hold (Rng w i0 i/\k=(qkv w i0).1/\i=(qkv w i0).2)
def qax (w:ZB) (i:Int) (o:Bool) (i0:Int):Prop:=Hold (Rng w i0 i/\o=(qde w i0 126).1/\i=(qde w i0 126).2)
def qay (w:ZB) (i:Int) (bad:Bool) (i0:Int) (bad0:Bool):Prop:=Hold (Rng w i0 i/\((tk w i0 47=true/\i=i0+1/\bad=bad0)∨(tk w i0 47=false/\bad=true)))
def ji (w:ZB) (i:Int) (bad:Bool) (k i0:Int):Prop:=Hold (Rng w i0 i/\((bad=false/\i=i0+1/\q70 w i0=some k)∨(bad=true/\q70 w i0=none)))
def qc (w:ZB) (i:Int):Prop:=Hold (∀ j,1<=j->j<=i->rdK w j=none)
end Go.Proofs.YtbopmiclcimjgaaGreatDoor
namespace Go.Proofs.YtbopmiclcimjgaaGreatDoor
open Go Go.E2 Go.E3
def qa4 (a0:ZB) (i:Int):Prop:=0<=i/\i<=ln a0/\∀ j,0<=j->j<i->qoz (bx a0 j)=true
def ky (a0:ZB) (i:Int):Nat:=(ln a0-i).toNat
def qb9 (_:ZB) (l:List Sign) (b:Bool) (i:Int):Prop:=0<=i/\i<=ln l/\qi2 l i=qi2 l 0/\b=ins l i/\(b=true->i<ln l/\(ix l i).Kind=4)
def qa5 (_:ZB) (l:List Sign) (_:Bool) (i:Int):Nat:=(ln l-i).toNat
def qe1 (a0 a1:List Sign) (i:Int):Prop:=0<=i/\i<=ln a0/\∀ j,0<=j->j<i->ix a0 j=ix a1 j
def qee (a0 _:List Sign) (i:Int):Nat:=(ln a0-i).toNat
end Go.Proofs.YtbopmiclcimjgaaGreatDoor
namespace Go.Proofs.YtbopmiclcimjgaaGreatDoor
open Go Go.E2 Go.E3
def qld (out:List Word) (r:List Word×Int):List Word×Int:=if r.2<0 then (out++r.1,-1) else ([],r.2)
def qjt (out:List Row) (r:List Row×Int×Int):List Row×Int×Int:=if r.2.1=0 then (out++r.1,0,0) else ([],r.2)
def qh9 (a0:ZB) (x:Int):Prop:=0<=x/\x<=ln a0/\∀ j,0<=j->j<x->j7 (bx a0 j)=true
def qhg (a0:ZB) (x:Int):Nat:=(ln a0-x).toNat
def kh (a0 a1:ZB) (_ _:Int) (x:ZB) (i:Int) (l:List ZB):Prop:=0<=i/\ln l=qk1 a0 (bx a1 0)+1/\i+ln (qy (bx a1 0) x)=qk1 a0 (bx a1 0)+1/\upto l i++qy (bx a1 0) x=qy (bx a1 0) a0/\ln x<=ln a0
def kc (a0 a1:ZB) (_ _:Int) (_:ZB) (i:Int) (_:List ZB):Nat:=(qk1 a0 (bx a1 0)+1-i).toNat
def qap (a0:ZB) (out:List Row) (at_:Int) (k:Int):Prop:=0<=k/\k<=ln (qy 10 a0)/\0<=at_/\at_<=1001 * k/\ln out<=k/\qau (qy 10 a0) 0=qjt out (qau (fr (qy 10 a0) k) at_)
def z8 (a0:ZB) (_:List Row) (_:Int) (k:Int):Nat:=(ln (qy 10 a0)-k).toNat
def qw (_:ZB) (out:List Word) (x:Int) (begin:Int) (line:ZB):Prop:=0<=x/\x<=ln line/\ln out<=x/\jf line begin 0=qld out (jf line begin x)
def qb (_:ZB) (_:List Word) (x:Int) (_:Int) (line:ZB):Nat:=(ln line-x).toNat
def qho (_:ZB) (y:Int) (line:ZB) (x:Int):Prop:=x<=y/\y<=ln line/\zj kq line x=zj kq line y
def qid (_:ZB) (y:Int) (line:ZB) (_:Int):Nat:=(ln line-y).toNat
def qcv (_:ZB) (y:Int) (line:ZB) (x:Int):Prop:=x<=y/\y<=ln line/\zj z6 line x=zj z6 line y
def qed (_:ZB) (y:Int) (line:ZB) (_:Int):Nat:=(ln line-y).toNat
end Go.Proofs.YtbopmiclcimjgaaGreatDoor
namespace Go.Proofs.YtbopmiclcimjgaaGreatDoor
open Go Go.E2 Go.E3
def ats (y:List Word):List Int:=y.map (·.At)
def rst (t:ZB):List Row:=fr (qd t).1 1
def jh (t:ZB) (x:List Sign) (y:List Word) (i:Int):Prop:=Hold (0<=i/\i<=ln (rst t)/\ln y=ln x/\ln x<=1000 * i/\rws (nmB t) (ln t) (fr (rst t) i) x (ats y)=zr t)
def qbl (t:ZB) (_:List Sign) (_:List Word) (i:Int):Nat:=(ln (rst t)-i).toNat
def kx (t:ZB) (x:List Sign) (y:List Word) (k i:Int):Prop:=Hold (0<=k/\k<=ln (ix (rst t) i).Words/\ln y=ln x/\ln x<=1000 * i+k/\qqr (nmB t) (ln t) (fr (rst t) (i+1)) (wds (fr (ix (rst t) i).Words k) x (ats y))=zr t)
def qbm (t:ZB) (_:List Sign) (_:List Word) (k i:Int):Nat:=(ln (ix (rst t) i).Words-k).toNat
def qrb (t:ZB) (x:List Sign) (y:List Int) (i:Int):Prop:=Hold (1<=i/\i<=ln (qd t).1/\ln y=ln x/\ln x<=1000 * i/\rws (nmB t) (ln t) (fr (qd t).1 i) x y=zr t)
def qrc (t:ZB) (x:List Sign) (y:List Int) (k i:Int):Prop:=Hold (0<=k/\k<=ln (ix (qd t).1 i).Words/\ln y=ln x/\ln x<=1000 * i+k/\qqr (nmB t) (ln t) (fr (qd t).1 (i+1)) (wds (fr (ix (qd t).1 i).Words k) x y)=zr t)
end Go.Proofs.YtbopmiclcimjgaaGreatDoor
namespace Go.Proofs.YtbopmiclcimjgaaGreatDoor
open Go Go.E2 Go.E3
def qcu (a b c d v k:Int):Prop:=Hold (1<=k/\(k<=v∨k=1)/\¬ (a=3/\1<k)/\¬ (b=3/\2<k)/\¬ (c=3/\3<k)/\¬ (d=3/\4<k))
def jj (_ _ _ _ v k:Int):Nat:=(v-k).toNat
def z5 (a b c d:Int) (l:List Int) (m:Int) (o:List Sign) (i:Int):Prop:=Hold (0<=i/\i<=ln l/\ln o<=30/\qo5 a b c d l m i o=qel a b c d l m)
def za (_ _ _ _:Int) (l:List Int) (_:Int) (_:List Sign) (i:Int):Nat:=(ln l-i).toNat
def ze (a b c d:Int) (l:List Int) (m:Int) (o:List Sign) (p:Bool) (i:Int):Prop:=Hold (0<=i/\i<=ln (qel a b c d l m)/\ln o<=2+2 * i/\qhx a b c d l (qel a b c d l m) i (o,p)=zp4 a b c d l m)
def qk (a b c d:Int) (l:List Int) (m:Int) (_:List Sign) (_:Bool) (i:Int):Nat:=(ln (qel a b c d l m)-i).toNat
def qf9 (l g:List Int) (t:ZB) (i:Int):Prop:=Hold (0<=i/\i<=ln (qgg l)/\ln t<=10+40 * i/\t=qg4 (qgg l) g i.toNat)
def qe4 (l _:List Int) (_:ZB) (i:Int):Nat:=(ln (qgg l)-i).toNat
end Go.Proofs.YtbopmiclcimjgaaGreatDoor
