import Derived.Test.YtbopmiclcimjgaaGreatDoorNat
import Derived.Test.YtbopmiclcimjgaaGreatDoorM6
namespace Go.Proofs.YtbopmiclcimjgaaGreatDoor
open Go Go.E2 Go.E3
abbrev ZX:ZB:=[120,120,120,120,120,120,120,120,120,120,120,120,120,120,120,120,120,120,120,120,120,120,120,120,120,120,120,120,120,120,120,120,32,112,113,112,112,112,112,112,112,112,112,112,112,112,112,112,112,112,112,112,112,112,112,112,112,112,112,99,112,112,112,112,112,112,112,112,112,112,112,112,112,112,112,112,112,112,112,112,112,112,112,112,112,112,112,112,112,112,112,112,112,112,112,112,112,112,112,112,112,112,112,112,112,112,112,112,112,112,112,112,112,112,112,112,112,112,112,112,112,112,112,112,112,112,112]
def qrm (b:Int):Bool:=decide (97<=b)&&decide (b<=122)
def qpb (b:Int):Bool:=qrm b || (decide (48<=b)&&decide (b<=57)) || decide (b=45)
def qae (s:ZB):Bool:=decide (1<=ln s)&&decide (ln s<=20)&&qrm (bx s 0)&&s.all fun b=>qpb b.toNat
def qcb (a b c d:Int):Int:=if (a=2∨a=3)/\(b=2∨b=3)/\(c=2∨c=3)/\(d=2∨d=3) then 0 else 12
def qnm (s:Sign):Prop:=
 (s.Value=0∨s.Kind=1∨s.Kind=2)/\((s.Place=0/\s.Acc=0/\s.Color=false)∨s.Kind=1∨s.Kind=4)/\((s.Stem=0/\s.Oblique=false/\s.Last=false)∨s.Kind=4)/\
 ((s.MensMax=0/\s.MensMod=0/\s.MensTem=0/\s.MensPro=0/\s.Stroke=false)∨s.Kind=5)/\(s.N=0∨s.Kind=6∨s.Kind=8∨s.Kind=10)/\(s.D=0∨s.Kind=6)/\
 ((s.ClefStep=0/\s.ClefLine=0)∨s.Kind=7)
instance (s:Sign):Decidable (qnm s):=by unfold qnm;infer_instance
def qd0 (s:Sign):Prop:=
 ((s.Kind≠1/\s.Kind≠2)∨(1<=s.Value/\s.Value<=8))/\((s.Kind≠1/\s.Kind≠4)∨(-4<=s.Place/\s.Place<=12/\-1<=s.Acc/\s.Acc<=2))/\(s.Kind≠4∨(0<=s.Stem/\s.Stem<=3))/\
 (s.Kind≠6∨(1<=s.N/\s.N<=100/\1<=s.D/\s.D<=100))/\(s.Kind≠7∨((s.ClefStep=0∨s.ClefStep=3∨s.ClefStep=4)/\1<=s.ClefLine/\s.ClefLine<=5))/\
 (s.Kind≠8∨(0<=s.N/\s.N<=2))/\(s.Kind≠10∨(2<=s.N/\s.N<=4))
instance (s:Sign):Decidable (qd0 s):=by unfold qd0;infer_instance
def kf (s:Sign):Int:=
 if s.Kind<1∨12<s.Kind then 8 else if ¬ qnm s then 3 else if s.Kind=5/\qcb s.MensMax s.MensMod s.MensTem s.MensPro≠0 then 12 else if ¬ qd0 s then 2
 else if s.Oblique=true/\s.Last=true then 3 else 0
def preB (s p:ZB):Bool:=decide (ln p<=ln s)&&decide (upto s (ln p)=p)
def je (s:ZB) (c:Int):ZB×Bool:=if 0<ln s/\bx s 0=c then (fr s 1,true) else (s,false)
def zfh (a:Int):ZB:=if a=2 then [50] else if a=3 then [51] else []
def zm1 (c:Int):ZB:=if c=2 then [67] else if c=3 then [79] else []
def zl7 (d:Int):ZB:=if d=3 then [46] else []
def js (a b c d:Int):ZB:=(if a=3∨b=3 then zfh a++zfh b else [])++zm1 c++zl7 d
def qkq (a b c d:Int):ZB×Int:=if qcb a b c d=0 then (js a b c d,0) else ([],12)
abbrev M4:=Int×Int×Int×Int
def allM:List M4:=[(2,2,2,2),(2,2,2,3),(2,2,3,2),(2,2,3,3),(2,3,2,2),(2,3,2,3),(2,3,3,2),(2,3,3,3),(3,2,2,2),(3,2,2,3),(3,2,3,2),(3,2,3,3),(3,3,2,2),(3,3,2,3),(3,3,3,2),(3,3,3,3)]
def txM (m:M4):ZB:=js m.1 m.2.1 m.2.2.1 m.2.2.2
def qnx (s:ZB):List M4->M4×Int
 | []=>((0,0,0,0),3)
 | m::l=>if txM m=s then (m,0) else qnx s l
def qgq (s:ZB):M4×Int:=qnx s allM
def qd8 (b:Int):Bool:=decide (48<=b)&&decide (b<=57)
def qcd (s:ZB) (i n:Int):Int×Bool:=
 if h:0<=i/\i<ln s then (if qd8 (bx s i)=true then (if 10 * n+(bx s i-48) > 1099511627776 then (0,false) else qcd s (i+1) (10 * n+(bx s i-48))) else (0,false)) else (n,true)
 termination_by (ln s-i).toNat
 decreasing_by omega
def qw (s:ZB):Int×Bool:=if ln s=0∨(bx s 0=48/\1<ln s) then (0,false) else qcd s 0 0
def qbb (s:ZB):Int×Bool:=
 if 0<ln s/\bx s 0=45 then (if (qw (fr s 1)).2=true/\(qw (fr s 1)).1≠0 then (-(qw (fr s 1)).1,true) else (0,false)) else qw s
def qex (s:ZB) (c i k m:Int):ZB×ZB×Bool:=
 if h:0<=i/\i<ln s then (if bx s i=c then qex s c (i+1) i (m+1) else qex s c (i+1) k m) else (if m=1 then (upto s k,fr s (k+1),true) else ([],[],false))
 termination_by (ln s-i).toNat
 decreasing_by all_goals omega
def zdq (s:ZB) (c:Int):ZB×ZB×Bool:=qex s c 0 0 0
def d1 (n:Int):ZB:=[UInt8.ofNat (48+n.toNat)]
def qde (n:Int):ZB:=if n<=9 then d1 n else if n<=99 then d1 (n / 10)++d1 (n % 10) else [49,48,48]
def zd (n:Int):ZB:=if n<0 then 45::qde (-n) else qde n
def zkn:ZB:=[88,76,66,83,77,81,70,90]
def ltr (v:Int):ZB:=sub zkn (v-1) v
def qcx (s:ZB):Int×Int:=
 if s=[88] then (1,0) else if s=[76] then (2,0) else if s=[66] then (3,0) else if s=[83] then (4,0) else if s=[77] then (5,0) else if s=[81] then (6,0) else if s=[70] then (7,0) else if s=[90] then (8,0) else (0,3)
def qib (a:Int):ZB:=if a = -1 then [98] else if a=1 then [35] else if a=2 then [110] else []
def q3a (c:Bool):ZB:=if c=true then [42] else []
def qf0 (s:Sign):ZB:=zd s.Place++qib s.Acc++q3a s.Color
def qe8 (k:Int):ZB:=if k=1 then [94] else if k=2 then [118] else if k=3 then [62] else []
def zn (b:Bool) (c:UInt8):ZB:=if b=true then [c] else []
def qia (s:Sign):ZB:=[116]++qf0 s++qe8 s.Stem++zn s.Oblique 126++zn s.Last 33
def qjx (k:Int):ZB:=if k=0 then [67] else if k=3 then [70] else if k=4 then [71] else []
def k8 (s:Sign):ZB:=
 if s.Kind=1 then ltr s.Value++qf0 s else if s.Kind=2 then [114]++ltr s.Value else if s.Kind=3 then [46] else if s.Kind=4 then qia s
 else if s.Kind=5 then [40]++js s.MensMax s.MensMod s.MensTem s.MensPro++[41]++zn s.Stroke 124 else if s.Kind=6 then zd s.N++[47]++zd s.D
 else if s.Kind=7 then [64]++qjx s.ClefStep++zd s.ClefLine else if s.Kind=8 then [38]++zd s.N else if s.Kind=9 then [91] else if s.Kind=10 then [93]++zd s.N
 else if s.Kind=11 then [116,117,114,110] else [115,105,103]
def qb1 (s:Sign):ZB×Int:=if kf s=0 then (k8 s,0) else ([],kf s)
def sg0:Sign:=Sign.mk 0 0 0 0 false 0 false false 0 0 0 0 false 0 0 0 0
def tk (w:ZB) (i:Int) (c:UInt8):Bool:=preB (fr w i) [c]
def qhc (w:ZB) (i:Int):ZB×Int:=if tk w i 45=true then ([45],i+1) else ([],i)
def dgE (w:ZB) (i:Int):Int:=zl qd8 w i
def qmp (w:ZB) (i:Int):(Int×Bool)×Int:=(qbb ((qhc w i).1++sub w (qhc w i).2 (dgE w (qhc w i).2)),dgE w (qhc w i).2)
def qga (w:ZB) (i:Int):(Int×Bool)×Int:=(qw (sub w i (dgE w i)),dgE w i)
def qkw (w:ZB) (i:Int):Int×Int:=if tk w i 98=true then (-1,i+1) else if tk w i 35=true then (1,i+1) else if tk w i 110=true then (2,i+1) else (0,i)
def qdp (w:ZB) (i:Int) (c:UInt8):Bool×Int:=if tk w i c=true then (true,i+1) else (false,i)
def qfs (w:ZB) (i:Int):Int×Int×Bool×Bool×Int:=
 ((qmp w i).1.1,(qkw w (qmp w i).2).1,(qdp w (qkw w (qmp w i).2).2 42).1,(qmp w i).1.2,(qdp w (qkw w (qmp w i).2).2 42).2)
def qvi (w:ZB) (i k:Int):Option Int:=if h:0<=k/\k<8 then (if preB (fr w i) (sub zkn k (k+1))=true then some (k+1) else qvi w i (k+1)) else none
 termination_by (8-k).toNat
 decreasing_by omega
def qty (w:ZB) (i:Int):Option Int:=qvi w i 0
def qk4 (w:ZB) (i:Int):Int×Int:=if tk w i 94=true then (1,i+1) else if tk w i 118=true then (2,i+1) else if tk w i 62=true then (3,i+1) else (0,i)
def q8d (w:ZB) (i:Int):Option Int:=if tk w i 67=true then some 0 else if tk w i 70=true then some 3 else if tk w i 71=true then some 4 else none
def qe6 (w:ZB):Int:=if jg (fr w 1) 41 > 0 then jg (fr w 1) 41 else 0
def rd1 (w:ZB):Option Sign:=match qty w 0 with
 | some v=>if (qfs w 1).2.2.2.1=true/\(qfs w 1).2.2.2.2=ln w then some (Sign.mk 1 v (qfs w 1).1 (qfs w 1).2.1 (qfs w 1).2.2.1 0 false false 0 0 0 0 false 0 0 0 0) else none
 | none=>none
def rd2 (w:ZB):Option Sign:=if tk w 0 114=true then (match qty w 1 with
 | some v=>if (2:Int)=ln w then some (Sign.mk 2 v 0 0 false 0 false false 0 0 0 0 false 0 0 0 0) else none
 | none=>none) else none
def rd3 (w:ZB):Option Sign:=if tk w 0 46=true/\(1:Int)=ln w then some (Sign.mk 3 0 0 0 false 0 false false 0 0 0 0 false 0 0 0 0) else none
def zbl (w:ZB):Int×Int:=qk4 w (qfs w 1).2.2.2.2
def rd4 (w:ZB):Option Sign:=if tk w 0 116=true/\(qfs w 1).2.2.2.1=true/\(qdp w (qdp w (zbl w).2 126).2 33).2=ln w then
 some (Sign.mk 4 0 (qfs w 1).1 (qfs w 1).2.1 (qfs w 1).2.2.1 (zbl w).1 (qdp w (zbl w).2 126).1 (qdp w (qdp w (zbl w).2 126).2 33).1 0 0 0 0 false 0 0 0 0) else none
def q98 (w:ZB):M4×Int:=qgq (sub w 1 (1+qe6 w))
def rd5 (w:ZB):Option Sign:=if tk w 0 40=true/\(q98 w).2=0/\tk w (1+qe6 w) 41=true/\(qdp w (1+qe6 w+1) 124).2=ln w then
 some (Sign.mk 5 0 0 0 false 0 false false (q98 w).1.1 (q98 w).1.2.1 (q98 w).1.2.2.1 (q98 w).1.2.2.2 (qdp w (1+qe6 w+1) 124).1 0 0 0 0) else none
def rd6 (w:ZB):Option Sign:=if (qga w 0).1.2=true/\tk w (qga w 0).2 47=true/\(qga w ((qga w 0).2+1)).1.2=true/\(qga w ((qga w 0).2+1)).2=ln w then
 some (Sign.mk 6 0 0 0 false 0 false false 0 0 0 0 false (qga w 0).1.1 (qga w ((qga w 0).2+1)).1.1 0 0) else none
def rd7 (w:ZB):Option Sign:=if tk w 0 64=true then (match q8d w 1 with
 | some k=>if (qga w 2).1.2=true/\(qga w 2).2=ln w then some (Sign.mk 7 0 0 0 false 0 false false 0 0 0 0 false 0 0 k (qga w 2).1.1) else none
 | none=>none) else none
def rdN (w:ZB) (c:UInt8) (k:Int):Option Sign:=if tk w 0 c=true/\(qga w 1).1.2=true/\(qga w 1).2=ln w then some (Sign.mk k 0 0 0 false 0 false false 0 0 0 0 false (qga w 1).1.1 0 0 0) else none
def rdW (w p:ZB) (k:Int):Option Sign:=if preB w p=true/\ln p=ln w then some (Sign.mk k 0 0 0 false 0 false false 0 0 0 0 false 0 0 0 0) else none
def rdK (w:ZB) (k:Int):Option Sign:=
 if k=1 then rd1 w else if k=2 then rd2 w else if k=3 then rd3 w else if k=4 then rd4 w else if k=5 then rd5 w else if k=6 then rd6 w else if k=7 then rd7 w else if k=8 then rdN w 38 8
 else if k=9 then rdW w [91] 9 else if k=10 then rdN w 93 10 else if k=11 then rdW w [116,117,114,110] 11 else if k=12 then rdW w [115,105,103] 12 else none
def qmn (w:ZB) (k:Int):Option Sign:=if h:1<=k/\k<=12 then (match rdK w k with
 | some s=>some s
 | none=>qmn w (k+1)) else none
 termination_by (13-k).toNat
 decreasing_by omega
def fin (o:Option Sign):Sign×Int:=match o with
 | some s=>if kf s=0 then (s,0) else (sg0,kf s)
 | none=>(sg0,3)
def qo (w:ZB):Sign×Int:=fin (qmn w 1)
def hdE (s:ZB) (i:Int):Int:=if h:0<=i/\i<ln s then (if qd8 (bx s i)=true∨(i=0/\bx s i=45) then hdE s (i+1) else i) else i
 termination_by (ln s-i).toNat
 decreasing_by omega
def qlb (s:ZB):Int×ZB:=if (je s 98).2=true then (-1,(je s 98).1) else if (je s 35).2=true then (1,(je s 35).1) else if (je s 110).2=true then (2,(je s 110).1) else (0,s)
def qj0 (s:ZB):Int×ZB:=if (je s 94).2=true then (1,(je s 94).1) else if (je s 118).2=true then (2,(je s 118).1) else if (je s 62).2=true then (3,(je s 62).1) else (0,s)
def hdF (s:ZB):(Int×Bool)×Int×Bool×ZB:=
 (qbb (upto s (hdE s 0)),(qlb (fr s (hdE s 0))).1,(je (qlb (fr s (hdE s 0))).2 42).2,(je (qlb (fr s (hdE s 0))).2 42).1)
def zab (w:ZB):Option Sign:=if (hdF (fr w 1)).1.2=true/\(hdF (fr w 1)).2.2.2=[] then some (Sign.mk 1 (qcx (upto w 1)).1 (hdF (fr w 1)).1.1 (hdF (fr w 1)).2.1 (hdF (fr w 1)).2.2.1 0 false false 0 0 0 0 false 0 0 0 0) else none
def q4i (s:ZB):Option Sign:=if (qcx s).2=0 then some (Sign.mk 2 (qcx s).1 0 0 false 0 false false 0 0 0 0 false 0 0 0 0) else none
def q0f (s:ZB):Option Sign:=
 let h:=hdF s
 let t:=qj0 h.2.2.2
 let o:=je t.2 126
 let l:=je o.1 33
 if h.1.2=true/\l.1=[] then some (Sign.mk 4 0 h.1.1 h.2.1 h.2.2.1 t.1 o.2 l.2 0 0 0 0 false 0 0 0 0) else none
def q3z (s:ZB):Option Sign:=
 let b:=decide (0<ln s/\bx s (ln s-1)=124)
 let u:=if b=true then upto s (ln s-1) else s
 if 0<ln u/\bx u (ln u-1)=41/\(qgq (upto u (ln u-1))).2=0 then
  some (Sign.mk 5 0 0 0 false 0 false false (qgq (upto u (ln u-1))).1.1 (qgq (upto u (ln u-1))).1.2.1 (qgq (upto u (ln u-1))).1.2.2.1 (qgq (upto u (ln u-1))).1.2.2.2 b 0 0 0 0) else none
def qvm (s:ZB):Option Sign:=
 let f (k:Int) (r:ZB):Option Sign:=if (qw r).2=true then some (Sign.mk 7 0 0 0 false 0 false false 0 0 0 0 false 0 0 k (qw r).1) else none
 if (je s 67).2=true then f 0 (je s 67).1 else if (je s 70).2=true then f 3 (je s 70).1 else if (je s 71).2=true then f 4 (je s 71).1 else none
def qz2 (k:Int) (s:ZB):Option Sign:=if (qw s).2=true then some (Sign.mk k 0 0 0 false 0 false false 0 0 0 0 false (qw s).1 0 0 0) else none
def qz8 (w:ZB):Option Sign:=
 let p:=zdq w 47
 if p.2.2=true/\(qw p.1).2=true/\(qw p.2.1).2=true then some (Sign.mk 6 0 0 0 false 0 false false 0 0 0 0 false (qw p.1).1 (qw p.2.1).1 0 0) else none
def wdS (k:Int):Option Sign:=some (Sign.mk k 0 0 0 false 0 false false 0 0 0 0 false 0 0 0 0)
def qbd (w:ZB):Option Sign:=
 if w=[] then none else if w=[46] then wdS 3 else if w=[91] then wdS 9 else if w=[116,117,114,110] then wdS 11 else if w=[115,105,103] then wdS 12
 else if bx w 0=114 then q4i (fr w 1) else if bx w 0=116 then q0f (fr w 1) else if bx w 0=40 then q3z (fr w 1) else if bx w 0=64 then qvm (fr w 1) else if bx w 0=38 then qz2 8 (fr w 1) else if bx w 0=93 then qz2 10 (fr w 1)
 else if (qcx (upto w 1)).2=0 then zab w else qz8 w
def qjw (w:ZB):Sign×Int:=fin (qbd w)
theorem qy8 (s:Sign):Sign.mk s.Kind s.Value s.Place s.Acc s.Color s.Stem s.Oblique s.Last s.MensMax s.MensMod s.MensTem s.MensPro s.Stroke s.N s.D s.ClefStep s.ClefLine=s:=rfl
def ins (l:List Sign) (i:Int):Bool:=decide (0<i)&&(decide ((ix l (i-1)).Kind=4)&&!(ix l (i-1)).Last)
def zn1 (l:List Sign) (i:Int):Prop:=
 (ix l i).Kind=4/\(((ix l i).Last=true/\ins l i=false)∨((ix l i).Last=false/\(ln l<=i+1∨(ix l (i+1)).Kind≠4)))
instance (l:List Sign) (i:Int):Decidable (zn1 l i):=by unfold zn1;infer_instance
def qnb (l:List Sign) (i:Int):Int:=if kf (ix l i)≠0 then kf (ix l i) else if zn1 l i then 3 else 0
def qht (l:List Sign) (i:Int):Int×Int:=if h:i<ln l then (if qnb l i≠0 then (qnb l i,i) else qht l (i+1)) else (0,0)
 termination_by (ln l-i).toNat
 decreasing_by omega
def zk (nm:ZB) (l:List Sign):Int×Int:=if qae nm=false then (7,0) else if 400<ln l then (11,0) else qht l 0
theorem qw9 {l:List Sign} {i:Int} (h:i<ln l) (he:qnb l i=0):qht l i=qht l (i+1):=by
 rw [qht,dif_pos h,zF (by simp [he])]
theorem zb2 {l:List Sign} {i:Int} (h:i<ln l) (he:qnb l i≠0):qht l i=(qnb l i,i):=by
 rw [qht,dif_pos h,zT he]
theorem q25 {l:List Sign} {i:Int} (h:ln l<=i):qht l i=(0,0):=by
 rw [qht,dif_neg (by omega)]
theorem zmt (a b:Sign):(a.Kind=b.Kind/\a.Value=b.Value/\a.Place=b.Place/\a.Acc=b.Acc/\a.Color=b.Color/\a.Stem=b.Stem/\a.Oblique=b.Oblique/\a.Last=b.Last/\a.MensMax=b.MensMax/\a.MensMod=b.MensMod/\a.MensTem=b.MensTem/\a.MensPro=b.MensPro/\a.Stroke=b.Stroke/\a.N=b.N/\a.D=b.D/\a.ClefStep=b.ClefStep/\a.ClefLine=b.ClefLine)↔a=b:=by
 cases a;cases b;simp only [Sign.mk.injEq]
instance:DecidableEq Sign:=fun a b=>decidable_of_iff _ (zmt a b)
def qli (a b:List Sign):Bool:=decide (a=b)
def jd (n:ZB) (a:List Sign) (m:ZB) (b:List Sign):Bool:=decide (n=m/\a=b)
def qmo (i:Nat):UInt8:=if i % 16=0 then 10 else 32
def qj1 (l:List Sign):Nat->ZB
 | 0=>[]
 | n+1=>qj1 l n++[qmo n]++(qb1 (ix l n)).1
def qbl (nm:ZB) (l:List Sign):ZB×Int:=if (zk nm l).1=0 then (([112,97,114,116,32]++nm)++qj1 l (ln l).toNat++[10,101,110,100,10],0) else ([],(zk nm l).1)
def jz (b:Int):Int:=if b<32∨126<b then 120 else if b=32 then 32 else if b=34 then 113 else if b=59 then 99 else 112
def z7 (b:Int):Bool:=decide (33<=b)&&decide (b<=126)&&!decide (b=59)&&!decide (b=34)
def j8 (b:Int):Bool:=decide (32<=b)&&decide (b<=126)&&!decide (b=34)
def kv (b:Int):Bool:=decide (b=32)
def qan (s:ZB):Bool:=s.all fun b=>j8 b.toNat
theorem qft {b:Int}:z7 b=true↔33<=b/\b<=126/\b≠59/\b≠34:=by simp [z7,and_assoc]
theorem zaq {b:Int}:z7 b=false↔(b<33∨126<b∨b=59∨b=34):=by
 rw [<-Bool.not_eq_true,qft];omega
theorem qun {b:Int}:j8 b=true↔32<=b/\b<=126/\b≠34:=by simp [j8,and_assoc]
theorem qup {b:Int}:j8 b=false↔(b<32∨126<b∨b=34):=by
 rw [<-Bool.not_eq_true,qun];omega
theorem qwy {b:Int}:kv b=true↔b=32:=by simp [kv]
theorem q9d {b:Int}:kv b=false↔b≠32:=by simp [kv]
theorem qvy {b:Int}:jz b=120↔b<32∨126<b:=by unfold jz;split<;>(try split)<;>(try split)<;>(try split)<;>omega
theorem qqz {b:Int}:jz b=113↔b=34:=by unfold jz;split<;>(try split)<;>(try split)<;>(try split)<;>omega
theorem zb3 {b:Int}:jz b=112↔z7 b=true:=by rw [qft];unfold jz;split<;>(try split)<;>(try split)<;>(try split)<;>omega
theorem qkm {s:ZB}:qan s=true↔∀ i,0<=i->i<ln s->j8 (bx s i)=true:=by
 simp only [qan,List.all_eq_true]
 constructor
 .intro h i h0 h1
  exact h _ (qh0 h0 h1)
 .intro h b hb
  obtain ⟨i,h0,h1,rfl⟩:=qtf hb
  exact h i h0 h1
theorem qu5 {s:ZB} {i:Int} (h0:0<=i) (h1:i<ln s) (h:j8 (bx s i)=false):qan s=false:=by
 rw [<-Bool.not_eq_true,qkm]
 intro hq
 rw [hq i h0 h1] at h
 cases h
def q9o (l:ZB) (i:Int):Prop:=ln l<=i∨bx l i=32∨bx l i=59
instance (l:ZB) (i:Int):Decidable (q9o l i):=by unfold q9o;infer_instance
def qat (l:ZB) (a:Int):Int:=
 if (0<a/\bx l (a-1)≠32)∨ln l<=zl j8 l (a+1)∨bx l (zl j8 l (a+1))≠34∨¬ q9o l (zl j8 l (a+1)+1) then -1 else zl j8 l (a+1)+1
theorem zau {l:ZB} {a:Int} (h0:0<=a) (h1:a<ln l):qat l a = -1∨(a+2<=qat l a/\qat l a<=ln l):=by
 unfold qat
 split
 .exact .inl rfl
 .have:=qct (p:=j8) (s:=l) (i:=a+1)
  right;omega
def jn (l:ZB) (from_:Int) (i:Int):List Word×Int:=
 if ln l<=zl kv l i∨bx l (zl kv l i)=59 then ([],-1)
 else if bx l (zl kv l i)=34 then
  (if h:zl kv l i<qat l (zl kv l i)/\qat l (zl kv l i)<=ln l then
    (if (jn l from_ (qat l (zl kv l i))).2<0 then (⟨from_+zl kv l i,sub l (zl kv l i+1) (qat l (zl kv l i)-1),true⟩::(jn l from_ (qat l (zl kv l i))).1,-1)
      else ([],(jn l from_ (qat l (zl kv l i))).2)) else ([],zl kv l i))
 else if z7 (bx l (zl kv l i))=true then
  (if h:zl kv l i<zl z7 l (zl kv l i)/\zl z7 l (zl kv l i)<=ln l then
    (if (jn l from_ (zl z7 l (zl kv l i))).2<0 then (⟨from_+zl kv l i,sub l (zl kv l i) (zl z7 l (zl kv l i)),false⟩::(jn l from_ (zl z7 l (zl kv l i))).1,-1)
      else ([],(jn l from_ (zl z7 l (zl kv l i))).2)) else ([],zl kv l i))
 else ([],zl kv l i)
 termination_by (ln l-i).toNat
 decreasing_by all_goals (have:=qct (p:=kv) (s:=l) (i:=i);omega)
theorem zff {l:ZB} {f x:Int} (h0:0<=x) (h1:x<ln l) (h:bx l x=32):jn l f x=jn l f (x+1):=by
 rw [jn,qeh h0 h1 (qwy.2 h)]
 exact (jn.eq_1 l f (x+1)).symm
theorem qg0 {l:ZB} {x:Int} (h:ln l<=x∨bx l x≠32):zl kv l x=x:=
 qei (h.imp id fun h=>q9d.2 h)
theorem q3e {l:ZB} {f x:Int} (h:ln l<=x∨bx l x=59):jn l f x=([],-1):=by
 rw [jn,qg0 (by omega),zT h]
theorem zop {l:ZB} {f x:Int} (h1:x<ln l) (h2:bx l x≠59) (h:(bx l x=34/\qat l x<0)∨(bx l x≠34/\bx l x≠32/\z7 (bx l x)=false)) (h0:0<=x):jn l f x=([],x):=by
 rw [jn,qg0 (by omega),zF (by omega)]
 rcases h with ⟨h3,h4⟩ | ⟨h3,h4,h5⟩
 .rw [zT h3,dif_neg (by omega)]
 .rw [zF h3,zF (by rw [h5];exact Bool.false_ne_true)]
theorem zfg {l:ZB} {f x e:Int} (h0:0<=x) (h1:x<ln l) (h:bx l x=34) (he:qat l x=e) (h3:0<=e) :
  jn l f x=if (jn l f e).2<0 then (⟨f+x,sub l (x+1) (e-1),true⟩::(jn l f e).1,-1) else ([],(jn l f e).2):=by
 have hb:=zau h0 h1
 rw [jn,qg0 (by omega),zF (by omega),zT h,he,dif_pos (by omega)]
theorem q01 {l:ZB} {f x e:Int} (h0:0<=x) (h1:x<ln l) (h:z7 (bx l x)=true) (he:zl z7 l x=e) :
  jn l f x=if (jn l f e).2<0 then (⟨f+x,sub l x e,false⟩::(jn l f e).1,-1) else ([],(jn l f e).2):=by
 have hp:=qft.1 h
 have h2:=qeh h0 h1 h
 have h3:=qct (p:=z7) (s:=l) (i:=x+1)
 have h4:=qju (p:=z7) (s:=l) (i:=x) (by omega)
 rw [jn,qg0 (by omega),zF (by omega),zF (by omega),zT h,he,dif_pos (by omega)]
def qax:List ZB->Int->List Row×Int×Int
 | [],_=>([],0,0)
 | l::ls,at_=>
  if 1000<ln l then ([],4,at_)
  else if 0<=(jn l at_ 0).2 then ([],3,at_+(jn l at_ 0).2)
  else if (qax ls (at_+ln l+1)).2.1=0 then (if (jn l at_ 0).1=[] then (qax ls (at_+ln l+1)).1 else ⟨at_,(jn l at_ 0).1⟩::(qax ls (at_+ln l+1)).1,0,0)
  else ([],(qax ls (at_+ln l+1)).2)
def qd (text:ZB):List Row×Int×Int:=if 20000<ln text then ([],4,20000) else qax (qz 10 text) 0
abbrev Res:=(ZB×List Sign)×(Int×Int)
def qvl (e x:Int):Res:=(([],[]),(e,x))
def qsb (w:Word):Int:=if w.Quoted=true then 3 else (qjw w.Text).2
def wds:List Word->List Sign->List Int->(List Sign×List Int)×(Int×Int)
 | [],acc,pl=>((acc,pl),(0,0))
 | w::ws,acc,pl=>if qsb w≠0 then (([],[]),(qsb w,w.At)) else wds ws (acc++[(qjw w.Text).1]) (pl++[w.At])
def qm8 (r:Row):Prop:=(ix r.Words 0).Text=[101,110,100]/\(ix r.Words 0).Quoted=false
instance (r:Row):Decidable (qm8 r):=by unfold qm8;infer_instance
def qmm (nm:ZB) (r:Row) (rs:List Row) (acc:List Sign) (pl:List Int):Res:=
 if 1<ln r.Words then qvl 3 (ix r.Words 1).At else if 0<ln rs then qvl 3 (ix (ix rs 0).Words 0).At
 else if (zk nm acc).1≠0 then qvl (zk nm acc).1 (ix pl (zk nm acc).2) else ((nm,acc),(0,0))
def rws (nm:ZB) (len:Int):List Row->List Sign->List Int->Res
 | [],_,_=>qvl 9 len
 | r::rs,acc,pl=>if qm8 r then qmm nm r rs acc pl
  else if (wds r.Words acc pl).2.1≠0 then qvl (wds r.Words acc pl).2.1 (wds r.Words acc pl).2.2 else rws nm len rs (wds r.Words acc pl).1.1 (wds r.Words acc pl).1.2
def hd0 (t:ZB):Row:=ix (qd t).1 0
def nmB (t:ZB):ZB:=(ix (hd0 t).Words 1).Text
def qff (t:ZB):Int:=if (ix (hd0 t).Words 0).Text≠[112,97,114,116]∨(ix (hd0 t).Words 0).Quoted=true∨ln (hd0 t).Words≠2 then 3
 else if (ix (hd0 t).Words 1).Quoted=true∨qae (nmB t)=false then 7 else 0
def q9x (t:ZB):Int:=if qff t=3 then (ix (hd0 t).Words 0).At else (ix (hd0 t).Words 1).At
def ze (t:ZB):Res:=
 if (qd t).2.1≠0 then qvl (qd t).2.1 (qd t).2.2 else if ln (qd t).1=0 then qvl 9 (ln t)
 else if qff t≠0 then qvl (qff t) (q9x t) else rws (nmB t) (ln t) (fr (qd t).1 1) [] []
def qq0 (nm:ZB) (len:Int) (rs:List Row) (p:(List Sign×List Int)×(Int×Int)):Res:=
 if p.2.1≠0 then qvl p.2.1 p.2.2 else rws nm len rs p.1.1 p.1.2
def qnh (l:List Int):Prop:=ln l<=9223372036854775807/\∀ n ∈ l,I64 n
def qbv (a b:Int):Int:=if b<1 then 0 else if Int.tmod a b<0 then Int.tmod a b+b else Int.tmod a b
def atI (l:List Int) (i:Int):Int:=if i<0∨ln l<=i then 0 else ix l i
theorem q8k {a b:Int} (hb:0<b):-b<Int.tmod a b/\Int.tmod a b<b:=by
 by_cases h:0<=a
 .exact ⟨by have:=Int.tmod_nonneg b h;omega,Int.tmod_lt_of_pos a hb⟩
 .have h1:Int.tmod a b = -Int.tmod (-a) b:=by rw [Int.neg_tmod,Int.neg_neg]
  have h2:=Int.tmod_nonneg b (show 0<=-a by omega)
  have h3:=Int.tmod_lt_of_pos (-a) hb
  omega
theorem qrr {a b:Int} (hb:0<b):0<=qbv a b/\qbv a b<b:=by
 have:=q8k (a:=a) hb
 unfold qbv
 split
 .omega
 .split<;>omega
def qco (a b c d v:Int):Bool:=(decide (a=3)&&decide (1<v)) || (decide (b=3)&&decide (2<v)) || (decide (c=3)&&decide (3<v)) || (decide (d=3)&&decide (4<v))
def qux (n:Int):Int:=2+Int.tdiv (qbv n 16) 8
def quy (n:Int):Int:=2+Int.tmod (Int.tdiv (qbv n 16) 4) 2
def qu0 (n:Int):Int:=2+Int.tmod (Int.tdiv (qbv n 16) 2) 2
def quz (n:Int):Int:=2+Int.tmod (qbv n 16) 2
def sg (k:Int):Sign:=Sign.mk k 0 0 0 false 0 false false 0 0 0 0 false 0 0 0 0
def za7 (n:Int):Int:=ix ([3,4,4,5,5,3,2,6]:List Int) (Int.tmod n 8)
def q70 (n:Int):Int:=Int.tmod (Int.tdiv n 8) 9
def qn2 (n i:Int):Sign:=
 if q70 n=0 then Sign.mk 2 (za7 n) 0 0 false 0 false false 0 0 0 0 false 0 0 0 0
 else if q70 n=1∨q70 n=2 then Sign.mk 1 (za7 n) (Int.tmod i 9) 0 true 0 false false 0 0 0 0 false 0 0 0 0
 else Sign.mk 1 (za7 n) (Int.tmod i 9) 0 false 0 false false 0 0 0 0 false 0 0 0 0
def zty (a b c d m n i o:Int):Prop:=Int.tdiv n 72=0/\o+1<m/\((qn2 n i).Kind=1∨qco a b c d (qn2 n i).Value=true)
instance (a b c d m n i o:Int):Decidable (zty a b c d m n i o):=by unfold zty;infer_instance
def qos (a b c d m n i:Int) (o:List Sign):List Sign:=if zty a b c d m n i (ln o) then (o++[qn2 n i])++[sg 3] else o++[qn2 n i]
def qph (a b c d:Int) (l:List Int) (m i:Int) (o:List Sign):List Sign:=
 if h:i<ln l/\ln o<m then qph a b c d l m (i+1) (qos a b c d m (qbv (ix l i) 504) i o) else o
 termination_by (ln l-i).toNat
 decreasing_by omega
def qey (a b c d:Int) (l:List Int) (m:Int):List Sign:=qph a b c d l m 0 []
theorem qy2 {a b c d:Int} {l:List Int} {m i:Int} {o:List Sign} (h:i<ln l) (h':ln o<m):qph a b c d l m i o=qph a b c d l m (i+1) (qos a b c d m (qbv (ix l i) 504) i o):=by rw [qph,dif_pos ⟨h,h'⟩]
theorem q4j {a b c d:Int} {l:List Int} {m i:Int} {o:List Sign} (h:ln l<=i∨m<=ln o):qph a b c d l m i o=o:=by rw [qph,dif_neg (by omega)]
def zac (k n:Int):Sign:=Sign.mk k 0 0 0 false 0 false false 0 0 0 0 false n 0 0 0
def q99 (a b c d:Int) (st:Bool):Sign:=Sign.mk 5 0 0 0 false 0 false false a b c d st 0 0 0 0
def zvz (n d:Int):Sign:=Sign.mk 6 0 0 0 false 0 false false 0 0 0 0 false n d 0 0
def zuo:Sign:=Sign.mk 7 0 0 0 false 0 false false 0 0 0 0 false 0 0 0 3
def qa2 (a b c d n i:Int) (o:List Sign) (p:Bool):List Sign×Bool:=
 if n=0 then (o++[sg 11],p) else if n=1 then (o++[sg 12],p) else if n=2/\p=false then (o++[sg 9],true) else if n<6/\p=true then (o++[zac 10 (2+Int.tmod i 3)],false)
 else if n=6/\p=false then (o++[q99 a b c d (decide (Int.tmod i 2=0))],p) else if n=7/\p=false then (o++[zvz 3 2],p) else (o,p)
def qjl (a b c d:Int) (g:List Int) (s:Sign) (i:Int) (x:List Sign×Bool):List Sign×Bool:=
 if s.Kind=3 then (x.1++[s],x.2) else ((qa2 a b c d (qbv (Int.tdiv (atI g i) 7) 23) i x.1 x.2).1++[s],(qa2 a b c d (qbv (Int.tdiv (atI g i) 7) 23) i x.1 x.2).2)
def qh3 (a b c d:Int) (g:List Int) (l:List Sign) (i:Int) (x:List Sign×Bool):List Sign×Bool:=
 if h:i<ln l then qh3 a b c d g l (i+1) (qjl a b c d g (ix l i) i x) else x
 termination_by (ln l-i).toNat
 decreasing_by omega
theorem qs8 {a b c d:Int} {g:List Int} {l:List Sign} {i:Int} {x:List Sign×Bool} (h:i<ln l):qh3 a b c d g l i x=qh3 a b c d g l (i+1) (qjl a b c d g (ix l i) i x):=by rw [qh3,dif_pos h]
theorem qyj {a b c d:Int} {g:List Int} {l:List Sign} {i:Int} {x:List Sign×Bool} (h:ln l<=i):qh3 a b c d g l i x=x:=by rw [qh3,dif_neg (by omega)]
def q26 (x:List Sign×Bool):List Sign:=if x.2=true then x.1++[zac 10 2] else x.1
def zre (a b c d:Int) (g:List Int) (m:Int):List Sign×Bool:=qh3 a b c d g (qey a b c d g m) 0 ([zuo,q99 a b c d false],false)
def qkg (a b c d:Int) (g:List Int) (m:Int):List Sign:=q26 (zre a b c d g m)
def qf5:ZB:=[112,97,114,116]
def q7p (g:List Int):List Sign:=qkg (qux (ln g)) (quy (ln g)) (qu0 (ln g)) (quz (ln g)) g 30
structure Hold (p:Prop):Prop where
 out:p
theorem zj2 {p:Prop}:Hold p↔p:=⟨fun h=>h.out,fun h=>⟨h⟩⟩
def j9 (a0 a1 a2 a3 i:Int):Prop:=0<=i/\i<=4/\(i<1∨a0=2∨a0=3)/\(i<2∨a1=2∨a1=3)/\(i<3∨a2=2∨a2=3)/\(i<4∨a3=2∨a3=3)
def zt (_ _ _ _ i:Int):Nat:=(4-i).toNat
def qbp (s:ZB) (n i:Int):Prop:=0<=i/\i<=ln s/\0<=n/\n<=1099511627776/\qcd s i n=qw s
def qcs (s:ZB) (_ i:Int):Nat:=(ln s-i).toNat
def acA (a:Int):ZB:=if a = -1 then [98] else []
def acB (a:Int):ZB:=if a=1 then [35] else []
def acC (a:Int):ZB:=if a=2 then [110] else []
def qc3 (_ _ _ _:Int) (_:Bool) (_:Int) (_ _:Bool) (_ _ _ _:Int) (_:Bool) (_ _ _ _:Int) (b b0:ZB) (acc:Int):Prop:=Hold (b=b0++acA acc)
def qc4 (_ _ _ _:Int) (_:Bool) (_:Int) (_ _:Bool) (_ _ _ _:Int) (_:Bool) (_ _ _ _:Int) (b b0:ZB) (acc:Int):Prop:=Hold (b=b0++acB acc)
def qc5 (_ _ _ _:Int) (_:Bool) (_:Int) (_ _:Bool) (_ _ _ _:Int) (_:Bool) (_ _ _ _:Int) (b b0:ZB) (acc:Int):Prop:=Hold (b=b0++acC acc)
def qc6 (_ _ _ _:Int) (_:Bool) (_:Int) (_ _:Bool) (_ _ _ _:Int) (_:Bool) (_ _ _ _:Int) (b b0:ZB) (k:Int):Prop:=Hold (b=b0++qe8 k)
def qc7 (_ _ _ _:Int) (_:Bool) (_:Int) (_ _:Bool) (_ _ _ _:Int) (_:Bool) (_ _ _ _:Int) (b b0:ZB) (o:Bool):Prop:=Hold (b=b0++zn o 126)
def Rng (w:ZB) (i j:Int):Prop:=i<=j/\j<=ln w
def jr (w m:ZB) (i i0:Int):Prop:=Hold (m=(qhc w i0).1/\i=(qhc w i0).2/\Rng w i0 i/\ln m<=1)
def zc (w:ZB) (i i0:Int):Prop:=Hold (Rng w i0 i/\dgE w i0=dgE w i)
def ka (w:ZB) (i _:Int):Nat:=(ln w-i).toNat
def qj (w:ZB) (i i0:Int):Prop:=Hold (Rng w i0 i/\i=dgE w i0)
def jh (_:ZB) (b b0 ok:Bool):Prop:=Hold (b=(b0 || !ok))
def qb9 (_:ZB) (b b0 ok:Bool):Prop:=Hold (b=(b0 || !ok))
def kj (w:ZB) (k i:Int):Prop:=Hold (0<=k/\k<=8/\qvi w i k=qty w i)
def qcc (_:ZB) (k _:Int):Nat:=(8-k).toNat
def qbq (w:ZB) (i:Int) (bad:Bool) (v:Int):Prop:=Hold (Rng w 0 i/\((bad=false/\i=1/\qty w 0=some v)∨(bad=true/\qty w 0=none)))
def zy (w:ZB) (i a i0:Int):Prop:=Hold (Rng w i0 i/\a=(qkw w i0).1/\i=(qkw w i0).2)
def qca (w:ZB) (i:Int) (bad:Bool) (p a:Int) (c:Bool) (i0:Int) (bad0:Bool):Prop:=Hold (Rng w i0 i/\p=(qfs w i0).1/\a=(qfs w i0).2.1/\c=(qfs w i0).2.2.1/\bad=(bad0 || !(qfs w i0).2.2.2.1)/\i=(qfs w i0).2.2.2.2)
def jw (w:ZB) (i k i0:Int):Prop:=Hold (Rng w i0 i/\k=(qk4 w i0).1/\i=(qk4 w i0).2)
def qaz (w:ZB) (i:Int) (o:Bool) (i0:Int):Prop:=Hold (Rng w i0 i/\o=(qdp w i0 126).1/\i=(qdp w i0 126).2)
def qa0 (w:ZB) (i:Int) (bad:Bool) (i0:Int) (bad0:Bool):Prop:=Hold (Rng w i0 i/\((tk w i0 47=true/\i=i0+1/\bad=bad0)∨(tk w i0 47=false/\bad=true)))
def jk (w:ZB) (i:Int) (bad:Bool) (k i0:Int):Prop:=Hold (Rng w i0 i/\((bad=false/\i=i0+1/\q8d w i0=some k)∨(bad=true/\q8d w i0=none)))
def qc (w:ZB) (i:Int):Prop:=Hold (∀ j,1<=j->j<=i->rdK w j=none)
def qa7 (a0:ZB) (i:Int):Prop:=0<=i/\i<=ln a0/\∀ j,0<=j->j<i->qpb (bx a0 j)=true
def kz (a0:ZB) (i:Int):Nat:=(ln a0-i).toNat
def qch (_:ZB) (l:List Sign) (b:Bool) (i:Int):Prop:=0<=i/\i<=ln l/\qht l i=qht l 0/\b=ins l i/\(b=true->i<ln l/\(ix l i).Kind=4)
def qa8 (_:ZB) (l:List Sign) (_:Bool) (i:Int):Nat:=(ln l-i).toNat
def qfg (a0 a1:List Sign) (i:Int):Prop:=0<=i/\i<=ln a0/\∀ j,0<=j->j<i->ix a0 j=ix a1 j
def qeq (a0 _:List Sign) (i:Int):Nat:=(ln a0-i).toNat
def qed (a0:ZB) (a1:List Sign) (b:ZB) (i:Int):Prop:=Hold (0<=i/\i<=ln a1/\ln b<=1010+31 * i/\b=([112,97,114,116,32]++a0)++qj1 a1 i.toNat++[if i=ln a1 then 10 else qmo i.toNat])
def qa1 (_:ZB) (a1:List Sign) (_:ZB) (i:Int):Nat:=(ln a1-i).toNat
def qll (out:List Word) (r:List Word×Int):List Word×Int:=if r.2<0 then (out++r.1,-1) else ([],r.2)
def qjy (out:List Row) (r:List Row×Int×Int):List Row×Int×Int:=if r.2.1=0 then (out++r.1,0,0) else ([],r.2)
def qih (a0:ZB) (x:Int):Prop:=0<=x/\x<=ln a0/\∀ j,0<=j->j<x->j8 (bx a0 j)=true
def qho (a0:ZB) (x:Int):Nat:=(ln a0-x).toNat
def kk (a0 a1:ZB) (_ _:Int) (x:ZB) (i:Int) (l:List ZB):Prop:=0<=i/\ln l=qlc a0 (bx a1 0)+1/\i+ln (qz (bx a1 0) x)=qlc a0 (bx a1 0)+1/\upto l i++qz (bx a1 0) x=qz (bx a1 0) a0/\ln x<=ln a0
def ke (a0 a1:ZB) (_ _:Int) (_:ZB) (i:Int) (_:List ZB):Nat:=(qlc a0 (bx a1 0)+1-i).toNat
def qar (a0:ZB) (out:List Row) (at_:Int) (k:Int):Prop:=0<=k/\k<=ln (qz 10 a0)/\0<=at_/\at_<=1001 * k/\ln out<=k/\qax (qz 10 a0) 0=qjy out (qax (fr (qz 10 a0) k) at_)
def z9 (a0:ZB) (_:List Row) (_:Int) (k:Int):Nat:=(ln (qz 10 a0)-k).toNat
def qy (_:ZB) (out:List Word) (x:Int) (begin:Int) (line:ZB):Prop:=0<=x/\x<=ln line/\ln out<=x/\jn line begin 0=qll out (jn line begin x)
def qb (_:ZB) (_:List Word) (x:Int) (_:Int) (line:ZB):Nat:=(ln line-x).toNat
def qhw (_:ZB) (y:Int) (line:ZB) (x:Int):Prop:=x<=y/\y<=ln line/\zl kv line x=zl kv line y
def qil (_:ZB) (y:Int) (line:ZB) (_:Int):Nat:=(ln line-y).toNat
def qc2 (_:ZB) (y:Int) (line:ZB) (x:Int):Prop:=x<=y/\y<=ln line/\zl z7 line x=zl z7 line y
def qep (_:ZB) (y:Int) (line:ZB) (_:Int):Nat:=(ln line-y).toNat
def ats (y:List Word):List Int:=y.map (·.At)
def rst (t:ZB):List Row:=fr (qd t).1 1
def jj (t:ZB) (x:List Sign) (y:List Word) (i:Int):Prop:=Hold (0<=i/\i<=ln (rst t)/\ln y=ln x/\ln x<=1000 * i/\rws (nmB t) (ln t) (fr (rst t) i) x (ats y)=ze t)
def qbr (t:ZB) (_:List Sign) (_:List Word) (i:Int):Nat:=(ln (rst t)-i).toNat
def ky (t:ZB) (x:List Sign) (y:List Word) (k i:Int):Prop:=Hold (0<=k/\k<=ln (ix (rst t) i).Words/\ln y=ln x/\ln x<=1000 * i+k/\qq0 (nmB t) (ln t) (fr (rst t) (i+1)) (wds (fr (ix (rst t) i).Words k) x (ats y))=ze t)
def qbs (t:ZB) (_:List Sign) (_:List Word) (k i:Int):Nat:=(ln (ix (rst t) i).Words-k).toNat
def qri (t:ZB) (x:List Sign) (y:List Int) (i:Int):Prop:=Hold (1<=i/\i<=ln (qd t).1/\ln y=ln x/\ln x<=1000 * i/\rws (nmB t) (ln t) (fr (qd t).1 i) x y=ze t)
def qrj (t:ZB) (x:List Sign) (y:List Int) (k i:Int):Prop:=Hold (0<=k/\k<=ln (ix (qd t).1 i).Words/\ln y=ln x/\ln x<=1000 * i+k/\qq0 (nmB t) (ln t) (fr (qd t).1 (i+1)) (wds (fr (ix (qd t).1 i).Words k) x y)=ze t)
def qc1 (a b c d v k:Int):Prop:=Hold (1<=k/\(k<=v∨k=1)/\¬ (a=3/\1<k)/\¬ (b=3/\2<k)/\¬ (c=3/\3<k)/\¬ (d=3/\4<k))
def jl (_ _ _ _ v k:Int):Nat:=(v-k).toNat
def z6 (a b c d:Int) (l:List Int) (m:Int) (o:List Sign) (i:Int):Prop:=Hold (0<=i/\i<=ln l/\ln o<=30/\qph a b c d l m i o=qey a b c d l m)
def zb (_ _ _ _:Int) (l:List Int) (_:Int) (_:List Sign) (i:Int):Nat:=(ln l-i).toNat
def zi (a b c d:Int) (l:List Int) (m:Int) (o:List Sign) (p:Bool) (i:Int):Prop:=Hold (0<=i/\i<=ln (qey a b c d l m)/\ln o<=2+2 * i/\qh3 a b c d l (qey a b c d l m) i (o,p)=zre a b c d l m)
def ql (a b c d:Int) (l:List Int) (m:Int) (_:List Sign) (_:Bool) (i:Int):Nat:=(ln (qey a b c d l m)-i).toNat
def qdt (_ _ _ _:Int) (_:Bool) (_:Int) (_ _:Bool) (_ _ _ _:Int) (_:Bool) (_ _ _ _:Int) (_:List Int) (_ _:ZB):Prop:=True
def qdu (_ _ _ _:Int) (_:Bool) (_:Int) (_ _:Bool) (_ _ _ _:Int) (_:Bool) (_ _ _ _:Int) (_:List Int) (_ _:ZB):Prop:=True
end Go.Proofs.YtbopmiclcimjgaaGreatDoor
