import Derived.Test.YtpdphcekmhajdaaGreatDoorNat
import Derived.Test.YtpdphcekmhajdaaGreatDoorM5
namespace Go.Proofs.YtpdphcekmhajdaaGreatDoor
open Go Go.E2 Go.E3
def qtf (b:Int):Bool:=decide (97<=b)&&decide (b<=122)
def qq2 (b:Int):Bool:=qtf b || (decide (48<=b)&&decide (b<=57)) || decide (b=45)
def qau (s:ZB):Bool:=decide (1<=ln s)&&decide (ln s<=20)&&qtf (bx s 0)&&s.all λb=>qq2 b.toNat
def qe0 (a b c d:Int):Int:=if (a=2∨a=3)/\(b=2∨b=3)/\(c=2∨c=3)/\(d=2∨d=3) then 0 else 12
def qk4 (s:Sign):Prop:=
 (s.Value=0∨s.Kind=1∨s.Kind=2)/\((s.Place=0/\s.Acc=0/\s.Color=false)∨s.Kind=1∨s.Kind=4)/\((s.Stem=0/\s.Oblique=false/\s.Last=false)∨s.Kind=4)/\
 ((s.MensMax=0/\s.MensMod=0/\s.MensTem=0/\s.MensPro=0/\s.Stroke=false)∨s.Kind=5)/\(s.N=0∨s.Kind=6∨s.Kind=8∨s.Kind=10)/\(s.D=0∨s.Kind=6)/\
 ((s.ClefStep=0/\s.ClefLine=0)∨s.Kind=7)
instance (s:Sign):Decidable (qk4 s):=by unfold qk4;infer_instance
def qei (s:Sign):Prop:=
 ((s.Kind≠1/\s.Kind≠2)∨(1<=s.Value/\s.Value<=8))/\((s.Kind≠1/\s.Kind≠4)∨(-4<=s.Place/\s.Place<=12/\-1<=s.Acc/\s.Acc<=2))/\(s.Kind≠4∨(0<=s.Stem/\s.Stem<=3))/\
 (s.Kind≠6∨(1<=s.N/\s.N<=100/\1<=s.D/\s.D<=100))/\(s.Kind≠7∨((s.ClefStep=0∨s.ClefStep=3∨s.ClefStep=4)/\1<=s.ClefLine/\s.ClefLine<=5))/\
 (s.Kind≠8∨(0<=s.N/\s.N<=2))/\(s.Kind≠10∨(2<=s.N/\s.N<=4))
instance (s:Sign):Decidable (qei s):=by unfold qei;infer_instance
def kh (s:Sign):Int:=
 if s.Kind<1∨12<s.Kind then 8 else if ¬ qk4 s then 3 else if s.Kind=5/\qe0 s.MensMax s.MensMod s.MensTem s.MensPro≠0 then 12 else if ¬ qei s then 2
 else if s.Oblique=true/\s.Last=true then 3 else 0
def preB (s p:ZB):Bool:=decide (ln p<=ln s)&&decide (upto s (ln p)=p)
def qcq (s:ZB) (c:Int):ZB×Bool:=if 0<ln s/\bx s 0=c then (fr s 1,true) else (s,false)
def zhs (a:Int):ZB:=if a=2 then [50] else if a=3 then [51] else []
def zpb (c:Int):ZB:=if c=2 then [67] else if c=3 then [79] else []
def zoi (d:Int):ZB:=if d=3 then [46] else []
def jv (a b c d:Int):ZB:=(if a=3∨b=3 then zhs a++zhs b else [])++zpb c++zoi d
def ql7 (a b c d:Int):ZB×Int:=if qe0 a b c d=0 then (jv a b c d,0) else ([],12)
abbrev M4:=Int×Int×Int×Int
def allM:List M4:=[(2,2,2,2),(2,2,2,3),(2,2,3,2),(2,2,3,3),(2,3,2,2),(2,3,2,3),(2,3,3,2),(2,3,3,3),(3,2,2,2),(3,2,2,3),(3,2,3,2),(3,2,3,3),(3,3,2,2),(3,3,2,3),(3,3,3,2),(3,3,3,3)]
def txM (m:M4):ZB:=jv m.1 m.2.1 m.2.2.1 m.2.2.2
def qpu (s:ZB):List M4->M4×Int
 | []=>((0,0,0,0),3)
 | m::l=>if txM m=s then (m,0) else qpu s l
def qhp (s:ZB):M4×Int:=qpu s allM
def qeu (b:Int):Bool:=decide (48<=b)&&decide (b<=57)
def qd5 (s:ZB) (i n:Int):Int×Bool:=
 if h:0<=i/\i<ln s then (if qeu (bx s i)=true then (if 10 * n+(bx s i-48) > 1099511627776 then (0,false) else qd5 s (i+1) (10 * n+(bx s i-48))) else (0,false)) else (n,true)
 termination_by (ln s-i).toNat
 decreasing_by omega
def zb (s:ZB):Int×Bool:=if ln s=0∨(bx s 0=48/\1<ln s) then (0,false) else qd5 s 0 0
def qbo (s:ZB):Int×Bool:=
 if 0<ln s/\bx s 0=45 then (if (zb (fr s 1)).2=true/\(zb (fr s 1)).1≠0 then (-(zb (fr s 1)).1,true) else (0,false)) else zb s
def qfr (s:ZB) (c i k m:Int):ZB×ZB×Bool:=
 if h:0<=i/\i<ln s then (if bx s i=c then qfr s c (i+1) i (m+1) else qfr s c (i+1) k m) else (if m=1 then (upto s k,fr s (k+1),true) else ([],[],false))
 termination_by (ln s-i).toNat
 decreasing_by all_goals omega
def zfz (s:ZB) (c:Int):ZB×ZB×Bool:=qfr s c 0 0 0
def d1 (n:Int):ZB:=[UInt8.ofNat (48+n.toNat)]
def qe1 (n:Int):ZB:=if n<=9 then d1 n else if n<=99 then d1 (n / 10)++d1 (n % 10) else [49,48,48]
def qu (n:Int):ZB:=if n<0 then 45::qe1 (-n) else qe1 n
def zm1:ZB:=[88,76,66,83,77,81,70,90]
def ltr (v:Int):ZB:=sub zm1 (v-1) v
def qeq (s:ZB):Int×Int:=
 if s=[88] then (1,0) else if s=[76] then (2,0) else if s=[66] then (3,0) else if s=[83] then (4,0) else if s=[77] then (5,0) else if s=[81] then (6,0) else if s=[70] then (7,0) else if s=[90] then (8,0) else (0,3)
def qmr (a:Int):ZB:=if a = -1 then [98] else if a=1 then [35] else if a=2 then [110] else []
def q5e (c:Bool):ZB:=if c=true then [42] else []
def qhf (s:Sign):ZB:=qu s.Place++qmr s.Acc++q5e s.Color
def qhz (k:Int):ZB:=if k=1 then [94] else if k=2 then [118] else if k=3 then [62] else []
def zp (b:Bool) (c:UInt8):ZB:=if b=true then [c] else []
def qjn (s:Sign):ZB:=[116]++qhf s++qhz s.Stem++zp s.Oblique 126++zp s.Last 33
def qm2 (k:Int):ZB:=if k=0 then [67] else if k=3 then [70] else if k=4 then [71] else []
def qam (s:Sign):ZB:=
 if s.Kind=1 then ltr s.Value++qhf s else if s.Kind=2 then [114]++ltr s.Value else if s.Kind=3 then [46] else if s.Kind=4 then qjn s
 else if s.Kind=5 then [40]++jv s.MensMax s.MensMod s.MensTem s.MensPro++[41]++zp s.Stroke 124 else if s.Kind=6 then qu s.N++[47]++qu s.D
 else if s.Kind=7 then [64]++qm2 s.ClefStep++qu s.ClefLine else if s.Kind=8 then [38]++qu s.N else if s.Kind=9 then [91] else if s.Kind=10 then [93]++qu s.N
 else if s.Kind=11 then [116,117,114,110] else [115,105,103]
def qep (s:Sign):ZB×Int:=if kh s=0 then (qam s,0) else ([],kh s)
def sg0:Sign:=Sign.mk 0 0 0 0 false 0 false false 0 0 0 0 false 0 0 0 0
def tk (w:ZB) (i:Int) (c:UInt8):Bool:=preB (fr w i) [c]
def qid (w:ZB) (i:Int):ZB×Int:=if tk w i 45=true then ([45],i+1) else ([],i)
def dgE (w:ZB) (i:Int):Int:=qeo qeu w i
def qob (w:ZB) (i:Int):(Int×Bool)×Int:=(qbo ((qid w i).1++sub w (qid w i).2 (dgE w (qid w i).2)),dgE w (qid w i).2)
def qg3 (w:ZB) (i:Int):(Int×Bool)×Int:=(zb (sub w i (dgE w i)),dgE w i)
def qmb (w:ZB) (i:Int):Int×Int:=if tk w i 98=true then (-1,i+1) else if tk w i 35=true then (1,i+1) else if tk w i 110=true then (2,i+1) else (0,i)
def qd9 (w:ZB) (i:Int) (c:UInt8):Bool×Int:=if tk w i c=true then (true,i+1) else (false,i)
def qgl (w:ZB) (i:Int):Int×Int×Bool×Bool×Int:=
 ((qob w i).1.1,(qmb w (qob w i).2).1,(qd9 w (qmb w (qob w i).2).2 42).1,(qob w i).1.2,(qd9 w (qmb w (qob w i).2).2 42).2)
def qwq (w:ZB) (i k:Int):Option Int:=if h:0<=k/\k<8 then (if preB (fr w i) (sub zm1 k (k+1))=true then some (k+1) else qwq w i (k+1)) else none
 termination_by (8-k).toNat
 decreasing_by omega
def qvk (w:ZB) (i:Int):Option Int:=qwq w i 0
def qml (w:ZB) (i:Int):Int×Int:=if tk w i 94=true then (1,i+1) else if tk w i 118=true then (2,i+1) else if tk w i 62=true then (3,i+1) else (0,i)
def zar (w:ZB) (i:Int):Option Int:=if tk w i 67=true then some 0 else if tk w i 70=true then some 3 else if tk w i 71=true then some 4 else none
def qf0 (w:ZB):Int:=if qru (fr w 1) 41 > 0 then qru (fr w 1) 41 else 0
def rd1 (w:ZB):Option Sign:=match qvk w 0 with
 | some v=>if (qgl w 1).2.2.2.1=true/\(qgl w 1).2.2.2.2=ln w then some (Sign.mk 1 v (qgl w 1).1 (qgl w 1).2.1 (qgl w 1).2.2.1 0 false false 0 0 0 0 false 0 0 0 0) else none
 | none=>none
def rd2 (w:ZB):Option Sign:=if tk w 0 114=true then (match qvk w 1 with
 | some v=>if (2:Int)=ln w then some (Sign.mk 2 v 0 0 false 0 false false 0 0 0 0 false 0 0 0 0) else none
 | none=>none) else none
def rd3 (w:ZB):Option Sign:=if tk w 0 46=true/\(1:Int)=ln w then some (Sign.mk 3 0 0 0 false 0 false false 0 0 0 0 false 0 0 0 0) else none
def zdn (w:ZB):Int×Int:=qml w (qgl w 1).2.2.2.2
def rd4 (w:ZB):Option Sign:=if tk w 0 116=true/\(qgl w 1).2.2.2.1=true/\(qd9 w (qd9 w (zdn w).2 126).2 33).2=ln w then
 some (Sign.mk 4 0 (qgl w 1).1 (qgl w 1).2.1 (qgl w 1).2.2.1 (zdn w).1 (qd9 w (zdn w).2 126).1 (qd9 w (qd9 w (zdn w).2 126).2 33).1 0 0 0 0 false 0 0 0 0) else none
def zcg (w:ZB):M4×Int:=qhp (sub w 1 (1+qf0 w))
def rd5 (w:ZB):Option Sign:=if tk w 0 40=true/\(zcg w).2=0/\tk w (1+qf0 w) 41=true/\(qd9 w (1+qf0 w+1) 124).2=ln w then
 some (Sign.mk 5 0 0 0 false 0 false false (zcg w).1.1 (zcg w).1.2.1 (zcg w).1.2.2.1 (zcg w).1.2.2.2 (qd9 w (1+qf0 w+1) 124).1 0 0 0 0) else none
def rd6 (w:ZB):Option Sign:=if (qg3 w 0).1.2=true/\tk w (qg3 w 0).2 47=true/\(qg3 w ((qg3 w 0).2+1)).1.2=true/\(qg3 w ((qg3 w 0).2+1)).2=ln w then
 some (Sign.mk 6 0 0 0 false 0 false false 0 0 0 0 false (qg3 w 0).1.1 (qg3 w ((qg3 w 0).2+1)).1.1 0 0) else none
def rd7 (w:ZB):Option Sign:=if tk w 0 64=true then (match zar w 1 with
 | some k=>if (qg3 w 2).1.2=true/\(qg3 w 2).2=ln w then some (Sign.mk 7 0 0 0 false 0 false false 0 0 0 0 false 0 0 k (qg3 w 2).1.1) else none
 | none=>none) else none
def rdN (w:ZB) (c:UInt8) (k:Int):Option Sign:=if tk w 0 c=true/\(qg3 w 1).1.2=true/\(qg3 w 1).2=ln w then some (Sign.mk k 0 0 0 false 0 false false 0 0 0 0 false (qg3 w 1).1.1 0 0 0) else none
def rdW (w p:ZB) (k:Int):Option Sign:=if preB w p=true/\ln p=ln w then some (Sign.mk k 0 0 0 false 0 false false 0 0 0 0 false 0 0 0 0) else none
def rdK (w:ZB) (k:Int):Option Sign:=
 if k=1 then rd1 w else if k=2 then rd2 w else if k=3 then rd3 w else if k=4 then rd4 w else if k=5 then rd5 w else if k=6 then rd6 w else if k=7 then rd7 w else if k=8 then rdN w 38 8
 else if k=9 then rdW w [91] 9 else if k=10 then rdN w 93 10 else if k=11 then rdW w [116,117,114,110] 11 else if k=12 then rdW w [115,105,103] 12 else none
def qoa (w:ZB) (k:Int):Option Sign:=if h:1<=k/\k<=12 then (match rdK w k with
 | some s=>some s
 | none=>qoa w (k+1)) else none
 termination_by (13-k).toNat
 decreasing_by omega
def fin (o:Option Sign):Sign×Int:=match o with
 | some s=>if kh s=0 then (s,0) else (sg0,kh s)
 | none=>(sg0,3)
def ze (w:ZB):Sign×Int:=fin (qoa w 1)
def hdE (s:ZB) (i:Int):Int:=if h:0<=i/\i<ln s then (if qeu (bx s i)=true∨(i=0/\bx s i=45) then hdE s (i+1) else i) else i
 termination_by (ln s-i).toNat
 decreasing_by omega
def qsh (s:ZB):Int×ZB:=if (qcq s 98).2=true then (-1,(qcq s 98).1) else if (qcq s 35).2=true then (1,(qcq s 35).1) else if (qcq s 110).2=true then (2,(qcq s 110).1) else (0,s)
def qw4 (s:ZB):Int×ZB:=if (qcq s 94).2=true then (1,(qcq s 94).1) else if (qcq s 118).2=true then (2,(qcq s 118).1) else if (qcq s 62).2=true then (3,(qcq s 62).1) else (0,s)
def hdF (s:ZB):(Int×Bool)×Int×Bool×ZB:=
 (qbo (upto s (hdE s 0)),(qsh (fr s (hdE s 0))).1,(qcq (qsh (fr s (hdE s 0))).2 42).2,(qcq (qsh (fr s (hdE s 0))).2 42).1)
def zih (w:ZB):Option Sign:=if (hdF (fr w 1)).1.2=true/\(hdF (fr w 1)).2.2.2=[] then some (Sign.mk 1 (qeq (upto w 1)).1 (hdF (fr w 1)).1.1 (hdF (fr w 1)).2.1 (hdF (fr w 1)).2.2.1 0 false false 0 0 0 0 false 0 0 0 0) else none
def q99 (s:ZB):Option Sign:=if (qeq s).2=0 then some (Sign.mk 2 (qeq s).1 0 0 false 0 false false 0 0 0 0 false 0 0 0 0) else none
def q64 (s:ZB):Option Sign:=
 let h:=hdF s;let t:=qw4 h.2.2.2;let o:=qcq t.2 126;let l:=qcq o.1 33
 if h.1.2=true/\l.1=[] then some (Sign.mk 4 0 h.1.1 h.2.1 h.2.2.1 t.1 o.2 l.2 0 0 0 0 false 0 0 0 0) else none
def q57 (s:ZB):Option Sign:=
 let b:=decide (0<ln s/\bx s (ln s-1)=124);let u:=if b=true then upto s (ln s-1) else s
 if 0<ln u/\bx u (ln u-1)=41/\(qhp (upto u (ln u-1))).2=0 then
  some (Sign.mk 5 0 0 0 false 0 false false (qhp (upto u (ln u-1))).1.1 (qhp (upto u (ln u-1))).1.2.1 (qhp (upto u (ln u-1))).1.2.2.1 (qhp (upto u (ln u-1))).1.2.2.2 b 0 0 0 0) else none
def qyi (s:ZB):Option Sign:=
 let f (k:Int) (r:ZB):Option Sign:=if (zb r).2=true then some (Sign.mk 7 0 0 0 false 0 false false 0 0 0 0 false 0 0 k (zb r).1) else none
 if (qcq s 67).2=true then f 0 (qcq s 67).1 else if (qcq s 70).2=true then f 3 (qcq s 70).1 else if (qcq s 71).2=true then f 4 (qcq s 71).1 else none
def q9m (k:Int) (s:ZB):Option Sign:=if (zb s).2=true then some (Sign.mk k 0 0 0 false 0 false false 0 0 0 0 false (zb s).1 0 0 0) else none
def q6m (w:ZB):Option Sign:=
 let p:=zfz w 47
 if p.2.2=true/\(zb p.1).2=true/\(zb p.2.1).2=true then some (Sign.mk 6 0 0 0 false 0 false false 0 0 0 0 false (zb p.1).1 (zb p.2.1).1 0 0) else none
def wdS (k:Int):Option Sign:=some (Sign.mk k 0 0 0 false 0 false false 0 0 0 0 false 0 0 0 0)
def qdd (w:ZB):Option Sign:=
 if w=[] then none else if w=[46] then wdS 3 else if w=[91] then wdS 9 else if w=[116,117,114,110] then wdS 11 else if w=[115,105,103] then wdS 12
 else if bx w 0=114 then q99 (fr w 1) else if bx w 0=116 then q64 (fr w 1) else if bx w 0=40 then q57 (fr w 1) else if bx w 0=64 then qyi (fr w 1) else if bx w 0=38 then q9m 8 (fr w 1) else if bx w 0=93 then q9m 10 (fr w 1)
 else if (qeq (upto w 1)).2=0 then zih w else q6m w
def zf9 (w:ZB):Sign×Int:=fin (qdd w)
theorem zai (s:Sign):Sign.mk s.Kind s.Value s.Place s.Acc s.Color s.Stem s.Oblique s.Last s.MensMax s.MensMod s.MensTem s.MensPro s.Stroke s.N s.D s.ClefStep s.ClefLine=s:=rfl
theorem qvd (s:Staff):Staff.mk s.Signs s.Lead s.Catch s.Custos=s:=rfl
def ins (l:List Sign) (i:Int):Bool:=decide (0<i)&&(decide ((ix l (i-1)).Kind=4)&&!(ix l (i-1)).Last)
def zk8 (l:List Sign) (i:Int):Prop:=
 (ix l i).Kind=4/\(((ix l i).Last=true/\ins l i=false)∨((ix l i).Last=false/\(ln l<=i+1∨(ix l (i+1)).Kind≠4)))
instance (l:List Sign) (i:Int):Decidable (zk8 l i):=by unfold zk8;infer_instance
def qo2 (l:List Sign) (i:Int):Int:=if kh (ix l i)≠0 then kh (ix l i) else if zk8 l i then 3 else 0
def qjj (l:List Sign) (i:Int):Int×Int:=if h:i<ln l then (if qo2 l i≠0 then (qo2 l i,i) else qjj l (i+1)) else (0,0)
 termination_by (ln l-i).toNat
 decreasing_by omega
def zr (nm:ZB) (l:List Sign):Int×Int:=if qau nm=false then (7,0) else if 400<ln l then (11,0) else qjj l 0
theorem qix {l:List Sign} {i:Int} (h:i<ln l) (he:qo2 l i=0):qjj l i=qjj l (i+1):=by
 rw [qjj,dif_pos h,zF (by simp [he])]
theorem zd7 {l:List Sign} {i:Int} (h:i<ln l) (he:qo2 l i≠0):qjj l i=(qo2 l i,i):=by
 rw [qjj,dif_pos h,zT he]
theorem q5c {l:List Sign} {i:Int} (h:ln l<=i):qjj l i=(0,0):=by
 rw [qjj,dif_neg (by omega)]
theorem zaj (a b:Sign):(a.Kind=b.Kind/\a.Value=b.Value/\a.Place=b.Place/\a.Acc=b.Acc/\a.Color=b.Color/\a.Stem=b.Stem/\a.Oblique=b.Oblique/\a.Last=b.Last/\a.MensMax=b.MensMax/\a.MensMod=b.MensMod/\a.MensTem=b.MensTem/\a.MensPro=b.MensPro/\a.Stroke=b.Stroke/\a.N=b.N/\a.D=b.D/\a.ClefStep=b.ClefStep/\a.ClefLine=b.ClefLine)↔a=b:=by
 cases a;cases b;simp only [Sign.mk.injEq]
instance:DecidableEq Sign:=λa b=>decidable_of_iff _ (zaj a b)
theorem zjh (a b:Staff):(a.Signs=b.Signs/\a.Lead=b.Lead/\a.Catch=b.Catch/\a.Custos=b.Custos)↔a=b:=by
 cases a;cases b;simp only [Staff.mk.injEq]
instance:DecidableEq Staff:=λa b=>decidable_of_iff _ (zjh a b)
theorem zn9 (a b:Page):(a.Staves=b.Staves)↔a=b:=by
 cases a;cases b;simp only [Page.mk.injEq]
instance:DecidableEq Page:=λa b=>decidable_of_iff _ (zn9 a b)
def qm0 (a b:List Sign):Bool:=decide (a=b)
def qa0 (n:ZB) (a:List Sign) (m:ZB) (b:List Sign):Bool:=decide (n=m/\a=b)
def qe5 (a b:Staff):Bool:=decide (a=b)
def qjm (n:ZB) (a:List Page) (m:ZB) (b:List Page):Bool:=decide (n=m/\a=b)
def okB (b:List Page):Prop:=∀ p ∈ b,ln p.Staves<=1000000000/\∀ s ∈ p.Staves,ln s.Signs<=10000000
def tT (l:List Sign) (to:Int):Int:=if h:to<ln l/\(ix l (to-1)).Kind=4/\(ix l (to-1)).Last=false then tT l (to+1) else to
 termination_by (ln l-to).toNat
 decreasing_by omega
theorem ql5 {l:List Sign} {to:Int} (h:to<ln l/\(ix l (to-1)).Kind=4/\(ix l (to-1)).Last=false):tT l to=tT l (to+1):=by rw [tT,dif_pos h]
theorem qiu {l:List Sign} {to:Int} (h:¬ (to<ln l/\(ix l (to-1)).Kind=4/\(ix l (to-1)).Last=false)):tT l to=to:=by rw [tT,dif_neg h]
theorem zo9 {l:List Sign} {to:Int} (h:to<=ln l):to<=tT l to/\tT l to<=ln l:=by
 by_cases a:to<ln l/\(ix l (to-1)).Kind=4/\(ix l (to-1)).Last=false
 .have:=zo9 (l:=l) (to:=to+1) (by omega);rw [ql5 a];omega
 .rw [qiu a];omega
 termination_by (ln l-to).toNat
 decreasing_by omega
def gE (l:List Sign) (i:Int):Int:=if tT l (i+1)<ln l/\(ix l (tT l (i+1))).Kind=3 then tT l (i+1)+1 else tT l (i+1)
theorem qmt {l:List Sign} {i:Int} (h:i<ln l):i+1<=gE l i/\gE l i<=ln l:=by
 have:=zo9 (l:=l) (to:=i+1) (by omega);unfold gE;split<;>omega
theorem zuj {l:List Sign} {at_ to:Int} (b:0<=at_) (c:at_<=ln l) (e:1<=to):at_+tT (fr l at_) to=tT l (at_+to):=by
 have f:=qel b c;have d:ix (fr l at_) (to-1)=ix l (at_+to-1):=by rw [ze8 b (by omega)];congr 1;omega
 by_cases a:to<ln (fr l at_)/\(ix (fr l at_) (to-1)).Kind=4/\(ix (fr l at_) (to-1)).Last=false
 .rw [ql5 a,ql5 (l:=l) (by rw [<-d];exact ⟨by omega,a.2⟩),zuj b c (by omega)];congr 1;omega
 .rw [qiu a,qiu (l:=l)];rw [<-d];exact λh=>a ⟨by omega,h.2⟩
 termination_by (ln l-to).toNat
 decreasing_by omega
theorem zya {l:List Sign} {at_ i:Int} (b:0<=at_) (c:at_<=ln l) (g:0<=i):at_+gE (fr l at_) i=gE l (at_+i):=by
 have j:=qel b c;have d:=zuj b c (to:=i+1) (by omega);have k:i+1<=tT (fr l at_) (i+1):=by
  by_cases hi:i+1<=ln (fr l at_)
  .exact (zo9 hi).1
  .rw [qiu (by omega)];exact zK _
 have f:ix (fr l at_) (tT (fr l at_) (i+1))=ix l (tT l (at_+i+1)):=by
  rw [ze8 b (by omega),d];congr 1;congr 1;omega
 have e:at_+i+1=at_+(i+1):=by omega
 rw [e] at f;unfold gE;rw [f,e,<-d];by_cases a:tT (fr l at_) (i+1)<ln (fr l at_)/\(ix l (at_+tT (fr l at_) (i+1))).Kind=3
 .rw [zT a,zT ⟨by omega,a.2⟩];omega
 .rw [zF a,zF (λh=>a ⟨by omega,h.2⟩)]
def jq (c k:List Sign) (s:Sign):List Sign×List Sign:=if s.Kind=7 then ([s],k) else if s.Kind=8 then (c,[s]) else (c,k)
def quf (l:List Sign):Nat->List Sign×List Sign
 | 0=>([],[])
 | n+1=>jq (quf l n).1 (quf l n).2 (ix l (n:Int))
def qcr (l:List Sign) (i:Int):List Sign×List Sign:=quf l i.toNat
def qcb (l:List Sign) (i:Int):List Sign:=(qcr l i).1++(qcr l i).2
theorem zb4 (l:List Sign):qcr l 0=([],[]):=rfl
theorem qy0 {l:List Sign} {i:Int} (h:0<=i):qcr l (i+1)=jq (qcr l i).1 (qcr l i).2 (ix l i):=by
 unfold qcr;have:(i+1).toNat=i.toNat+1:=by omega
 have e:((i.toNat:Nat):Int)=i:=by omega
 rw [this,quf,e]
theorem qt8 {c k:List Sign} {s:Sign} (a:ln c<=1) (b:ln k<=1):ln (jq c k s).1<=1/\ln (jq c k s).2<=1:=by
 unfold jq;split
 .exact ⟨by simp [ln],b⟩
 .split
  .exact ⟨a,by simp [ln]⟩
  .exact ⟨a,b⟩
theorem q25 (l:List Sign) (i:Int):ln (qcr l i).1<=1/\ln (qcr l i).2<=1:=by
 unfold qcr
 induction i.toNat with
 | zero=>exact ⟨by simp [quf,ln],by simp [quf,ln]⟩
 | succ n a=>exact qt8 a.1 a.2
theorem zmu (l:List Sign) (i:Int):0<=ln (qcb l i)/\ln (qcb l i)<=2:=by
 have:=q25 l i;have a:=ln_nonneg (qcb l i);unfold qcb at *;rw [qm] at *;omega
def zq:List Sign->Bool×Int
 | []=>(false,0)
 | s::l=>if s.Kind=1∨s.Kind=4 then (true,s.Place) else zq l
def qyd (l:List Sign) (i:Int):Bool×Int:=zq (fr l i)
def qmn:List Sign->Int->Int
 | [],_=>-1
 | s::l,i=>if s.Kind=11 then i else qmn l (i+1)
theorem ql9 {l:List Sign} {i:Int} (a:0<=i) (h:i<ln l):qmn (fr l i) i=if (ix l i).Kind=11 then i else qmn (fr l (i+1)) (i+1):=by rw [qat a h,qmn]
theorem q07 {l:List Sign} {i:Int} (h:ln l<=i):qmn (fr l i) i = -1:=by rw [qhb h];rfl
def qra (l:List Sign):Int:=qmn l 0
def fA (l:List Sign) (lim i rest:Int):Int×Int:=if h:i<ln l/\gE l i<=lim then fA l lim (gE l i) (if (ix l i).Kind=2 then gE l i else rest) else (i,rest)
 termination_by (ln l-i).toNat
 decreasing_by have:=qmt h.1;omega
theorem qp6 {l:List Sign} {lim i rest:Int} (h:i<ln l) (a:gE l i<=lim):fA l lim i rest=fA l lim (gE l i) (if (ix l i).Kind=2 then gE l i else rest):=by rw [fA,dif_pos ⟨h,a⟩]
theorem qs1 {l:List Sign} {lim i rest:Int} (h:ln l<=i∨lim<gE l i):fA l lim i rest=(i,rest):=by rw [fA,dif_neg (by omega)]
def zc (l:List Sign) (room:Int) (last:Bool):Int:=if last=true/\(fA l room 0 0).1<ln l/\0<(fA l room 0 0).2 then (fA l room 0 0).2 else (fA l room 0 0).1
def qtg (l:List Sign) (w i:Int):Int:=i+(w-ln (qcb l i))
def nxt (l:List Sign) (w i:Int) (last:Bool):Int:=
 if last=true/\(fA l (qtg l w i) i i).1<ln l/\i<(fA l (qtg l w i) i i).2 then (fA l (qtg l w i) i i).2 else (fA l (qtg l w i) i i).1
theorem q8l {l:List Sign} {lim i rest:Int} (d:0<=i) (h:i<=ln l) (b:rest<=i):i<=(fA l lim i rest).1/\(fA l lim i rest).1<=ln l/\rest<=(fA l lim i rest).2/\(fA l lim i rest).2<=(fA l lim i rest).1:=by
 by_cases a:i<ln l/\gE l i<=lim
 .have c:=qmt a.1;have:=q8l (l:=l) (lim:=lim) (i:=gE l i) (rest:=if (ix l i).Kind=2 then gE l i else rest) (by omega) c.2 (by split<;>omega);rw [qp6 a.1 a.2];have e:rest<=(if (ix l i).Kind=2 then gE l i else rest):=by split<;>omega
  omega
 .rw [qs1 (by omega)];exact ⟨zK _,h,zK _,b⟩
 termination_by (ln l-i).toNat
 decreasing_by omega
theorem zt1 {l:List Sign} {a lim i rest:Int} (b:0<=a) (c:a<=ln l) (e:0<=i):fA l (a+lim) (a+i) (a+rest)=(a+(fA (fr l a) lim i rest).1,a+(fA (fr l a) lim i rest).2):=by
 have g:=qel b c;have f:=zya b c e;by_cases d:i<ln (fr l a)/\gE (fr l a) i<=lim
 .have h:=qmt d.1;rw [qp6 d.1 d.2,qp6 (l:=l) (by omega) (by omega),<-f,<-ze8 b e,<-zt1 b c (by omega)];congr 1
  split<;>rfl
 .rw [qs1 (l:=fr l a) (by omega),qs1 (l:=l) (by omega)]
 termination_by (ln (fr l a)-i).toNat
 decreasing_by omega
theorem zlv {l:List Sign} {w a:Int} {last:Bool} (d:0<=a) (e:a<=ln l):a+zc (fr l a) (w-ln (qcb l a)) last=nxt l w a last:=by
 have h:=zt1 (l:=l) (a:=a) (lim:=w-ln (qcb l a)) (i:=0) (rest:=0) d e (zK _);rw [Int.add_zero] at h;have f:=qel d e;unfold zc nxt qtg;rw [h];by_cases b:last=true/\(fA (fr l a) (w-ln (qcb l a)) 0 0).1<ln (fr l a)/\0<(fA (fr l a) (w-ln (qcb l a)) 0 0).2
 .rw [zT b,zT ⟨b.1,by dsimp only;omega,by dsimp only;omega⟩]
 .rw [zF b,zF (λc=>b ⟨c.1,by have:=c.2.1;dsimp only at this;omega,by have:=c.2.2;dsimp only at this;omega⟩)]
theorem zes {l:List Sign} {room:Int} {last:Bool}:0<=zc l room last/\zc l room last<=ln l:=by
 have:=q8l (l:=l) (lim:=room) (i:=0) (rest:=0) (zK _) (ln_nonneg l) (zK _);unfold zc;split<;>omega
def stf (l:List Sign) (i j:Int):Staff:=Staff.mk (qcb l i++sub l i j) (ln (qcb l i)) (qyd l j).1 (qyd l j).2
def bk (l:List Sign) (w h i:Int) (page:List Staff) (pages:List Page):Option (List Page):=
 if a:i<ln l then
  if b:nxt l w i (decide (ln page+1=h))<=i then none
  else if ln page+1=h∨ln l<=nxt l w i (decide (ln page+1=h)) then bk l w h (nxt l w i (decide (ln page+1=h))) [] (pages++[Page.mk (page++[stf l i (nxt l w i (decide (ln page+1=h)))])])
  else bk l w h (nxt l w i (decide (ln page+1=h))) (page++[stf l i (nxt l w i (decide (ln page+1=h)))]) pages
 else some pages
 termination_by (ln l-i).toNat
 decreasing_by all_goals omega
theorem zlb {l:List Sign} {w h i:Int} {page:List Staff} {pages:List Page} (a:ln l<=i):bk l w h i page pages=some pages:=by rw [bk,dif_neg (by omega)]
theorem zlc {l:List Sign} {w h i:Int} {page:List Staff} {pages:List Page} (a:i<ln l) (b:nxt l w i (decide (ln page+1=h))<=i):bk l w h i page pages=none:=by rw [bk,dif_pos a,dif_pos b]
theorem zd2 {l:List Sign} {w h i j:Int} {page:List Staff} {pages:List Page} (a:i<ln l) (b:j=nxt l w i (decide (ln page+1=h))) (d:i<j) (c:ln page+1=h∨ln l<=j):bk l w h i page pages=bk l w h j [] (pages++[Page.mk (page++[stf l i j])]):=by
 subst b;rw [bk,dif_pos a,dif_neg (by omega),zT c]
theorem zty {l:List Sign} {w h i j:Int} {page:List Staff} {pages:List Page} (a:i<ln l) (b:j=nxt l w i (decide (ln page+1=h))) (d:i<j) (c:¬ (ln page+1=h∨ln l<=j)):bk l w h i page pages=bk l w h j (page++[stf l i j]) pages:=by
 subst b;rw [bk,dif_pos a,dif_neg (by omega),zF c]
def mkB (nm:ZB) (l:List Sign) (w h:Int):ZB×List Page×Int:=
 if (zr nm l).1≠0 then ([],[],(zr nm l).1) else if 0<=qra l then ([],[],8) else if w<16∨60<w∨h<1∨12<h then ([],[],2) else
 match bk l w h 0 [] [] with
 | none=>([],[],11)
 | some g=>(nm,g,0)
inductive Ch (l:List Sign):Int->Int->Prop
 | refl (a:Int):Ch l a a
 | step {a b:Int} (ha:a<ln l) (h:Ch l (gE l a) b):Ch l a b
theorem Ch.le {l:List Sign} {a b:Int} (h:Ch l a b):a<=b:=by
 induction h with
 | refl=>exact zK _
 | step c _ d=>have:=qmt c;omega
def zt6 (l:List Int):Prop:=ln l<=9223372036854775807/\∀ n ∈ l,I64 n
def qn (a b:Int):Int:=if b<1 then 0 else if Int.tmod a b<0 then Int.tmod a b+b else Int.tmod a b
def atI (l:List Int) (i:Int):Int:=if i<0∨ln l<=i then 0 else ix l i
theorem zax {a b:Int} (c:0<b):-b<Int.tmod a b/\Int.tmod a b<b:=by
 by_cases h:0<=a
 .exact ⟨by have:=Int.tmod_nonneg b h;omega,Int.tmod_lt_of_pos a c⟩
 .have d:Int.tmod a b = -Int.tmod (-a) b:=by rw [Int.neg_tmod,Int.neg_neg]
  have e:=Int.tmod_nonneg b (show 0<=-a by omega);have f:=Int.tmod_lt_of_pos (-a) c;omega
theorem qhl {a b:Int} (c:0<b):0<=qn a b/\qn a b<b:=by
 have:=zax (a:=a) c;unfold qn;split
 .omega
 .split<;>omega
def qer (a b c d v:Int):Bool:=(decide (a=3)&&decide (1<v)) || (decide (b=3)&&decide (2<v)) || (decide (c=3)&&decide (3<v)) || (decide (d=3)&&decide (4<v))
structure Mk where
 nm:ZB
 S:List Sign
 m0:Int
 m1:Int
 m2:Int
 m3:Int
 place:Int
 opn:Bool
 dots:Bool
def q13 (x:Mk) (s:Sign) (d:Bool):Mk:={x with S:=x.S++[s],dots:=d}
def qzv (n:Int):Int:=2+Int.tdiv (qn n 16) 8
def qzw (n:Int):Int:=2+Int.tmod (Int.tdiv (qn n 16) 4) 2
def qrz (n:Int):Int:=2+Int.tmod (Int.tdiv (qn n 16) 2) 2
def qzx (n:Int):Int:=2+Int.tmod (qn n 16) 2
def qtj (n:Int) (st:Bool):Sign:=Sign.mk 5 0 0 0 false 0 false false (qzv n) (qzw n) (qrz n) (qzx n) st 0 0 0 0
def qgk (x:Mk) (n:Int):Mk:=
 if Int.tmod n 6=0 then (if x.opn=false then {x with S:=x.S++[qtj (Int.tdiv n 6) (decide (Int.tmod (Int.tdiv n 96) 2=0))],m0:=qzv (Int.tdiv n 6),m1:=qzw (Int.tdiv n 6),m2:=qrz (Int.tdiv n 6),m3:=qzx (Int.tdiv n 6),dots:=false} else x)
 else if Int.tmod n 6=1 then (if x.opn=false then q13 x (Sign.mk 6 0 0 0 false 0 false false 0 0 0 0 false (1+Int.tmod (Int.tdiv n 6) 4) (1+Int.tmod (Int.tdiv n 24) 4) 0 0) false else x)
 else if Int.tmod n 6=2 then q13 x (Sign.mk 7 0 0 0 false 0 false false 0 0 0 0 false 0 0 (ix [0,3,4] (Int.tmod (Int.tdiv n 6) 3)) (1+Int.tmod (Int.tdiv n 18) 5)) x.dots
 else if Int.tmod n 6=3 then q13 x (Sign.mk 8 0 0 0 false 0 false false 0 0 0 0 false (Int.tmod (Int.tdiv n 6) 3) 0 0 0) x.dots
 else if Int.tmod n 6=4 then q13 x (Sign.mk (ix [11,12] (Int.tmod (Int.tdiv n 6) 2)) 0 0 0 false 0 false false 0 0 0 0 false 0 0 0 0) x.dots
 else if x.opn=true then {x with S:=x.S++[Sign.mk 10 0 0 0 false 0 false false 0 0 0 0 false (2+Int.tmod (Int.tdiv n 6) 3) 0 0 0],opn:=!x.opn,dots:=false}
 else {x with S:=x.S++[Sign.mk 9 0 0 0 false 0 false false 0 0 0 0 false 0 0 0 0],opn:=!x.opn,dots:=false}
def qmx (n p:Int):Int:=if ((p+1)+Int.tmod (Int.tdiv n 32) 3)-4 * Int.tmod (Int.tdiv n 128) 2 < -4 then 7 else if 12<((p+1)+Int.tmod (Int.tdiv n 32) 3)-4 * Int.tmod (Int.tdiv n 128) 2 then 7 else ((p+1)+Int.tmod (Int.tdiv n 32) 3)-4 * Int.tmod (Int.tdiv n 128) 2
def q5z (n many j p:Int):Sign:=Sign.mk 4 0 p 0 (decide (Int.tmod (Int.tdiv n 16) 5=0)) 0 false (decide (j+1=many)) 0 0 0 0 false 0 0 0 0
def qlz (n many j:Int) (x:Mk):Mk:=
 if h:j<many then qlz n many (j+1) {x with S:=x.S++[q5z n many j x.place],place:=qmx n x.place,dots:=decide (j+1=many)} else x
 termination_by (many-j).toNat
 decreasing_by omega
theorem qi4 {n many j:Int} {x:Mk} (h:j<many):qlz n many j x=qlz n many (j+1) {x with S:=x.S++[q5z n many j x.place],place:=qmx n x.place,dots:=decide (j+1=many)}:=by rw [qlz,dif_pos h]
theorem qqd {n many j:Int} {x:Mk} (h:many<=j):qlz n many j x=x:=by rw [qlz,dif_neg (by omega)]
def zr4 (x:Mk) (n:Int):Mk:=qlz n (2+Int.tmod n 2) 0 {x with place:=2+Int.tmod (Int.tdiv n 2) 5}
def qjf (n p:Int):Int:=if (p+qn n 5)-2 < -4 then 4 else if 12<(p+qn n 5)-2 then 4 else (p+qn n 5)-2
def qz0 (v n p:Int):Sign:=Sign.mk 1 v p (ix [0,0,0,0,(-1),1,2] (Int.tmod (Int.tdiv n 5) 7)) (decide (Int.tmod (Int.tdiv n 35) 6=0)) 0 false false 0 0 0 0 false 0 0 0 0
def zui (x:Mk) (v n:Int):Mk:={x with S:=x.S++[qz0 v n (qjf n x.place)],place:=qjf n x.place,dots:=true}
def qr3 (v:Int):Sign:=Sign.mk 2 v 0 0 false 0 false false 0 0 0 0 false 0 0 0 0
def qa6 (x:Mk) (n:Int):Mk:=
 if Int.tmod n 16=0∨Int.tmod n 16=1 then qgk x (Int.tdiv n 16)
 else if Int.tmod n 16=2 then zr4 x (Int.tdiv n 16)
 else if Int.tmod n 16=3∨Int.tmod n 16=4 then q13 x (qr3 (2+Int.tmod (Int.tdiv n 16) 6)) (qer x.m0 x.m1 x.m2 x.m3 (2+Int.tmod (Int.tdiv n 16) 6))
 else if Int.tmod n 16=5∨Int.tmod n 16=6∨Int.tmod n 16=7 then (if x.dots=true then q13 x (Sign.mk 3 0 0 0 false 0 false false 0 0 0 0 false 0 0 0 0) false else x)
 else zui x (2+Int.tmod (Int.tdiv n 16) 6) (Int.tdiv n 96)
def qfo (l:List Int) (i:Int) (x:Mk):Mk:=if h:i<ln l/\ln x.S<55 then qfo l (i+1) (qa6 x (qn (ix l i) 1048576)) else x
 termination_by (ln l-i).toNat
 decreasing_by omega
theorem qui {l:List Int} {i:Int} {x:Mk} (h:i<ln l) (a:ln x.S<55):qfo l i x=qfo l (i+1) (qa6 x (qn (ix l i) 1048576)):=by rw [qfo,dif_pos ⟨h,a⟩]
theorem qy3 {l:List Int} {i:Int} {x:Mk} (h:ln l<=i∨55<=ln x.S):qfo l i x=x:=by rw [qfo,dif_neg (by omega)]
def ztz (n:Int):Sign:=Sign.mk 7 0 0 0 false 0 false false 0 0 0 0 false 0 0 (ix [0,4,3] (Int.tmod (Int.tdiv n 320) 3)) 3
def q48 (n:Int):Mk where
 nm:=[UInt8.ofNat (Int.toNat (97+Int.tmod (Int.tdiv n 16) 20))]
 S:=(([]:List Sign)++[ztz n])++[qtj n (decide (Int.tmod (Int.tdiv n 960) 3=0))]
 m0:=qzv n
 m1:=qzw n
 m2:=qrz n
 m3:=qzx n
 place:=4
 opn:=false
 dots:=false
def qkv (l:List Int):Mk:=qfo l 1 (q48 (qn (atI l 0) 1048576))
def zu3:Sign:=Sign.mk 10 0 0 0 false 0 false false 0 0 0 0 false 2 0 0 0
def kp (l:List Int):ZB×List Sign:=if (qkv l).opn=true then ((qkv l).nm,(qkv l).S++[zu3]) else ((qkv l).nm,(qkv l).S)
def qa8 (l:List Sign):List Sign:=l.filter λs=>!decide (s.Kind=11)
def qk6 (l:List Int):ZB×List Sign:=((kp l).1,qa8 (kp l).2)
structure GB (x:Mk):Prop where
 p0:-4<=x.place
 p1:x.place<=12
theorem qi3 {n p:Int}:-4<=qmx n p/\qmx n p<=12:=by unfold qmx;split<;>(try split)<;>omega
theorem qqo {n p:Int}:-4<=qjf n p/\qjf n p<=12:=by unfold qjf;split<;>(try split)<;>omega
theorem q9c {n many j:Int} {x:Mk} (h:GB x) (hm:many<=3) (e:0<=j) (a:j<=many):GB (qlz n many j x)/\ln (qlz n many j x).S=ln x.S+(many-j):=by
 by_cases b:j<many
 .obtain ⟨c,d⟩:=q9c (n:=n) (many:=many) (j:=j+1) (x:={x with S:=x.S++[q5z n many j x.place],place:=qmx n x.place,dots:=decide (j+1=many)}) ⟨qi3.1,qi3.2⟩ hm (by omega) (by omega);rw [qi4 b];refine ⟨c,?_⟩;rw [d,qb5];omega
 .rw [qqd (by omega)];exact ⟨h,by omega⟩
 termination_by (many-j).toNat
 decreasing_by omega
theorem qak {a b:Int} (c:0<=a) (d:0<b):0<=Int.tmod a b/\Int.tmod a b<b:=⟨Int.tmod_nonneg _ c,Int.tmod_lt_of_pos a d⟩
theorem qco {a b:Int} (c:0<=a) (d:0<b):0<=Int.tdiv a b/\Int.tdiv a b<=a:=by
 rw [Int.tdiv_eq_ediv_of_nonneg c];exact ⟨Int.ediv_nonneg c (by omega),Int.ediv_le_self b c⟩
theorem qo5 {x:Mk} {n:Int} (h:GB x) (d:0<=n):GB (qa6 x n)/\ln x.S<=ln (qa6 x n).S/\ln (qa6 x n).S<=ln x.S+3:=by
 have c:=qco d (show (0:Int)<16 by decide);unfold qa6;split
 .unfold qgk q13
  (repeat' split)<;>first
    | (refine ⟨⟨h.p0,h.p1⟩,?_,?_⟩<;>simp only [qb5]<;>omega)
    | (refine ⟨⟨h.p0,h.p1⟩,?_,?_⟩<;>omega)
 .split
  .have e:=qak c.1 (show (0:Int)<2 by decide);have f:=qak (qco c.1 (show (0:Int)<2 by decide)).1 (show (0:Int)<5 by decide);obtain ⟨a,b⟩:=q9c (n:=Int.tdiv n 16) (many:=2+Int.tmod (Int.tdiv n 16) 2) (j:=0) (x:={x with place:=2+Int.tmod (Int.tdiv (Int.tdiv n 16) 2) 5}) ⟨by dsimp only;omega,by dsimp only;omega⟩ (by omega) (by omega) (by omega);refine ⟨a,?_,?_⟩
   .show _<=ln (qlz _ _ _ _).S;rw [b];dsimp only;omega
   .show ln (qlz _ _ _ _).S<=_;rw [b];dsimp only;omega
  .split
   .unfold q13;refine ⟨⟨h.p0,h.p1⟩,?_,?_⟩<;>simp only [qb5]<;>omega
   .split
    .split
     .unfold q13;refine ⟨⟨h.p0,h.p1⟩,?_,?_⟩<;>simp only [qb5]<;>omega
     .refine ⟨h,?_,?_⟩<;>omega
    .unfold zui;refine ⟨⟨qqo.1,qqo.2⟩,?_,?_⟩<;>simp only [qb5]<;>omega
theorem quh {l:List Int} {i:Int} {x:Mk} (h:GB x) (j:ln x.S<=57):GB (qfo l i x)/\ln (qfo l i x).S<=57/\ln x.S<=ln (qfo l i x).S:=by
 by_cases g:i<ln l/\ln x.S<55
 .obtain ⟨a,b,c⟩:=qo5 (n:=qn (ix l i) 1048576) h (qhl (by decide)).1;obtain ⟨d,e,f⟩:=quh (l:=l) (i:=i+1) a (by omega);rw [qui g.1 g.2];exact ⟨d,e,by omega⟩
 .rw [qy3 (by omega)];exact ⟨h,j,zK _⟩
 termination_by (ln l-i).toNat
 decreasing_by omega
def smB (g:List Page):Prop:=ln g<=500/\∀ p ∈ g,ln p.Staves<=500/\∀ s ∈ p.Staves,ln s.Signs<=500
def qb (g:List Page):List Staff:=g.flatMap λp=>p.Staves
def qnv (s:Staff):List Sign:=fr s.Signs s.Lead
def qdr (l:List Staff):List Sign:=l.flatMap qnv
def zd (g:List Page):List Sign:=qdr (qb g)
def qof (s:Staff):Prop:=0<=s.Lead/\s.Lead<=ln s.Signs
def qt (g:List Page):Prop:=∀ s ∈ qb g,qof s
def qz5:List Staff->Int->Int->Int
 | [],_,_=>0
 | s::l,n,i=>if i-(ln s.Signs-s.Lead)<0 then n else qz5 l (n+1) (i-(ln s.Signs-s.Lead))
def qai (g:List Page) (i:Int):Int:=qz5 (qb g) 0 i
def jf (s:Staff) (c k:List Sign):Int:=if 60<ln s.Signs then 11 else if s.Lead<0 then 2 else if ln s.Signs<=s.Lead then 2 else if upto s.Signs s.Lead=c++k then 0 else 6
def qyz (f:List Sign×List Sign) (l:List Sign):List Sign×List Sign:=l.foldl (λf s=>jq f.1 f.2 s) f
def qo7 (g:List Page) (l:List Sign) (i:Int):Int×Int:=if h:i<ln l then (if qai g i=qai g (gE l i-1) then qo7 g l (gE l i) else (6,qai g i)) else (0,0)
 termination_by (ln l-i).toNat
 decreasing_by have:=qmt h;omega
theorem q3a {g:List Page} {l:List Sign} {i:Int} (h:i<ln l) (he:qai g i=qai g (gE l i-1)):qo7 g l i=qo7 g l (gE l i):=by rw [qo7,dif_pos h,zT he]
theorem zma {g:List Page} {l:List Sign} {i:Int} (h:i<ln l) (he:qai g i≠qai g (gE l i-1)):qo7 g l i=(6,qai g i):=by rw [qo7,dif_pos h,zF he]
theorem q80 {g:List Page} {l:List Sign} {i:Int} (h:ln l<=i):qo7 g l i=(0,0):=by rw [qo7,dif_neg (by omega)]
def qss (l:List Sign):List Staff->Int->Int->Int×Int
 | [],_,_=>(0,0)
 | s::r,n,a=>if s.Catch=(qyd l (a+(ln s.Signs-s.Lead))).1/\s.Custos=(qyd l (a+(ln s.Signs-s.Lead))).2 then qss l r (n+1) (a+(ln s.Signs-s.Lead)) else (3,n)
def qck (nm:ZB) (g:List Page):Int×Int:=
 if (zr nm (zd g)).1≠0 then ((zr nm (zd g)).1,qai g (zr nm (zd g)).2)
 else if 0<=qra (zd g) then (8,qai g (qra (zd g)))
 else if (qo7 g (zd g) 0).1≠0 then qo7 g (zd g) 0
 else qss (zd g) (qb g) 0 0
def qd0 (f:List Sign×List Sign) (n j:Int):List Staff->Int×(List Sign×List Sign)×Int
 | []=>(0,f,n)
 | s::l=>if 12<=j then (11,f,n) else if jf s f.1 f.2≠0 then (jf s f.1 f.2,f,n) else qd0 (qyz f (qnv s)) (n+1) (j+1) l
def qbv (f:List Sign×List Sign) (n:Int) (empty:Bool):List Page->Int×Int×Bool
 | []=>(0,n,empty)
 | p::g=>if p.Staves=[] then qbv f n true g
   else if (qd0 f n 0 p.Staves).1≠0 then ((qd0 f n 0 p.Staves).1,(qd0 f n 0 p.Staves).2.2,false)
   else qbv (qd0 f n 0 p.Staves).2.1 (qd0 f n 0 p.Staves).2.2 empty g
def q2u (r:Int×(List Sign×List Sign)×Int) (empty:Bool) (g:List Page):Int×Int×Bool:=if r.1≠0 then (r.1,r.2.2,false) else qbv r.2.1 r.2.2 empty g
theorem qvv {f:List Sign×List Sign} {n:Int} {empty:Bool} {p:Page} {g:List Page} (h:p.Staves≠[]):qbv f n empty (p::g)=q2u (qd0 f n 0 p.Staves) empty g:=by
 simp only [qbv,zF h,q2u]
def jr (nm:ZB) (g:List Page):Int×Int:=
 if qau nm=false then (7,0) else if (qbv ([],[]) 0 false g).1≠0 then ((qbv ([],[]) 0 false g).1,(qbv ([],[]) 0 false g).2.1)
 else if (qbv ([],[]) 0 false g).2.2=true then (2,(qbv ([],[]) 0 false g).2.1) else qck nm g
def qbx (s p:ZB):ZB×Bool:=if ln p<=ln s/\upto s (ln p)=p then (fr s (ln p),true) else (s,false)
def qaz:List ZB->ZB->ZB
 | [],_=>[]
 | [x],_=>x
 | x::y::l,s=>x++s++qaz (y::l) s
abbrev q0z:ZB:=[115,116,97,102,102]
abbrev zcr:ZB:=[112,97,103,101]
abbrev qna:ZB:=[98,111,111,107,32]
def qe6 (l:List Sign):List (ZB):=l.map λx=>(qep x).1
def qhu (s:Staff):List (ZB):=([q0z,qu s.Lead]++qe6 s.Signs)++(if s.Catch=true then [[126]++qu s.Custos] else [])
def qu8 (s:Staff):ZB:=qaz (qhu s) [32]++[10]
def qhy (l:List Staff):ZB:=l.flatMap qu8
def qla (g:List Page):ZB:=g.flatMap λp=>[112,97,103,101,10]++qhy p.Staves
def qli (nm:ZB) (g:List Page):ZB:=(((qna++nm)++[10])++qla g)++[101,110,100,10]
def qaw (nm:ZB) (g:List Page):ZB×Int:=if (jr nm g).1≠0 then ([],(jr nm g).1) else if 20000<ln (qli nm g) then ([],4) else (qli nm g,0)
def zce (r:List ZB):ZB:=ix (fr r 2) (ln (fr r 2)-1)
def quj (r:List ZB):Bool:=decide (0<ln (fr r 2))&&preB (zce r) [126]
def q5j (r:List ZB):Int×Bool:=qbo (fr (zce r) 1)
def qij (r:List ZB):List (ZB):=if quj r=true then upto (fr r 2) (ln (fr r 2)-1) else fr r 2
def qmk:List ZB->List Sign->List Sign×Bool
 | [],S=>(S,true)
 | w::l,S=>if (ze w).2≠0 then (S,false) else qmk l (S++[(ze w).1])
def zz (r:List ZB):Staff×Bool:=
 if ln r<2 then (Staff.mk [] 0 false 0,false)
 else if ix r 0≠q0z then (Staff.mk [] 0 false 0,false)
 else if (zb (ix r 1)).2=false then (Staff.mk [] (zb (ix r 1)).1 false 0,false)
 else if quj r=true then (if (q5j r).2=false then (Staff.mk [] (zb (ix r 1)).1 false (q5j r).1,false) else (Staff.mk (qmk (qij r) []).1 (zb (ix r 1)).1 true (q5j r).1,(qmk (qij r) []).2))
 else (Staff.mk (qmk (qij r) []).1 (zb (ix r 1)).1 false 0,(qmk (qij r) []).2)
def qn0 (r:List ZB):Prop:=ln r<=30000/\∀ w ∈ r,ln w<=1000
def qw3:List ZB->List Page->List Staff->Option (List Page)
 | [],P,Q=>some (P++[Page.mk Q])
 | r::l,P,Q=>if r=zcr then qw3 l (P++[Page.mk Q]) [] else if (zz (splitI 32 r)).2=true then qw3 l P (Q++[(zz (splitI 32 r)).1]) else none
def qib (t:ZB):List (ZB):=splitI 10 t
def qhw (t:ZB):List (ZB):=sub (qib t) 1 (ln (qib t)-2)
def qx4:List ZB->Option (List Page)
 | []=>some []
 | r::l=>if r=zcr then qw3 l [] [] else none
def nmK (t:ZB):ZB:=(qbx (ix (qib t) 0) qna).1
abbrev zuw:=(ZB×List Page)×(Int×Int)
def zbt:zuw:=(([],[]),(3,0))
def zlx (t:ZB):Option (List Page)->zuw
 | none=>zbt
 | some g=>if (qaw (nmK t) g).2=0/\(qaw (nmK t) g).1=t then ((nmK t,g),(0,0)) else zbt
def z8 (t:ZB):zuw:=if 20000<ln t then zbt else if (qbx (ix (qib t) 0) qna).2=false then zbt else if ln (qib t)<3 then zbt else zlx t (qx4 (qhw t))
def okP (t:ZB):Prop:=ln t<=100000000/\(∀ r ∈ qib t,qn0 (splitI 32 r))/\∀ g,qx4 (qhw t)=some g->smB g
def qbm (a0:ZB) (i:Int):Prop:=0<=i/\i<=ln a0/\∀ j,0<=j->j<i->qq2 (bx a0 j)=true
def ky (a0:ZB) (i:Int):Nat:=(ln a0-i).toNat
def qah (a0 a a2 a3 i:Int):Prop:=0<=i/\i<=4/\(i<1∨a0=2∨a0=3)/\(i<2∨a=2∨a=3)/\(i<3∨a2=2∨a2=3)/\(i<4∨a3=2∨a3=3)
def zv (_ _ _ _ i:Int):Nat:=(4-i).toNat
def qc0 (_:ZB) (l:List Sign) (b:Bool) (i:Int):Prop:=0<=i/\i<=ln l/\qjj l i=qjj l 0/\b=ins l i/\(b=true->i<ln l/\(ix l i).Kind=4)
def qbn (_:ZB) (l:List Sign) (_:Bool) (i:Int):Nat:=(ln l-i).toNat
def qf6 (a0 a:List Sign) (i:Int):Prop:=0<=i/\i<=ln a0/\∀ j,0<=j->j<i->ix a0 j=ix a j
def qfe (a0 _:List Sign) (i:Int):Nat:=(ln a0-i).toNat
def qjw (_:ZB) (a:List Page) (_:ZB) (a3:List Page) (i:Int):Prop:=0<=i/\i<=ln a/\∀ j,0<=j->j<i->ix a j=ix a3 j
def qir (_:ZB) (a:List Page) (_:ZB) (_:List Page) (i:Int):Nat:=(ln a-i).toNat
def qjx (_:ZB) (a:List Page) (_:ZB) (a3:List Page) (k i:Int):Prop:=0<=k/\k<=ln (ix a i).Staves/\∀ j,0<=j->j<k->ix (ix a i).Staves j=ix (ix a3 i).Staves j
def qis (_:ZB) (a:List Page) (_:ZB) (_:List Page) (k i:Int):Nat:=(ln (ix a i).Staves-k).toNat
def qjv (a0:List Sign) (i:Int):Prop:=0<=i/\i<=ln a0/\zq (fr a0 i)=zq a0
def qiq (a0:List Sign) (i:Int):Nat:=(ln a0-i).toNat
def kb (l:List Sign) (room:Int) (_:Bool) (i full rest:Int):Prop:=0<=i/\i<=ln l/\full=i/\0<=rest/\rest<=i/\fA l room i rest=fA l room 0 0
def qy (l:List Sign) (_:Int) (_:Bool) (i _ _:Int):Nat:=(ln l-i).toNat
def qky (l:List Sign) (_:Int) (_:Bool) (to i:Int):Prop:=i+1<=to/\to<=ln l/\tT l to=tT l (i+1)
def ql1 (l:List Sign) (_:Int) (_:Bool) (to _:Int):Nat:=(ln l-to).toNat
structure Hold (p:Prop):Prop where
 out:p
def qls (_:ZB) (l:List Sign) (_ _:Int) (i:Int):Prop:=0<=i/\i<=ln l/\qmn (fr l i) i=qra l
def qj2 (_:ZB) (l:List Sign) (_ _:Int) (i:Int):Nat:=(ln l-i).toNat
def qar (nm:ZB) (l:List Sign) (w h:Int) (s:List Sign) (n:ZB) (pages:List Page) (c k:List Sign):Prop:=
 ∃ i,0<=i/\i<=ln l/\s=fr l i/\n=nm/\(c,k)=qcr l i/\bk l w h i [] pages=bk l w h 0 [] []/\ln pages<=i
def qbf (_:ZB) (l:List Sign) (_ _:Int) (_:List Sign) (_:ZB) (pages:List Page) (_ _:List Sign):Nat:=(ln l-ln pages).toNat
def kq (nm:ZB) (l:List Sign) (w h:Int) (s:List Sign) (m:Int) (page:List Staff) (c k:List Sign) (n:ZB) (pages:List Page):Prop:=
 ∃ i,0<=i/\i<=ln l/\s=fr l i/\n=nm/\(c,k)=qcr l i/\m=ln page+1/\m<=h+1/\ln pages<=i/\(1<m->ln pages+1<=i)/\(m=1->i<ln l)/\ln page<=i/\
  (i<ln l->m<=h->bk l w h i page pages=bk l w h 0 [] [])/\(ln l<=i∨h<m->bk l w h i [] (pages++[Page.mk page])=bk l w h 0 [] [])
def qbg (_:ZB) (_:List Sign) (_ h:Int) (_:List Sign) (m:Int) (_:List Staff) (_ _:List Sign) (_:ZB) (_:List Page):Nat:=(h+1-m).toNat
def qa4 (_:ZB) (l:List Sign) (_ _:Int) (j:Int) (c k s u:List Sign):Prop:=Hold (0<=j/\j<=ln u/\(c,k)=qcr l (ln l-ln s+j))
def qfd (_:ZB) (_:List Sign) (_ _:Int) (j:Int) (_ _ _ u:List Sign):Nat:=(ln u-j).toNat
structure Hold2 (p:Prop):Prop where
 get:p
def qjz (_:ZB) (a:List Page) (out:List Staff) (i:Int):Prop:=Hold2 (0<=i/\i<=ln a/\out=qb (upto a i))
def qmg (_:ZB) (a:List Page) (_:List Staff) (i:Int):Nat:=(ln a-i).toNat
def qnl (a0:ZB) (a:List Page) (i:Int) (nm:ZB) (S:List Sign):Prop:=Hold2 (0<=i/\i<=ln (qb a)/\nm=a0/\S=qdr (upto (qb a) i))
def qpl (_:ZB) (a:List Page) (i:Int) (_:ZB) (_:List Sign):Nat:=(ln (qb a)-i).toNat
def qlw (_:ZB) (a:List Page) (a2:Int) (x n:Int):Prop:=Hold2 (0<=n/\n<=ln (qb a)/\0<=x/\x<=a2/\qz5 (fr (qb a) n) n x=qai a a2)
def qnp (_:ZB) (a:List Page) (_:Int) (_ n:Int):Nat:=(ln (qb a)-n).toNat
def qjy (a0:List Sign) (a:Int) (_:Bool) (_:Int) (a4 a5:List Sign) (i:Int):Prop:=Hold2 (0<=i/\i<=ln (upto a0 a)/\∀ j,0<=j->j<i->ix (upto a0 a) j=ix (a4++a5) j)
def qmf (a0:List Sign) (a:Int) (_:Bool) (_:Int) (_ _:List Sign) (i:Int):Nat:=(ln (upto a0 a)-i).toNat
def qa5 (_:ZB) (a:List Page) (x:Int):Prop:=Hold2 (0<=x/\x<=ln (zd a)/\qmn (fr (zd a) x) x=qra (zd a))
def qj5 (_:ZB) (a:List Page) (x:Int):Nat:=(ln (zd a)-x).toNat
def zi (_:ZB) (a:List Page) (x:Int):Prop:=Hold2 (0<=x/\x<=ln (zd a)/\qo7 a (zd a) x=qo7 a (zd a) 0)
def qk (_:ZB) (a:List Page) (x:Int):Nat:=(ln (zd a)-x).toNat
def qas (_:ZB) (a:List Page) (y x:Int):Prop:=Hold2 (x+1<=y/\y<=ln (zd a)/\tT (zd a) y=tT (zd a) (x+1))
def qff (_:ZB) (a:List Page) (y _:Int):Nat:=(ln (zd a)-y).toNat
def j6 (_:ZB) (b:List Page) (a n:Int):Prop:=Hold2 (0<=n/\n<=ln (qb b)/\a=ln (qdr (upto (qb b) n))/\qss (zd b) (fr (qb b) n) n a=qss (zd b) (qb b) 0 0)
def qfg (_:ZB) (a:List Page) (_ n:Int):Nat:=(ln (qb a)-n).toNat
def jk (_:ZB) (a:List Page) (n:Int) (em:Bool) (i:Int) (c k:List Sign):Prop:=Hold2 (0<=i/\i<=ln a/\0<=n/\n<=500 * i/\ln c<=1/\ln k<=1/\qt (upto a i)/\qbv (c,k) n em (fr a i)=qbv ([],[]) 0 false a)
def qc1 (_:ZB) (a:List Page) (_:Int) (_:Bool) (i:Int) (_ _:List Sign):Nat:=(ln a-i).toNat
def qag (_:ZB) (a:List Page) (n j:Int) (c k:List Sign) (em:Bool) (i:Int):Prop:=Hold2 (0<=j/\j<=ln (ix a i).Staves/\0<=n/\n<=500 * i+j/\ln c<=1/\ln k<=1/\(∀ s ∈ upto (ix a i).Staves j,qof s)/\q2u (qd0 (c,k) n j (fr (ix a i).Staves j)) em (fr a (i+1))=qbv ([],[]) 0 false a)
def qio (_:ZB) (a:List Page) (_ j:Int) (_ _:List Sign) (_:Bool) (i:Int):Nat:=(ln (ix a i).Staves-j).toNat
def qbc (_:ZB) (a:List Page) (x:Int) (c k:List Sign) (n:Int) (em:Bool) (i j:Int):Prop:=Hold2 (0<=x/\x<=ln (qnv (ix (ix a i).Staves j))/\ln c<=1/\ln k<=1/\
 q2u (qd0 (qyz (c,k) (fr (qnv (ix (ix a i).Staves j)) x)) (n+1) (j+1) (fr (ix a i).Staves (j+1))) em (fr a (i+1))=qbv ([],[]) 0 false a)
def qip (_:ZB) (a:List Page) (x:Int) (_ _:List Sign) (_:Int) (_:Bool) (i j:Int):Nat:=(ln (qnv (ix (ix a i).Staves j))-x).toNat
def qdk (a0 a a2 a3 a4 x:Int):Prop:=Hold2 (x<=a4-1/\-1<=x/\(a0=3->1<a4->1<=x)/\(a=3->2<a4->2<=x)/\(a2=3->3<a4->3<=x)/\(a3=3->4<a4->4<=x))
def jm (_ _ _ _ _ x:Int):Nat:=(x+1).toNat
def mkM (nm:ZB) (S:List Sign) (m0 m1 m2 m3 p:Int) (o d:Bool):Mk:=⟨nm,S,m0,m1,m2,m3,p,o,d⟩
def qbz (a0:List Int) (i:Int) (nm:ZB) (S:List Sign) (m0 m1 m2 m3 p:Int) (o d:Bool):Prop:=Hold2 (1<=i/\(i<=ln a0∨i=1)/\-4<=p/\p<=12/\ln S<=57/\qfo a0 i (mkM nm S m0 m1 m2 m3 p o d)=qkv a0)
def qgv (a0:List Int) (i:Int) (_:ZB) (_:List Sign) (_ _ _ _ _:Int) (_ _:Bool):Nat:=(ln a0-i).toNat
def qh (a0:List Int) (nm:ZB) (S:List Sign) (m0 m1 m2 m3 p:Int) (o d:Bool) (a:ZB) (g:List Sign) (b c e f h:Int) (j k:Bool) (i:Int):Prop:=
 mkM nm S m0 m1 m2 m3 p o d=qa6 (mkM a g b c e f h j k) (qn (ix a0 i) 1048576)
def qb0 (_:List Int) (j:Int) (nm:ZB) (S:List Sign) (m0 m1 m2 m3 p:Int) (o d:Bool) (a:ZB) (b:List Sign) (c e f g h:Int) (i k:Bool) (n many:Int):Prop:=
 Hold2 (0<=j/\j<=3/\-4<=p/\p<=12/\ln S<=ln b+3/\ln S=ln b+j/\qlz n many j (mkM nm S m0 m1 m2 m3 p o d)=qlz n many 0 (mkM a b c e f g h i k))
def qcc (_:List Int) (j:Int) (_:ZB) (_:List Sign) (_ _ _ _ _:Int) (_ _:Bool) (_:ZB) (_:List Sign) (_ _ _ _ _:Int) (_ _:Bool) (_ _:Int):Nat:=(4-j).toNat
def qiz (a0:List Int) (l:List Sign) (i:Int):Prop:=Hold2 (0<=i/\i<=ln (kp a0).2/\l=qa8 (upto (kp a0).2 i))
def qhk (a0:List Int) (_:List Sign) (i:Int):Nat:=(ln (kp a0).2-i).toNat
theorem zme {p:Prop}:Hold p↔p:=⟨λh=>h.out,λh=>⟨h⟩⟩
def qb9 (s:ZB) (n i:Int):Prop:=0<=i/\i<=ln s/\0<=n/\n<=1099511627776/\qd5 s i n=zb s
def qdb (s:ZB) (_ i:Int):Nat:=(ln s-i).toNat
def acA (a:Int):ZB:=if a = -1 then [98] else []
def acB (a:Int):ZB:=if a=1 then [35] else []
def acC (a:Int):ZB:=if a=2 then [110] else []
def qdl (_ _ _ _:Int) (_:Bool) (_:Int) (_ _:Bool) (_ _ _ _:Int) (_:Bool) (_ _ _ _:Int) (b b0:ZB) (acc:Int):Prop:=Hold (b=b0++acA acc)
def qdm (_ _ _ _:Int) (_:Bool) (_:Int) (_ _:Bool) (_ _ _ _:Int) (_:Bool) (_ _ _ _:Int) (b b0:ZB) (acc:Int):Prop:=Hold (b=b0++acB acc)
def qdn (_ _ _ _:Int) (_:Bool) (_:Int) (_ _:Bool) (_ _ _ _:Int) (_:Bool) (_ _ _ _:Int) (b b0:ZB) (acc:Int):Prop:=Hold (b=b0++acC acc)
def qdo (_ _ _ _:Int) (_:Bool) (_:Int) (_ _:Bool) (_ _ _ _:Int) (_:Bool) (_ _ _ _:Int) (b b0:ZB) (k:Int):Prop:=Hold (b=b0++qhz k)
def qdp (_ _ _ _:Int) (_:Bool) (_:Int) (_ _:Bool) (_ _ _ _:Int) (_:Bool) (_ _ _ _:Int) (b b0:ZB) (o:Bool):Prop:=Hold (b=b0++zp o 126)
def Rng (w:ZB) (i j:Int):Prop:=i<=j/\j<=ln w
def jt (w m:ZB) (i i0:Int):Prop:=Hold (m=(qid w i0).1/\i=(qid w i0).2/\Rng w i0 i/\ln m<=1)
def zg (w:ZB) (i i0:Int):Prop:=Hold (Rng w i0 i/\dgE w i0=dgE w i)
def z7 (w:ZB) (i _:Int):Nat:=(ln w-i).toNat
def qf (w:ZB) (i i0:Int):Prop:=Hold (Rng w i0 i/\i=dgE w i0)
def jh (_:ZB) (b b0 ok:Bool):Prop:=Hold (b=(b0 || !ok))
def qcv (_:ZB) (b b0 ok:Bool):Prop:=Hold (b=(b0 || !ok))
def kf (w:ZB) (k i:Int):Prop:=Hold (0<=k/\k<=8/\qwq w i k=qvk w i)
def qcx (_:ZB) (k _:Int):Nat:=(8-k).toNat
def qca (w:ZB) (i:Int) (bad:Bool) (v:Int):Prop:=Hold (Rng w 0 i/\((bad=false/\i=1/\qvk w 0=some v)∨(bad=true/\qvk w 0=none)))
def zx (w:ZB) (i a i0:Int):Prop:=Hold (Rng w i0 i/\a=(qmb w i0).1/\i=(qmb w i0).2)
def qcw (w:ZB) (i:Int) (bad:Bool) (p a:Int) (c:Bool) (i0:Int) (b:Bool):Prop:=Hold (Rng w i0 i/\p=(qgl w i0).1/\a=(qgl w i0).2.1/\c=(qgl w i0).2.2.1/\bad=(b || !(qgl w i0).2.2.2.1)/\i=(qgl w i0).2.2.2.2)
def j5 (w:ZB) (i k i0:Int):Prop:=Hold (Rng w i0 i/\k=(qml w i0).1/\i=(qml w i0).2)
def qbd (w:ZB) (i:Int) (o:Bool) (i0:Int):Prop:=Hold (Rng w i0 i/\o=(qd9 w i0 126).1/\i=(qd9 w i0 126).2)
def qbe (w:ZB) (i:Int) (bad:Bool) (i0:Int) (a:Bool):Prop:=Hold (Rng w i0 i/\((tk w i0 47=true/\i=i0+1/\bad=a)∨(tk w i0 47=false/\bad=true)))
def jl (w:ZB) (i:Int) (bad:Bool) (k i0:Int):Prop:=Hold (Rng w i0 i/\((bad=false/\i=i0+1/\zar w i0=some k)∨(bad=true/\zar w i0=none)))
def qc (w:ZB) (i:Int):Prop:=Hold (∀ j,1<=j->j<=i->rdK w j=none)
def qlt (a0:ZB) (a:List Page) (t:ZB) (i:Int):Prop:=Hold2 (0<=i/\i<=ln a/\t=((qna++a0)++[10])++qla (upto a i))
def qj3 (_:ZB) (a:List Page) (_:ZB) (i:Int):Nat:=(ln a-i).toNat
def qi0 (a0:ZB) (a:List Page) (t:ZB) (j i:Int):Prop:=Hold2 (0<=j/\j<=ln (ix a i).Staves/\t=(((qna++a0)++[10])++qla (upto a i))++([112,97,103,101,10]++qhy (upto (ix a i).Staves j)))
def qdy (_:ZB) (a:List Page) (_:ZB) (j i:Int):Nat:=(ln (ix a i).Staves-j).toNat
def qlu (_:ZB) (a:List Page) (r:List ZB) (k i j:Int):Prop:=Hold2 (0<=k/\k<=ln (ix (ix a i).Staves j).Signs/\r=[q0z,qu (ix (ix a i).Staves j).Lead]++qe6 (upto (ix (ix a i).Staves j).Signs k))
def qj4 (_:ZB) (a:List Page) (_:List ZB) (k i j:Int):Nat:=(ln (ix (ix a i).Staves j).Signs-k).toNat
def jg (a0:List ZB) (i:Int) (S:List Sign):Prop:=Hold2 (0<=i/\i<=ln (qij a0)/\ln S=i/\qmk (fr (qij a0) i) S=qmk (qij a0) [])
def qaa (a0:List ZB) (i:Int) (_:List Sign):Nat:=(ln (qij a0)-i).toNat
def qhg (t:ZB) (i n:Int) (P:List Page) (Q:List Staff):Prop:=Hold2 (1<=i/\i<=ln (qhw t)/\n=ln P/\ln P<=i/\ln Q<=i/\qw3 (fr (qhw t) i) P Q=qx4 (qhw t))
def qc2 (t:ZB) (i _:Int) (_:List Page) (_:List Staff):Nat:=(ln (qhw t)-i).toNat
theorem zlh {l:List Sign}:∀ {i:Int},0<=i->(qjj l i).1=0->∀ j,i<=j->j<ln l->qo2 l j=0:=by
 intro i
 fun_induction qjj l i with
 | case1 i h a=>intro _ b;exact absurd b a
 | case2 i h a d=>
  intro g b j e c;by_cases f:j=i
  .subst f;exact Decidable.not_not.1 a
  .exact d (by omega) b j (by omega) c
 | case3 i h=>intro _ _ j e c;omega
theorem zhp {nm:ZB} {l:List Sign} (h:(zr nm l).1=0):qau nm=true/\ln l<=400/\∀ s ∈ l,kh s=0:=by
 unfold zr at h;split at h
 .cases h
 .rename_i d;split at h
  .cases h
  .rename_i f;refine ⟨by simpa using d,by omega,λs e=>?_⟩;obtain ⟨i,a,b,rfl⟩:=q56 e;have:=zlh (zK _) h i a b;unfold qo2 at this;by_cases c:kh (ix l i)=0
   .exact c
   .rw [zT c] at this;exact absurd this c
def VF (f:List Sign×List Sign):Prop:=(∀ x ∈ f.1++f.2,kh x=0)/\ln f.1<=1/\ln f.2<=1
def q42 (s:Staff):Prop:=ln s.Signs<=60/\0<=s.Lead/\(s.Lead<=2/\s.Lead<ln s.Signs)/\∀ x ∈ s.Signs,kh x=0
def zus (s:Staff):Prop:=-4<=s.Custos/\s.Custos<=12/\(s.Catch=false->s.Custos=0)
theorem zpi {f:List Sign×List Sign} {s:Sign} (h:VF f) (b:kh s=0):VF (jq f.1 f.2 s):=by
 refine ⟨λx a=>?_,qt8 h.2.1 h.2.2⟩;unfold jq at a;split at a
 .rcases List.mem_append.1 a with a | a
  .rw [List.mem_singleton.1 a];exact b
  .exact h.1 x (List.mem_append.2 (.inr a))
 .split at a
  .rcases List.mem_append.1 a with a | a
   .exact h.1 x (List.mem_append.2 (.inl a))
   .rw [List.mem_singleton.1 a];exact b
  .exact h.1 x a
theorem za0:∀ {l:List Sign} {f:List Sign×List Sign},VF f->(∀ x ∈ l,kh x=0)->VF (qyz f l)
 | [],_,h,_=>h
 | s::l,_,h,a=>za0 (l:=l) (zpi h (a s zC)) (λx b=>a x (zG _ b))
theorem zc8 {s:Staff} {c k:List Sign} (h:jf s c k=0) (d:VF (c,k)) (f:∀ x ∈ qnv s,kh x=0):q42 s:=by
 unfold jf at h;split at h
 .cases h
 .split at h
  .cases h
  .split at h
   .cases h
   .split at h
    .rename_i e;have b:s.Lead<=2:=by
      have q:=qhj (l:=s.Signs) (i:=s.Lead) (by omega) (by omega);rw [e,qm] at q;have:=d.2;dsimp only at this;omega
     refine ⟨by omega,by omega,⟨b,by omega⟩,λx a=>?_⟩;have:s.Signs=upto s.Signs s.Lead++fr s.Signs s.Lead:=(List.take_append_drop _ _).symm;rw [this,e] at a;rcases List.mem_append.1 a with a | a
     .exact d.1 x a
     .exact f x a
    .cases h
theorem q9z:∀ {l:List Staff} {f:List Sign×List Sign} {n j:Int},(qd0 f n j l).1=0->VF f->(∀ s ∈ l,∀ x ∈ qnv s,kh x=0)->(l=[]∨j+ln l<=12)/\(∀ s ∈ l,q42 s)/\VF (qd0 f n j l).2.1
 | [],f,n,j,_,c,_=>⟨.inl rfl,λs a=>(by cases a),c⟩
 | s::l,f,n,j,h,c,d=>by
  simp only [qd0] at h ⊢;by_cases e:12<=j
  .rw [zT e] at h;cases h
  .rw [zF e] at h ⊢;by_cases a:jf s f.1 f.2≠0
   .rw [zT a] at h;exact absurd h a
   .rw [zF a] at h ⊢;have a:=Decidable.not_not.1 a;have g:=d s zC;obtain ⟨i,k,m⟩:=q9z h (za0 c g) (λs a=>d s (zG _ a));refine ⟨.inr ?_,λo b=>?_,m⟩
    .rw [kk];rcases i with rfl | i
     .simp only [qfp];omega
     .omega
    .rcases zD.1 b with rfl | b
     .exact zc8 a c g
     .exact k o b
theorem qx7:∀ {g:List Page} {f:List Sign×List Sign} {n:Int} {e:Bool},(qbv f n e g).1=0->VF f->(∀ p ∈ g,∀ s ∈ p.Staves,∀ x ∈ qnv s,kh x=0)->∀ p ∈ g,ln p.Staves<=12/\∀ s ∈ p.Staves,q42 s
 | [],_,_,_,_,_,_,p,a=>by cases a
 | p0::g,f,n,e,h,i,d,p,a=>by
  simp only [qbv] at h;by_cases b:p0.Staves=[]
  .rw [zT b] at h;rcases zD.1 a with rfl | a
   .rw [b];exact ⟨by decide,λs j=>by cases j⟩
   .exact qx7 h i (λp a=>d p (zG _ a)) p a
  .rw [zF b] at h;by_cases c:(qd0 f n 0 p0.Staves).1≠0
   .rw [zT c] at h;exact absurd h c
   .rw [zF c] at h;obtain ⟨k,l,m⟩:=q9z (Decidable.not_not.1 c) i (d p0 zC);rcases zD.1 a with rfl | a
    .exact ⟨k.elim (λq=>absurd q b) (λq=>by omega),l⟩
    .exact qx7 h m (λp a=>d p (zG _ a)) p a
theorem q71:∀ {l:List Sign},(∀ x ∈ l,kh x=0)->-4<=(zq l).2/\(zq l).2<=12/\((zq l).1=false->(zq l).2=0)
 | [],_=>⟨by decide,by decide,λ_=>rfl⟩
 | s::l,h=>by
  simp only [zq];by_cases c:s.Kind=1∨s.Kind=4
  .rw [zT c];have a:=h s zC;unfold kh at a;split at a
   .cases a
   .split at a
    .cases a
    .split at a
     .cases a
     .split at a
      .cases a
      .rename_i b;have b:=Decidable.not_not.1 b;have:=b.2.1;refine ⟨?_,?_,λh=>by cases h⟩<;>show _<;>rcases this with q | q<;>first | omega | (exfalso;omega)
  .rw [zF c];exact q71 λx d=>h x (zG _ d)
theorem zd6 {l:List Sign} (d:∀ x ∈ l,kh x=0):∀ {r:List Staff} {n a:Int},(qss l r n a).1=0->∀ s ∈ r,zus s
 | [],_,_,_,s,b=>by cases b
 | f::r,n,a,h,s,b=>by
  simp only [qss] at h;split at h
  .rename_i c;rcases zD.1 b with rfl | b
   .have:=q71 (l:=fr l (a+(ln s.Signs-s.Lead))) λx e=>d x (List.mem_of_mem_drop e);refine ⟨by rw [c.2];exact this.1,by rw [c.2];exact this.2.1,λh=>?_⟩;rw [c.1] at h;rw [c.2];exact this.2.2 h
   .exact zd6 d h s b
  .cases h
theorem qh3 {nm:ZB} {g:List Page} (h:(jr nm g).1=0):(qau nm=true/\ln (zd g)<=400)/\∀ p ∈ g,ln p.Staves<=12/\∀ s ∈ p.Staves,q42 s/\zus s:=by
 unfold jr at h;split at h
 .cases h
 .rename_i n;split at h
  .rename_i c;exact absurd h c
  .rename_i c;split at h
   .cases h
   .unfold qck at h;split at h
    .rename_i d;exact absurd h d
    .rename_i d;obtain ⟨k,l,i⟩:=zhp (Decidable.not_not.1 d);split at h
     .cases h
     .split at h
      .rename_i m;exact absurd h m
      .have e:=zd6 i h;have j:=qx7 (Decidable.not_not.1 c) ⟨λx f=>(by cases f),by decide,by decide⟩ λp a s b x f=>i x (List.mem_flatMap.2 ⟨s,List.mem_flatMap.2 ⟨p,a,b⟩,f⟩);exact ⟨⟨k,l⟩,λp a=>⟨(j p a).1,λs b=>⟨(j p a).2 s b,e s (List.mem_flatMap.2 ⟨p,a,b⟩)⟩⟩⟩
def no (c:Int) (s:ZB):Prop:=∀ b ∈ s,(b.toNat:Int)≠c
theorem qzz {c:Int} {s t:ZB} (h:no c s) (a:no c t):no c (s++t):=λb d=>(List.mem_append.1 d).elim (h b) (a b)
def qwy (ls:List ZB):ZB:=ls.flatMap λl=>l++[10]
theorem q4b:∀ {ls:List ZB},(∀ l ∈ ls,no 10 l)->splitI 10 (qwy ls)=ls++[[]]
 | [],_=>rfl
 | l::ls,h=>by
  have e:qwy (l::ls)=l++10::qwy ls:=by simp [qwy]
  rw [e,qr8 (by decide) (h l zC),q4b λx a=>h x (zG _ a)];rfl
theorem q0u:∀ {a:List ZB},a≠[]->(∀ w ∈ a,no 32 w)->splitI 32 (qaz a [32])=a
 | [],h,_=>absurd rfl h
 | [x],_,h=>qwm (h x zC)
 | x::y::l,_,h=>by
  have e:qaz (x::y::l) [32]=x++32::qaz (y::l) [32]:=by simp [qaz]
  rw [e,qr8 (by decide) (h x zC),q0u (by simp) λw b=>h w (zG _ b)]
theorem ze9:∀ {c:List ZB},(∀ w ∈ c,no 10 w)->no 10 (qaz c [32])
 | [],_=>λb a=>(by cases a)
 | [x],h=>h x zC
 | x::y::l,h=>by
  have e:qaz (x::y::l) [32]=x++[32]++qaz (y::l) [32]:=rfl;rw [e];exact qzz (qzz (h x zC) (λb a=>by rw [List.mem_singleton.1 a];decide)) (ze9 λw d=>h w (zG _ d))
def qr4 (s:Staff):ZB:=qaz (qhu s) [32]
def z0l (p:Page):List (ZB):=zcr::p.Staves.map qr4
def qfn (g:List Page):List (ZB):=g.flatMap z0l
theorem q98:∀ {l:List Staff},qhy l=qwy (l.map qr4)
 | []=>rfl
 | s::l=>by
  have e:qhy (s::l)=qu8 s++qhy l:=rfl;rw [e,q98];rfl
theorem zfl {a b:List ZB}:qwy (a++b)=qwy a++qwy b:=by simp [qwy]
theorem q90:∀ {g:List Page},qla g=qwy (qfn g)
 | []=>rfl
 | p::g=>by
  have e:qla (p::g)=([112,97,103,101,10]++qhy p.Staves)++qla g:=rfl;have a:qfn (p::g)=(zcr::p.Staves.map qr4)++qfn g:=rfl;rw [e,q90,q98,a,zfl];rfl
def Rd (s:Staff):Prop:=zz (qhu s)=(s,true)/\∀ w ∈ qhu s,no 10 w/\no 32 w
theorem zxv (s:Staff):qhu s≠[]:=by unfold qhu;simp
theorem zw4 (s:Staff):qr4 s≠zcr:=by
 intro h;have b:(qr4 s).head? = some 115:=by
  unfold qr4 qhu;cases c:(([qu s.Lead]++qe6 s.Signs)++(if s.Catch=true then [[126]++qu s.Custos] else [])) with
  | nil=>simp at c
  | cons a l=>
   have e:([q0z,qu s.Lead]++qe6 s.Signs)++(if s.Catch=true then [[126]++qu s.Custos] else [])=q0z::a::l:=by rw [<-c];rfl
   rw [e];rfl
 rw [h] at b;cases b
theorem q37 {s:Staff} (h:Rd s):splitI 32 (qr4 s)=qhu s:=q0u (zxv s) λw a=>(h.2 w a).2
theorem zw5 {s:Staff} (h:Rd s):no 10 (qr4 s):=ze9 λw a=>(h.2 w a).1
theorem q0m:∀ {g:List Page} {l:List Staff} {P:List Page} {Q:List Staff},(∀ s ∈ l,Rd s)->(∀ p ∈ g,∀ s ∈ p.Staves,Rd s)->qw3 (l.map qr4++qfn g) P Q=some ((P++[Page.mk (Q++l)])++g)
 | [],[],P,Q,_,_=>by simp [qw3,qfn]
 | p::g,[],P,Q,_,a=>by
  have e:([]:List Staff).map qr4++qfn (p::g)=zcr::(p.Staves.map qr4++qfn g):=rfl;rw [e,qw3,zT rfl,q0m (g:=g) (l:=p.Staves) (a p zC) λd f=>a d (zG _ f)];simp
 | g,s::l,P,Q,b,a=>by
  have c:=b s zC;have e:(s::l).map qr4++qfn g=qr4 s::(l.map qr4++qfn g):=rfl;rw [e,qw3,zF (zw4 s),q37 c,c.1,zT rfl,q0m (g:=g) (l:=l) (λi h=>b i (zG _ h)) a];simp
theorem q7t {g:List Page} (a:∀ p ∈ g,∀ s ∈ p.Staves,Rd s):qx4 (qfn g)=some g:=by
 cases g with
 | nil=>rfl
 | cons p g=>
  have e:qfn (p::g)=zcr::(p.Staves.map qr4++qfn g):=rfl;rw [e,qx4,zT rfl,q0m (a p zC) λb c=>a b (zG _ c)];rfl
theorem zqd (nm:ZB) (g:List Page):qli nm g=qwy (((qna++nm)::qfn g)++[[101,110,100]]):=by
 unfold qli;rw [q90,zfl];show _=((qna++nm++[10])++qwy (qfn g))++_;rfl
theorem zsv {g:List Page} (b:∀ p ∈ g,∀ s ∈ p.Staves,Rd s):∀ l ∈ qfn g,no 10 l:=by
 intro l a;obtain ⟨p,c,a⟩:=List.mem_flatMap.1 a;rcases zD.1 a with rfl | a
 .unfold no;decide
 .obtain ⟨s,d,rfl⟩:=List.mem_map.1 a;exact zw5 (b p c s d)
theorem q9d {nm:ZB} {g:List Page} (b:no 10 nm) (c:∀ p ∈ g,∀ s ∈ p.Staves,Rd s):qib (qli nm g)=(((qna++nm)::qfn g)++[[101,110,100]])++[[]]:=by
 unfold qib;rw [zqd,q4b];intro l a;rcases List.mem_append.1 a with a | a
 .rcases zD.1 a with rfl | a
  .exact qzz (by unfold no;decide) b
  .exact zsv c l a
 .rw [List.mem_singleton.1 a];unfold no;decide
theorem q7s {nm:ZB} {g:List Page} (b:no 10 nm) (c:∀ p ∈ g,∀ s ∈ p.Staves,Rd s):qhw (qli nm g)=qfn g/\ln (qib (qli nm g))=ln (qfn g)+3/\ix (qib (qli nm g)) 0=qna++nm:=by
 have e:=q9d b c;have a:ln (qib (qli nm g))=ln (qfn g)+3:=by rw [e];simp only [ln,List.length_append,List.length_cons,List.length_nil];omega
 refine ⟨?_,a,by rw [e];rfl⟩;unfold qhw;rw [a,e];have d:(ln (qfn g)+3-2).toNat=(qfn g).length+1:=by simp only [ln];omega
 unfold sub;rw [d];simp [List.take_append]
theorem zoc {nm:ZB} {g:List Page} (f:(jr nm g).1=0) (k:ln (qli nm g)<=20000) (h:no 10 nm) (c:∀ p ∈ g,∀ s ∈ p.Staves,Rd s):qaw nm g=(qli nm g,0)/\z8 (qli nm g)=((nm,g),(0,0)):=by
 have d:qaw nm g=(qli nm g,0):=by unfold qaw;rw [zF (by simp [f]),zF (by omega)]
 obtain ⟨i,l,e⟩:=q7s h c;have m:=ln_nonneg nm;have n1:=ln_nonneg (qfn g);have a:qbx (qna++nm) qna=(nm,true):=by
  unfold qbx;have n:ln qna=5:=rfl;have j:upto (qna++nm) (ln qna)=qna:=rfl;rw [zT ⟨by rw [qm];omega,j⟩];rfl
 refine ⟨d,?_⟩;unfold z8;have b:nmK (qli nm g)=nm:=by unfold nmK;rw [e,a]
 rw [zF (by omega),e,a,zF (by simp),zF (by omega),i,q7t c];simp only [zlx];rw [b,d,zT ⟨rfl,rfl⟩]
inductive Units:List Sign->Prop
 | nil:Units []
 | one {s:Sign} {l:List Sign} (h:s.Kind≠4) (hl:Units l):Units (s::l)
 | two {a b:Sign} {l:List Sign} (ha:a.Kind=4) (hb:b.Kind=4) (ha':a.Last=false) (hb':b.Last=true) (hl:Units l):Units (a::b::l)
 | three {a b c:Sign} {l:List Sign} (ha:a.Kind=4) (hb:b.Kind=4) (hc:c.Kind=4) (ha':a.Last=false) (hb':b.Last=false) (hc':c.Last=true) (hl:Units l):Units (a::b::c::l)
theorem Units.app {l m:List Sign} (h:Units l) (hm:Units m):Units (l++m):=by
 induction h with
 | nil=>exact hm
 | one h _ g=>exact .one h g
 | two a b c d _ g=>exact .two a b c d g
 | three a b c d e f _ g=>exact .three a b c d e f g
theorem Units.snoc {l:List Sign} {s:Sign} (h:Units l) (a:s.Kind≠4):Units (l++[s]):=h.app (.one a .nil)
theorem Units.qa8 {l:List Sign} (h:Units l):Units (qa8 l):=by
 induction h with
 | nil=>exact .nil
 | @one s l h _ f=>
  by_cases k:s.Kind=11
  .rw [show Go.Proofs.YtpdphcekmhajdaaGreatDoor.qa8 (s::l)=Go.Proofs.YtpdphcekmhajdaaGreatDoor.qa8 l by simp [Go.Proofs.YtpdphcekmhajdaaGreatDoor.qa8,k]];exact f
  .rw [show Go.Proofs.YtpdphcekmhajdaaGreatDoor.qa8 (s::l)=s::Go.Proofs.YtpdphcekmhajdaaGreatDoor.qa8 l by simp [Go.Proofs.YtpdphcekmhajdaaGreatDoor.qa8,k]];exact .one h f
 | @two a b l g i d e _ f=>
  rw [show Go.Proofs.YtpdphcekmhajdaaGreatDoor.qa8 (a::b::l)=a::b::Go.Proofs.YtpdphcekmhajdaaGreatDoor.qa8 l by simp [Go.Proofs.YtpdphcekmhajdaaGreatDoor.qa8,g,i]];exact .two g i d e f
 | @three a b c l g i m d e j _ f=>
  rw [show Go.Proofs.YtpdphcekmhajdaaGreatDoor.qa8 (a::b::c::l)=a::b::c::Go.Proofs.YtpdphcekmhajdaaGreatDoor.qa8 l by simp [Go.Proofs.YtpdphcekmhajdaaGreatDoor.qa8,g,i,m]];exact .three g i m d e j f
def Good (s:Sign):Prop:=kh s=0
theorem qlp {s:Sign} (g:1<=s.Kind) (h:s.Kind<=12) (c:qk4 s) (d:s.Kind=5->qe0 s.MensMax s.MensMod s.MensTem s.MensPro=0) (e:qei s) (f:s.Oblique=false):Good s:=by
 unfold Good kh;rw [zF (by omega),zF (by simp [c]),zF (by rintro ⟨a,b⟩;exact b (d a)),zF (by simp [e]),zF (by simp [f])]
theorem zsb (n:Int):(qzv n=2∨qzv n=3)/\(qzw n=2∨qzw n=3)/\(qrz n=2∨qrz n=3)/\(qzx n=2∨qzx n=3):=by
 have h:=qhl (a:=n) (show (0:Int)<16 by decide);generalize c:qn n 16=k at h;have b:k=0∨k=1∨k=2∨k=3∨k=4∨k=5∨k=6∨k=7∨k=8∨k=9∨k=10∨k=11∨k=12∨k=13∨k=14∨k=15:=by omega
 unfold qzv qzw qrz qzx;rw [c];rcases b with b | b | b | b | b | b | b | b | b | b | b | b | b | b | b | b<;>subst b<;>decide
theorem qzy (n:Int) (st:Bool):Good (qtj n st):=by
 have h:=zsb n;refine qlp (by simp [qtj]) (by simp [qtj]) ?_ (λ_=>?_) ?_ rfl
 .simp [qk4,qtj]
 .exact zT h
 .simp [qei,qtj]
theorem ix3 {a b c:Int} {k:Int} (h:0<=k/\k<3):ix [a,b,c] k=a∨ix [a,b,c] k=b∨ix [a,b,c] k=c:=by
 have:k=0∨k=1∨k=2:=by omega
 rcases this with h | h | h<;>subst h
 .exact .inl rfl
 .exact .inr (.inl rfl)
 .exact .inr (.inr rfl)
theorem ix2 {a b:Int} {k:Int} (h:0<=k/\k<2):ix [a,b] k=a∨ix [a,b] k=b:=by
 have:k=0∨k=1:=by omega
 rcases this with h | h<;>subst h
 .exact .inl rfl
 .exact .inr rfl
theorem q2t {t c:Int} (a:t=0∨t=3∨t=4) (b:1<=c/\c<=5):Good (Sign.mk 7 0 0 0 false 0 false false 0 0 0 0 false 0 0 t c):=
 qlp (by dsimp only;decide) (by dsimp only;decide) (by simp [qk4]) (λh=>by simp at h) (by simp [qei];omega) rfl
theorem zi0 {a b:Int} (c:1<=a/\a<=4) (d:1<=b/\b<=4):Good (Sign.mk 6 0 0 0 false 0 false false 0 0 0 0 false a b 0 0):=
 qlp (by dsimp only;decide) (by dsimp only;decide) (by simp [qk4]) (λh=>by simp at h) (by simp [qei];omega) rfl
theorem zmo {a:Int} (b:0<=a/\a<=2):Good (Sign.mk 8 0 0 0 false 0 false false 0 0 0 0 false a 0 0 0):=
 qlp (by dsimp only;decide) (by dsimp only;decide) (by simp [qk4]) (λh=>by simp at h) (by simp [qei];omega) rfl
theorem qyj {a:Int} (b:2<=a/\a<=4):Good (Sign.mk 10 0 0 0 false 0 false false 0 0 0 0 false a 0 0 0):=
 qlp (by dsimp only;decide) (by dsimp only;decide) (by simp [qk4]) (λh=>by simp at h) (by simp [qei];omega) rfl
theorem qua {k:Int} (h:k=3∨k=9∨k=11∨k=12):Good (Sign.mk k 0 0 0 false 0 false false 0 0 0 0 false 0 0 0 0):=by
 rcases h with h | h | h | h<;>subst h<;>unfold Good<;>decide
theorem zi2 {v:Int} (h:2<=v/\v<=7):Good (qr3 v):=
 qlp (by simp [qr3]) (by simp [qr3]) (by simp [qk4,qr3]) (λh=>by simp [qr3] at h) (by simp [qei,qr3];omega) rfl
theorem zig {v n p:Int} (h:2<=v/\v<=7) (c:-4<=p/\p<=12) (a:0<=n):Good (qz0 v n p):=by
 have b:=qak (qco a (show (0:Int)<5 by decide)).1 (show (0:Int)<7 by decide);have d:-1<=ix [0,0,0,0,(-1:Int),1,2] (Int.tmod (Int.tdiv n 5) 7)/\ix [0,0,0,0,(-1:Int),1,2] (Int.tmod (Int.tdiv n 5) 7)<=2:=by
  generalize Int.tmod (Int.tdiv n 5) 7=k at b;have:k=0∨k=1∨k=2∨k=3∨k=4∨k=5∨k=6:=by omega
  rcases this with h | h | h | h | h | h | h<;>subst h<;>decide
 exact qlp (by simp [qz0]) (by simp [qz0]) (by simp [qk4,qz0]) (λh=>by simp [qz0] at h) (by simp [qei,qz0];omega) rfl
theorem qpf {n many j p:Int} (a:-4<=p/\p<=12):Good (q5z n many j p):=
 qlp (by simp [q5z]) (by simp [q5z]) (by simp [qk4,q5z]) (λh=>by simp [q5z] at h) (by simp [qei,q5z];omega) rfl
structure MkOk (x:Mk):Prop where
 u:Units x.S
 g:∀ s ∈ x.S,Good s
 p:-4<=x.place/\x.place<=12
theorem qg7 {l:List Sign} {s:Sign} (h:∀ s ∈ l,Good s) (b:Good s):∀ t ∈ l++[s],Good t:=by
 intro t a;rcases List.mem_append.1 a with a | a
 .exact h t a
 .rw [List.mem_singleton.1 a];exact b
theorem MkOk.snoc {x y:Mk} {s:Sign} (h:MkOk x) (a:Good s) (b:s.Kind≠4) (he:y.S=x.S++[s]) (c:-4<=y.place/\y.place<=12):MkOk y:=
 ⟨by rw [he];exact h.u.snoc b,by rw [he];exact qg7 h.g a,c⟩
theorem znr {x:Mk} {n:Int} (h:MkOk x) (d:0<=n):MkOk (qgk x n):=by
 have c:=(qco d (show (0:Int)<6 by decide)).1;have e:=(qco d (show (0:Int)<24 by decide)).1;have f:=(qco d (show (0:Int)<18 by decide)).1;unfold qgk;split
 .split
  .exact h.snoc (qzy _ _) (show (5:Int)≠4 by decide) rfl h.p
  .exact h
 .split
  .split
   .have a:=qak c (show (0:Int)<4 by decide);have b:=qak e (show (0:Int)<4 by decide);exact h.snoc (zi0 ⟨by omega,by omega⟩ ⟨by omega,by omega⟩) (show (6:Int)≠4 by decide) rfl h.p
   .exact h
  .split
   .have a:=qak c (show (0:Int)<3 by decide);have b:=qak f (show (0:Int)<5 by decide);exact h.snoc (q2t (ix3 a) ⟨by omega,by omega⟩) (show (7:Int)≠4 by decide) rfl h.p
   .split
    .have a:=qak c (show (0:Int)<3 by decide);exact h.snoc (zmo ⟨by omega,by omega⟩) (show (8:Int)≠4 by decide) rfl h.p
    .split
     .have a:=ix2 (a:=11) (b:=12) (qak c (show (0:Int)<2 by decide));exact h.snoc (qua (.inr (.inr a))) (show ix [11,12] _≠4 by rcases a with a | a<;>rw [a]<;>decide) rfl h.p
     .split
      .have a:=qak c (show (0:Int)<3 by decide);exact h.snoc (qyj (a:=2+Int.tmod (Int.tdiv n 6) 3) ⟨by omega,by omega⟩) (show (10:Int)≠4 by decide) rfl h.p
      .exact h.snoc (qua (.inr (.inl rfl))) (show (9:Int)≠4 by decide) rfl h.p
theorem zv9 {x:Mk} {n:Int} (h:MkOk x) (e:0<=n):MkOk (zr4 x n):=by
 have a:=qak e (show (0:Int)<2 by decide);have b:=qak (qco e (show (0:Int)<2 by decide)).1 (show (0:Int)<5 by decide);have c:-4<=2+Int.tmod (Int.tdiv n 2) 5/\2+Int.tmod (Int.tdiv n 2) 5<=12:=⟨by omega,by omega⟩;unfold zr4;generalize 2+Int.tmod (Int.tdiv n 2) 5=f at c;have d:2+Int.tmod n 2=2∨2+Int.tmod n 2=3:=by omega
 rcases d with d | d
 .rw [d,qi4 (by decide),qi4 (by decide),qqd (by decide)];refine ⟨?_,?_,qi3⟩
  .show Units ((x.S++[_])++[_]);rw [List.append_assoc];exact h.u.app (.two rfl rfl rfl rfl .nil)
  .exact qg7 (qg7 h.g (qpf c)) (qpf qi3)
 .rw [d,qi4 (by decide),qi4 (by decide),qi4 (by decide),qqd (by decide)];refine ⟨?_,?_,qi3⟩
  .show Units (((x.S++[_])++[_])++[_]);rw [List.append_assoc,List.append_assoc];exact h.u.app (.three rfl rfl rfl rfl rfl rfl .nil)
  .exact qg7 (qg7 (qg7 h.g (qpf c)) (qpf qi3)) (qpf qi3)
theorem zte {x:Mk} {n:Int} (h:MkOk x) (b:0<=n):MkOk (qa6 x n):=by
 have d:=(qco b (show (0:Int)<16 by decide)).1;have a:=(qco b (show (0:Int)<96 by decide)).1;have v:=qak d (show (0:Int)<6 by decide);unfold qa6;split
 .exact znr h d
 .split
  .exact zv9 h d
  .split
   .exact h.snoc (zi2 (v:=2+Int.tmod (Int.tdiv n 16) 6) ⟨by omega,by omega⟩) (show (2:Int)≠4 by decide) rfl h.p
   .split
    .split
     .exact h.snoc (qua (.inl rfl)) (show (3:Int)≠4 by decide) rfl h.p
     .exact h
    .exact h.snoc (zig (v:=2+Int.tmod (Int.tdiv n 16) 6) ⟨by omega,by omega⟩ qqo a) (show (1:Int)≠4 by decide) rfl qqo
theorem zt4 {l:List Int} {i:Int} {x:Mk} (h:MkOk x):MkOk (qfo l i x)/\(qfo l i x).nm=x.nm/\ln x.S<=ln (qfo l i x).S:=by
 by_cases c:i<ln l/\ln x.S<55
 .have d:=(qhl (a:=ix l i) (show (0:Int)<1048576 by decide)).1;have a:=zt4 (l:=l) (i:=i+1) (zte h d);have b:=qo5 (x:=x) ⟨h.p.1,h.p.2⟩ d;rw [qui c.1 c.2];refine ⟨a.1,?_,by omega⟩;rw [a.2.1];unfold qa6;split
  .unfold qgk q13;(repeat' split)<;>rfl
  .split
   .unfold zr4;have:∀ (n many j:Int) (y:Mk),(qlz n many j y).nm=y.nm:=by
     intro n many j y;by_cases f:0<=many-j
     .generalize g:(many-j).toNat=k
      induction k generalizing j y with
      | zero=>rw [qqd (by omega)]
      | succ k e=>rw [qi4 (by omega),e _ _ (by omega) (by omega)]
     .rw [qqd (by omega)]
    rw [this]
   .split
    .rfl
    .split
     .split<;>rfl
     .rfl
 .rw [qy3 (by omega)];exact ⟨h,rfl,zK _⟩
 termination_by (ln l-i).toNat
 decreasing_by omega
theorem zla (n:Int) (d:0<=n):MkOk (q48 n):=by
 have a:=ix3 (a:=0) (b:=4) (c:=3) (qak (qco d (show (0:Int)<320 by decide)).1 (show (0:Int)<3 by decide));refine ⟨?_,?_,⟨show (-4:Int)<=4 by decide,show (4:Int)<=12 by decide⟩⟩
 .exact .one (show (7:Int)≠4 by decide) (.one (show (5:Int)≠4 by decide) .nil)
 .exact qg7 (qg7 (λs h=>by cases h) (q2t (by omega) (by decide))) (qzy _ _)
theorem q9b {k:Int} (h:97<=k/\k<=122):qau [UInt8.ofNat k.toNat]=true:=by
 have e:((UInt8.ofNat k.toNat).toNat:Int)=k:=by
  rw [UInt8.toNat_ofNat'];omega
 have a:bx [UInt8.ofNat k.toNat] 0=k:=e;simp only [qau,qq2,a,qtf,List.all_cons,List.all_nil,e,ln,List.length_singleton];simp;omega
theorem qwa {l:List Sign} {s:Sign} (h:s ∈ qa8 l):s ∈ l/\s.Kind≠11:=by
 have:=List.mem_filter.1 h;exact ⟨this.1,by simpa using this.2⟩
structure PartOk (nm:ZB) (l:List Sign):Prop where
 name:qau nm=true
 u:Units l
 g:∀ s ∈ l,Good s
 t:∀ s ∈ l,s.Kind≠11
 n:ln l<=58
theorem zif (l:List Sign):ln (qa8 l)<=ln l:=by
 have:=List.length_filter_le (λs:Sign=>!decide (s.Kind=11)) l;simp only [ln,qa8];omega
theorem zr8 (b:List Int):PartOk (qk6 b).1 (qk6 b).2:=by
 have e:=qhl (a:=atI b 0) (show (0:Int)<1048576 by decide);have h:=zt4 (l:=b) (i:=1) (zla _ e.1);have f:=quh (l:=b) (i:=1) (x:=q48 (qn (atI b 0) 1048576)) ⟨show (-4:Int)<=4 by decide,show (4:Int)<=12 by decide⟩ (by show ln [_,_]<=57;simp [ln]);have c:Units (kp b).2/\(∀ s ∈ (kp b).2,Good s)/\ln (kp b).2<=58/\(kp b).1=(qkv b).nm:=by
  unfold kp;split
  .refine ⟨h.1.u.snoc (show (10:Int)≠4 by decide),qg7 h.1.g (qyj (by decide)),?_,rfl⟩;show ln (_++[_])<=58;rw [qb5];have:ln (qkv b).S<=57:=f.2.1;omega
  .exact ⟨h.1.u,h.1.g,by have:ln (qkv b).S<=57:=f.2.1;show ln (qkv b).S<=58;omega,rfl⟩
 refine ⟨?_,c.1.qa8,λs d=>c.2.1 s (qwa d).1,λs d=>(qwa d).2,by have:=zif (kp b).2;have:=c.2.2.1;show ln (qa8 _)<=58;omega⟩;show qau (kp b).1=true;rw [c.2.2.2];show qau (qfo b 1 _).nm=true;rw [h.2.1];have:=qak (qco e.1 (show (0:Int)<16 by decide)).1 (show (0:Int)<20 by decide);exact q9b ⟨by omega,by omega⟩
theorem qvh {l:List Sign} {i:Int} (w:0<=i) (hi:i<ln l) (h:Units (fr l i)) :
  ((ix l i).Kind≠4/\Units (fr l (i+1)))∨
  ((ix l i).Kind=4/\(ix l i).Last=false/\i+1<ln l/\(ix l (i+1)).Kind=4/\(ix l (i+1)).Last=true/\Units (fr l (i+2)))∨
  ((ix l i).Kind=4/\(ix l i).Last=false/\i+2<ln l/\(ix l (i+1)).Kind=4/\(ix l (i+1)).Last=false/\(ix l (i+2)).Kind=4/\(ix l (i+2)).Last=true/\Units (fr l (i+3))):=by
 have o:=qat w hi;have g:∀ {k:Int} {a:Sign} {m:List Sign},0<=k->fr l k=a::m->k<ln l:=by
  intro k a m u v;by_cases x:k<ln l
  .exact x
  .rw [qhb (by omega)] at v;cases v
 generalize y:fr l i=m at h o;cases h with
 | nil=>rw [o] at y;cases o
 | one u p=>
  injection o with a b
  subst a b;exact .inl ⟨u,p⟩
 | two r s j n p=>
  injection o with a b
  have q:=g (by omega) b.symm;rw [qat (by omega) q] at b;injection b with c d
  rw [show i+1+1=i+2 by omega] at d;subst a c d;exact .inr (.inl ⟨r,j,q,s,n,p⟩)
 | three r s z j n t p=>
  injection o with a b
  have q:=g (by omega) b.symm;rw [qat (by omega) q] at b;injection b with c d
  have A:=g (by omega) d.symm;rw [qat (by omega) A] at d;injection d with e f
  rw [show i+1+1=i+2 by omega] at e f;rw [show i+2+1=i+3 by omega] at f;subst a c e f;exact .inr (.inr ⟨r,j,by omega,s,n,z,t,p⟩)
theorem q5s {l:List Sign} {i t:Int} (h0:0<=t) (ht:tT l (i+1)=t) (hu:Units (fr l t)):t<=gE l i/\gE l i<=t+1/\Units (fr l (gE l i))/\(∀ x,t<=x->x<gE l i->(ix l x).Kind=3):=by
 unfold gE;rw [ht];split
 .rename_i hd;rcases qvh h0 hd.1 hu with h | h | h
  ·exact ⟨by omega, Int.le_refl _, h.2, fun x a b => by have : x = t := by omega
                                                        rw [this];exact hd.2⟩
  .omega
  .omega
 .exact ⟨zK _,by omega,hu,λx a b=>by omega⟩
theorem qty {l:List Sign} {i:Int} (v:0<=i) (hi:i<ln l) (h:Units (fr l i)) :
  gE l i<=i+4/\Units (fr l (gE l i))/\(∀ x,i+1<=x->x<gE l i->(ix l x).Kind=4∨(ix l x).Kind=3)/\((ix l i).Kind≠4->∀ x,i+1<=x->x<gE l i->(ix l x).Kind=3):=by
 have n:i+1-1=i:=by omega
 have s:i+2-1=i+1:=by omega
 have w:i+3-1=i+2:=by omega
 rcases qvh v hi h with ⟨a,b⟩ | ⟨f,o,p,m,q,b⟩ | ⟨f,o,p,m,q,y,z,b⟩
 .obtain ⟨t,u,g,e⟩:=q5s (by omega) (qiu (to:=i+1) (by rw [n];exact λj=>a j.2.1)) b;exact ⟨by omega,g,λx c d=>.inr (e x c d),λ_=>e⟩
 .have r:tT l (i+1)=i+2:=by
   rw [ql5 (by rw [n];exact ⟨p,f,o⟩),show i+1+1=i+2 by omega,qiu];rw [s,q];rintro ⟨_,_,c⟩;cases c
  obtain ⟨t,u,g,e⟩:=q5s (by omega) r b;refine ⟨by omega,g,λx c d=>?_,λj=>absurd f j⟩;by_cases k:x=i+1
  .subst k;exact .inl m
  .exact .inr (e x (by omega) d)
 .have r:tT l (i+1)=i+3:=by
   rw [ql5 (by rw [n];exact ⟨by omega,f,o⟩),show i+1+1=i+2 by omega,ql5 (by rw [s];exact ⟨p,m,q⟩),show i+2+1=i+3 by omega,qiu];rw [w,z];rintro ⟨_,_,c⟩;cases c
  obtain ⟨t,u,g,e⟩:=q5s (by omega) r b;refine ⟨by omega,g,λx c d=>?_,λj=>absurd f j⟩;by_cases k:x=i+1
  .subst k;exact .inl m
  .by_cases k:x=i+2
   .subst k;exact .inl y
   .exact .inr (e x (by omega) d)
theorem zaz {l:List Sign} {i j:Int} (b:0<=i) (h:Units (fr l i)) (c:Ch l i j):Units (fr l j):=by
 induction c with
 | refl=>exact h
 | step a _ d=>exact d (by have:=qmt a;omega) (qty b a h).2.1
theorem qzh {l:List Sign} {i:Int} (h:(ix l i).Kind≠4∨(ix l i).Last=true):ins l (i+1)=false:=by
 unfold ins;rw [show i+1-1=i by omega];rcases h with h | h<;>simp [h]
theorem qp4 {l:List Sign} {i:Int} (j:0<=i) (hi:i<=ln l) (h:Units (fr l i)) (m:∀ s ∈ l,Good s) (v:ins l i=false):qjj l i=(0,0):=by
 by_cases e:i<ln l
 .have d:∀ k,0<=k->k<ln l->¬ zk8 l k->qo2 l k=0:=λk a b c=>by
   unfold qo2;have:kh (ix l k)=0:=m _ (qci a b);rw [zF (by simp [this]),zF c]
  rcases qvh j e h with ⟨a,b⟩ | ⟨p,n,f,o,g,b⟩ | ⟨p,n,f,o,g,t,r,b⟩
  .rw [qix e (d i j e λu=>a u.1)];exact qp4 (by omega) (by omega) b m (qzh (.inl a))
  .rw [qix e (d i j e (by
     rintro ⟨_,⟨q,_⟩ | ⟨_,q | q⟩⟩
     .rw [n] at q;cases q
     .omega
     .exact q o)),
    qix f (d (i+1) (by omega) f (by
     rintro ⟨_,⟨_,q⟩ | ⟨q,_⟩⟩
     .unfold ins at q;rw [show i+1-1=i by omega,p,n] at q;simp at q;omega
     .rw [g] at q;cases q))]
   exact qp4 (by omega) (by omega) (by rw [show i+1+1=i+2 by omega];exact b) m (qzh (.inr g))
  .rw [qix e (d i j e (by
     rintro ⟨_,⟨q,_⟩ | ⟨_,q | q⟩⟩
     .rw [n] at q;cases q
     .omega
     .exact q o)),
    qix (by omega) (d (i+1) (by omega) (by omega) (by
     rintro ⟨_,⟨q,_⟩ | ⟨_,q | q⟩⟩
     .rw [g] at q;cases q
     .omega
     .rw [show i+1+1=i+2 by omega] at q;exact q t)),show i+1+1=i+2 by omega,
    qix f (d (i+2) (by omega) f (by
     rintro ⟨_,⟨_,q⟩ | ⟨q,_⟩⟩
     .unfold ins at q;rw [show i+2-1=i+1 by omega,o,g] at q;simp at q;omega
     .rw [r] at q;cases q))]
   exact qp4 (by omega) (by omega) (by rw [show i+2+1=i+3 by omega];exact b) m (qzh (.inr r))
 .exact q5c (by omega)
 termination_by (ln l-i).toNat
 decreasing_by all_goals omega
theorem zlg {nm:ZB} {l:List Sign} (h:PartOk nm l):zr nm l=(0,0):=by
 have:=h.n;unfold zr;rw [zF (by simp [h.name]),zF (by omega)];exact qp4 (zK 0) (ln_nonneg l) h.u h.g rfl
theorem zpe {l:List Sign} (h:∀ s ∈ l,s.Kind≠11) (i:Int):qmn l i = -1:=by
 induction l generalizing i with
 | nil=>rfl
 | cons s l a=>
  simp only [qmn];rw [zF (h s zC)];exact a (λt b=>h t (zG _ b)) _
theorem Ch.trans {l:List Sign} {a b c:Int} (h:Ch l a b) (d:Ch l b c):Ch l a c:=by
 induction h with
 | refl=>exact d
 | step e _ f=>exact .step e (f d)
theorem zlf {l:List Sign} {a b c:Int} (h:Ch l a b) (e:Ch l a c) (d:b<=c):Ch l b c:=by
 induction h with
 | refl=>exact e
 | @step a b f g i=>
  have k:=qmt f;cases e with
  | refl=>have:=g.le;omega
  | step _ j=>exact i j d
structure FA (l:List Sign) (lim i rest:Int) (r:Int×Int):Prop where
 ch:Ch l i r.1
 lim:r.1<=lim∨r.1=i
 le:r.1<=ln l
 no:r.2=rest->∀ x,i<=x->x<r.1->(ix l x).Kind≠2
 yes:r.2≠rest->∃ b,Ch l i b/\b<ln l/\(ix l b).Kind=2/\r.2=gE l b/\r.2<=r.1
theorem zeo {l:List Sign} {lim i rest:Int} (r:0<=i) (hi:i<=ln l) (u:rest<=i) (hu:Units (fr l i)):FA l lim i rest (fA l lim i rest):=by
 by_cases d:i<ln l/\gE l i<=lim
 .have m:=qmt d.1;have n:=qty r d.1 hu;have c:=zeo (l:=l) (lim:=lim) (i:=gE l i) (rest:=if (ix l i).Kind=2 then gE l i else rest) (by omega) m.2 (by split<;>omega) n.2.1;rw [qp6 d.1 d.2];refine ⟨.step d.1 c.ch,?_,c.le,λe x v o=>?_,λe=>?_⟩
  .rcases c.lim with h | h
   .exact .inl h
   .rw [h];exact .inl d.2
  .have s:=q8l (l:=l) (lim:=lim) (i:=gE l i) (rest:=if (ix l i).Kind=2 then gE l i else rest) (by omega) m.2 (by split<;>omega);by_cases f:(ix l i).Kind=2
   .rw [zT f] at e s;omega
   .rw [zF f] at e c o;by_cases t:x<gE l i
    .by_cases g:x=i
     .rw [g];exact f
     .rcases n.2.2.1 x (by omega) t with q | q<;>omega
    .exact c.no e x (by omega) o
  .by_cases f:(ix l i).Kind=2
   .rw [zT f] at c ⊢;by_cases p:(fA l lim (gE l i) (gE l i)).2=gE l i
    .have:=c.ch.le;exact ⟨i,.refl _,d.1,f,p,by omega⟩
    .obtain ⟨b,j,k⟩:=c.yes p;exact ⟨b,.step d.1 j,k⟩
   .rw [zF f] at c e ⊢;obtain ⟨b,j,k⟩:=c.yes e;exact ⟨b,.step d.1 j,k⟩
 .rw [qs1 (by omega)];exact ⟨.refl _,.inr rfl,hi,λ_ x a b=>by dsimp only at b;omega,λe=>absurd rfl e⟩
 termination_by (ln l-i).toNat
 decreasing_by omega
def ztv (l:List Sign) (i j:Int):Prop:=j=ln l∨(∀ x,i<=x->x<j->(ix l x).Kind≠2)∨∃ b,i<=b/\b<j/\(ix l b).Kind=2/\∀ x,b+1<=x->x<j->(ix l x).Kind=3
structure Nxt (l:List Sign) (w i:Int) (last:Bool) (j:Int):Prop where
 ch:Ch l i j
 gt:i<j
 le:j<=ln l
 room:ln (qcb l i)+(j-i)<=w
 rest:last=true->ztv l i j
theorem znh {l:List Sign} {w i:Int} {last:Bool} (c:0<=i) (hi:i<ln l) (hw:16<=w) (hu:Units (fr l i)):Nxt l w i last (nxt l w i last):=by
 have v:=zmu l i;have y:=qty c hi hu;have d:=qmt hi;have k:qtg l w i=i+(w-ln (qcb l i)):=rfl;have a:=zeo (lim:=qtg l w i) c (by omega) (zK i) hu;have z:=q8l (l:=l) (lim:=qtg l w i) (i:=i) (rest:=i) c (by omega) (zK i);have o:i<(fA l (qtg l w i) i i).1:=by
  rw [qp6 hi (by omega)];have:=q8l (l:=l) (lim:=qtg l w i) (i:=gE l i) (rest:=if (ix l i).Kind=2 then gE l i else i) (by omega) d.2 (by split<;>omega);omega
 have A:(fA l (qtg l w i) i i).1<=qtg l w i:=by rcases a.lim with h | h<;>omega
 unfold nxt;split
 .rename_i m;obtain ⟨b,e,f,p,r,B⟩:=a.yes (by omega);have g:=zaz c hu e;have j:=e.le;have n:=qmt f;refine ⟨?_,by omega,by omega,by omega,λ_=>.inr (.inr ⟨b,j,by omega,p,λx s C=>(qty (by omega) f g).2.2.2 (by omega) x s (by omega)⟩)⟩;rw [r];exact e.trans (.step f (.refl _))
 .rename_i m;refine ⟨a.ch,o,a.le,by omega,λt=>?_⟩;by_cases u:(fA l (qtg l w i) i i).1<ln l
  .refine .inr (.inl (a.no ?_));have:¬ i<(fA l (qtg l w i) i i).2:=λq=>m ⟨t,u,q⟩;omega
  .exact .inl (by omega)
inductive Stw (l:List Sign) (w:Int):Int->Int->List Staff->Prop
 | nil (i:Int):Stw l w i i []
 | cons {i j k:Int} {r:List Staff} (h0:0<=i) (hc:Ch l i j) (hg:i<j) (hl:j<=ln l) (hw:ln (qcb l i)+(j-i)<=w) (hr:Stw l w j k r):Stw l w i k (stf l i j::r)
theorem Stw.snoc {l:List Sign} {w i j k:Int} {r:List Staff} (h:Stw l w i j r) (f:0<=j) (g:Ch l j k) (m:j<k) (n:k<=ln l) (hw:ln (qcb l j)+(k-j)<=w):Stw l w i k (r++[stf l j k]):=by
 induction h with
 | nil=>exact .cons f g m n hw (.nil _)
 | cons a b c d e _ o=>exact .cons a b c d e (o f g m hw)
theorem Stw.app {l:List Sign} {w i j k:Int} {r q:List Staff} (h:Stw l w i j r) (f:Stw l w j k q):Stw l w i k (r++q):=by
 induction h with
 | nil=>exact f
 | cons a b c d e _ g=>exact .cons a b c d e (g f)
theorem Stw.le {l:List Sign} {w i j:Int} {r:List Staff} (h:Stw l w i j r):i+ln r<=j:=by
 induction h with
 | nil=>simp [ln]
 | cons a b c d e _ f=>rw [kk];omega
inductive Pgs (l:List Sign) (w h:Int):Int->List Page->Prop
 | nil:Pgs l w h (ln l) []
 | cons {i j k:Int} {r:List Staff} {g:List Page} (h0:0<=i) (hs:Stw l w i j (r++[stf l k j])) (hk:i<=k) (hkj:k<j) (hn:ln (r++[stf l k j])<=h) (hf:j=ln l∨(ln (r++[stf l k j])=h/\ztv l k j)) (hj:j<=ln l) (hg:Pgs l w h j g):Pgs l w h i (Page.mk (r++[stf l k j])::g)
theorem zbv {l:List Sign} {w h i i0:Int} {page:List Staff} {pages:List Page} (e:0<=i) (hi:i<=ln l) (hw:16<=w) (hu:Units (fr l i)) (b:0<=i0) (n:Stw l w i0 i page) (v:ln page<h) (s:i<ln l∨(page=[]/\i0=i)) :
  ∃ g,bk l w h i page pages=some (pages++g)/\Pgs l w h i0 g:=by
 by_cases f:i<ln l
 .have a:=znh (last:=decide (ln page+1=h)) e f hw hu;generalize o:nxt l w i (decide (ln page+1=h))=j at a;have c:=zaz e hu a.ch;have d:=n.snoc e a.ch a.gt a.le a.room;have t:=n.le;have u:=ln_nonneg page;by_cases p:ln page+1=h∨ln l<=j
  .have k:=a.gt;have q:=a.le;obtain ⟨g,g1,m⟩:=zbv (pages:=pages++[Page.mk (page++[stf l i j])]) (h:=h) (i0:=j) (page:=[]) (by omega) a.le hw c (by omega) (.nil j) (by rw [qfp];omega) (.inr ⟨rfl,rfl⟩);refine ⟨Page.mk (page++[stf l i j])::g,?_,?_⟩
   .rw [zd2 f o.symm a.gt p,g1];simp
   .refine .cons b d (by omega) a.gt (by rw [qb5];omega) ?_ a.le m;by_cases x:ln l<=j
    .exact .inl (by omega)
    .have r:ln page+1=h:=by omega
     exact .inr ⟨by rw [qb5];exact r,a.rest (by simp [r])⟩
  .have k:=a.gt;obtain ⟨g,g1,m⟩:=zbv (pages:=pages) (h:=h) (by omega) a.le hw c b d (by rw [qb5];omega) (.inl (by omega));exact ⟨g,by rw [zty f o.symm a.gt p,g1],m⟩
 .obtain ⟨rfl,rfl⟩:page=[]/\i0=i:=by rcases s with h | h;omega;exact h
  refine ⟨[],by rw [zlb (by omega),zJ],?_⟩;rw [show i0=ln l by omega];exact .nil
 termination_by (ln l-i).toNat
 decreasing_by all_goals omega
theorem Pgs.stw {l:List Sign} {w h i:Int} {g:List Page} (j:Pgs l w h i g):Stw l w i (ln l) (qb g):=by
 induction j with
 | nil=>exact .nil _
 | cons a k b c d e f _ m=>exact k.app m
end Go.Proofs.YtpdphcekmhajdaaGreatDoor
