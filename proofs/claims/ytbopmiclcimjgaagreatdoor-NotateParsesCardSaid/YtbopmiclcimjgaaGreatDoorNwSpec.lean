import Derived.Test.YtbopmiclcimjgaaGreatDoorSignSpec
namespace Go.Proofs.YtbopmiclcimjgaaGreatDoor
open Go Go.E2 Go.E3
def zr (s:Sign):Sign where
 Kind:=s.Kind
 Value:=if s.Kind=1∨s.Kind=2 then s.Value else 0
 Place:=if s.Kind=1∨s.Kind=4 then s.Place else 0
 Acc:=if s.Kind=1∨s.Kind=4 then s.Acc else 0
 Color:=if s.Kind=1∨s.Kind=4 then s.Color else false
 Stem:=if s.Kind=4 then s.Stem else 0
 Oblique:=if s.Kind=4 then s.Oblique else false
 Last:=if s.Kind=4 then s.Last else false
 MensMax:=if s.Kind=5 then s.MensMax else 0
 MensMod:=if s.Kind=5 then s.MensMod else 0
 MensTem:=if s.Kind=5 then s.MensTem else 0
 MensPro:=if s.Kind=5 then s.MensPro else 0
 Stroke:=if s.Kind=5 then s.Stroke else false
 N:=if s.Kind=6∨s.Kind=8∨s.Kind=10 then s.N else 0
 D:=if s.Kind=6 then s.D else 0
 ClefStep:=if s.Kind=7 then s.ClefStep else 0
 ClefLine:=if s.Kind=7 then s.ClefLine else 0
def preB (s p:ZB):Bool:=decide (ln p<=ln s)&&decide (upto s (ln p)=p)
def qu (s:ZB) (c:Int):ZB×Bool:=if 0<ln s/\bx s 0=c then (fr s 1,true) else (s,false)
def q86 (a:Int):ZB:=if a=2 then [50] else if a=3 then [51] else []
def zf3 (c:Int):ZB:=if c=2 then [67] else if c=3 then [79] else []
def zfn (d:Int):ZB:=if d=3 then [46] else []
def qaf (a b c d:Int):ZB:=(if a=3∨b=3 then q86 a++q86 b else [])++zf3 c++zfn d
def qe0 (a b c d:Int):ZB×Int:=if qa0 a b c d=0 then (qaf a b c d,0) else ([],12)
abbrev M4:=Int×Int×Int×Int
def ofM (n:Int):M4:=(2+n / 8,2+n / 4 % 2,2+n / 2 % 2,2+n % 2)
def allM:List M4:=[(2,2,2,2),(2,2,2,3),(2,2,3,2),(2,2,3,3),(2,3,2,2),(2,3,2,3),(2,3,3,2),(2,3,3,3),(3,2,2,2),(3,2,2,3),(3,2,3,2),(3,2,3,3),(3,3,2,2),(3,3,2,3),(3,3,3,2),(3,3,3,3)]
def txM (m:M4):ZB:=qaf m.1 m.2.1 m.2.2.1 m.2.2.2
def qgp (s:ZB):List M4->M4×Int
 | []=>((0,0,0,0),3)
 | m::l=>if txM m=s then (m,0) else qgp s l
def kc (s:ZB):M4×Int:=qgp s allM
def qeo (b:Int):Bool:=decide (48<=b)&&decide (b<=57)
def qc7 (s:ZB) (i n:Int):Int×Bool:=
 if h:0<=i/\i<ln s then (if qeo (bx s i)=true then (if 10 * n+(bx s i-48) > 1099511627776 then (0,false) else qc7 s (i+1) (10 * n+(bx s i-48))) else (0,false)) else (n,true)
 termination_by (ln s-i).toNat
 decreasing_by omega
def qi (s:ZB):Int×Bool:=if ln s=0∨(bx s 0=48/\1<ln s) then (0,false) else qc7 s 0 0
def k8 (s:ZB):Int×Bool:=
 if 0<ln s/\bx s 0=45 then (if (qi (fr s 1)).2=true/\(qi (fr s 1)).1≠0 then (-(qi (fr s 1)).1,true) else (0,false)) else qi s
def qcb (s:ZB) (c i k m:Int):ZB×ZB×Bool:=
 if h:0<=i/\i<ln s then (if bx s i=c then qcb s c (i+1) i (m+1) else qcb s c (i+1) k m) else (if m=1 then (upto s k,fr s (k+1),true) else ([],[],false))
 termination_by (ln s-i).toNat
 decreasing_by all_goals omega
def qa1 (s:ZB) (c:Int):ZB×ZB×Bool:=qcb s c 0 0 0
def d1 (n:Int):ZB:=[UInt8.ofNat (48+n.toNat)]
def ztc (n:Int):ZB:=if n<=9 then d1 n else if n<=99 then d1 (n / 10)++d1 (n % 10) else [49,48,48]
def q0c (n:Int):ZB:=if n<0 then 45::ztc (-n) else ztc n
def zqs:ZB:=[88,76,66,83,77,81,70,90]
def jy (s:ZB):Int×Int:=
 if s=[88] then (1,0) else if s=[76] then (2,0) else if s=[66] then (3,0) else if s=[83] then (4,0) else if s=[77] then (5,0) else if s=[81] then (6,0) else if s=[70] then (7,0) else if s=[90] then (8,0) else (0,3)
def q52 (b:Bool) (c:UInt8):ZB:=if b=true then [c] else []
def sg0:Sign:=Sign.mk 0 0 0 0 false 0 false false 0 0 0 0 false 0 0 0 0
def tk (w:ZB) (i:Int) (c:UInt8):Bool:=preB (fr w i) [c]
def qg7 (w:ZB) (i:Int):ZB×Int:=if tk w i 45=true then ([45],i+1) else ([],i)
def dgE (w:ZB) (i:Int):Int:=zg qeo w i
def qlx (w:ZB) (i:Int):(Int×Bool)×Int:=(k8 ((qg7 w i).1++sub w (qg7 w i).2 (dgE w (qg7 w i).2)),dgE w (qg7 w i).2)
def qfz (w:ZB) (i:Int):(Int×Bool)×Int:=(qi (sub w i (dgE w i)),dgE w i)
def qke (w:ZB) (i:Int):Int×Int:=if tk w i 98=true then (-1,i+1) else if tk w i 35=true then (1,i+1) else if tk w i 110=true then (2,i+1) else (0,i)
def qdm (w:ZB) (i:Int) (c:UInt8):Bool×Int:=if tk w i c=true then (true,i+1) else (false,i)
def qfi (w:ZB) (i:Int):Int×Int×Bool×Bool×Int:=
 ((qlx w i).1.1,(qke w (qlx w i).2).1,(qdm w (qke w (qlx w i).2).2 42).1,(qlx w i).1.2,(qdm w (qke w (qlx w i).2).2 42).2)
def qun (w:ZB) (i k:Int):Option Int:=if h:0<=k/\k<8 then (if preB (fr w i) (sub zqs k (k+1))=true then some (k+1) else qun w i (k+1)) else none
 termination_by (8-k).toNat
 decreasing_by omega
def qs2 (w:ZB) (i:Int):Option Int:=qun w i 0
def qko (w:ZB) (i:Int):Int×Int:=if tk w i 94=true then (1,i+1) else if tk w i 118=true then (2,i+1) else if tk w i 62=true then (3,i+1) else (0,i)
def q7i (w:ZB) (i:Int):Option Int:=if tk w i 67=true then some 0 else if tk w i 70=true then some 3 else if tk w i 71=true then some 4 else none
def qex (w:ZB):Int:=if jh (fr w 1) 41 > 0 then jh (fr w 1) 41 else 0
def rd1 (w:ZB):Option Sign:=match qs2 w 0 with
 | some v=>if (qfi w 1).2.2.2.1=true/\(qfi w 1).2.2.2.2=ln w then some (Sign.mk 1 v (qfi w 1).1 (qfi w 1).2.1 (qfi w 1).2.2.1 0 false false 0 0 0 0 false 0 0 0 0) else none
 | none=>none
def rd2 (w:ZB):Option Sign:=if tk w 0 114=true then (match qs2 w 1 with
 | some v=>if (2:Int)=ln w then some (Sign.mk 2 v 0 0 false 0 false false 0 0 0 0 false 0 0 0 0) else none
 | none=>none) else none
def rd3 (w:ZB):Option Sign:=if tk w 0 46=true/\(1:Int)=ln w then some (Sign.mk 3 0 0 0 false 0 false false 0 0 0 0 false 0 0 0 0) else none
def zat (w:ZB):Int×Int:=qko w (qfi w 1).2.2.2.2
def rd4 (w:ZB):Option Sign:=if tk w 0 116=true/\(qfi w 1).2.2.2.1=true/\(qdm w (qdm w (zat w).2 126).2 33).2=ln w then
 some (Sign.mk 4 0 (qfi w 1).1 (qfi w 1).2.1 (qfi w 1).2.2.1 (zat w).1 (qdm w (zat w).2 126).1 (qdm w (qdm w (zat w).2 126).2 33).1 0 0 0 0 false 0 0 0 0) else none
def q9q (w:ZB):M4×Int:=kc (sub w 1 (1+qex w))
def rd5 (w:ZB):Option Sign:=if tk w 0 40=true/\(q9q w).2=0/\tk w (1+qex w) 41=true/\(qdm w (1+qex w+1) 124).2=ln w then
 some (Sign.mk 5 0 0 0 false 0 false false (q9q w).1.1 (q9q w).1.2.1 (q9q w).1.2.2.1 (q9q w).1.2.2.2 (qdm w (1+qex w+1) 124).1 0 0 0 0) else none
def rd6 (w:ZB):Option Sign:=if (qfz w 0).1.2=true/\tk w (qfz w 0).2 47=true/\(qfz w ((qfz w 0).2+1)).1.2=true/\(qfz w ((qfz w 0).2+1)).2=ln w then
 some (Sign.mk 6 0 0 0 false 0 false false 0 0 0 0 false (qfz w 0).1.1 (qfz w ((qfz w 0).2+1)).1.1 0 0) else none
def rd7 (w:ZB):Option Sign:=if tk w 0 64=true then (match q7i w 1 with
 | some k=>if (qfz w 2).1.2=true/\(qfz w 2).2=ln w then some (Sign.mk 7 0 0 0 false 0 false false 0 0 0 0 false 0 0 k (qfz w 2).1.1) else none
 | none=>none) else none
def rdN (w:ZB) (c:UInt8) (k:Int):Option Sign:=if tk w 0 c=true/\(qfz w 1).1.2=true/\(qfz w 1).2=ln w then some (Sign.mk k 0 0 0 false 0 false false 0 0 0 0 false (qfz w 1).1.1 0 0 0) else none
def rdW (w p:ZB) (k:Int):Option Sign:=if preB w p=true/\ln p=ln w then some (Sign.mk k 0 0 0 false 0 false false 0 0 0 0 false 0 0 0 0) else none
def rdK (w:ZB) (k:Int):Option Sign:=
 if k=1 then rd1 w else if k=2 then rd2 w else if k=3 then rd3 w else if k=4 then rd4 w else if k=5 then rd5 w else if k=6 then rd6 w else if k=7 then rd7 w else if k=8 then rdN w 38 8
 else if k=9 then rdW w [91] 9 else if k=10 then rdN w 93 10 else if k=11 then rdW w [116,117,114,110] 11 else if k=12 then rdW w [115,105,103] 12 else none
def qlw (w:ZB) (k:Int):Option Sign:=if h:1<=k/\k<=12 then (match rdK w k with
 | some s=>some s
 | none=>qlw w (k+1)) else none
 termination_by (13-k).toNat
 decreasing_by omega
def fin (o:Option Sign):Sign×Int:=match o with
 | some s=>if zn s=0 then (s,0) else (sg0,zn s)
 | none=>(sg0,3)
def zj (w:ZB):Sign×Int:=fin (qlw w 1)
def hdE (s:ZB) (i:Int):Int:=if h:0<=i/\i<ln s then (if qeo (bx s i)=true∨(i=0/\bx s i=45) then hdE s (i+1) else i) else i
 termination_by (ln s-i).toNat
 decreasing_by omega
def qop (s:ZB):Int×ZB:=if (qu s 98).2=true then (-1,(qu s 98).1) else if (qu s 35).2=true then (1,(qu s 35).1) else if (qu s 110).2=true then (2,(qu s 110).1) else (0,s)
def qsy (s:ZB):Int×ZB:=if (qu s 94).2=true then (1,(qu s 94).1) else if (qu s 118).2=true then (2,(qu s 118).1) else if (qu s 62).2=true then (3,(qu s 62).1) else (0,s)
def hdF (s:ZB):(Int×Bool)×Int×Bool×ZB:=
 (k8 (upto s (hdE s 0)),(qop (fr s (hdE s 0))).1,(qu (qop (fr s (hdE s 0))).2 42).2,(qu (qop (fr s (hdE s 0))).2 42).1)
def q6b (w:ZB):Option Sign:=if (hdF (fr w 1)).1.2=true/\(hdF (fr w 1)).2.2.2=[] then some (Sign.mk 1 (jy (upto w 1)).1 (hdF (fr w 1)).1.1 (hdF (fr w 1)).2.1 (hdF (fr w 1)).2.2.1 0 false false 0 0 0 0 false 0 0 0 0) else none
def q65 (s:ZB):Option Sign:=if (jy s).2=0 then some (Sign.mk 2 (jy s).1 0 0 false 0 false false 0 0 0 0 false 0 0 0 0) else none
def qzd (s:ZB):Option Sign:=
 let h:=hdF s
 let t:=qsy h.2.2.2
 let o:=qu t.2 126
 let l:=qu o.1 33
 if h.1.2=true/\l.1=[] then some (Sign.mk 4 0 h.1.1 h.2.1 h.2.2.1 t.1 o.2 l.2 0 0 0 0 false 0 0 0 0) else none
def qy1 (s:ZB):Option Sign:=
 let b:=decide (0<ln s/\bx s (ln s-1)=124)
 let u:=if b=true then upto s (ln s-1) else s
 if 0<ln u/\bx u (ln u-1)=41/\(kc (upto u (ln u-1))).2=0 then
  some (Sign.mk 5 0 0 0 false 0 false false (kc (upto u (ln u-1))).1.1 (kc (upto u (ln u-1))).1.2.1 (kc (upto u (ln u-1))).1.2.2.1 (kc (upto u (ln u-1))).1.2.2.2 b 0 0 0 0) else none
def qwg (s:ZB):Option Sign:=
 let f (k:Int) (r:ZB):Option Sign:=if (qi r).2=true then some (Sign.mk 7 0 0 0 false 0 false false 0 0 0 0 false 0 0 k (qi r).1) else none
 if (qu s 67).2=true then f 0 (qu s 67).1 else if (qu s 70).2=true then f 3 (qu s 70).1 else if (qu s 71).2=true then f 4 (qu s 71).1 else none
def qy2 (k:Int) (s:ZB):Option Sign:=if (qi s).2=true then some (Sign.mk k 0 0 0 false 0 false false 0 0 0 0 false (qi s).1 0 0 0) else none
def qsn (w:ZB):Option Sign:=
 let p:=qa1 w 47
 if p.2.2=true/\(qi p.1).2=true/\(qi p.2.1).2=true then some (Sign.mk 6 0 0 0 false 0 false false 0 0 0 0 false (qi p.1).1 (qi p.2.1).1 0 0) else none
def wdS (k:Int):Option Sign:=some (Sign.mk k 0 0 0 false 0 false false 0 0 0 0 false 0 0 0 0)
def qd0 (w:ZB):Option Sign:=
 if w=[] then none else if w=[46] then wdS 3 else if w=[91] then wdS 9 else if w=[116,117,114,110] then wdS 11 else if w=[115,105,103] then wdS 12
 else if bx w 0=114 then q65 (fr w 1) else if bx w 0=116 then qzd (fr w 1) else if bx w 0=40 then qy1 (fr w 1) else if bx w 0=64 then qwg (fr w 1) else if bx w 0=38 then qy2 8 (fr w 1) else if bx w 0=93 then qy2 10 (fr w 1)
 else if (jy (upto w 1)).2=0 then q6b w else qsn w
def zc (w:ZB):Sign×Int:=fin (qd0 w)
end Go.Proofs.YtbopmiclcimjgaaGreatDoor
