import Derived.Test.YtpofmogdhigakaaGreatDoorNat
import Derived.Test.YtpofmogdhigakaaGreatDoorM7
namespace Go.Proofs.YtpofmogdhigakaaGreatDoor
open Go Go.E2 Go.E3
def qwg (b:Int):Bool:=decide (97<=b)&&decide (b<=122)
def qqf (b:Int):Bool:=qwg b || (decide (48<=b)&&decide (b<=57)) || decide (b=45)
def qsp (s:ZB):Bool:=decide (1<=ln s)&&decide (ln s<=20)&&qwg (bx s 0)&&s.all λb=>qqf b.toNat
def qmp (a b c d:Int):Int:=if (a=2∨a=3)/\(b=2∨b=3)/\(c=2∨c=3)/\(d=2∨d=3) then 0 else 12
def q5v (s:Sign):Prop:=
 (s.Value=0∨s.Kind=1∨s.Kind=2)/\((s.Place=0/\s.Acc=0/\s.Color=false)∨s.Kind=1∨s.Kind=4)/\((s.Stem=0/\s.Oblique=false/\s.Last=false)∨s.Kind=4)/\
 ((s.MensMax=0/\s.MensMod=0/\s.MensTem=0/\s.MensPro=0/\s.Stroke=false)∨s.Kind=5)/\(s.N=0∨s.Kind=6∨s.Kind=8∨s.Kind=10)/\(s.D=0∨s.Kind=6)/\
 ((s.ClefStep=0/\s.ClefLine=0)∨s.Kind=7)
instance (s:Sign):Decidable (q5v s):=by unfold q5v;infer_instance
def qom (s:Sign):Prop:=
 ((s.Kind≠1/\s.Kind≠2)∨(1<=s.Value/\s.Value<=8))/\((s.Kind≠1/\s.Kind≠4)∨(-4<=s.Place/\s.Place<=12/\-1<=s.Acc/\s.Acc<=2))/\(s.Kind≠4∨(0<=s.Stem/\s.Stem<=3))/\
 (s.Kind≠6∨(1<=s.N/\s.N<=100/\1<=s.D/\s.D<=100))/\(s.Kind≠7∨((s.ClefStep=0∨s.ClefStep=3∨s.ClefStep=4)/\1<=s.ClefLine/\s.ClefLine<=5))/\
 (s.Kind≠8∨(0<=s.N/\s.N<=2))/\(s.Kind≠10∨(2<=s.N/\s.N<=4))
instance (s:Sign):Decidable (qom s):=by unfold qom;infer_instance
def qst (s:Sign):Int:=
 if s.Kind<1∨12<s.Kind then 8 else if ¬ q5v s then 3 else if s.Kind=5/\qmp s.MensMax s.MensMod s.MensTem s.MensPro≠0 then 12 else if ¬ qom s then 2
 else if s.Oblique=true/\s.Last=true then 3 else 0
def qf1 (s:Sign):Sign where
 Kind:=s.Kind
 Value:=if s.Kind=1∨s.Kind=2 then s.Value else 0
 Place:=if s.Kind=1∨s.Kind=4 then s.Place else 0
 Acc:=if s.Kind=1∨s.Kind=4 then s.Acc else 0
 Color:=if s.Kind=1∨s.Kind=4 then s.Color else false
 Stem:=if s.Kind=4 then s.Stem else 0
 Oblique:=if s.Kind=4 then s.Oblique else false
 Last:=if s.Kind=4 then s.Last else false
 MensMax:=if s.Kind=5 then s.MensMax else 0
 MensMod:=if s.Kind=5 then s.MensMod else 0
 MensTem:=if s.Kind=5 then s.MensTem else 0
 MensPro:=if s.Kind=5 then s.MensPro else 0
 Stroke:=if s.Kind=5 then s.Stroke else false
 N:=if s.Kind=6∨s.Kind=8∨s.Kind=10 then s.N else 0
 D:=if s.Kind=6 then s.D else 0
 ClefStep:=if s.Kind=7 then s.ClefStep else 0
 ClefLine:=if s.Kind=7 then s.ClefLine else 0
abbrev M4:=Int×Int×Int×Int
def d1 (n:Int):ZB:=[UInt8.ofNat (48+n.toNat)]
def qrf (s:ZB):Int×Int:=
 if s=[88] then (1,0) else if s=[76] then (2,0) else if s=[66] then (3,0) else if s=[83] then (4,0) else if s=[77] then (5,0) else if s=[81] then (6,0) else if s=[70] then (7,0) else if s=[90] then (8,0) else (0,3)
def zbb (k:Int):ZB:=if k=0 then [67] else if k=3 then [70] else if k=4 then [71] else []
def sg0:Sign:=Sign.mk 0 0 0 0 false 0 false false 0 0 0 0 false 0 0 0 0
def fin (o:Option Sign):Sign×Int:=match o with
 | some s=>if qst s=0 then (s,0) else (sg0,qst s)
 | none=>(sg0,3)
def wdS (k:Int):Option Sign:=some (Sign.mk k 0 0 0 false 0 false false 0 0 0 0 false 0 0 0 0)
def ins (l:List Sign) (i:Int):Bool:=decide (0<i)&&(decide ((ix l (i-1)).Kind=4)&&!(ix l (i-1)).Last)
def zby (l:List Sign) (i:Int):Prop:=
 (ix l i).Kind=4/\(((ix l i).Last=true/\ins l i=false)∨((ix l i).Last=false/\(ln l<=i+1∨(ix l (i+1)).Kind≠4)))
instance (l:List Sign) (i:Int):Decidable (zby l i):=by unfold zby;infer_instance
def qem (l:List Sign) (i:Int):Int:=if qst (ix l i)≠0 then qst (ix l i) else if zby l i then 3 else 0
def qiv (l:List Sign) (i:Int):Int×Int:=if h:i<ln l then (if qem l i≠0 then (qem l i,i) else qiv l (i+1)) else (0,0)
 termination_by (ln l-i).toNat
 decreasing_by omega
def qa9 (nm:ZB) (l:List Sign):Int×Int:=if qsp nm=false then (7,0) else if 400<ln l then (11,0) else qiv l 0
theorem q43 {l:List Sign} {i:Int} (h:i<ln l) (he:qem l i=0):qiv l i=qiv l (i+1):=by
 rw [qiv,dif_pos h,zF (by simp [he])]
theorem q9q {l:List Sign} {i:Int} (h:i<ln l) (he:qem l i≠0):qiv l i=(qem l i,i):=by
 rw [qiv,dif_pos h,zT he]
theorem q9p {l:List Sign} {i:Int} (h:ln l<=i):qiv l i=(0,0):=by
 rw [qiv,dif_neg (by omega)]
theorem zgj (a b:Sign):(a.Kind=b.Kind/\a.Value=b.Value/\a.Place=b.Place/\a.Acc=b.Acc/\a.Color=b.Color/\a.Stem=b.Stem/\a.Oblique=b.Oblique/\a.Last=b.Last/\a.MensMax=b.MensMax/\a.MensMod=b.MensMod/\a.MensTem=b.MensTem/\a.MensPro=b.MensPro/\a.Stroke=b.Stroke/\a.N=b.N/\a.D=b.D/\a.ClefStep=b.ClefStep/\a.ClefLine=b.ClefLine)↔a=b:=by
 cases a;cases b;simp only [Sign.mk.injEq]
instance:DecidableEq Sign:=λa b=>decidable_of_iff _ (zgj a b)
def za5 (a b:List Sign):Bool:=decide (a=b)
def qak (n:ZB) (a:List Sign) (m:ZB) (b:List Sign):Bool:=decide (n=m/\a=b)
def kr (a b:Int):Int:=(Nat.gcd a.toNat b.toNat:Nat)
theorem ji (a b:Int):0<=kr a b:=Int.natCast_nonneg _
theorem q0s {a:Int} (h:0<=a):kr a 0=a:=by
 unfold kr;rw [Int.toNat_zero,Nat.gcd_zero_right];omega
theorem q0r {a b:Int} (c:0<=a) (d:0<=b):kr b (Int.tmod a b)=kr a b:=by
 unfold kr;obtain ⟨m,rfl⟩:=Int.eq_ofNat_of_zero_le c;obtain ⟨n,rfl⟩:=Int.eq_ofNat_of_zero_le d;have:Int.tmod (m:Int) (n:Int)=((m % n:Nat):Int):=by rw [<-Int.ofNat_tmod]
 rw [this,Int.toNat_natCast,Int.toNat_natCast,Int.toNat_natCast,Nat.gcd_comm m n,Nat.gcd_comm n (m % n),<-Nat.gcd_rec]
theorem qf9 {a b:Int} (c:1<=b):1<=kr a b:=by
 unfold kr;have:0<Nat.gcd a.toNat b.toNat:=Nat.gcd_pos_of_pos_right _ (by omega);omega
theorem qlu {a b:Int} (c:0<=b):kr a b * b.tdiv (kr a b)=b:=by
 have h:kr a b ∣ b:=by
  unfold kr;have:=Nat.gcd_dvd_right a.toNat b.toNat
  have d:((Nat.gcd a.toNat b.toNat:Nat):Int) ∣ ((b.toNat:Nat):Int):=Int.natCast_dvd_natCast.2 this
  rwa [Int.toNat_of_nonneg c] at d
 exact Int.mul_tdiv_cancel' h
theorem zbg {a b:Int} (c:0<=a) (d:0<b):0<=Int.tmod a b/\Int.tmod a b<b:=⟨Int.tmod_nonneg _ c,Int.tmod_lt_of_pos _ d⟩
theorem qbp {a b:Int} (c:0<=a) (d:0<=b):0<=a.tdiv b/\a.tdiv b<=a:=by
 refine ⟨Int.tdiv_nonneg c d,?_⟩;rw [Int.tdiv_eq_ediv_of_nonneg c];exact Int.ediv_le_self _ c
theorem q3j {a b A B:Int} (c:0<=a) (d:a<=A) (e:0<=b) (f:b<=B):0<=a * b/\a * b<=A * B:=
 ⟨Int.mul_nonneg c e,Int.mul_le_mul d f e (Int.le_trans c d)⟩
theorem q8i {a b:Int} (c:1<=a) (d:1<=b):1<=a * b:=by
 have:=Int.mul_le_mul c d (by omega) (by omega);omega
def zr (n d:Int):Int:=if n<0∨1099511627776<n∨d<1∨1048576<d then 2 else if 1<kr n d then 3 else 0
def ofT (n d:Int):Int×Int×Int:=if 1099511627776<n.tdiv (kr n d)∨1048576<d.tdiv (kr n d) then (0,0,4) else (n.tdiv (kr n d),d.tdiv (kr n d),0)
def qdz:List Time->Int
 | []=>0
 | x::l=>if zr x.N x.D≠0 then zr x.N x.D else qdz l
def qgq (a b c d:Int):Int×Int×Int:=if zr a b≠0 then (0,0,zr a b) else if zr c d≠0 then (0,0,zr c d) else ofT (a * d+c * b) (b * d)
def qfn (n d m c:Int):Int×Int×Int:=
 if (0<n.tdiv (kr n c)/\Int.tdiv 1099511627776 (n.tdiv (kr n c))<m.tdiv (kr m d))∨1048576<d.tdiv (kr m d) * c.tdiv (kr n c) then (0,0,4)
 else (n.tdiv (kr n c) * m.tdiv (kr m d),d.tdiv (kr m d) * c.tdiv (kr n c),0)
def qew (a b c d:Int):Int×Int×Int:=if zr a b≠0 then (0,0,zr a b) else if zr c d≠0 then (0,0,zr c d) else qfn a b c d
abbrev qzb (a b c d:Int):Prop:=0<=a/\a<=1099511627776/\1<=b/\b<=1048576/\0<=c/\c<=1099511627776/\1<=d/\d<=1048576/\kr a b=1/\kr c d=1
theorem qd9 {n d:Int} (h:zr n d=0):0<=n/\n<=1099511627776/\1<=d/\d<=1048576:=by
 unfold zr at h;split at h
 .omega
 .omega
theorem qo6 (a b c d:Int):qdz [Time.mk a b,Time.mk c d]=if zr a b≠0 then zr a b else zr c d:=by
 simp only [qdz];split
 .rfl
 .split
  .rfl
  .omega
def qyc (nm:ZB) (l:List Sign) (m:Int):Bool:=decide (ln nm<=100)&&(decide (ln l<=m) || (decide (400<ln l)&&decide (ln l<=420)))
def qkt (s:Sign):Bool:=decide (s.Kind=1∨s.Kind=2∨s.Kind=4)
def qiw (k:Int):Int:=if k=1∨k=2∨k=4 then 1 else if k=3 then 2 else if k=5∨k=6∨k=9∨k=10 then 3 else if 1<=k/\k<=12 then 4 else 0
def zqp (s:Sign):Sign:=⟨s.Kind,0,s.Place,s.Acc,s.Color,s.Stem,s.Oblique,s.Last,0,0,0,0,false,0,0,0,0⟩
def zez (s:Sign) (last:Bool):Int:=
 if s.Kind≠4 then 8 else if s.Place < -4∨12<s.Place then 2 else if s.Acc < -1∨2<s.Acc then 2 else if s.Stem<0∨3<s.Stem then 2
 else if s.Last≠last∨zqp s≠s then 3 else 0
def zjo (l:List Sign) (i:Int):Bool:=
 if 0<i/\((ix l i).Stem=1∨(ix l i).Stem=2) then false
 else if (ix l i).Oblique=true/\(i+1=ln l∨(ix l i).Place<=(ix l (i+1)).Place∨(ix l (i+1)).Oblique=true) then false
 else if 0<i/\(ix l (i-1)).Place=(ix l i).Place then false
 else !(decide (i<2/\(ix l i).Stem=3/\(ix l 0).Stem=1))
def q28 (l:List Sign) (i:Int):Int:=if zez (ix l i) (decide (i+1=ln l))≠0 then zez (ix l i) (decide (i+1=ln l)) else if zjo l i then 0 else 3
def qk8 (l:List Sign) (i:Int):Int×Int:=if h:i<ln l then (if q28 l i≠0 then (q28 l i,i) else qk8 l (i+1)) else (0,0)
 termination_by (ln l-i).toNat
 decreasing_by omega
def qyb (l:List Sign):Int×Int:=if ln l<2∨12<ln l then (11,0) else qk8 l 0
def q4d (l:List Sign) (i:Int):Int:=
 if (ix l i).Stem=3 then 2 else if i<2/\(ix l 0).Stem=1 then 4
 else if i<=0 then (if decide ((ix l 1).Place<(ix l 0).Place)=decide ((ix l 0).Stem=2) then 3 else 2)
 else if i+1=ln l/\(ix l (i-1)).Oblique=false/\(ix l i).Place<(ix l (i-1)).Place then 2 else 3
def qti (l:List Sign):Nat->List Int
 | 0=>[]
 | n+1=>qti l n++[q4d l n]
def qgr (l:List Sign):List Int×Int:=if (qyb l).1≠0 then ([],(qyb l).1) else (qti l (ln l).toNat,0)
def ju (l:List Sign) (i:Int):Int:=if h:i<ln l then (if (ix l i).Last=true then i else ju l (i+1)) else i
 termination_by (ln l-i).toNat
 decreasing_by omega
theorem qjv (l:List Sign) (i:Int):i<=ju l i:=by
 rw [ju];split
 .split
  .omega
  .have:=qjv l (i+1);omega
 .omega
 termination_by (ln l-i).toNat
 decreasing_by omega
def qsf (l:List Sign) (i:Int):List Sign:=sub l i (ju l i+1)
def zfe (s:Sign) (v:Int):Sign:=⟨1,v,s.Place,s.Acc,s.Color,0,false,false,0,0,0,0,false,0,0,0,0⟩
def qsz (l:List Sign):Int->List Int->List Sign->List Sign
 | _,[],out=>out
 | i,v::vs,out=>qsz l (i+1) vs (out.set i.toNat (zfe (ix l i) v))
def qct (l:List Sign) (i:Int) (out:List Sign):List Sign×Int:=
 if h:i<ln l then
  (if (ix l i).Kind=4 then
    (if (qgr (qsf l i)).2≠0 then ([],(qgr (qsf l i)).2) else qct l (ju l i+1) (qsz l i (qgr (qsf l i)).1 out))
  else qct l (i+1) out)
 else (out,0)
 termination_by (ln l-i).toNat
 decreasing_by
 .have:=qjv l i;omega
 .omega
def qcl (nm:ZB) (l:List Sign):(ZB×List Sign)×Int:=
 if (qa9 nm l).1≠0 then (([],[]),(qa9 nm l).1) else if (qct l 0 l).2≠0 then (([],[]),(qct l 0 l).2) else ((nm,(qct l 0 l).1),0)
def qbz (l:List Sign) (i:Int):List Int:=if h:i<ln l then (if (ix l i).Kind=4/\ins l i=false then i::qbz l (i+1) else qbz l (i+1)) else []
 termination_by (ln l-i).toNat
 decreasing_by all_goals omega
def qcb (l:List Sign) (i:Int):List Int:=if h:i<ln l then (if (ix l i).Kind=4/\(ix l i).Last=true then i::qcb l (i+1) else qcb l (i+1)) else []
 termination_by (ln l-i).toNat
 decreasing_by all_goals omega
def qzr (nm:ZB) (l:List Sign):List Int×List Int×Int:=if (qa9 nm l).1≠0 then ([],[],(qa9 nm l).1) else (qbz l 0,qcb l 0,0)
abbrev Mn:=Int×Int×Int×Int
def qsj (s:Sign):Mn:=(s.MensMax,s.MensMod,s.MensTem,s.MensPro)
def qg6 (f t:Int) (m:Mn):Section:=⟨f,t,m.1,m.2.1,m.2.2.1,m.2.2.2,0,0⟩
def qle:List Sign->Int->Mn->Bool->Section->List Section->List Section×Int
 | [],_,_,_,s,out=>(if 0<=s.From then out++[s] else out,0)
 | x::t,i,m,a,s,out=>
  if qiw x.Kind=1 then (if a=false then ([],12) else qle t (i+1) m a {s with From:=if s.From<0 then i else s.From,To:=i+1} out)
  else if qiw x.Kind=2 then (if s.From<0 then ([],13) else qle t (i+1) m a {s with To:=i+1} out)
  else if qiw x.Kind=3 then qle t (i+1) (if x.Kind=5 then qsj x else m) (a || decide (x.Kind=5)) (qg6 (-1) 0 (if x.Kind=5 then qsj x else m)) (if 0<=s.From then out++[s] else out)
  else qle t (i+1) m a s out
def q6z (l:List Sign):List Section×Int:=qle l 0 (0,0,0,0) false (qg6 (-1) 0 (0,0,0,0)) []
def qpq (nm:ZB) (l:List Sign):(ZB×List Sign)×List Section×Int:=
 if (qcl nm l).2≠0 then (([],[]),[],(qcl nm l).2) else if (q6z (qcl nm l).1.2).2≠0 then (([],[]),[],(q6z (qcl nm l).1.2).2) else ((qcl nm l).1,(q6z (qcl nm l).1.2).1,0)
def qdc (l:List Sign) (i to:Int) (x:Section):Section×Int:=
 if h:i<to then
  (if qiw (ix l i).Kind=1 then qdc l (i+1) to {x with From:=if x.From<0 then i else x.From,To:=i+1}
  else if qiw (ix l i).Kind=2 then (if x.From<0 then (x,13) else qdc l (i+1) to {x with To:=i+1})
  else qdc l (i+1) to x)
 else (x,0)
 termination_by (to-i).toNat
 decreasing_by all_goals omega
def qtk (l:List Sign) (from_ to a b c d:Int):Section×Int:=
 if (qdc l from_ to (qg6 (-1) 0 (a,b,c,d))).2≠0 then qdc l from_ to (qg6 (-1) 0 (a,b,c,d))
 else if 0<=(qdc l from_ to (qg6 (-1) 0 (a,b,c,d))).1.From/\a=0/\b=0/\c=0/\d=0 then ((qdc l from_ to (qg6 (-1) 0 (a,b,c,d))).1,12)
 else qdc l from_ to (qg6 (-1) 0 (a,b,c,d))
def q3f (l:List Sign) (i from_:Int) (m:Mn) (out:List Section):List Section×Int:=
 if h:i<=ln l then
  (if i<ln l/\qiw (ix l i).Kind≠3 then q3f l (i+1) from_ m out
  else if (qtk l from_ i m.1 m.2.1 m.2.2.1 m.2.2.2).2≠0 then ([],(qtk l from_ i m.1 m.2.1 m.2.2.1 m.2.2.2).2)
  else q3f l (i+1) (i+1) (if i<ln l/\(ix l i).Kind=5 then qsj (ix l i) else m)
   (if 0<=(qtk l from_ i m.1 m.2.1 m.2.2.1 m.2.2.2).1.From then out++[(qtk l from_ i m.1 m.2.1 m.2.2.1 m.2.2.2).1] else out))
 else (out,0)
 termination_by (ln l+1-i).toNat
 decreasing_by all_goals omega
def q50 (l:List Sign):List Section×Int:=q3f l 0 0 (0,0,0,0) []
def qbd:List Sign->Int->List Repeat->Option Int->List Repeat×Int×Bool
 | [],_,rs,none=>(rs,0,true)
 | [],_,_,some f=>([],f,false)
 | s::t,i,rs,op=>
  if s.Kind=5∨s.Kind=6 then (if op.isSome then ([],i,false) else qbd t (i+1) rs op)
  else if s.Kind=9 then (if op.isSome then ([],i,false) else qbd t (i+1) rs (some i))
  else if s.Kind=10 then (match op with | none=>([],i,false) | some f=>qbd t (i+1) (rs++[⟨f,i,s.N⟩]) none)
  else qbd t (i+1) rs op
theorem qcq (s:Sign) (t:List Sign) (i:Int) (rs:List Repeat) (op:Option Int):qbd (s::t) i rs op =
  if s.Kind=5∨s.Kind=6 then (if op.isSome then ([],i,false) else qbd t (i+1) rs op)
  else if s.Kind=9 then (if op.isSome then ([],i,false) else qbd t (i+1) rs (some i))
  else if s.Kind=10 then (match op with | none=>([],i,false) | some f=>qbd t (i+1) (rs++[⟨f,i,s.N⟩]) none)
  else qbd t (i+1) rs op:=by cases op<;>rfl
def kf (l:List Sign):List Repeat×Int×Bool:=qbd l 0 [] none
def qdp (nm:ZB) (l:List Sign):Int×Int:=if (qa9 nm l).1≠0 then qa9 nm l else if (kf l).2.2=true then (0,0) else (6,(kf l).2.1)
def qyw (nm:ZB) (l:List Sign):List Repeat×Int:=if (qdp nm l).1≠0 then ([],(qdp nm l).1) else ((kf l).1,0)
def qhf (s:Sign):Bool:=decide (s.Kind=9∨s.Kind=10)
def qeq (l:List Sign) (a e p:Int):List Played:=if h:a<e then (if qhf (ix l a) then qeq l (a+1) e p else ⟨a,p⟩::qeq l (a+1) e p) else []
 termination_by (e-a).toNat
 decreasing_by all_goals omega
def psG (l:List Sign) (a e p n:Int):List Played:=if h:p<n then qeq l a e p++psG l a e (p+1) n else []
 termination_by (n-p).toNat
 decreasing_by omega
def qaz (l:List Sign):List Repeat->Int->List Played
 | [],a=>qeq l a (ln l) 0
 | r::rs,a=>qeq l a r.From 0++psG l r.From r.To 0 r.N++qaz l rs (r.To+1)
def qoz (nm:ZB) (l:List Sign):List Played×Int:=if (qdp nm l).1≠0 then ([],(qdp nm l).1) else (qaz l (kf l).1 0,0)
def qgk (l:List Sign):List Played:=(qaz l (kf l).1 0).filter λx=>qkt (ix l x.Sign)
def stF (f:Time) (s:Sign):Time×Int:=
 if s.Kind=5 then (if s.Stroke then ⟨1,2⟩ else ⟨1,1⟩,0)
 else if s.Kind=6 then (⟨(qew f.N f.D (ofT s.D s.N).1 (ofT s.D s.N).2.1).1,(qew f.N f.D (ofT s.D s.N).1 (ofT s.D s.N).2.1).2.1⟩,(qew f.N f.D (ofT s.D s.N).1 (ofT s.D s.N).2.1).2.2)
 else (f,0)
def qnd:List Sign->Time->List Time->List Time×Int
 | [],_,out=>(out,0)
 | s::t,f,out=>if (stF f s).2≠0 then ([],(stF f s).2) else qnd t (stF f s).1 (out++[(stF f s).1])
def qk5 (nm:ZB) (l:List Sign):List Time×Int:=if (qa9 nm l).1≠0 then ([],(qa9 nm l).1) else qnd l ⟨1,1⟩ []
def q7m (a b:Int) (s:Sign):Int×Int×Int:=
 if zr a b≠0 then (0,0,zr a b) else if s.Kind=6/\(s.N<1∨100<s.N∨s.D<1∨100<s.D) then (0,0,2)
 else ((stF ⟨a,b⟩ s).1.N,(stF ⟨a,b⟩ s).1.D,(stF ⟨a,b⟩ s).2)
def qjm (nm:ZB) (l:List Sign):Int×Int:=if (qdp nm l).1≠0 then qdp nm l else ((qpq nm l).2.2,0)
def qic (l:List Sign) (i:Int):List Int:=if h:i<ln l then (if qkt (ix l i) then i::qic l (i+1) else qic l (i+1)) else []
 termination_by (ln l-i).toNat
 decreasing_by all_goals omega
def qcp (l:List Sign):List Int:=qic l 0
def quk (nm:ZB) (l:List Sign):List Int×Int:=if (qjm nm l).1≠0 then ([],(qjm nm l).1) else (qcp l,0)
def zc4 (nm:ZB) (l:List Sign):List Played×Int:=if (qjm nm l).1≠0 then ([],(qjm nm l).1) else (qgk l,0)
def qmv:List Time->List Int->List Time->List Time->List Time×Int
 | d::ds,n::a,F,out=>if (qew d.N d.D (ix F n).N (ix F n).D).2.2≠0 then ([],(qew d.N d.D (ix F n).N (ix F n).D).2.2)
  else qmv ds a F (out++[⟨(qew d.N d.D (ix F n).N (ix F n).D).1,(qew d.N d.D (ix F n).N (ix F n).D).2.1⟩])
 | _,_,_,out=>(out,0)
def qmj (nm:ZB) (l:List Sign) (ds:List Time):List Time×Int:=
 if (qjm nm l).1≠0 then ([],(qjm nm l).1) else if ln ds≠ln (qcp l) then ([],3) else if qdz ds≠0 then ([],qdz ds)
 else if (qk5 nm l).2≠0 then ([],(qk5 nm l).2) else qmv ds (qcp l) (qk5 nm l).1 []
def q6k (l:List Sign) (n:Int):Int:=ln (qcp l)-ln (qic l n)
def qsv:List Played->(Int->Time)->Time->List Time->List Time×Int×Int×Int
 | [],_,a,out=>(out,a.N,a.D,0)
 | x::r,f,a,out=>if (qgq a.N a.D (f x.Sign).N (f x.Sign).D).2.2≠0 then ([],0,0,(qgq a.N a.D (f x.Sign).N (f x.Sign).D).2.2)
  else qsv r f ⟨(qgq a.N a.D (f x.Sign).N (f x.Sign).D).1,(qgq a.N a.D (f x.Sign).N (f x.Sign).D).2.1⟩ (out++[a])
def ofN (nm:ZB) (l:List Sign) (d:List Time) (n:Int):Time:=ix (qmj nm l d).1 (q6k l n)
def qv8 (nm:ZB) (l:List Sign) (ds:List Time):List Time×Int×Int×Int:=
 if (qmj nm l ds).2≠0 then ([],0,0,(qmj nm l ds).2) else qsv (qgk l) (ofN nm l ds) ⟨0,1⟩ []
theorem q65 (a b:Time):(a.N=b.N/\a.D=b.D)↔a=b:=by
 cases a;cases b;simp only [Time.mk.injEq]
instance:DecidableEq Time:=λa b=>decidable_of_iff _ (q65 a b)
def zgh (a b:List Time):Bool:=decide (a=b)
theorem q06 (b:Int):qqf b=true↔((97<=b/\b<=122)∨(48<=b/\b<=57)∨b=45):=by
 simp only [qqf,qwg,Bool.or_eq_true,zA,decide_eq_true_eq];omega
theorem q05 (s:ZB):qsp s=true↔(1<=ln s/\ln s<=20/\97<=bx s 0/\bx s 0<=122/\∀ j,0<=j->j<ln s->qqf (bx s j)=true):=by
 simp only [qsp,qwg,zA,decide_eq_true_eq,List.all_eq_true];constructor
 .rintro ⟨⟨⟨a,c⟩,d,e⟩,f⟩;exact ⟨a,c,d,e,λj g h=>f _ (q25 g h)⟩
 .rintro ⟨a,c,d,e,f⟩;refine ⟨⟨⟨a,c⟩,d,e⟩,λb k=>?_⟩;obtain ⟨i,l,m,rfl⟩:=ze8 k;exact f i l m
theorem qwj {s:ZB} (h:1<=ln s/\ln s<=20/\97<=bx s 0/\bx s 0<=122/\∀ j,0<=j->j<ln s->qqf (bx s j)=true):true=qsp s:=((q05 s).2 h).symm
theorem qsq {s:ZB} (h:¬ (1<=ln s/\ln s<=20/\97<=bx s 0/\bx s 0<=122/\∀ j,0<=j->j<ln s->qqf (bx s j)=true)):false=qsp s:=by
 cases a:qsp s with
 | false=>rfl
 | true=>exact absurd ((q05 s).1 a) h
theorem q07 {s:ZB} {i:Int} (h:∀ j,0<=j->j<i->qqf (bx s j)=true) (hi:(97<=bx s i/\bx s i<=122)∨(48<=bx s i/\bx s i<=57)∨bx s i=45):∀ j,0<=j->j<i+1->qqf (bx s j)=true:=by
 intro j a c;by_cases b:j=i
 .subst b;exact (q06 _).2 hi
 .exact h j a (by omega)
theorem q54 {s:ZB} {i:Int} (a:0<=i) (h:i<ln s) (hi:¬ ((97<=bx s i/\bx s i<=122)∨(48<=bx s i/\bx s i<=57)∨bx s i=45)):false=qsp s:=
 qsq λb=>hi ((q06 _).1 (b.2.2.2.2 i a h))
theorem zc1 {a b:List Sign} (h:a=b):za5 a b=true:=decide_eq_true h
theorem q6x {a b:List Sign} (h:a≠b):za5 a b=false:=decide_eq_false h
theorem zgi {a b:Sign} (k:a.Kind=b.Kind) (l:a.Value=b.Value) (m:a.Place=b.Place) (n:a.Acc=b.Acc) (o:a.Color=b.Color) (p:a.Stem=b.Stem) (q:a.Oblique=b.Oblique) (r:a.Last=b.Last) (s:a.MensMax=b.MensMax) (c:a.MensMod=b.MensMod) (d:a.MensTem=b.MensTem) (e:a.MensPro=b.MensPro) (f:a.Stroke=b.Stroke) (g:a.N=b.N) (h:a.D=b.D) (i:a.ClefStep=b.ClefStep) (j:a.ClefLine=b.ClefLine):a=b:=by
 cases a;cases b;simp_all
theorem zer {α:Type} [Inhabited α] {l:List α} {i j:Int} {a:α} (c:0<=i) (h:i<ln l) (d:0<=j):ix (l.set i.toNat a) j=if j=i then a else ix l j:=by
 obtain ⟨n,rfl⟩:=Int.eq_ofNat_of_zero_le c;obtain ⟨m,rfl⟩:=Int.eq_ofNat_of_zero_le d;have k:n<l.length:=by simp only [ln] at h;omega
 rw [Int.toNat_natCast];by_cases b:m<l.length
 .rw [qq7 (by simpa using b),qq7 b,List.getElem_set];by_cases e:m=n
  .simp_all
  .grind
 .rw [zF (by omega)];have f:ix (l.set n a) (m:Int)=default:=by unfold ix;simp [List.getD,b]
  have g:ix l (m:Int)=default:=by unfold ix;simp [List.getD,b]
  rw [f,g]
theorem zei {α:Type} {l:List α} {i:Int} {a:α} (b:0<=i):fr (l.set i.toNat a) (i+1)=fr l (i+1):=by
 obtain ⟨n,rfl⟩:=Int.eq_ofNat_of_zero_le b;have e:((n:Int)+1).toNat=n+1:=by omega
 unfold fr;rw [e,Int.toNat_natCast,List.drop_set,zT (by omega)]
theorem q2x {α:Type} {l m:List α} {i:Int} (a:0<=i) (h:fr l i=fr m i):fr l (i+1)=fr m (i+1):=by
 rw [<-q98 a (show (0:Int)<=1 by decide),h,q98 a (by decide)]
theorem q0b {l:List Sign}:∀ {i:Int},(qiv l i).1=0->∀ j,i<=j->j<ln l->qem l j=0:=by
 intro i h j c a;rw [qiv,dif_pos (by omega)] at h;by_cases b:qem l i=0
 .rw [zF (by simp [b])] at h;by_cases d:j=i
  .simp_all
  .exact q0b h j (by omega) a
 .simp_all
 termination_by i=>(ln l-i).toNat
theorem qea {nm:ZB} {l:List Sign} (h:(qa9 nm l).1=0):ln l<=400/\∀ j,0<=j->j<ln l->qem l j=0:=by
 unfold qa9 at h;split at h
 .cases h
 .split at h
  .cases h
  .exact ⟨by omega,λj a b=>q0b h j a b⟩
theorem qul {l:List Sign} {i:Int} (h:qem l i=0):qst (ix l i)=0/\¬ zby l i:=by
 unfold qem at h;split at h
 .simp_all
 .simp_all
theorem qlc {s:Sign} (h:qst s=0):qom s/\(s.Kind=5->qmp s.MensMax s.MensMod s.MensTem s.MensPro=0):=by
 unfold qst at h;split at h
 .cases h
 .grind
theorem q26 {l:List Sign} (f:∀ j,0<=j->j<ln l->qem l j=0):∀ {i:Int},0<=i->i<ln l->(ix l i).Kind=4->
  ju l i<ln l/\(ix l (ju l i)).Last=true/\(∀ j,i<=j->j<=ju l i->(ix l j).Kind=4)/\∀ j,i<=j->j<ju l i->(ix l j).Last=false:=by
 intro i p g k;rw [ju,dif_pos g];by_cases m:(ix l i).Last=true
 .grind
 .rw [zF m];have n:=(qul (f i p g)).2;have e:(ix l i).Last=false:=by simpa using m
  have o:i+1<ln l/\(ix l (i+1)).Kind=4:=by
   constructor
   .apply Decidable.byContradiction;intro h;exact n ⟨k,.inr ⟨e,.inl (by omega)⟩⟩
   .apply Decidable.byContradiction;intro h;exact n ⟨k,.inr ⟨e,.inr h⟩⟩
  obtain ⟨a,b,c,d⟩:=q26 f (i:=i+1) (by omega) o.1 o.2;refine ⟨a,b,λj q r=>?_,λj q r=>?_⟩
  .grind
  .grind
 termination_by i=>(ln l-i).toNat
theorem zbf (s:Sign):zqp s=s↔(s.Value=0/\s.MensMax=0/\s.MensMod=0/\s.MensTem=0/\s.MensPro=0/\s.Stroke=false/\s.N=0/\s.D=0/\s.ClefStep=0/\s.ClefLine=0):=by
 cases s;simp only [zqp,Sign.mk.injEq]
 constructor<;>intro h<;>grind
theorem q5z {l:List Sign} {i:Int} (h:i<ln l) (he:q28 l i=0):qk8 l i=qk8 l (i+1):=by
 rw [qk8,dif_pos h,zF (by simp [he])]
theorem zah {l:List Sign} {i:Int} (h:i<ln l) (he:q28 l i≠0):qk8 l i=(q28 l i,i):=by
 rw [qk8,dif_pos h,zT he]
theorem zag {l:List Sign} {i:Int} (h:ln l<=i):qk8 l i=(0,0):=by
 rw [qk8,dif_neg (by omega)]
theorem qjl (l:List Sign):∀ n,(qti l n).length=n
 | 0=>rfl
 | n+1=>by simp [qti,qjl l n]
theorem zj5 {l:List Sign} (h:(qgr l).2=0):ln (qgr l).1=ln l:=by
 unfold qgr at h ⊢;split at h
 .simp_all
 .rename_i a;rw [zF a];show ((qti l (ln l).toNat).length:Int)=ln l;rw [qjl];have:=zc l;omega
theorem zbj {l:List Sign} (h:(qyb l).1=0):(qgr l).1=qti l (ln l).toNat:=by
 unfold qgr;rw [zF (by omega)]
theorem zq9 (l:List Sign):ln (qti l (ln l).toNat)=ln l:=by
 have:=qjl l (ln l).toNat
 simp only [ln] at *;omega
theorem zbi (l:List Sign):∀ {n:Nat} {j:Int},0<=j->j<n->ix (qti l n) j=q4d l j
 | 0,j,a,h=>by omega
 | n+1,j,a,h=>by
  rw [qti];by_cases b:j<n
  .rw [qx8 a (by simp only [ln,qjl];exact b),zbi l a b]
  .obtain rfl:j=n:=by omega
   have:=qjl l n;simp [ix,qjl]
theorem zq8 {l:List Sign} {j:Int} (a:0<=j) (h:j<ln l):ix (qti l (ln l).toNat) j=q4d l j:=zbi l a (by omega)
theorem zgy {l:List Sign} {i:Int} (h:0<=i):qti l (i+1).toNat=qti l i.toNat++[q4d l i]:=by
 rw [show (i+1).toNat=i.toNat+1 by omega,qti,show ((i.toNat:Nat):Int)=i by omega]
theorem q6m (l:List Sign):∀ (i:Int) (vs:List Int) (out:List Sign),(qsz l i vs out).length=out.length
 | _,[],_=>rfl
 | i,v::vs,out=>by rw [qsz,q6m l (i+1) vs,List.length_set]
theorem qxy {α:Type} [Inhabited α] {l:List α} {i:Int} (a:0<=i) (h:i<ln l):fr l i=ix l i::fr l (i+1):=qdt a h
def q7c (l:List Sign) (i:Int) (x:Section):Section×Int:=
 if qiw (ix l i).Kind=1 then ({x with From:=if x.From<0 then i else x.From,To:=i+1},0)
 else if qiw (ix l i).Kind=2 then (if x.From<0 then (x,13) else ({x with To:=i+1},0))
 else (x,0)
theorem qtl {l:List Sign} {i to:Int} {x:Section} (h:i<to):qdc l i to x=if (q7c l i x).2≠0 then q7c l i x else qdc l (i+1) to (q7c l i x).1:=by
 rw [qdc,dif_pos h];unfold q7c;split
 .rfl
 .grind
theorem qpl {l:List Sign} {i to:Int} {x:Section} (h:to<=i):qdc l i to x=(x,0):=by rw [qdc,dif_neg (by omega)]
theorem q7d {l:List Sign} {i:Int}:∀ {a:Int} {x:Section},a<=i->qdc l a (i+1) x=if (qdc l a i x).2≠0 then qdc l a i x else q7c l i (qdc l a i x).1:=by
 intro a x h;by_cases c:a=i
 .subst c;rw [qpl (zK a),zF (by simp),qtl (by omega),qpl (zK (a+1))];split
  .rfl
  .grind
 .rw [qtl (to:=i+1) (by omega),qtl (to:=i) (by omega)];by_cases b:(q7c l a x).2≠0
  .simp_all
  .rw [zF b,zF b];exact q7d (by omega)
 termination_by a=>(i-a).toNat
theorem zbl {l:List Sign}:∀ {i to:Int} {x:Section},(qdc l i to x).2=0∨(qdc l i to x).2=13:=by
 intro i to x;by_cases h:i<to
 .rw [qtl h];split
  .unfold q7c;split
   .exact .inl rfl
   .grind
  .exact zbl
 .rw [qpl (by omega)];exact .inl rfl
 termination_by i to=>(to-i).toNat
def qs0:List Sign->Int->Mn->Section->List Section->List Section×Int
 | [],_,m,s,out=>if 0<=s.From/\m=(0,0,0,0) then ([],12) else (if 0<=s.From then out++[s] else out,0)
 | x::t,i,m,s,out=>
  if qiw x.Kind=1 then qs0 t (i+1) m {s with From:=if s.From<0 then i else s.From,To:=i+1} out
  else if qiw x.Kind=2 then (if s.From<0 then ([],13) else qs0 t (i+1) m {s with To:=i+1} out)
  else if qiw x.Kind=3 then (if 0<=s.From/\m=(0,0,0,0) then ([],12) else
   qs0 t (i+1) (if x.Kind=5 then qsj x else m) (qg6 (-1) 0 (if x.Kind=5 then qsj x else m)) (if 0<=s.From then out++[s] else out))
  else qs0 t (i+1) m s out
theorem qwn:∀ (t:List Sign) (i:Int) (s:Section) (out:List Section),0<=s.From->qs0 t i (0,0,0,0) s out=([],12)
 | [],_,_,_,h=>by rw [qs0,zT ⟨h,rfl⟩]
 | x::t,i,s,out,h=>by
  rw [qs0];split
  .exact qwn t _ _ _ (by show 0<=(if s.From<0 then i else s.From);rw [zF (by omega)];exact h)
  .split
   .rw [zF (by omega)];exact qwn t _ _ _ h
   .split
    .rw [zT ⟨h,rfl⟩]
    .exact qwn t _ _ _ h
theorem qs7:∀ (t:List Sign) (i:Int) (m:Mn) (d:Bool) (s:Section) (out:List Section),(∀ x ∈ t,x.Kind=5->qsj x≠(0,0,0,0))->0<=i->d=decide (m≠(0,0,0,0))->¬ (d=false/\0<=s.From)->
  qle t i m d s out=qs0 t i m s out
 | [],i,m,d,s,out,_,_,b,h=>by
  rw [qle,qs0,zF (c:=0<=s.From/\m=(0,0,0,0)) (λa=>h ⟨by rw [b,a.2];simp,a.1⟩)]
 | x::t,i,m,d,s,out,j,l,b,h=>by
  have f:∀ y ∈ t,y.Kind=5->qsj y≠(0,0,0,0):=λy k=>j y (zG _ k);rw [qle,qs0];split
  .split
   .rename_i g;have:m=(0,0,0,0):=by rw [g] at b;simpa using b.symm
    rw [this,qwn];show 0<=(if s.From<0 then i else s.From)
    split<;>omega
   .rename_i g;exact qs7 t _ _ _ _ _ f (by omega) b λa=>g a.1
  .split
   .split
    .rfl
    .exact qs7 t _ _ _ _ _ f (by omega) b h
   .split
    .rw [zF (c:=0<=s.From/\m=(0,0,0,0)) (λa=>h ⟨by rw [b,a.2];simp,a.1⟩)];refine qs7 t _ _ _ _ _ f (by omega) ?_ λa=>?_
     .by_cases e:x.Kind=5
      .rw [zT e];have:=j x zC e;simp [e,this]
      .rw [zF e,b];simp [e]
     .have:=a.2;simp only [qg6] at this;omega
    .exact qs7 t _ _ _ _ _ f (by omega) b h
theorem q3g {l:List Sign}:∀ {i a:Int} {m:Mn} {out:List Section},0<=a->a<=i->i<=ln l->
  q3f l i a m out=if (qdc l a i (qg6 (-1) 0 m)).2≠0 then ([],13) else qs0 (fr l i) i m (qdc l a i (qg6 (-1) 0 m)).1 out:=by
 intro i a m out f g j;have k:qtk l a i m.1 m.2.1 m.2.2.1 m.2.2.2=if (qdc l a i (qg6 (-1) 0 m)).2≠0 then qdc l a i (qg6 (-1) 0 m) else if 0<=(qdc l a i (qg6 (-1) 0 m)).1.From/\m=(0,0,0,0) then ((qdc l a i (qg6 (-1) 0 m)).1,12) else qdc l a i (qg6 (-1) 0 m):=by
  unfold qtk;have e:(m=(0,0,0,0))↔(m.1=0/\m.2.1=0/\m.2.2.1=0/\m.2.2.2=0):=by
   obtain ⟨p,q,r,t⟩:=m;simp
  simp only [e]
 rw [q3f,dif_pos j];by_cases d:i<ln l/\qiw (ix l i).Kind≠3
 .rw [zT d,q3g f (by omega) (by omega),q7d g];by_cases b:(qdc l a i (qg6 (-1) 0 m)).2≠0
  .simp_all
  .rw [zF b,zF b,qxy (by omega) d.1,qs0];unfold q7c;by_cases n:qiw (ix l i).Kind=1
   .simp [n]
   .grind
 .rw [zF d,k];by_cases b:(qdc l a i (qg6 (-1) 0 m)).2≠0
  .rw [zT b,zT b,zT b];have:=zbl (l:=l) (i:=a) (to:=i) (x:=qg6 (-1) 0 m);rw [show (qdc l a i (qg6 (-1) 0 m)).2=13 by omega]
  .rw [zF b,zF b];by_cases hi:i<ln l
   .have c3:qiw (ix l i).Kind=3:=by
     apply Decidable.byContradiction;intro h;exact d ⟨hi,h⟩
    have o:¬ qiw (ix l i).Kind=1:=by omega
    have s:¬ qiw (ix l i).Kind=2:=by omega
    rw [qxy (by omega) hi,qs0,zF o,zF s,zT c3];by_cases c:0<=(qdc l a i (qg6 (-1) 0 m)).1.From/\m=(0,0,0,0)
    .grind
    .rw [zF c,zF c,zF b,q3g (by omega) (zK _) (by omega),qpl (zK _)];simp [hi]
   .have v:i=ln l:=by omega
    have u:fr l i=[]:=qf7 (by omega);rw [u,qs0];by_cases c:0<=(qdc l a i (qg6 (-1) 0 m)).1.From/\m=(0,0,0,0)
    .grind
    .rw [zF c,zF c,zF b,q3f,dif_neg (by omega)]
 termination_by i=>(ln l-i).toNat
theorem zqg {l:List Sign} (hm:∀ x ∈ l,x.Kind=5->qsj x≠(0,0,0,0)):q6z l=q50 l:=by
 unfold q6z q50;rw [q3g (zK 0) (zK 0) (zc l),qpl (zK 0),zF (by simp)];exact qs7 l 0 (0,0,0,0) false _ [] hm (zK 0) rfl (by simp [qg6])
theorem q6l {P:Sign->Prop} (b:∀ s v,P (zfe s v)) (l:List Sign):∀ (i:Int) (vs:List Int) (out:List Sign),(∀ x ∈ out,P x)->∀ x ∈ qsz l i vs out,P x
 | _,[],_,h=>h
 | i,v::vs,out,h=>q6l b l (i+1) vs _ λx c=>by
  rcases List.mem_or_eq_of_mem_set c with a | a
  .exact h x a
  .rw [a];exact b _ _
theorem qxq {P:Sign->Prop} (a:∀ s v,P (zfe s v)) {l:List Sign}:∀ {i:Int} {out:List Sign},(∀ x ∈ out,P x)->∀ x ∈ (qct l i out).1,P x:=by
 intro i out h;rw [qct];split
 .split
  .split
   .simp_all
   .have:=qjv l i;exact qxq a (q6l a l i _ _ h)
  .exact qxq a h
 .exact h
 termination_by i=>(ln l-i).toNat
theorem zjn {nm:ZB} {l:List Sign} (h:(qcl nm l).2=0):q6z (qcl nm l).1.2=q50 (qcl nm l).1.2:=by
 apply zqg;unfold qcl at h ⊢;by_cases b:(qa9 nm l).1≠0
 .simp_all
 .rw [zF b] at h ⊢;by_cases c:(qct l 0 l).2≠0
  .simp_all
  .rw [zF c];refine qxq (P:=λx=>x.Kind=5->qsj x≠(0,0,0,0)) (λs v a=>by simp [zfe] at a) λx d a=>?_;obtain ⟨j,e,f,rfl⟩:=ze8 d;have:=(qlc (qul ((qea (nm:=nm) (by omega)).2 j e f)).1).2 a;intro g;simp only [qsj,zP] at g;unfold qmp at this;omega
def qfo (l:List Sign):Int->List Repeat->Prop
 | a,[]=>a<=ln l/\∀ i,a<=i->i<ln l->qhf (ix l i)=false
 | a,r::rs=>a<=r.From/\r.From<r.To/\r.To<ln l/\(∀ i,a<=i->i<r.From->qhf (ix l i)=false)/\qhf (ix l r.From)=true/\(∀ i,r.From<i->i<r.To->qhf (ix l i)=false)/\r.N=(ix l r.To).N/\(ix l r.To).Kind=10/\qfo l (r.To+1) rs
theorem qo2 {l:List Sign}:∀ {i:Int} {rs:List Repeat} {op:Option Int},0<=i->i<=ln l->(qbd (fr l i) i rs op).2.2=true->
  (op=none->∃ new,(qbd (fr l i) i rs op).1=rs++new/\∀ a,a<=i->(∀ j,a<=j->j<i->qhf (ix l j)=false)->qfo l a new)/\
  ∀ f,op=some f->∃ T N new,(qbd (fr l i) i rs op).1=rs++(⟨f,T,N⟩:Repeat)::new/\i<=T/\T<ln l/\(∀ j,i<=j->j<T->qhf (ix l j)=false)/\N=(ix l T).N/\(ix l T).Kind=10/\qfo l (T+1) new:=by
 intro i rs op u z h;by_cases hi:i<ln l
 .rw [qxy u hi,qcq] at h ⊢;have free:qhf (ix l i)=false->(qbd (fr l (i+1)) (i+1) rs op).2.2=true->
   (op=none->∃ new,(qbd (fr l (i+1)) (i+1) rs op).1=rs++new/\∀ a,a<=i->(∀ j,a<=j->j<i->qhf (ix l j)=false)->qfo l a new)/\
   ∀ f,op=some f->∃ T N new,(qbd (fr l (i+1)) (i+1) rs op).1=rs++(⟨f,T,N⟩:Repeat)::new/\i<=T/\T<ln l/\(∀ j,i<=j->j<T->qhf (ix l j)=false)/\N=(ix l T).N/\(ix l T).Kind=10/\qfo l (T+1) new:=λA v=>by
   obtain ⟨q,r⟩:=qo2 (i:=i+1) (by omega) (by omega) v;have ext:∀ {a k:Int},(∀ j,a<=j->j<i->qhf (ix l j)=false)->∀ j,a<=j->j<i+1->qhf (ix l j)=false:=λm j c d=>by
    by_cases B:j=i
    .simp_all
    .grind
   refine ⟨λg=>?_,λf g=>?_⟩
   .grind
   .grind
  by_cases s:(ix l i).Kind=5∨(ix l i).Kind=6
  .rw [zT s] at h ⊢;split at h
   .cases h
   .rename_i g;rw [zF g];exact free (by simp [qhf];omega) h
  .rw [zF s] at h ⊢;by_cases n:(ix l i).Kind=9
   .rw [zT n] at h ⊢;split at h
    .cases h
    .rename_i g;rw [zF g];have o:op=none:=by cases op<;>simp_all
     obtain ⟨_,r⟩:=qo2 (i:=i+1) (by omega) (by omega) h;refine ⟨λ_=>?_,λf b=>by rw [o] at b;cases b⟩;obtain ⟨T,N,new,e,C,t1,t2,t3,t4,w⟩:=r i rfl;exact ⟨_,e,λa t m=>⟨t,by show i<T;omega,t1,m,by simp [qhf,n],λj c d=>t2 j (by show i+1<=j;have:i<j:=c;omega) d,t3,t4,w⟩⟩
   .rw [zF n] at h ⊢;by_cases p:(ix l i).Kind=10
    .rw [zT p] at h ⊢;cases op with
     | none=>cases h
     | some f=>
      obtain ⟨q,_⟩:=qo2 (i:=i+1) (by omega) (by omega) h;refine ⟨λb=>(by cases b),λx b=>?_⟩;obtain rfl:f=x:=by simpa using b
      obtain ⟨new,e,o⟩:=q rfl;exact ⟨i,(ix l i).N,new,by rw [e];simp,zK _,hi,λj c d=>by omega,rfl,p,o (i+1) (zK _) λj c d=>by omega⟩
    .rw [zF p] at h ⊢;exact free (by simp [qhf];omega) h
 .have y:fr l i=[]:=qf7 (by omega);rw [y] at h ⊢;cases op with
  | none=>exact ⟨λ_=>⟨[],by simp [qbd],λa t m=>⟨by omega,λj c d=>m j c (by omega)⟩⟩,λf b=>by cases b⟩
  | some f=>cases h
 termination_by i=>(ln l-i).toNat
 decreasing_by all_goals omega
theorem zdl {l:List Sign} (h:(kf l).2.2=true):qfo l 0 (kf l).1:=by
 have e:fr l 0=l:=rfl;unfold kf at h ⊢;obtain ⟨new,a,b⟩:=(qo2 (zK 0) (zc l) h).1 rfl;rw [e] at a;rw [a,List.nil_append];exact b 0 (zK 0) λj c d=>by omega
theorem zfg {l:List Sign}:∀ {i n:Int},i<=n->n<=ln l->∃ a,qic l i=a++qic l n:=by
 intro i n h b;by_cases c:i=n
 .simp_all
 .obtain ⟨a,e⟩:=zfg (i:=i+1) (n:=n) (by omega) b;rw [qic,dif_pos (by omega)];split
  .grind
  .exact ⟨a,e⟩
 termination_by i n=>(n-i).toNat
theorem qwk {l:List Sign}:∀ {i x:Int},x ∈ qic l i->i<=x/\x<ln l/\qkt (ix l x)=true:=by
 intro i x h;rw [qic] at h;split at h
 .split at h
  .rcases zD.1 h with rfl | h
   .simp_all
   .have:=qwk h;exact ⟨by omega,this.2⟩
  .have:=qwk h;exact ⟨by omega,this.2⟩
 .cases h
 termination_by i=>(ln l-i).toNat
theorem zpy {l:List Sign} {n:Int} (a:0<=n) (b:n<ln l) (c:qkt (ix l n)=true):0<=q6k l n/\q6k l n<ln (qcp l)/\ix (qcp l) (q6k l n)=n:=by
 obtain ⟨d,e⟩:=zfg (l:=l) a (by omega);have f:qic l n=n::qic l (n+1):=by rw [qic,dif_pos b,zT c]
 unfold q6k qcp;rw [e,f];refine ⟨by simp [ln],by simp [ln];omega,?_⟩;simp only [ln,List.length_append];simp [ix]
theorem q9v:∀ (t:List Sign) (f:Time) (out:List Time),(qnd t f out).2=0->ln (qnd t f out).1=ln out+ln t
 | [],_,_,_=>by simp [qnd,ln]
 | s::t,f,out,h=>by
  rw [qnd] at h ⊢;split at h
  .exact absurd h ‹_›
  .rename_i a;rw [zF a,q9v t _ _ h];simp only [ln,List.length_append,List.length_cons,List.length_nil];omega
theorem zcn {n:Int} (h:0<=n):∃ m:Nat,n=m:=⟨n.toNat,by omega⟩
theorem q0d {a b c d:Int} (hp:qzb a b c d):kr (a.tdiv (kr a d) * c.tdiv (kr c b)) (b.tdiv (kr c b) * d.tdiv (kr a d))=1:=by
 obtain ⟨h0,_,h2,_,h4,_,h6,_,h8,h9⟩:=hp;obtain ⟨A,rfl⟩:=zcn h0;obtain ⟨B,rfl⟩:=zcn (show 0<=b by omega);obtain ⟨C,rfl⟩:=zcn h4;obtain ⟨D,rfl⟩:=zcn (show 0<=d by omega);have hB:0<B:=by omega
 have hD:0<D:=by omega
 have e:∀ x y:Nat,kr (x:Int) (y:Int)=((Nat.gcd x y:Nat):Int):=λx y=>by simp [kr]
 rw [e] at h8 h9
 have c1 : Nat.Coprime A B := by have : Nat.gcd A B = 1 := by omega
                                 exact this
 have c2 : Nat.Coprime C D := by have : Nat.gcd C D = 1 := by omega
                                 exact this
 rw [e A D,e C B];simp only [<-Int.ofNat_tdiv,<-Int.natCast_mul];rw [e];have g1:0<Nat.gcd A D:=Nat.gcd_pos_of_pos_right _ hD;have g2:0<Nat.gcd C B:=Nat.gcd_pos_of_pos_right _ hB;have dA:A / Nat.gcd A D ∣ A:=Nat.div_dvd_of_dvd (Nat.gcd_dvd_left A D);have dD:D / Nat.gcd A D ∣ D:=Nat.div_dvd_of_dvd (Nat.gcd_dvd_right A D);have dC:C / Nat.gcd C B ∣ C:=Nat.div_dvd_of_dvd (Nat.gcd_dvd_left C B);have dB:B / Nat.gcd C B ∣ B:=Nat.div_dvd_of_dvd (Nat.gcd_dvd_right C B);have k1:Nat.Coprime (A / Nat.gcd A D) (B / Nat.gcd C B):=Nat.Coprime.coprime_dvd_left dA (Nat.Coprime.coprime_dvd_right dB c1);have k2:Nat.Coprime (A / Nat.gcd A D) (D / Nat.gcd A D):=Nat.coprime_div_gcd_div_gcd g1;have k3:Nat.Coprime (C / Nat.gcd C B) (B / Nat.gcd C B):=Nat.coprime_div_gcd_div_gcd g2;have k4:Nat.Coprime (C / Nat.gcd C B) (D / Nat.gcd A D):=Nat.Coprime.coprime_dvd_left dC (Nat.Coprime.coprime_dvd_right dD c2);have k:Nat.Coprime (A / Nat.gcd A D * (C / Nat.gcd C B)) (B / Nat.gcd C B * (D / Nat.gcd A D)):=Nat.Coprime.mul_left (Nat.Coprime.mul_right k1 k2) (Nat.Coprime.mul_right k3 k4);omega
theorem qwm {n g:Int} (h:1<=n) (e:g * n.tdiv g=n) (a:0<=n.tdiv g):1<=n.tdiv g:=by
 by_cases b:n.tdiv g=0
 .simp_all
 .omega
theorem q3w {a b m:Int} (c:0<a) (hm:0<=m):m.tdiv a<b↔m<b * a:=by
 rw [Int.tdiv_eq_ediv_of_nonneg hm];exact Int.ediv_lt_iff_lt_mul c
theorem qtx {n d:Int} (h:zr n d=0):kr n d=1:=by
 have b:=qd9 h;have c:=qf9 (a:=n) b.2.2.1;unfold zr at h;split at h<;>omega
theorem qww {c a d b:Int} (g:zr c a=0) (h:zr d b=0):I64 (c * b)/\I64 (d * a)/\I64 ((c * b)+(d * a))/\I64 (a * b)/\
  (0<=((c * b)+(d * a))/\1<=(a * b)/\((c * b)+(d * a))<=4611686018427387904/\(a * b)<=4611686018427387904)/\I64 ((c * b)-(d * a)):=by
 have e:=qd9 g;have f:=qd9 h;have i:=q3j e.1 e.2.1 (show 0<=b by omega) f.2.2.2;have j:=q3j f.1 f.2.1 (show 0<=a by omega) e.2.2.2;have k:=q8i e.2.2.1 f.2.2.1;have l:=q3j (show 0<=a by omega) e.2.2.2 (show 0<=b by omega) f.2.2.2;omega
theorem zgt {a b c d:Int} (f:qzb a b c d) (h:(qfn a b c d).2.2=0):zr (qfn a b c d).1 (qfn a b c d).2.1=0:=by
 have g:=q0d f;obtain ⟨i,u,j,v,k,w,l,x,y,z⟩:=f;have m:=qbp i (ji a d);have n:=qbp (show 0<=d by omega) (ji a d);have o:=qbp k (ji c b);have p:=qbp (show 0<=b by omega) (ji c b);have q:=qwm l (qlu (a:=a) (show 0<=d by omega)) n.1;have r:=qwm j (qlu (a:=c) (show 0<=b by omega)) p.1;unfold qfn at h ⊢;split at h
 .cases h
 .rename_i s;rw [zF s];have A:=q8i r q;have B:0<=a.tdiv (kr a d) * c.tdiv (kr c b):=Int.mul_nonneg m.1 o.1;have C:a.tdiv (kr a d) * c.tdiv (kr c b)<=1099511627776:=by
   by_cases t:0<a.tdiv (kr a d)
   .have:=(q3w (b:=c.tdiv (kr c b)) t (show (0:Int)<=1099511627776 by decide));have e:=Int.mul_comm (c.tdiv (kr c b)) (a.tdiv (kr a d));omega
   .grind
  show zr (a.tdiv (kr a d) * c.tdiv (kr c b)) (b.tdiv (kr c b) * d.tdiv (kr a d))=0;unfold zr;rw [zF (by omega),zF (by omega)]
theorem ziy {a b c d:Int} (g:zr a b=0) (h:zr c d=0):qzb a b c d:=by
 have e:=qd9 g;have f:=qd9 h;exact ⟨e.1,e.2.1,e.2.2.1,by omega,f.1,f.2.1,f.2.2.1,by omega,qtx g,qtx h⟩
theorem zpn {a b c d:Int} (h:(qew a b c d).2.2=0):zr (qew a b c d).1 (qew a b c d).2.1=0:=by
 unfold qew at h ⊢;split at h
 .simp_all
 .rename_i e;split at h
  .simp_all
  .rename_i f;rw [zF e,zF f];exact zgt (ziy (by omega) (by omega)) h
theorem za6 {l:List Sign} {i:Int} {rs:List Repeat} {op:Option Int} (a:0<=i) (h:i<ln l):qbd (fr l i) i rs op =
  if (ix l i).Kind=5∨(ix l i).Kind=6 then (if op.isSome then ([],i,false) else qbd (fr l (i+1)) (i+1) rs op)
  else if (ix l i).Kind=9 then (if op.isSome then ([],i,false) else qbd (fr l (i+1)) (i+1) rs (some i))
  else if (ix l i).Kind=10 then (match op with | none=>([],i,false) | some f=>qbd (fr l (i+1)) (i+1) (rs++[⟨f,i,(ix l i).N⟩]) none)
  else qbd (fr l (i+1)) (i+1) rs op:=by rw [qdt a h,qcq]<;>cases op<;>rfl
theorem q6y {l:List Sign} {i:Int} {rs:List Repeat} {op:Option Int} (h:ln l<=i):qbd (fr l i) i rs op=match op with | none=>(rs,0,true) | some f=>([],f,false):=by
 rw [qf7 h];cases op<;>rfl
theorem qyt {nm:ZB} {l:List Sign} (h:(qdp nm l).1=0):(kf l).2.2=true/\(qa9 nm l).1=0:=by
 unfold qdp at h;split at h
 .simp_all
 .grind
theorem qo0 {l:List Sign}:∀ {i to:Int} {x:Section},(qdc l i to x).1=⟨(qdc l i to x).1.From,(qdc l i to x).1.To,x.MensMax,x.MensMod,x.MensTem,x.MensPro,x.FactorN,x.FactorD⟩:=by
 intro i to x;rw [qdc];split
 .split
  .exact qo0
  .split
   .split
    .rfl
    .exact qo0
   .exact qo0
 .rfl
 termination_by i to=>(to-i).toNat
theorem zc8 {l:List Sign} {i to p q r t:Int}:(qtk l i to p q r t).1=⟨(qtk l i to p q r t).1.From,(qtk l i to p q r t).1.To,p,q,r,t,0,0⟩:=by
 unfold qtk;split
 .exact qo0
 .split<;>exact qo0
theorem qow:∀ (t:List Sign) (i:Int) (m:Mn) (c:Bool) (s:Section) (out:List Section),(qle t i m c s out).2≠0->(qle t i m c s out).1=[]
 | [],_,_,_,_,_,h=>absurd rfl h
 | x::t,i,m,c,s,out,h=>by
  rw [qle] at h ⊢;split
  .rename_i d;rw [zT d] at h;split
   .rfl
   .rename_i a;rw [zF a] at h;exact qow t _ _ _ _ _ h
  .rename_i d;rw [zF d] at h;split
   .rename_i a;rw [zT a] at h;split
    .rfl
    .rename_i b;rw [zF b] at h;exact qow t _ _ _ _ _ h
   .rename_i a;rw [zF a] at h;split
    .rename_i b;rw [zT b] at h;exact qow t _ _ _ _ _ h
    .rename_i b;rw [zF b] at h;exact qow t _ _ _ _ _ h
theorem qxr {l:List Sign}:∀ {i:Int} {out:List Sign},(qct l i out).2=0->(qct l i out).1.length=out.length:=by
 intro i out h;rw [qct] at h ⊢;by_cases hi:i<ln l
 .rw [dif_pos hi] at h ⊢;by_cases a:(ix l i).Kind=4
  .rw [zT a] at h ⊢;by_cases b:(qgr (qsf l i)).2≠0
   .simp_all
   .rw [zF b] at h ⊢;have:=qjv l i;rw [qxr h,q6m]
  .rw [zF a] at h ⊢;exact qxr h
 .grind
 termination_by i=>(ln l-i).toNat
theorem zd7 {nm:ZB} {l:List Sign} (h:(qcl nm l).2=0):(qa9 nm l).1=0/\(qcl nm l).1.1=nm/\(qcl nm l).1.2=(qct l 0 l).1/\(qct l 0 l).2=0/\ln (qcl nm l).1.2=ln l:=by
 unfold qcl at h ⊢;by_cases a:(qa9 nm l).1≠0
 .simp_all
 .rw [zF a] at h ⊢;by_cases b:(qct l 0 l).2≠0
  .simp_all
  .rw [zF b];have e:(qct l 0 l).2=0:=by omega
   exact ⟨by omega,rfl,rfl,e,by show ln (qct l 0 l).1=ln l;simp only [ln,qxr e]⟩
theorem zqe {nm:ZB} {l:List Sign} (h:(qcl nm l).2=0):(qpq nm l).2.1=(q50 (qcl nm l).1.2).1/\(qpq nm l).2.2=(q50 (qcl nm l).1.2).2:=by
 rw [<-zjn h];unfold qpq;rw [zF (by omega)];by_cases a:(q6z (qcl nm l).1.2).2≠0
 .rw [zT a];exact ⟨(qow _ _ _ _ _ _ a).symm,rfl⟩
 .simp_all
theorem zai {l:List Sign} (h:(qyb l).1=0):2<=ln l/\ln l<=12:=by
 unfold qyb at h;split at h
 .cases h
 .omega
theorem zar {l:List Sign}:∀ {i:Int},0<=i->i<=ln l->ln (qic l i)<=ln l-i:=by
 intro i a b;rw [qic];split
 .have:=zar (l:=l) (i:=i+1) (by omega) (by omega);split
  .grind
  .omega
 .grind
 termination_by i=>(ln l-i).toNat
theorem qy6 {l:List Sign} {p:Int}:∀ {a e:Int},(∀ i,a<=i->i<e->qhf (ix l i)=false)->a<e->qeq l a e p=⟨a,p⟩::qeq l (a+1) e p:=by
 intro a e h b;rw [qeq,dif_pos b,zF (by rw [h a (zK _) b];simp)]
theorem zbd {l:List Sign} {a e p:Int} (h:qhf (ix l a)=true) (b:a<e):qeq l a e p=qeq l (a+1) e p:=by
 rw [qeq,dif_pos b,zT h]
theorem qwq {l:List Sign} {a e p:Int} (h:e<=a):qeq l a e p=[]:=by rw [qeq,dif_neg (by omega)]
theorem qta {l:List Sign} {p:Int}:∀ {a e:Int},a<=e->ln (qeq l a e p)<=e-a:=by
 intro a e h;rw [qeq];split
 .have:=qta (l:=l) (p:=p) (a:=a+1) (e:=e) (by omega);split
  .omega
  .grind
 .grind
 termination_by a e=>(e-a).toNat
theorem za1 {l:List Sign} {a e p n:Int} (h:p<n):psG l a e p n=qeq l a e p++psG l a e (p+1) n:=by rw [psG,dif_pos h]
theorem zf4 {l:List Sign} {a e p n:Int} (h:n<=p):psG l a e p n=[]:=by rw [psG,dif_neg (by omega)]
theorem zf5 {l:List Sign} {a e n:Int} (h:a<=e):∀ {p:Int},p<=n->ln (psG l a e p n)<=(n-p) * (e-a):=by
 intro p b;rw [psG];split
 .have c:=zf5 (l:=l) (n:=n) h (p:=p+1) (by omega);have d:=qta (l:=l) (p:=p) h;rw [qdg];have f:(n-p) * (e-a)=(n-(p+1)) * (e-a)+(e-a):=by
   rw [show n-p=(n-(p+1))+1 by omega,Int.add_mul,Int.one_mul]
  omega
 .grind
 termination_by p=>(n-p).toNat
theorem zbe {l:List Sign} (b:∀ j,0<=j->j<ln l->qem l j=0):∀ (rs:List Repeat) (a:Int),0<=a->qfo l a rs->ln (qaz l rs a)<=4 * (ln l-a)
 | [],a,_,h=>by
  have:=qta (l:=l) (p:=0) h.1;have:=h.1;rw [qaz];omega
 | r::rs,a,k,⟨c,d,e,_,_,_,m,o,f⟩=>by
  have q:=qta (l:=l) (p:=0) c;have g:=(qlc (qul (b r.To (by omega) e)).1).1.2.2.2.2.2.2;have i:2<=r.N/\r.N<=4:=by
   rcases g with h | h
   .simp_all
   .omega
  have s:=zf5 (l:=l) (n:=r.N) (Int.le_of_lt d) (p:=0) (by omega);have t:=zbe b rs (r.To+1) (by omega) f;have u:(r.N-0) * (r.To-r.From)<=4 * (r.To-r.From):=Int.mul_le_mul_of_nonneg_right (by omega) (by omega);rw [qaz,qdg,qdg];omega
theorem qph {nm:ZB} {l:List Sign} (h:(qdp nm l).1=0):qfo l 0 (kf l).1/\ln (qaz l (kf l).1 0)<=1600/\∀ j,0<=j->j<ln l->qem l j=0:=by
 obtain ⟨c,d⟩:=qyt h;have a:=zdl c;obtain ⟨e,b⟩:=qea d;have:=zbe b _ 0 (zK 0) a;exact ⟨a,by omega,b⟩
theorem qtb {l:List Sign} {p:Int}:∀ {a e:Int} {x:Played},x ∈ qeq l a e p->a<=x.Sign/\x.Sign<e:=by
 intro a e x h;rw [qeq] at h;split at h
 .split at h
  .have:=qtb h;omega
  .rcases zD.1 h with rfl | h
   .simp_all
   .have:=qtb h;omega
 .cases h
 termination_by a e=>(e-a).toNat
theorem zf6 {l:List Sign} {a e n:Int}:∀ {p:Int} {x:Played},x ∈ psG l a e p n->a<=x.Sign/\x.Sign<e:=by
 intro p x h;rw [psG] at h;split at h
 .rcases List.mem_append.1 h with h | h
  .exact qtb h
  .exact zf6 h
 .cases h
 termination_by p=>(n-p).toNat
theorem qtd {l:List Sign}:∀ {rs:List Repeat} {a:Int},0<=a->qfo l a rs->∀ x ∈ qaz l rs a,0<=x.Sign/\x.Sign<ln l
 | [],a,b,_,x,h=>by have:=qtb h;omega
 | r::rs,a,b,⟨d,e,f,_,_,_,_,_,c⟩,x,h=>by
  rcases List.mem_append.1 h with h | h
  .rcases List.mem_append.1 h with h | h
   .have:=qtb h;omega
   .have:=zf6 h;omega
  .exact qtd (by omega) c x h
theorem zup {l:List Sign} {R:List Repeat} {k i:Int} (q:∀ j,0<=j->j<ln l->qem l j=0) (hi:0<=i) (r:0<=k) (h:k<ln R) (e:qfo l i (fr R k)) :
  i<=(ix R k).From/\(ix R k).From<(ix R k).To/\(ix R k).To<ln l/\2<=(ix R k).N/\(ix R k).N<=4/\qfo l ((ix R k).To+1) (fr R (k+1))/\
  (i<(ix R k).From->qfo l (i+1) (fr R k)/\qaz l (fr R k) i=⟨i,0⟩::qaz l (fr R k) (i+1))/\
  qaz l (fr R k) (ix R k).From=psG l (ix R k).From (ix R k).To 0 (ix R k).N++qaz l (fr R (k+1)) ((ix R k).To+1)/\
  (∀ p,p<(ix R k).N->psG l (ix R k).From (ix R k).To p (ix R k).N=qeq l ((ix R k).From+1) (ix R k).To p++psG l (ix R k).From (ix R k).To (p+1) (ix R k).N)/\
  ∀ n p,(ix R k).From<n->n<(ix R k).To->qeq l n (ix R k).To p=⟨n,p⟩::qeq l (n+1) (ix R k).To p:=by
 rw [qdt r h] at e ⊢;obtain ⟨s,b,c,f,g,m,t,u,o⟩:=e;have v:=(qlc (qul (q (ix R k).To (by omega) c)).1).1.2.2.2.2.2.2;have a:2<=(ix R k).N/\(ix R k).N<=4:=by
  rcases v with h | h
  .simp_all
  .omega
 refine ⟨s,b,c,a.1,a.2,o,λw=>⟨⟨by omega,b,c,λj x d=>f j (by omega) d,g,m,t,u,o⟩,?_⟩,?_,λp y=>?_,λn p A z=>?_⟩
 .rw [qaz,qaz,qy6 f w];rfl
 .rw [qaz,qwq (zK _),List.nil_append]
 .rw [za1 y,zbd g b]
 .exact qy6 (λj x d=>m j (by omega) d) z
theorem zly {l:List Sign} {i:Int} (a:qfo l i []) (h:i<ln l):qfo l (i+1) []/\qaz l [] i=⟨i,0⟩::qaz l [] (i+1):=
 ⟨⟨by omega,λj c b=>a.2 j (by omega) b⟩,by rw [qaz,qaz,qy6 a.2 h]⟩
theorem zq6 {l:List Sign} {i:Int} (h:ln l<=i):qaz l [] i=[]:=by rw [qaz,qwq h]
theorem zqc {nm:ZB} {l:List Sign} (h:(qyw nm l).2=0):(qdp nm l).1=0/\(qyw nm l).1=(kf l).1:=by
 unfold qyw at h ⊢;split at h
 .simp_all
 .simp_all
theorem zqb {nm:ZB} {l:List Sign} (h:(qyw nm l).2≠0):(qdp nm l).1≠0/\(qyw nm l).2=(qdp nm l).1:=by
 unfold qyw at h ⊢;split at h
 .simp_all
 .simp_all
theorem qha {nm:ZB} {l:List Sign} (h:(qjm nm l).1=0):(qdp nm l).1=0/\(qpq nm l).2.2=0/\(qa9 nm l).1=0:=by
 unfold qjm at h;split at h
 .simp_all
 .have:(qdp nm l).1=0:=by omega
  exact ⟨this,h,(qyt this).2⟩
theorem zq7 {nm:ZB} {l:List Sign} (h:(qjm nm l).1=0):(qoz nm l).1=qaz l (kf l).1 0/\(qoz nm l).2=0:=by
 have:=(qha h).1;unfold qoz;rw [zF (by omega)];exact ⟨rfl,rfl⟩
theorem zqf {l:List Sign} {i:Int} {m:Mn} {a:Bool} {s:Section} {out:List Section} (b:0<=i) (h:i<ln l):qle (fr l i) i m a s out =
  if qiw (ix l i).Kind=1 then (if a=false then ([],12) else qle (fr l (i+1)) (i+1) m a {s with From:=if s.From<0 then i else s.From,To:=i+1} out)
  else if qiw (ix l i).Kind=2 then (if s.From<0 then ([],13) else qle (fr l (i+1)) (i+1) m a {s with To:=i+1} out)
  else if qiw (ix l i).Kind=3 then qle (fr l (i+1)) (i+1) (if (ix l i).Kind=5 then qsj (ix l i) else m) (a || decide ((ix l i).Kind=5)) (qg6 (-1) 0 (if (ix l i).Kind=5 then qsj (ix l i) else m)) (if 0<=s.From then out++[s] else out)
  else qle (fr l (i+1)) (i+1) m a s out:=by rw [qdt b h,qle]
theorem zjm {l:List Sign} {i:Int} {m:Mn} {a:Bool} {s:Section} {out:List Section} (h:ln l<=i):qle (fr l i) i m a s out=(if 0<=s.From then out++[s] else out,0):=by
 rw [qf7 h,qle]
theorem znr {l:List Sign} {i:Int} {f:Time} {out:List Time} (a:0<=i) (h:i<ln l):qnd (fr l i) f out=if (stF f (ix l i)).2≠0 then ([],(stF f (ix l i)).2) else qnd (fr l (i+1)) (stF f (ix l i)).1 (out++[(stF f (ix l i)).1]):=by
 rw [qdt a h,qnd]
theorem q9u {l:List Sign} {i:Int} {f:Time} {out:List Time} (h:ln l<=i):qnd (fr l i) f out=(out,0):=by rw [qf7 h,qnd]
theorem zuh {f:Time} {s:Sign} (c:zr f.N f.D=0) (h:(stF f s).2=0):zr (stF f s).1.N (stF f s).1.D=0:=by
 unfold stF at h ⊢;split at h
 .rename_i a;rw [zT a];cases s.Stroke<;>decide
 .rename_i a;rw [zF a];split at h
  .rename_i b;rw [zT b];exact zpn h
  .simp_all
theorem za0 {s:Sign} (h:qst s=0) (a:s.Kind=6):1<=s.N/\s.N<=100/\1<=s.D/\s.D<=100:=by
 have:=(qlc h).1.2.2.2.1;omega
theorem zl5 {a b:Int} {s:Sign} (h:zr a b=0) (c:qst s=0):q7m a b s=((stF ⟨a,b⟩ s).1.N,(stF ⟨a,b⟩ s).1.D,(stF ⟨a,b⟩ s).2):=by
 unfold q7m;rw [zF (by omega),zF];rintro ⟨d,e⟩;have:=za0 c d;omega
theorem zea {nm:ZB} {l:List Sign} (h:(qk5 nm l).2=0):ln (qk5 nm l).1=ln l:=by
 unfold qk5 at h ⊢;split at h
 .simp_all
 .rename_i a;rw [zF a,q9v _ _ _ h];simp [ln]
theorem zap {l:List Sign} {i:Int} (h:i<ln l):qic l i=if qkt (ix l i) then i::qic l (i+1) else qic l (i+1):=by rw [qic,dif_pos h]
theorem zaq {l:List Sign} {i:Int} (h:ln l<=i):qic l i=[]:=by rw [qic,dif_neg (by omega)]
theorem qoh (l:List Sign):ln (qcp l)<=ln l:=by
 have:=zar (l:=l) (zK 0) (zc l);unfold qcp;omega
theorem q3k {l:List Sign} {k:Int} (a:0<=k) (h:k<ln (qcp l)):0<=ix (qcp l) k/\ix (qcp l) k<ln l/\qkt (ix l (ix (qcp l) k))=true:=qwk (q25 a h)
theorem zfa {d F out:List Time} {N:List Int} {k:Int} (a:0<=k) (b:k<ln d) (c:k<ln N):qmv (fr d k) (fr N k) F out =
  if (qew (ix d k).N (ix d k).D (ix F (ix N k)).N (ix F (ix N k)).D).2.2≠0 then ([],(qew (ix d k).N (ix d k).D (ix F (ix N k)).N (ix F (ix N k)).D).2.2)
  else qmv (fr d (k+1)) (fr N (k+1)) F (out++[⟨(qew (ix d k).N (ix d k).D (ix F (ix N k)).N (ix F (ix N k)).D).1,(qew (ix d k).N (ix d k).D (ix F (ix N k)).N (ix F (ix N k)).D).2.1⟩]):=by
 rw [qdt a b,qdt a c,qmv]
theorem zan {d F out:List Time} {a:List Int} {k:Int} (h:ln d<=k):qmv (fr d k) a F out=(out,0):=by
 rw [qf7 h];cases a<;>rfl
theorem q5l {d:List Time} {i:Int} (a:0<=i) (h:i<ln d):qdz (fr d i)=if zr (ix d i).N (ix d i).D≠0 then zr (ix d i).N (ix d i).D else qdz (fr d (i+1)):=by
 rw [qdt a h,qdz]
theorem q0l {d:List Time} {i:Int} (h:ln d<=i):qdz (fr d i)=0:=by rw [qf7 h];rfl
theorem zfk {S:List Played} {f:Int->Time} {a:Time} {out:List Time} {i:Int} (b:0<=i) (h:i<ln S):qsv (fr S i) f a out =
  if (qgq a.N a.D (f (ix S i).Sign).N (f (ix S i).Sign).D).2.2≠0 then ([],0,0,(qgq a.N a.D (f (ix S i).Sign).N (f (ix S i).Sign).D).2.2)
  else qsv (fr S (i+1)) f ⟨(qgq a.N a.D (f (ix S i).Sign).N (f (ix S i).Sign).D).1,(qgq a.N a.D (f (ix S i).Sign).N (f (ix S i).Sign).D).2.1⟩ (out++[a]):=by
 rw [qdt b h,qsv]
theorem zav {S:List Played} {f:Int->Time} {a:Time} {out:List Time} {i:Int} (h:ln S<=i):qsv (fr S i) f a out=(out,a.N,a.D,0):=by rw [qf7 h,qsv]
theorem zd9 {l:List Sign} {i a b:Int} {out:List Time} {R:List Time×Int} (d:0<=i) (h:i<ln l) (g:∀ j,0<=j->j<ln l->qem l j=0) (e:zr a b=0) (k:qnd (fr l i) ⟨a,b⟩ out=R) :
  qst (ix l i)=0/\((stF ⟨a,b⟩ (ix l i)).2≠0->R=([],(stF ⟨a,b⟩ (ix l i)).2))/\
  ((stF ⟨a,b⟩ (ix l i)).2=0->zr (stF ⟨a,b⟩ (ix l i)).1.N (stF ⟨a,b⟩ (ix l i)).1.D=0/\qnd (fr l (i+1)) (stF ⟨a,b⟩ (ix l i)).1 (out++[(stF ⟨a,b⟩ (ix l i)).1])=R)/\
  q7m a b (ix l i)=((stF ⟨a,b⟩ (ix l i)).1.N,(stF ⟨a,b⟩ (ix l i)).1.D,(stF ⟨a,b⟩ (ix l i)).2)/\((ix l i).Kind=6->1<=(ix l i).N/\(ix l i).N<=100/\1<=(ix l i).D/\(ix l i).D<=100):=by
 have c:=(qul (g i d h)).1;rw [znr d h] at k;refine ⟨c,λf=>?_,λf=>⟨zuh e f,?_⟩,zl5 e c,za0 c⟩
 .simp_all
 .simp_all
theorem znq {nm:ZB} {l:List Sign} (h:(qcl nm l).2≠0):(qcl nm l).1=([],[]):=by
 unfold qcl at h ⊢;split
 .rfl
 .grind
theorem zff {nm:ZB} {l:List Sign} (h:(quk nm l).2=0):(qjm nm l).1=0/\(quk nm l).1=qcp l:=by
 unfold quk at h ⊢;split at h
 .simp_all
 .simp_all
theorem q4s {l:List Sign}:∀ {rs:List Repeat} {a:Int},qfo l a rs->ln rs<=ln l-a
 | [],a,h=>by have:=h.1;simp only [ln,List.length_nil] at *;omega
 | r::rs,a,⟨c,d,e,_,_,_,_,_,b⟩=>by
  have:=q4s b;rw [qgd];omega
theorem q5u {out l:List Sign} {i e:Int} (h:fr out i=fr l i) (a:0<=i) (d:i<=e):ix out e=ix l e:=by
 have b:=zln (s:=out) a (show 0<=e-i by omega);have c:=zln (s:=l) a (show 0<=e-i by omega);rw [show i+(e-i)=e by omega] at b c;rw [<-b,<-c,h]
theorem q2w {out l:List Sign} {i e:Int} (h:fr out i=fr l i) (a:0<=i) (d:i<=e):fr out e=fr l e:=by
 have b:=q98 (l:=out) a (show 0<=e-i by omega);have c:=q98 (l:=l) a (show 0<=e-i by omega);rw [show i+(e-i)=e by omega] at b c;rw [<-b,<-c,h]
theorem zit {l:List Sign} {e:Int} (h:e<ln l) (a:(ix l e).Last=false):ju l e=ju l (e+1):=by
 rw [ju,dif_pos h,zF (by simp [a])]
theorem ziu {l:List Sign} {e:Int} (h:e<ln l) (a:(ix l e).Last=true):ju l e=e:=by
 rw [ju,dif_pos h,zT a]
theorem ztn {l:List Sign} {e:Int} (h:e<ln l) (a:(ix l e).Last=false):ju l e=ju l (e+1)/\e+1<=ju l (e+1):=⟨zit h a,qjv l _⟩
theorem zpj (l:List Sign) (i:Int):sub l i (ju l i+1)=qsf l i:=rfl
theorem zf8 {l:List Sign} {k j:Int} {vs:List Int} {out:List Sign} (a:0<=j) (h:j<ln vs):qsz l k (fr vs j) out=qsz l (k+1) (fr vs (j+1)) (out.set k.toNat (zfe (ix l k) (ix vs j))):=by
 rw [qdt a h,qsz]
theorem za2 {l:List Sign} {k j:Int} {vs:List Int} {out:List Sign} (h:ln vs<=j):qsz l k (fr vs j) out=out:=by rw [qf7 h,qsz]
theorem zbs {l:List Sign} {i:Int} {out:List Sign} (h:ln l<=i):qct l i out=(out,0):=by rw [qct,dif_neg (by omega)]
theorem q9g {l:List Sign} {i:Int} {out:List Sign} (h:i<ln l) (a:(ix l i).Kind≠4):qct l i out=qct l (i+1) out:=by rw [qct,dif_pos h,zF a]
theorem zuu {l:List Sign} {i:Int} {out:List Sign} {R:List Sign×Int} (g:∀ j,0<=j->j<ln l->qem l j=0) (c:0<=i) (h:i<ln l) (d:(ix l i).Kind=4) (k:qct l i out=R) :
  i<=ju l i/\ju l i<ln l/\ln (qsf l i)=ju l i+1-i/\((qgr (qsf l i)).2≠0->R=([],(qgr (qsf l i)).2))/\
  ((qgr (qsf l i)).2=0->ln (qgr (qsf l i)).1=ju l i+1-i/\qct l (ju l i+1) (qsz l i (qgr (qsf l i)).1 out)=R):=by
 obtain ⟨a,b,_,_⟩:=q26 g c h d;have e:ln (qsf l i)=ju l i+1-i:=by
  have:=qjv l i;unfold qsf;rw [zpk c (by omega) (by omega)]
 rw [qct,dif_pos h,zT d] at k;refine ⟨qjv l i,a,e,λf=>?_,λf=>⟨?_,?_⟩⟩
 .simp_all
 .rw [zj5 f,e]
 .simp_all
theorem qt7 {l:List Sign} {i:Int} (h:i<ln l):qbz l i=if (ix l i).Kind=4/\ins l i=false then i::qbz l (i+1) else qbz l (i+1):=by rw [qbz,dif_pos h]
theorem qyg {l:List Sign} {i:Int} (h:i<ln l):qcb l i=if (ix l i).Kind=4/\(ix l i).Last=true then i::qcb l (i+1) else qcb l (i+1):=by rw [qcb,dif_pos h]
theorem qr6 {l:List Sign} {i:Int} (h:ln l<=i):qbz l i=[]:=by rw [qbz,dif_neg (by omega)]
theorem zal {l:List Sign} {i:Int} (h:ln l<=i):qcb l i=[]:=by rw [qcb,dif_neg (by omega)]
theorem q2z {l:List Sign}:∀ {i:Int},i<=ln l->ln (qbz l i)<=ln l-i/\ln (qcb l i)<=ln l-i:=by
 intro i h;by_cases hi:i<ln l
 .obtain ⟨a,b⟩:=q2z (l:=l) (i:=i+1) (by omega);rw [qt7 hi,qyg hi]
  constructor<;>split<;>simp only [ln,List.length_cons] at *<;>omega
 .rw [qr6 (by omega),zal (by omega)];simp only [ln,List.length_nil] at *;omega
 termination_by i=>(ln l-i).toNat
theorem q8h {l:List Sign} {p e:Int} (f:e<ln l) (h:(ix l e).Last=true) (c:∀ j,p<=j->j<=e->(ix l j).Kind=4) (d:∀ j,p<=j->j<e->(ix l j).Last=false):∀ {j:Int},0<=p->p<=j->j<=e->
  qcb l j=e::qcb l (e+1)/\(p<j->qbz l j=qbz l (e+1)):=by
 intro j k i n;by_cases m:j=e
 .subst m;refine ⟨by rw [qyg f,zT ⟨c j i (zK _),h⟩],λg=>?_⟩;rw [qt7 f,zF];rintro ⟨_,hi⟩;have a:=c (j-1) (by omega) (by omega);have b:=d (j-1) (by omega) (by omega);simp [ins,a,b] at hi;omega
 .obtain ⟨a,b⟩:=q8h f h c d (j:=j+1) k (by omega) (by omega);refine ⟨by rw [qyg (by omega),zF (by rw [d j i (by omega)];simp),a],λg=>?_⟩;rw [qt7 (by omega),zF,b (by omega)];rintro ⟨_,hi⟩;have a:=c (j-1) (by omega) (by omega);have b:=d (j-1) (by omega) (by omega);simp [ins,a,b] at hi;omega
 termination_by j=>(e-j).toNat
theorem q27 {l:List Sign} (g:∀ j,0<=j->j<ln l->qem l j=0):∀ {p:Int},0<=p->p<=ln l->ins l p=false->
  (qbz l p=[]->∀ out,qct l p out=(out,0))/\
  ∀ a r,qbz l p=a::r->p<=a/\a<ln l/\(ix l a).Kind=4/\qcb l p=ju l a::qcb l (ju l a+1)/\r=qbz l (ju l a+1)/\ins l (ju l a+1)=false/\∀ out,qct l p out=qct l a out:=by
 intro p d A hi;by_cases c:p<ln l
 .by_cases b:(ix l p).Kind=4
  .obtain ⟨k,e,m,n⟩:=q26 g d c b;have f:=qjv l p;rw [qt7 c,zT ⟨b,hi⟩];refine ⟨λh=>(by cases h),λa r h=>?_⟩;obtain ⟨rfl,rfl⟩:=List.cons.inj h;obtain ⟨o,_⟩:=q8h k e m n d (zK p) f;refine ⟨zK _,c,b,o,?_,?_,λ_=>rfl⟩
   .by_cases q:p=ju l p
    .rw [<-q]
    .exact (q8h k e m n d (j:=p+1) (by omega) (by omega)).2 (by omega)
   .unfold ins;rw [show ju l p+1-1=ju l p by omega,e];simp
  .have i:ins l (p+1)=false:=by
    unfold ins;rw [show p+1-1=p by omega];simp [b]
   obtain ⟨s,t⟩:=q27 g (p:=p+1) (by omega) (by omega) i;rw [qt7 c,zF (λh=>b h.1),qyg c,zF (λh=>b h.1)];refine ⟨λh out=>by rw [q9g c b];exact s h out,λa r h=>?_⟩;obtain ⟨d1,u,v,w,x,y,z⟩:=t a r h;exact ⟨by omega,u,v,w,x,y,λout=>by rw [q9g c b];exact z out⟩
 .rw [qr6 (by omega)];exact ⟨λ_ out=>zbs (by omega),λa r h=>by cases h⟩
 termination_by p=>(ln l-p).toNat
theorem zpi {nm:ZB} {l:List Sign} (h:(qzr nm l).2.2=0):(qa9 nm l).1=0/\(qzr nm l).1=qbz l 0/\(qzr nm l).2.1=qcb l 0:=by
 unfold qzr at h ⊢;split at h
 .simp_all
 .simp_all
theorem zvf {l out:List Sign} {i p:Int} {R:List Sign×Int} (g:∀ j,0<=j->j<ln l->qem l j=0) (c:0<=i) (hi:i<ln (qbz l 0)) (d:0<=p) (h:p<=ln l) (k:fr (qbz l 0) i=qbz l p) (b:fr (qcb l 0) i=qcb l p)
  (m:ins l p=false) (n:fr out p=fr l p) (o:qct l p out=R) :
  i<ln (qcb l 0)/\0<=ix (qbz l 0) i/\ix (qbz l 0) i<=ix (qcb l 0) i/\ix (qcb l 0) i<ln l/\fr (qbz l 0) (i+1)=qbz l (ix (qcb l 0) i+1)/\fr (qcb l 0) (i+1)=qcb l (ix (qcb l 0) i+1)/\ins l (ix (qcb l 0) i+1)=false/\
  fr out (ix (qbz l 0) i)=fr l (ix (qbz l 0) i)/\((qgr (sub l (ix (qbz l 0) i) (ix (qcb l 0) i+1))).2≠0->R=([],(qgr (sub l (ix (qbz l 0) i) (ix (qcb l 0) i+1))).2))/\
  ((qgr (sub l (ix (qbz l 0) i) (ix (qcb l 0) i+1))).2=0->ln (qgr (sub l (ix (qbz l 0) i) (ix (qcb l 0) i+1))).1=ix (qcb l 0) i+1-ix (qbz l 0) i/\
    qct l (ix (qcb l 0) i+1) (qsz l (ix (qbz l 0) i) (qgr (sub l (ix (qbz l 0) i) (ix (qcb l 0) i+1))).1 out)=R)/\ln (sub l (ix (qbz l 0) i) (ix (qcb l 0) i+1))=ix (qcb l 0) i+1-ix (qbz l 0) i:=by
 have q:=qdt c hi;obtain ⟨d1,r,s,e,t,u,v⟩:=(q27 g d h m).2 _ _ (k.symm.trans q);have a:i<ln (qcb l 0):=by
  apply Decidable.byContradiction;intro D;rw [qf7 (by omega)] at b;rw [e] at b;cases b
 have f:=b.symm.trans (qdt c a);rw [e] at f;obtain ⟨w,x⟩:=List.cons.inj f;rw [<-w];obtain ⟨y,z,A,B,C⟩:=zuu g (by omega) r s ((v out).symm.trans o);exact ⟨a,by omega,y,z,t,x.symm,u,q2w n d d1,B,C,A⟩
theorem ztx {l out:List Sign} {i p:Int} (g:∀ j,0<=j->j<ln l->qem l j=0) (hi:ln (qbz l 0)<=i) (a:0<=p) (b:p<=ln l) (c:fr (qbz l 0) i=qbz l p) (d:ins l p=false):qct l p out=(out,0):=
 (q27 g a b d).1 (by rw [<-c,qf7 hi]) out
theorem q6a {l:List Sign}:∀ {i:Int},(qic l i).Pairwise (· < ·):=by
 intro i;rw [qic];split
 .have a:=q6a (l:=l) (i:=i+1);split
  .exact List.pairwise_cons.2 ⟨λx b=>by have:=qwk b;omega,a⟩
  .exact a
 .exact .nil
 termination_by i=>(ln l-i).toNat
theorem zfh {l:List Sign} {j i:Int} (b:0<=j) (h:j<i) (c:i<ln (qcp l)):ix (qcp l) j<ix (qcp l) i:=by
 obtain ⟨m,rfl⟩:=zcn b;obtain ⟨n,rfl⟩:=zcn (show 0<=i by omega);have a:n<(qcp l).length:=by simp only [ln] at c;omega
 rw [qq7 (show m<(qcp l).length by omega),qq7 a];exact List.pairwise_iff_getElem.1 (q6a (l:=l) (i:=0)) m n (show m<(qcp l).length by omega) a (by omega)
theorem zao:∀ {d:List Time} {N:List Int} {F out:List Time},(qmv d N F out).2=0->ln d=ln N->ln (qmv d N F out).1=ln out+ln d
 | [],_,_,_,_,_=>by simp [qmv,ln]
 | d::ds,[],_,_,_,h=>by simp [ln] at h;omega
 | d::ds,n::c,F,out,h,a=>by
  rw [qmv] at h ⊢;split at h
  .exact absurd h ‹_›
  .rename_i b;rw [zF b,zao h (by simp only [qgd] at a;omega),qdu,qgd];omega
theorem q9b {nm:ZB} {l:List Sign} {d:List Time} (h:(qmj nm l d).2=0):(qjm nm l).1=0/\ln (qmj nm l d).1=ln (qcp l)/\(quk nm l).1=qcp l/\(zc4 nm l).1=qgk l:=by
 unfold qmj at h ⊢;split at h
 .simp_all
 .rename_i a;split at h
  .cases h
  .rename_i b;split at h
   .simp_all
   .rename_i c;split at h
    .simp_all
    .rename_i e;rw [zF a,zF b,zF c,zF e];have:=zao h (by omega);refine ⟨by omega,by rw [this,qja];omega,?_,?_⟩
     .unfold quk;rw [zF a]
     .unfold zc4;rw [zF a]
theorem zgm {nm:ZB} {l:List Sign} {k:Int} (h:(qjm nm l).1=0) (c:0<=k) (d:k<ln (qgk l)) :
  0<=(ix (qgk l) k).Sign/\(ix (qgk l) k).Sign<ln l/\0<=q6k l (ix (qgk l) k).Sign/\q6k l (ix (qgk l) k).Sign<ln (qcp l)/\ix (qcp l) (q6k l (ix (qgk l) k).Sign)=(ix (qgk l) k).Sign:=by
 obtain ⟨e,_,_⟩:=qph (qha h).1;obtain ⟨f,g⟩:=List.mem_filter.1 (q25 c d);obtain ⟨a,b⟩:=qtd (zK 0) e _ f;exact ⟨a,b,zpy a b g⟩
theorem q4c {nm:ZB} {l:List Sign} (h:(qjm nm l).1=0):ln (qgk l)<=1600:=by
 obtain ⟨_,a,_⟩:=qph (qha h).1;have:=List.length_filter_le (λx:Played=>qkt (ix l x.Sign)) (qaz l (kf l).1 0);unfold qgk;simp only [ln] at *;omega
theorem zls {m:List MapIT} {z y:MapIT}:qjn XK 27 1 (qld XK 27 1 m z) y=if y.key=z.key then z else qjn XK 27 1 m y:=by
 have c:∀ a b:MapIT,qub XK 27 1 a b=decide (a.key=b.key):=λa b=>by
  show (decide (a.key=b.key)&&true)=_;simp
 induction m with
 | nil=>
  show (if qub XK 27 1 y z=true then z else y)=if y.key=z.key then z else y
  by_cases h:y.key=z.key
  .simp_all
  .simp_all
 | cons x m e=>
  by_cases h:z.key=x.key
  .have d:qld XK 27 1 (x::m) z=z::m:=by
    show (if qub XK 27 1 z x=true then z::m else x::qld XK 27 1 m z)=z::m;rw [zT (by rw [c];simp [h])]
   refine (congrArg (λw=>qjn XK 27 1 w y) d).trans ?_;show (if qub XK 27 1 y z=true then z else qjn XK 27 1 m y)=if y.key=z.key then z else (if qub XK 27 1 y x=true then x else qjn XK 27 1 m y)
   rw [c,c];by_cases f:y.key=z.key
   .simp_all
   .grind
  .have d:qld XK 27 1 (x::m) z=x::qld XK 27 1 m z:=by
    show (if qub XK 27 1 z x=true then z::m else x::qld XK 27 1 m z)=_;rw [zF (by rw [c];simp [h])]
   refine (congrArg (λw=>qjn XK 27 1 w y) d).trans ?_;show (if qub XK 27 1 y x=true then x else qjn XK 27 1 (qld XK 27 1 m z) y)=if y.key=z.key then z else (if qub XK 27 1 y x=true then x else qjn XK 27 1 m y)
   rw [c];by_cases g:y.key=x.key
   .grind
   .simp_all
theorem zp0 {m:List MapIT} {z y:MapIT} (h:y.key=z.key):qjn XK 27 1 (qld XK 27 1 m z) y=z:=zls.trans (zT h)
theorem zp1 {m:List MapIT} {z y:MapIT} (h:y.key≠z.key):qjn XK 27 1 (qld XK 27 1 m z) y=qjn XK 27 1 m y:=zls.trans (zF h)
def ztu (l:List Int) (i:Int):Prop:=0<=i/\i<=4/\∀ j,0<=j->j<i->(ix l j=2∨ix l j=3)
def qnl (a:ZB) (i:Int):Prop:=0<=i/\i<=ln a/\∀ j,0<=j->j<i->qqf (bx a j)=true
def qsm (a:ZB) (i:Int):Nat:=(ln a-i).toNat
def qnk (a:ZB) (i:Int):Prop:=0<=i/\i<=ln a/\∀ j,0<=j->j<i->qqf (bx a j)=true
def qsl (a:ZB) (i:Int):Nat:=(ln a-i).toNat
def qp1 (_:ZB) (l:List Sign) (b:Bool) (i:Int):Prop:=0<=i/\i<=ln l/\qiv l i=qiv l 0/\b=ins l i/\(b=true->i<ln l/\(ix l i).Kind=4)
def qny (_:ZB) (l:List Sign) (_:Bool) (i:Int):Nat:=(ln l-i).toNat
def qp0 (_:ZB) (l:List Sign) (i:Int):Prop:=0<=i/\i<=ln l/\qiv l i=qiv l 0
def qnx (_:ZB) (l:List Sign) (i:Int):Nat:=(ln l-i).toNat
def qv5 (a b:List Sign) (i:Int):Prop:=0<=i/\i<=ln a/\∀ j,0<=j->j<i->ix a j=ix b j
def qla (a _:List Sign) (i:Int):Nat:=(ln a-i).toNat
def ql0 (a b c d i:Int):Prop:=0<=i/\i<=4/\(i<1∨a=2∨a=3)/\(i<2∨b=2∨b=3)/\(i<3∨c=2∨c=3)/\(i<4∨d=2∨d=3)
def qp6 (_ _ _ _ i:Int):Nat:=(4-i).toNat
def qj5 (a b c d i:Int):Prop:=ztu [a,b,c,d] i
def qnv (_ _ _ _ i:Int):Nat:=(4-i).toNat
def q8c (a b:Int) (x y:Int):Prop:=0<=x/\0<=y/\kr x y=kr a b
def qvl (_ _:Int) (_ y:Int):Nat:=y.toNat
def q24 (a:List Time) (i:Int):Prop:=0<=i/\i<=ln a/\qdz (fr a i)=qdz a
def qqc (a:List Time) (i:Int):Nat:=(ln a-i).toNat
def qv6 (a b:List Time) (i:Int):Prop:=0<=i/\i<=ln a/\∀ j,0<=j->j<i->ix a j=ix b j
def qlb (a _:List Time) (i:Int):Nat:=(ln a-i).toNat
def qlz (l:List Sign) (i:Int):Prop:=0<=i/\i<=ln l/\qk8 l i=qk8 l 0
def qp5 (l:List Sign) (i:Int):Nat:=(ln l-i).toNat
def qj4 (l:List Sign) (i:Int):Prop:=0<=i/\i<=ln l/\qk8 l i=qk8 l 0
def qnu (l:List Sign) (i:Int):Nat:=(ln l-i).toNat
def qkl (l:List Sign) (i:Int) (out:List Int):Prop:=0<=i/\i<=ln l/\ln out=ln l/\∀ j,0<=j->j<i->ix out j=q4d l j
def qod (l:List Sign) (i:Int) (_:List Int):Nat:=(ln l-i).toNat
def qi9 (l:List Sign) (out:List Int) (i:Int):Prop:=0<=i/\i<=ln l/\out=qti l i.toNat
def qmt (l:List Sign) (_:List Int) (i:Int):Nat:=(ln l-i).toNat
def qj9 (_:ZB) (l:List Sign) (e i:Int) (out:List Sign):Prop:=e=0/\0<=i/\i<=ln l/\ln out=ln l/\fr out i=fr l i/\qct l i out=qct l 0 l
def qn1 (_:ZB) (l:List Sign) (_ i:Int) (_:List Sign):Nat:=(ln l-i).toNat
def qka (_:ZB) (l:List Sign) (e i:Int):Prop:=0<=i/\i<=e/\e<=ju l i/\ju l e=ju l i
def qn2 (_:ZB) (l:List Sign) (e _:Int):Nat:=(ln l-e).toNat
def zj4 (l:List Sign) (i e:Int):List Int:=(qgr (sub l i (e+1))).1
def qkb (_:ZB) (l:List Sign) (j:Int) (out:List Sign) (i e:Int):Prop:=
 0<=j/\j<=ln (zj4 l i e)/\ln out=ln l/\fr out (i+j)=fr l (i+j)/\qct l (e+1) (qsz l (i+j) (fr (zj4 l i e) j) out)=qct l 0 l
def qn3 (_:ZB) (l:List Sign) (j:Int) (_:List Sign) (i e:Int):Nat:=(ln (zj4 l i e)-j).toNat
def qgz (_:ZB) (l:List Sign) (a b:List Int) (i:Int):Prop:=0<=i/\i<=ln l/\a++qbz l i=qbz l 0/\b++qcb l i=qcb l 0
def qjx (_:ZB) (l:List Sign) (_ _:List Int) (i:Int):Nat:=(ln l-i).toNat
def qj7 (_:ZB) (l:List Sign) (i:Int) (out:List Sign):Prop:=
 0<=i/\i<=ln (qbz l 0)/\∃ p,0<=p/\p<=ln l/\fr (qbz l 0) i=qbz l p/\fr (qcb l 0) i=qcb l p/\ins l p=false/\ln out=ln l/\fr out p=fr l p/\qct l p out=qct l 0 l
def qnz (_:ZB) (l:List Sign) (i:Int) (_:List Sign):Nat:=(ln (qbz l 0)-i).toNat
def qj8 (_:ZB) (l:List Sign) (k:Int) (out:List Sign) (i:Int) (vs:List Int):Prop:=
 ix (qbz l 0) i<=k/\k<=ix (qcb l 0) i+1/\ln out=ln l/\fr out k=fr l k/\qct l (ix (qcb l 0) i+1) (qsz l k (fr vs (k-ix (qbz l 0) i)) out)=qct l 0 l
def qn0 (_:ZB) (l:List Sign) (k:Int) (_:List Sign) (i:Int) (_:List Int):Nat:=(ix (qcb l 0) i+1-k).toNat
def qj6 (_:ZB) (l:List Sign) (o i:Int):Prop:=0<=i/\i<=ln l/\-1<=o/\∃ rs,qbd (fr l i) i rs (if o<0 then none else some o)=kf l
def qnw (_:ZB) (l:List Sign) (_ i:Int):Nat:=(ln l-i).toNat
def qi8 (_:ZB) (l:List Sign) (out:List Repeat) (o i:Int):Prop:=0<=i/\i<=ln l/\∃ op,qbd (fr l i) i out op=kf l/\(op=none∨op=some o)/\ln out<=i
def qms (_:ZB) (l:List Sign) (_:List Repeat) (_ i:Int):Nat:=(ln l-i).toNat
def qkg (_:ZB) (l:List Sign) (out:List Played) (i k:Int):Prop:=0<=k/\k<=ln (kf l).1/\0<=i/\qfo l i (fr (kf l).1 k)/\out++qaz l (fr (kf l).1 k) i=qaz l (kf l).1 0
def qn8 (_:ZB) (l:List Sign) (_:List Played) (_ k:Int):Nat:=(ln (kf l).1-k).toNat
def qkh (_:ZB) (l:List Sign) (out:List Played) (i k:Int) (_:List Played):Prop:=
 0<=i/\i<=(ix (kf l).1 k).From/\qfo l i (fr (kf l).1 k)/\out++qaz l (fr (kf l).1 k) i=qaz l (kf l).1 0
def qn9 (_:ZB) (l:List Sign) (_:List Played) (i k:Int) (_:List Played):Nat:=((ix (kf l).1 k).From-i).toNat
def qki (_:ZB) (l:List Sign) (out:List Played) (p:Int) (_:List Played) (k:Int):Prop:=
 0<=p/\p<=(ix (kf l).1 k).N/\out++(psG l (ix (kf l).1 k).From (ix (kf l).1 k).To p (ix (kf l).1 k).N++qaz l (fr (kf l).1 (k+1)) ((ix (kf l).1 k).To+1))=qaz l (kf l).1 0
def qoa (_:ZB) (l:List Sign) (_:List Played) (p:Int) (_:List Played) (k:Int):Nat:=((ix (kf l).1 k).N-p).toNat
def qkj (_:ZB) (l:List Sign) (out:List Played) (n p:Int) (_:List Played) (k:Int):Prop:=
 (ix (kf l).1 k).From+1<=n/\n<=(ix (kf l).1 k).To/\out++(qeq l n (ix (kf l).1 k).To p++psG l (ix (kf l).1 k).From (ix (kf l).1 k).To (p+1) (ix (kf l).1 k).N++qaz l (fr (kf l).1 (k+1)) ((ix (kf l).1 k).To+1))=qaz l (kf l).1 0
def qob (_:ZB) (l:List Sign) (_:List Played) (n _:Int) (_:List Played) (k:Int):Nat:=((ix (kf l).1 k).To-n).toNat
def qkk (_:ZB) (l:List Sign) (out:List Played) (i:Int) (_:List Played):Prop:=0<=i/\qfo l i []/\out++qaz l [] i=qaz l (kf l).1 0
def qoc (_:ZB) (l:List Sign) (_:List Played) (i:Int) (_:List Played):Nat:=(ln l-i).toNat
def ql6 (_:ZB) (l:List Sign) (out:List Int) (i:Int):Prop:=0<=i/\i<=ln l/\out++qic l i=qcp l
def qqd (_:ZB) (l:List Sign) (_:List Int) (i:Int):Nat:=(ln l-i).toNat
def ql1 (_:ZB) (l:List Sign) (out:List Int) (i:Int):Prop:=0<=i/\i<=ln l/\out++qic l i=qcp l
def qp7 (_:ZB) (l:List Sign) (_:List Int) (i:Int):Nat:=(ln l-i).toNat
def qi6 (_:ZB) (l:List Sign) (out:List Time) (i a b e:Int):Prop:=0<=i/\i<=ln l/\e=0/\zr a b=0/\qnd (fr l i) ⟨a,b⟩ out=qnd l ⟨1,1⟩ []/\ln out<=i
def qmq (_:ZB) (l:List Sign) (_:List Time) (i _ _ _:Int):Nat:=(ln l-i).toNat
def qi7 (_:ZB) (l:List Sign) (out:List Time) (i a b:Int):Prop:=0<=i/\i<=ln l/\zr a b=0/\qnd (fr l i) ⟨a,b⟩ out=qnd l ⟨1,1⟩ []/\ln out<=i
def qmr (_:ZB) (l:List Sign) (_:List Time) (i _ _:Int):Nat:=(ln l-i).toNat
def qnm (_:ZB) (l:List Sign) (out:List Played) (i:Int):Prop:=0<=i/\i<=ln (qaz l (kf l).1 0)/\out++(fr (qaz l (kf l).1 0) i).filter (λx=>qkt (ix l x.Sign))=qgk l
def qsn (_:ZB) (l:List Sign) (_:List Played) (i:Int):Nat:=(ln (qaz l (kf l).1 0)-i).toNat
def ql4 (_:ZB) (_:List Sign) (d:List Time) (i:Int):Prop:=0<=i/\i<=ln d/\qdz (fr d i)=qdz d
def qqa (_:ZB) (_:List Sign) (d:List Time) (i:Int):Nat:=(ln d-i).toNat
def ql5 (nm:ZB) (l:List Sign) (d out:List Time) (k:Int):Prop:=0<=k/\k<=ln d/\qmv (fr d k) (fr (qcp l) k) (qk5 nm l).1 out=qmv d (qcp l) (qk5 nm l).1 []/\ln out<=k
def qqb (_:ZB) (_:List Sign) (d _:List Time) (k:Int):Nat:=(ln d-k).toNat
def ql2 (_:ZB) (_:List Sign) (d:List Time) (i:Int):Prop:=0<=i/\i<=ln d/\qdz (fr d i)=qdz d
def qp8 (_:ZB) (_:List Sign) (d:List Time) (i:Int):Nat:=(ln d-i).toNat
def ql3 (nm:ZB) (l:List Sign) (d out:List Time) (k:Int):Prop:=0<=k/\k<=ln d/\qmv (fr d k) (fr (qcp l) k) (qk5 nm l).1 out=qmv d (qcp l) (qk5 nm l).1 []/\ln out<=k
def qp9 (_:ZB) (_:List Sign) (d _:List Time) (k:Int):Nat:=(ln d-k).toNat
def ql7 (l:List Sign) (a b p q r t i f g:Int):Prop:=a<=i/\i<=b/\-1<=f/\qdc l i b ⟨f,g,p,q,r,t,0,0⟩=qdc l a b (qg6 (-1) 0 (p,q,r,t))
def qqe (_:List Sign) (_ b _ _ _ _ i _ _:Int):Nat:=(b-i).toNat
def qnj (_:ZB) (l:List Sign) (out:List Section) (a i p q r t:Int):Prop:=0<=a/\a<=i/\i<=ln l+1/\(a<=ln l∨a=i)/\q3f l i a (p,q,r,t) out=q50 l/\ln out<=i
def qsk (_:ZB) (l:List Sign) (_:List Section) (_ i _ _ _ _:Int):Nat:=(ln l+1-i).toNat
def qnn (nm:ZB) (l:List Sign) (i p q r t:Int) (b:Bool) (a s1 s2 c d e f g:Int) (out:List Section):Prop:=
 0<=i/\i<=ln (qcl nm l).1.2/\-1<=a/\qle (fr (qcl nm l).1.2 i) i (p,q,r,t) b ⟨a,s1,s2,c,d,e,f,g⟩ out=q6z (qcl nm l).1.2/\ln out<=i
def qso (nm:ZB) (l:List Sign) (i _ _ _ _:Int) (_:Bool) (_ _ _ _ _ _ _ _:Int) (_:List Section):Nat:=(ln (qcl nm l).1.2-i).toNat
def qke (nm:ZB) (l:List Sign) (d:List Time) (k:Int) (m:List MapIT):Prop:=
 0<=k/\k<=ln (qcp l)/\∀ j,0<=j->j<k->∀ y:MapIT,y.key=ix (qcp l) j->qjn XK 27 1 m y=MapIT.mk (ix (qcp l) j) (ix (qmj nm l d).1 j).N (ix (qmj nm l d).1 j).D
def qn6 (_:ZB) (l:List Sign) (_:List Time) (k:Int) (_:List MapIT):Nat:=(ln (qcp l)-k).toNat
def qkf (nm:ZB) (l:List Sign) (d:List Time) (i a b:Int) (out:List Time) (x y e:Int):Prop:=
 0<=i/\i<=ln (qgk l)/\e=0/\x=a/\y=b/\qsv (fr (qgk l) i) (ofN nm l d) ⟨a,b⟩ out=qsv (qgk l) (ofN nm l d) ⟨0,1⟩ []/\ln out<=i
def qn7 (_:ZB) (l:List Sign) (_:List Time) (i _ _:Int) (_:List Time) (_ _ _:Int):Nat:=(ln (qgk l)-i).toNat
def qkc (_:ZB) (l:List Sign) (_:List Time) (i:Int) (m:List Int):Prop:=0<=i/\i<=ln (qcp l)/\ln m=ln l/\∀ j,0<=j->j<i->ix m (ix (qcp l) j)=j
def qn4 (_:ZB) (l:List Sign) (_:List Time) (i:Int) (_:List Int):Nat:=(ln (qcp l)-i).toNat
def qkd (nm:ZB) (l:List Sign) (d out:List Time) (i a b:Int):Prop:=0<=i/\i<=ln (qgk l)/\qsv (fr (qgk l) i) (ofN nm l d) ⟨a,b⟩ out=qsv (qgk l) (ofN nm l d) ⟨0,1⟩ []/\ln out<=i
def qn5 (_:ZB) (l:List Sign) (_ _:List Time) (i _ _:Int):Nat:=(ln (qgk l)-i).toNat
theorem ze0 {nm:ZB} {l:List Sign} {m:Int} (h:qyc nm l m=true):ln nm<=100/\(ln l<=m∨(400<ln l/\ln l<=420)):=by
 simpa [qyc] using h
theorem zam:∀ (d:List Time) (N:List Int) (F out:List Time),ln (qmv d N F out).1<=ln out+ln d
 | [],_,_,_=>by simp [qmv,ln]
 | _::_,[],_,_=>by simp [qmv,ln];omega
 | d::ds,n::a,F,out=>by
  rw [qmv];split
  .have:=zc out;have:=zc (d::ds);rw [qja];omega
  .have:=zam ds a F (out++[⟨(qew d.N d.D (ix F n).N (ix F n).D).1,(qew d.N d.D (ix F n).N (ix F n).D).2.1⟩]);rw [qdu] at this;rw [qgd];omega
theorem zqq (nm:ZB) (l:List Sign) (d:List Time):ln (qmj nm l d).1<=ln d:=by
 have b:=zc d;have a:=zam d (qcp l) (qk5 nm l).1 [];rw [qja] at a;unfold qmj
 repeat' split
 all_goals first | (rw [qja];omega) | omega
theorem zau:∀ (S:List Played) (f:Int->Time) (a:Time) (out:List Time),ln (qsv S f a out).1<=ln out+ln S
 | [],_,_,_=>by simp [qsv,ln]
 | x::r,f,a,out=>by
  rw [qsv];split
  .have:=zc out;have:=zc (x::r);rw [qja];omega
  .have:=zau r f ⟨(qgq a.N a.D (f x.Sign).N (f x.Sign).D).1,(qgq a.N a.D (f x.Sign).N (f x.Sign).D).2.1⟩ (out++[a]);rw [qdu] at this;rw [qgd];omega
theorem zpr (nm:ZB) (l:List Sign) (d:List Time):ln (qv8 nm l d).1<=1600:=by
 unfold qv8;split
 .rw [qja];omega
 .rename_i h;have a:=zau (qgk l) (ofN nm l d) ⟨0,1⟩ [];have b:=q4c (q9b (nm:=nm) (d:=d) (show (qmj nm l d).2=0 by omega)).1;rw [qja] at a;omega
end Go.Proofs.YtpofmogdhigakaaGreatDoor
