/- WHAT THE FUNCTIONS ON SIGNS AND PARTS COMPUTE, in plain Lean; no program in sight. -/
import Derived.Test.YtlkfjinaiepocaaDoorNat
import Derived.Test.YtlkfjinaiepocaaDoorM6
namespace Go.Proofs.YtlkfjinaiepocaaDoor
open Go Go.E2 Go.E3
def qti (b:Int):Bool:=decide (97<=b)&&decide (b<=122)
def qno (b:Int):Bool:=qti b || (decide (48<=b)&&decide (b<=57)) || decide (b=45)
def kh (s:ZB):Bool:=decide (1<=ln s)&&decide (ln s<=20)&&qti (bx s 0)&&s.all fun b=>qno b.toNat
def qdm (a b c d:Int):Int:=if (a=2∨a=3)/\(b=2∨b=3)/\(c=2∨c=3)/\(d=2∨d=3) then 0 else 12
def q21 (s:Sign):Prop:=
 (s.Value=0∨s.Kind=1∨s.Kind=2)/\((s.Place=0/\s.Acc=0/\s.Color=false)∨s.Kind=1∨s.Kind=4)/\((s.Stem=0/\s.Oblique=false/\s.Last=false)∨s.Kind=4)/\
 ((s.MensMax=0/\s.MensMod=0/\s.MensTem=0/\s.MensPro=0/\s.Stroke=false)∨s.Kind=5)/\(s.N=0∨s.Kind=6∨s.Kind=8∨s.Kind=10)/\(s.D=0∨s.Kind=6)/\
 ((s.ClefStep=0/\s.ClefLine=0)∨s.Kind=7)
instance (s:Sign):Decidable (q21 s):=by unfold q21;infer_instance
def qd4 (s:Sign):Prop:=
 ((s.Kind≠1/\s.Kind≠2)∨(1<=s.Value/\s.Value<=8))/\((s.Kind≠1/\s.Kind≠4)∨(-4<=s.Place/\s.Place<=12/\-1<=s.Acc/\s.Acc<=2))/\(s.Kind≠4∨(0<=s.Stem/\s.Stem<=3))/\
 (s.Kind≠6∨(1<=s.N/\s.N<=100/\1<=s.D/\s.D<=100))/\(s.Kind≠7∨((s.ClefStep=0∨s.ClefStep=3∨s.ClefStep=4)/\1<=s.ClefLine/\s.ClefLine<=5))/\
 (s.Kind≠8∨(0<=s.N/\s.N<=2))/\(s.Kind≠10∨(2<=s.N/\s.N<=4))
instance (s:Sign):Decidable (qd4 s):=by unfold qd4;infer_instance
def qgb (s:Sign):Int:=
 if s.Kind<1∨12<s.Kind then 8 else if ¬ q21 s then 3 else if s.Kind=5/\qdm s.MensMax s.MensMod s.MensTem s.MensPro≠0 then 12 else if ¬ qd4 s then 2
 else if s.Oblique=true/\s.Last=true then 3 else 0
end Go.Proofs.YtlkfjinaiepocaaDoor
namespace Go.Proofs.YtlkfjinaiepocaaDoor
open Go Go.E2 Go.E3
theorem qv6 (s:Sign):Sign.mk s.Kind s.Value s.Place s.Acc s.Color s.Stem s.Oblique s.Last s.MensMax s.MensMod s.MensTem s.MensPro s.Stroke s.N s.D s.ClefStep s.ClefLine=s:=rfl
theorem qrq (s:Staff):Staff.mk s.Signs s.Lead s.Catch s.Custos=s:=rfl
def kg (s:Sign):Sign where
 Kind:=s.Kind
 Value:=if s.Kind=1∨s.Kind=2 then s.Value else 0
 Place:=if s.Kind=1∨s.Kind=4 then s.Place else 0
 Acc:=if s.Kind=1∨s.Kind=4 then s.Acc else 0
 Color:=if s.Kind=1∨s.Kind=4 then s.Color else false
 Stem:=if s.Kind=4 then s.Stem else 0
 Oblique:=if s.Kind=4 then s.Oblique else false
 Last:=if s.Kind=4 then s.Last else false
 MensMax:=if s.Kind=5 then s.MensMax else 0
 MensMod:=if s.Kind=5 then s.MensMod else 0
 MensTem:=if s.Kind=5 then s.MensTem else 0
 MensPro:=if s.Kind=5 then s.MensPro else 0
 Stroke:=if s.Kind=5 then s.Stroke else false
 N:=if s.Kind=6∨s.Kind=8∨s.Kind=10 then s.N else 0
 D:=if s.Kind=6 then s.D else 0
 ClefStep:=if s.Kind=7 then s.ClefStep else 0
 ClefLine:=if s.Kind=7 then s.ClefLine else 0
def ins (l:List Sign) (i:Int):Bool:=decide (0<i)&&(decide ((ix l (i-1)).Kind=4)&&!(ix l (i-1)).Last)
def zbu (l:List Sign) (i:Int):Prop:=
 (ix l i).Kind=4/\(((ix l i).Last=true/\ins l i=false)∨((ix l i).Last=false/\(ln l<=i+1∨(ix l (i+1)).Kind≠4)))
instance (l:List Sign) (i:Int):Decidable (zbu l i):=by unfold zbu;infer_instance
def qpm (l:List Sign) (i:Int):Int:=if qgb (ix l i)≠0 then qgb (ix l i) else if zbu l i then 3 else 0
def qhi (l:List Sign) (i:Int):Int×Int:=if h:i<ln l then (if qpm l i≠0 then (qpm l i,i) else qhi l (i+1)) else (0,0)
 termination_by (ln l-i).toNat
 decreasing_by omega
def ze (nm:ZB) (l:List Sign):Int×Int:=if kh nm=false then (7,0) else if 400<ln l then (11,0) else qhi l 0
theorem qpd {l:List Sign} {i:Int} (h:i<ln l) (he:qpm l i=0):qhi l i=qhi l (i+1):=by
 rw [qhi,dif_pos h,zF (by simp [he])]
theorem qtg {l:List Sign} {i:Int} (h:i<ln l) (he:qpm l i≠0):qhi l i=(qpm l i,i):=by
 rw [qhi,dif_pos h,zT he]
theorem qtf {l:List Sign} {i:Int} (h:ln l<=i):qhi l i=(0,0):=by
 rw [qhi,dif_neg (by omega)]
theorem q3w (a b:Sign):(a.Kind=b.Kind/\a.Value=b.Value/\a.Place=b.Place/\a.Acc=b.Acc/\a.Color=b.Color/\a.Stem=b.Stem/\a.Oblique=b.Oblique/\a.Last=b.Last/\a.MensMax=b.MensMax/\a.MensMod=b.MensMod/\a.MensTem=b.MensTem/\a.MensPro=b.MensPro/\a.Stroke=b.Stroke/\a.N=b.N/\a.D=b.D/\a.ClefStep=b.ClefStep/\a.ClefLine=b.ClefLine)↔a=b:=by
 cases a;cases b;simp only [Sign.mk.injEq]
instance:DecidableEq Sign:=fun a b=>decidable_of_iff _ (q3w a b)
theorem zaf (a b:Staff):(a.Signs=b.Signs/\a.Lead=b.Lead/\a.Catch=b.Catch/\a.Custos=b.Custos)↔a=b:=by
 cases a;cases b;simp only [Staff.mk.injEq]
instance:DecidableEq Staff:=fun a b=>decidable_of_iff _ (zaf a b)
theorem zdp (a b:Page):(a.Staves=b.Staves)↔a=b:=by
 cases a;cases b;simp only [Page.mk.injEq]
instance:DecidableEq Page:=fun a b=>decidable_of_iff _ (zdp a b)
def qck (a b:List Sign):Bool:=decide (a=b)
def kj (n:ZB) (a:List Sign) (m:ZB) (b:List Sign):Bool:=decide (n=m/\a=b)
def qdp (a b:Staff):Bool:=decide (a=b)
def qhk (n:ZB) (a:List Page) (m:ZB) (b:List Page):Bool:=decide (n=m/\a=b)
def okB (b:List Page):Prop:=∀ p ∈ b,ln p.Staves<=1000000000/\∀ s ∈ p.Staves,ln s.Signs<=10000000
def tT (l:List Sign) (to:Int):Int:=if h:to<ln l/\(ix l (to-1)).Kind=4/\(ix l (to-1)).Last=false then tT l (to+1) else to
 termination_by (ln l-to).toNat
 decreasing_by omega
theorem q01 {l:List Sign} {to:Int} (h:to<ln l/\(ix l (to-1)).Kind=4/\(ix l (to-1)).Last=false):tT l to=tT l (to+1):=by rw [tT,dif_pos h]
theorem qtm {l:List Sign} {to:Int} (h:¬ (to<ln l/\(ix l (to-1)).Kind=4/\(ix l (to-1)).Last=false)):tT l to=to:=by rw [tT,dif_neg h]
theorem zh3 {l:List Sign} {to:Int} (h:to<=ln l):to<=tT l to/\tT l to<=ln l:=by
 by_cases hc:to<ln l/\(ix l (to-1)).Kind=4/\(ix l (to-1)).Last=false
 .have:=zh3 (l:=l) (to:=to+1) (by omega)
  rw [q01 hc];omega
 .rw [qtm hc];omega
 termination_by (ln l-to).toNat
 decreasing_by omega
def gE (l:List Sign) (i:Int):Int:=if tT l (i+1)<ln l/\(ix l (tT l (i+1))).Kind=3 then tT l (i+1)+1 else tT l (i+1)
theorem qni {l:List Sign} {i:Int} (h:i<ln l):i+1<=gE l i/\gE l i<=ln l:=by
 have:=zh3 (l:=l) (to:=i+1) (by omega)
 unfold gE;split<;>omega
def qao (c k:List Sign) (s:Sign):List Sign×List Sign:=if s.Kind=7 then ([s],k) else if s.Kind=8 then (c,[s]) else (c,k)
def qq3 (l:List Sign):Nat->List Sign×List Sign
 | 0=>([],[])
 | n+1=>qao (qq3 l n).1 (qq3 l n).2 (ix l (n:Int))
def qd2 (l:List Sign) (i:Int):List Sign×List Sign:=qq3 l i.toNat
def qpx (l:List Sign) (i:Int):List Sign:=(qd2 l i).1++(qd2 l i).2
theorem q5c (l:List Sign):qd2 l 0=([],[]):=rfl
theorem qku {l:List Sign} {i:Int} (h:0<=i):qd2 l (i+1)=qao (qd2 l i).1 (qd2 l i).2 (ix l i):=by
 unfold qd2
 have:(i+1).toNat=i.toNat+1:=by omega
 have e:((i.toNat:Nat):Int)=i:=by omega
 rw [this,qq3,e]
theorem qxm {c k:List Sign} {s:Sign} (hc:ln c<=1) (hk:ln k<=1):ln (qao c k s).1<=1/\ln (qao c k s).2<=1:=by
 unfold qao
 split
 .exact ⟨by simp [ln],hk⟩
 .split
  .exact ⟨hc,by simp [ln]⟩
  .exact ⟨hc,hk⟩
theorem q85 (l:List Sign) (i:Int):ln (qd2 l i).1<=1/\ln (qd2 l i).2<=1:=by
 unfold qd2
 induction i.toNat with
 | zero=>exact ⟨by simp [qq3,ln],by simp [qq3,ln]⟩
 | succ n ih=>exact qxm ih.1 ih.2
def kk:List Sign->Bool×Int
 | []=>(false,0)
 | s::l=>if s.Kind=1∨s.Kind=4 then (true,s.Place) else kk l
def qbg (l:List Sign) (i:Int):Bool×Int:=kk (fr l i)
def qmq:List Sign->Int->Int
 | [],_=>-1
 | s::l,i=>if s.Kind=11 then i else qmq l (i+1)
theorem qjv {l:List Sign} {i:Int} (h0:0<=i) (h:i<ln l):qmq (fr l i) i=if (ix l i).Kind=11 then i else qmq (fr l (i+1)) (i+1):=by rw [je h0 h,qmq]
theorem qwg {l:List Sign} {i:Int} (h:ln l<=i):qmq (fr l i) i = -1:=by rw [qbj h];rfl
def qf0 (l:List Sign):Int:=qmq l 0
def fA (l:List Sign) (lim i rest:Int):Int×Int:=if h:i<ln l/\gE l i<=lim then fA l lim (gE l i) (if (ix l i).Kind=2 then gE l i else rest) else (i,rest)
 termination_by (ln l-i).toNat
 decreasing_by have:=qni h.1;omega
def zgm (l:List Sign) (w i:Int):Int:=i+(w-ln (qpx l i))
def nxt (l:List Sign) (w i:Int) (last:Bool):Int:=
 if last=true/\(fA l (zgm l w i) i i).1<ln l/\i<(fA l (zgm l w i) i i).2 then (fA l (zgm l w i) i i).2 else (fA l (zgm l w i) i i).1
def qj8 (l:List Sign) (i:Int):List Group:=if h:i<ln l then Group.mk i (gE l i)::qj8 l (gE l i) else []
 termination_by (ln l-i).toNat
 decreasing_by have:=qni h;omega
def zw (l:List Sign):List Group:=qj8 l 0
theorem qu6 {l:List Sign} {i:Int} (h:i<ln l):qj8 l i=Group.mk i (gE l i)::qj8 l (gE l i):=by rw [qj8,dif_pos h]
theorem qzv {l:List Sign} {i:Int} (h:ln l<=i):qj8 l i=[]:=by rw [qj8,dif_neg (by omega)]
inductive Ch (l:List Sign):Int->Int->Prop
 | refl (a:Int):Ch l a a
 | step {a b:Int} (ha:a<ln l) (h:Ch l (gE l a) b):Ch l a b
theorem Ch.le {l:List Sign} {a b:Int} (h:Ch l a b):a<=b:=by
 induction h with
 | refl=>exact zK _
 | step ha _ ih=>have:=qni ha;omega
structure GrpOk (l:List Sign) (i:Int) (g:List Group):Prop where
 len:ln g<=ln l-i
 at0:0<ln g->(ix g 0).fro=i
 none:ln g<=0->ln l<=i
 bd:∀ k,0<=k->k<ln g->i<=(ix g k).fro/\(ix g k).fro<ln l/\(ix g k).to=gE l (ix g k).fro/\Ch l i (ix g k).fro
 next:∀ k,0<=k->k+1<ln g->(ix g (k+1)).fro=(ix g k).to
 last:∀ k,0<=k->k+1=ln g->(ix g k).to=ln l
theorem zca {l:List Sign} {i:Int} (h:i<=ln l):GrpOk l i (qj8 l i):=by
 by_cases hc:i<ln l
 .have hb:=qni hc
  have ih:=zca (l:=l) (i:=gE l i) hb.2
  rw [qu6 hc]
  have hlen:ln (Group.mk i (gE l i)::qj8 l (gE l i))=ln (qj8 l (gE l i))+1:=qbb _ _
  have e0:ix (Group.mk i (gE l i)::qj8 l (gE l i)) 0=Group.mk i (gE l i):=rfl
  have e1:∀ k,0<=k->ix (Group.mk i (gE l i)::qj8 l (gE l i)) (k+1)=ix (qj8 l (gE l i)) k:=fun k hk=>qzz hk
  have i1:=ih.len
  refine ⟨by omega,fun _=>by rw [e0],fun hh=>by have:=qf (qj8 l (gE l i));omega,fun k h0 hk=>?_,fun k h0 hk=>?_,fun k h0 hk=>?_⟩
  .by_cases hz:k=0
   .subst hz;rw [e0];exact ⟨zK _,hc,rfl,.refl _⟩
   .have hk':=ih.bd (k-1) (by omega) (by omega)
    have:=e1 (k-1) (by omega)
    rw [show k-1+1=k by omega] at this
    rw [this]
    exact ⟨by omega,hk'.2.1,hk'.2.2.1,.step hc hk'.2.2.2⟩
  .by_cases hz:k=0
   .subst hz
    have:=e1 0 (by omega)
    rw [this,e0]
    exact ih.at0 (by omega)
   .have hk':=ih.next (k-1) (by omega) (by omega)
    have a:=e1 (k-1) (by omega)
    have b:=e1 k (by omega)
    rw [show k-1+1=k by omega] at a hk'
    rw [a,b]
    exact hk'
  .by_cases hz:k=0
   .subst hz
    rw [e0]
    have:=ih.none (by omega)
    show gE l i=ln l
    omega
   .have hk':=ih.last (k-1) (by omega) (by omega)
    have a:=e1 (k-1) (by omega)
    rw [show k-1+1=k by omega] at a
    rw [a]
    exact hk'
 .rw [qzv (by omega)]
  exact ⟨by simp [ln];omega,fun h=>absurd h (by simp [ln]),fun _=>by omega,fun k h0 hk=>absurd hk (by simp [ln];omega),fun k h0 hk=>absurd hk (by simp [ln];omega),fun k h0 hk=>absurd hk (by simp [ln];omega)⟩
 termination_by (ln l-i).toNat
 decreasing_by omega
theorem q87 (l:List Sign):GrpOk l 0 (zw l):=zca (qf l)
end Go.Proofs.YtlkfjinaiepocaaDoor
namespace Go.Proofs.YtlkfjinaiepocaaDoor
open Go Go.E2 Go.E3
def smB (g:List Page):Prop:=ln g<=500/\∀ p ∈ g,ln p.Staves<=500/\∀ s ∈ p.Staves,ln s.Signs<=500
def qa (g:List Page):List Staff:=g.flatMap fun p=>p.Staves
def qeg (s:Staff):List Sign:=fr s.Signs s.Lead
def zh (l:List Staff):List Sign:=l.flatMap qeg
def qt (g:List Page):List Sign:=zh (qa g)
def qil (s:Staff):Prop:=0<=s.Lead/\s.Lead<=ln s.Signs
def qk (g:List Page):Prop:=∀ s ∈ qa g,qil s
def qvo:List Staff->Int->Int->Int
 | [],_,_=>0
 | s::l,n,i=>if i-(ln s.Signs-s.Lead)<0 then n else qvo l (n+1) (i-(ln s.Signs-s.Lead))
def jm (g:List Page) (i:Int):Int:=qvo (qa g) 0 i
def zk (s:Staff) (c k:List Sign):Int:=if 60<ln s.Signs then 11 else if s.Lead<0 then 2 else if ln s.Signs<=s.Lead then 2 else if upto s.Signs s.Lead=c++k then 0 else 6
def j8 (f:List Sign×List Sign) (l:List Sign):List Sign×List Sign:=l.foldl (fun f s=>qao f.1 f.2 s) f
def ql6 (g:List Page) (l:List Sign) (i:Int):Int×Int:=if h:i<ln l then (if jm g i=jm g (gE l i-1) then ql6 g l (gE l i) else (6,jm g i)) else (0,0)
 termination_by (ln l-i).toNat
 decreasing_by have:=qni h;omega
theorem qx4 {g:List Page} {l:List Sign} {i:Int} (h:i<ln l) (he:jm g i=jm g (gE l i-1)):ql6 g l i=ql6 g l (gE l i):=by rw [ql6,dif_pos h,zT he]
theorem q2w {g:List Page} {l:List Sign} {i:Int} (h:i<ln l) (he:jm g i≠jm g (gE l i-1)):ql6 g l i=(6,jm g i):=by rw [ql6,dif_pos h,zF he]
theorem q2x {g:List Page} {l:List Sign} {i:Int} (h:ln l<=i):ql6 g l i=(0,0):=by rw [ql6,dif_neg (by omega)]
def qn4 (l:List Sign):List Staff->Int->Int->Int×Int
 | [],_,_=>(0,0)
 | s::r,n,a=>if s.Catch=(qbg l (a+(ln s.Signs-s.Lead))).1/\s.Custos=(qbg l (a+(ln s.Signs-s.Lead))).2 then qn4 l r (n+1) (a+(ln s.Signs-s.Lead)) else (3,n)
def qbn (nm:ZB) (g:List Page):Int×Int:=
 if (ze nm (qt g)).1≠0 then ((ze nm (qt g)).1,jm g (ze nm (qt g)).2)
 else if 0<=qf0 (qt g) then (8,jm g (qf0 (qt g)))
 else if (ql6 g (qt g) 0).1≠0 then ql6 g (qt g) 0
 else qn4 (qt g) (qa g) 0 0
def qbi (f:List Sign×List Sign) (n j:Int):List Staff->Int×(List Sign×List Sign)×Int
 | []=>(0,f,n)
 | s::l=>if 12<=j then (11,f,n) else if zk s f.1 f.2≠0 then (zk s f.1 f.2,f,n) else qbi (j8 f (qeg s)) (n+1) (j+1) l
def qaw (f:List Sign×List Sign) (n:Int) (empty:Bool):List Page->Int×Int×Bool
 | []=>(0,n,empty)
 | p::g=>if p.Staves=[] then qaw f n true g
   else if (qbi f n 0 p.Staves).1≠0 then ((qbi f n 0 p.Staves).1,(qbi f n 0 p.Staves).2.2,false)
   else qaw (qbi f n 0 p.Staves).2.1 (qbi f n 0 p.Staves).2.2 empty g
def qxt (r:Int×(List Sign×List Sign)×Int) (empty:Bool) (g:List Page):Int×Int×Bool:=if r.1≠0 then (r.1,r.2.2,false) else qaw r.2.1 r.2.2 empty g
theorem qr6 {f:List Sign×List Sign} {n:Int} {empty:Bool} {p:Page} {g:List Page} (h:p.Staves≠[]):qaw f n empty (p::g)=qxt (qbi f n 0 p.Staves) empty g:=by
 simp only [qaw,zF h,qxt]
def qq (nm:ZB) (g:List Page):Int×Int:=
 if kh nm=false then (7,0) else if (qaw ([],[]) 0 false g).1≠0 then ((qaw ([],[]) 0 false g).1,(qaw ([],[]) 0 false g).2.1)
 else if (qaw ([],[]) 0 false g).2.2=true then (2,(qaw ([],[]) 0 false g).2.1) else qbn nm g
def j5 (nm:ZB) (g:List Page):ZB×List Sign×Int:=if (qq nm g).1≠0 then ([],[],(qq nm g).1) else (nm,qt g,0)
def qhb (r:Bool) (l:List Sign):Bool:=l.foldl (fun r s=>if s.Kind=1∨s.Kind=4∨s.Kind=2 then decide (s.Kind=2) else r) r
def qam (a:Int) (r:Bool):List Page->List Int×List Bool
 | []=>([],[])
 | p::g=>if g=[] then ([],[]) else ((a+ln (zh p.Staves))::(qam (a+ln (zh p.Staves)) (qhb r (zh p.Staves)) g).1,qhb r (zh p.Staves)::(qam (a+ln (zh p.Staves)) (qhb r (zh p.Staves)) g).2)
def zx (nm:ZB) (g:List Page):List Int×List Bool×Int:=if (qq nm g).1≠0 then ([],[],(qq nm g).1) else ((qam (-1) false g).1,(qam (-1) false g).2,0)
end Go.Proofs.YtlkfjinaiepocaaDoor
namespace Go.Proofs.YtlkfjinaiepocaaDoor
open Go Go.E2 Go.E3
def qvl (l:List Staff) (n:Int):List Int:=l.map fun _=>n
def qbc:Int->List Page->List Int
 | _,[]=>[]
 | n,p::g=>qvl p.Staves n++qbc (n+1) g
def qlz:Int->List Staff->List Int
 | _,[]=>[]
 | k,_::l=>k::qlz (k+1) l
def zf:List Page->List Int
 | []=>[]
 | p::g=>qlz 0 p.Staves++zf g
def qln (n:Int) (l:List Sign):List Int:=l.map fun _=>n
def qlb:Int->List Staff->List Int
 | _,[]=>[]
 | n,s::l=>qln n (qeg s)++qlb (n+1) l
def atO (o:List Int) (x:Int):Int:=if x<0∨ln o<=x then 0 else ix o x
def qfy (f:List Sign×List Sign) (n:Int):List Staff->List Int->Int×Int
 | s::l,k::pc=>if 12<=k then (11,n) else if zk s f.1 f.2≠0 then (zk s f.1 f.2,n) else qfy (j8 f (qeg s)) (n+1) l pc
 | _,_=>(0,n)
def qs9 (o:List Int):List Group->Int×Int
 | []=>(0,0)
 | g::l=>if ix o g.fro=ix o (g.to-1) then qs9 o l else (6,ix o g.fro)
def j3 (nm:ZB) (p:List Sign) (o:List Int) (l:List Staff):Int×Int:=
 if (ze nm p).1≠0 then ((ze nm p).1,atO o (ze nm p).2)
 else if 0<=qf0 p then (8,atO o (qf0 p))
 else if (qs9 o (zw p)).1≠0 then qs9 o (zw p)
 else qn4 p l 0 0
def qzk (nm:ZB) (g:List Page):Int×Int:=
 if kh nm=false then (7,0) else if (qfy ([],[]) 0 (qa g) (zf g)).1≠0 then qfy ([],[]) 0 (qa g) (zf g)
 else if g.any (fun p=>decide (p.Staves=[]))=true then (2,ln (qa g)) else j3 nm (qt g) (qlb 0 (qa g)) (qa g)
def qvt:List Staff->List Int->List Int->Int->Int×Int×Int×Int
 | s::l,a::pg,b::pc,x=>if x<ln s.Signs-s.Lead then (a,b,s.Lead+x,0) else qvt l pg pc (x-(ln s.Signs-s.Lead))
 | _,_,_,_=>(0,0,0,2)
def za (nm:ZB) (g:List Page) (x:Int):Int×Int×Int×Int:=
 if (qq nm g).1≠0 then (0,0,0,(qq nm g).1) else if x<0 then (0,0,0,2) else qvt (qa g) (qbc 0 g) (zf g) x
def zd6:Sign:=Sign.mk 11 0 0 0 false 0 false false 0 0 0 0 false 0 0 0 0
def wrS (l:List Staff):List Sign:=l.flatMap fun s=>s.Signs
def qnc:Bool->List Page->List Sign
 | _,[]=>[]
 | b,p::g=>(if b=true then [zd6] else [])++wrS p.Staves++qnc true g
def jb (nm:ZB) (g:List Page):ZB×List Sign×Int:=
 if (qq nm g).1≠0 then ([],[],(qq nm g).1) else if 400<ln (qnc false g) then ([],[],11) else (nm,qnc false g,0)
def zgo (l:List Staff):Prop:=∀ s ∈ l,ln s.Signs<=70
instance (l:List Staff):Decidable (zgo l):=by unfold zgo;infer_instance
def q9i (l:List Page):Prop:=∀ p ∈ l,ln p.Staves<=15/\zgo p.Staves
instance (l:List Page):Decidable (q9i l):=by unfold q9i;infer_instance
def qes (nm:ZB) (g:List Page):Bool:=decide (ln nm<=100/\ln g<=20/\q9i g/\ln (wrS (qa g))<=600)
def qkc (a b:List Int):Bool:=decide (a=b)
def qkd (a b:List Bool):Bool:=decide (a=b)
theorem qum:∀ (l:List Staff) (k:Int),ln (qlz k l)=ln l
 | [],_=>rfl
 | _::l,k=>by rw [qlz,qbb,qbb,qum l]
theorem q3a (l:List Staff) (n:Int):ln (qvl l n)=ln l:=by simp [qvl,ln]
theorem qlf (p:Page) (g:List Page):qa (p::g)=p.Staves++qa g:=rfl
theorem qe9:∀ g:List Page,ln (zf g)=ln (qa g)
 | []=>rfl
 | p::g=>by rw [zf,qlf,zp,zp,qum,qe9 g]
theorem qor:∀ (g:List Page) (n:Int),ln (qbc n g)=ln (qa g)
 | [],_=>rfl
 | p::g,n=>by rw [qbc,qlf,zp,zp,q3a,qor g]
theorem qxs:∀ (l:List Staff) (k:Int) (s:Staff),qlz k (l++[s])=qlz k l++[k+ln l]
 | [],k,s=>by simp [qlz,ln]
 | a::l,k,s=>by
  rw [List.cons_append,qlz,qxs l,qlz,qbb,List.cons_append]
  congr 2
  simp only [List.cons.injEq,and_true]
  omega
theorem q9l (l:List Staff) (n:Int) (s:Staff):qvl (l++[s]) n=qvl l n++[n]:=by simp [qvl]
theorem qsr:∀ (g:List Page) (n:Int) (p:Page),qbc n (g++[p])=qbc n g++qvl p.Staves (n+ln g)
 | [],n,p=>by simp [qbc,ln]
 | a::g,n,p=>by
  rw [List.cons_append,qbc,qsr g,qbc,qbb,List.append_assoc]
  congr 3
  omega
theorem qp8:∀ (g:List Page) (p:Page),zf (g++[p])=zf g++qlz 0 p.Staves
 | [],p=>by simp [zf]
 | a::g,p=>by rw [List.cons_append,zf,qp8 g,zf,List.append_assoc]
theorem qyn:∀ (l:List Staff) (n:Int) (s:Staff),qlb n (l++[s])=qlb n l++qln (n+ln l) (qeg s)
 | [],n,s=>by simp [qlb,ln]
 | a::l,n,s=>by
  rw [List.cons_append,qlb,qyn l,qlb,qbb,List.append_assoc]
  congr 3
  omega
theorem qvp:∀ (l:List Staff) (n:Int),ln (qlb n l)=ln (zh l)
 | [],_=>rfl
 | s::l,n=>by
  rw [qlb,zp,qvp l]
  show _=ln (qeg s++zh l)
  rw [zp]
  simp [qln,ln]
theorem q18:∀ (l:List Staff) (f:List Sign×List Sign) (n k:Int) (L:List Staff) (pc:List Int),
  qfy f n (l++L) (qlz k l++pc)=if (qbi f n k l).1≠0 then ((qbi f n k l).1,(qbi f n k l).2.2) else qfy (qbi f n k l).2.1 (qbi f n k l).2.2 L pc
 | [],f,n,k,L,pc=>by simp [qbi,qlz]
 | s::l,f,n,k,L,pc=>by
  simp only [qlz,List.cons_append,qfy,qbi]
  by_cases h:12<=k
  .simp [h]
  .by_cases h2:zk s f.1 f.2=0
   .simp only [h,if_false,h2,ne_eq,not_true_eq_false]
    exact q18 l _ _ _ _ _
   .simp [h,h2]
theorem quj:∀ (g:List Page) (f:List Sign×List Sign) (n:Int) (em:Bool),
  qaw f n em g=if (qfy f n (qa g) (zf g)).1≠0 then ((qfy f n (qa g) (zf g)).1,(qfy f n (qa g) (zf g)).2,false) else (0,(qfy f n (qa g) (zf g)).2,em || g.any fun p=>decide (p.Staves=[]))
 | [],f,n,em=>by simp [qaw,qa,zf,qfy]
 | p::g,f,n,em=>by
  rw [qlf,zf,q18]
  by_cases h:p.Staves=[]
  .simp only [qaw,zT h,h,qbi]
   rw [quj g]
   simp [h]
  .rw [qr6 h]
   unfold qxt
   by_cases h2:(qbi f n 0 p.Staves).1=0
   .simp only [h2,ne_eq,not_true_eq_false,if_false]
    rw [quj g]
    simp [h]
   .simp [h2]
theorem q15:∀ (l:List Staff) (pc:List Int) (f:List Sign×List Sign) (n:Int),ln pc=ln l->(qfy f n l pc).1=0->(qfy f n l pc).2=n+ln l
 | [],_,f,n,_,_=>by simp [qfy,ln]
 | s::l,[],f,n,h,_=>by rw [qbb,qz3] at h;have:=qf l;omega
 | s::l,k::pc,f,n,h,h2=>by
  simp only [qfy] at h2 ⊢
  split at h2
  .simp at h2
  .rename_i h3
   split at h2
   .rename_i h4;exact absurd h2 h4
   .rename_i h4
    rw [zF h3,zF h4,q15 l pc _ _ (by rw [qbb,qbb] at h;omega) h2,qbb]
    omega
def q4o (s:Staff):Prop:=0<=s.Lead/\s.Lead<ln s.Signs
theorem zab {s:Staff} {c k:List Sign} (h:zk s c k=0):q4o s:=by
 unfold zk at h
 split at h
 .omega
 .split at h
  .omega
  .split at h
   .omega
   .exact ⟨by omega,by omega⟩
theorem qxq:∀ (l:List Staff) (pc:List Int) (f:List Sign×List Sign) (n:Int),ln pc=ln l->(qfy f n l pc).1=0->∀ s ∈ l,q4o s
 | [],_,_,_,_,_=>fun s h=>by cases h
 | s::l,[],f,n,h,_=>by rw [qbb,qz3] at h;have:=qf l;omega
 | s::l,k::pc,f,n,h,h2=>by
  simp only [qfy] at h2
  split at h2
  .simp at h2
  .split at h2
   .rename_i h4;exact absurd h2 h4
   .rename_i h4
    intro x hx
    rcases zD.1 hx with rfl | hx
    .exact zab (Decidable.not_not.1 h4)
    .exact qxq l pc _ _ (by rw [qbb,qbb] at h;omega) h2 x hx
theorem qzy {α:Type} [Inhabited α] {l m:List α} {i:Int} (h:ln l<=i):ix (l++m) i=ix m (i-ln l):=by
 have h0:=qf l
 have e:(i-ln l).toNat=i.toNat-l.length:=by simp only [ln] at *;omega
 have e2:l.length<=i.toNat:=by simp only [ln] at *;omega
 unfold ix
 rw [e,List.getD_eq_getElem?_getD,List.getD_eq_getElem?_getD,List.getElem?_append_right e2]
theorem zgi {n:Int} {l:List Sign} {i:Int} (h0:0<=i) (h:i<ln l):ix (qln n l) i=n:=by
 have:ix (qln n l) i ∈ qln n l:=zm h0 (by simpa [qln,ln] using h)
 unfold qln at this
 obtain ⟨_,_,h⟩:=List.mem_map.1 this
 exact h.symm
theorem qzh:∀ (l:List Staff) (n x:Int),(∀ s ∈ l,0<=s.Lead/\s.Lead<=ln s.Signs)->0<=x->atO (qlb n l) x=qvo l n x
 | [],n,x,_,hx=>by simp [qlb,qvo,atO,ln,hx]
 | s::l,n,x,hl,hx=>by
  have hs:=hl s zC
  have e:ln (qln n (qeg s))=ln s.Signs-s.Lead:=by
   have:ln (qln n (qeg s))=ln (qeg s):=by simp [qln,ln]
   rw [this];exact qsk hs.1 hs.2
  have e':ln (qeg s)=ln s.Signs-s.Lead:=qsk hs.1 hs.2
  have ih:=qzh l (n+1) (x-(ln s.Signs-s.Lead)) (fun y hy=>hl y (zG _ hy))
  have h0:=qf (qlb (n+1) l)
  simp only [qlb,qvo]
  by_cases h:x-(ln s.Signs-s.Lead)<0
  .rw [zT h]
   unfold atO
   rw [zF (by rw [zp,e];omega),qvb hx (by omega)]
   exact zgi hx (by omega)
  .rw [zF h,<-ih (by omega)]
   unfold atO
   rw [zp,e]
   by_cases h2:ln (qlb (n+1) l)<=x-(ln s.Signs-s.Lead)
   .rw [zT (by omega),zT (by omega)]
   .rw [zF (by omega),zF (by omega),qzy (by omega),e]
theorem q64 {g:List Page} (hl:∀ s ∈ qa g,0<=s.Lead/\s.Lead<=ln s.Signs) {i:Int} (h0:0<=i):qs9 (qlb 0 (qa g)) (qj8 (qt g) i)=ql6 g (qt g) i:=by
 have hO:∀ x,0<=x->x<ln (qt g)->ix (qlb 0 (qa g)) x=jm g x:=by
  intro x hx hx'
  have:=qzh (qa g) 0 x hl hx
  unfold atO at this
  rw [zF (by rw [qvp];exact fun h=>by rcases h with h | h;omega;have:ln (qt g)<=x:=h;omega)] at this
  exact this
 by_cases h:i<ln (qt g)
 .have hb:=qni h
  have ih:=q64 hl (i:=gE (qt g) i) (by omega)
  rw [qu6 h]
  simp only [qs9]
  rw [hO i h0 h,hO _ (by omega) (by omega)]
  by_cases he:jm g i=jm g (gE (qt g) i-1)
  .rw [zT he,qx4 h he,ih]
  .rw [zF he,q2w h he]
 .rw [qzv (by omega),q2x (by omega)]
  rfl
 termination_by (ln (qt g)-i).toNat
 decreasing_by have:=qni h;omega
theorem q17 {l:List Sign} {i:Int} (h:0<=i):0<=(qhi l i).2:=by
 by_cases hc:i<ln l
 .by_cases he:qpm l i=0
  .rw [qpd hc he];exact q17 (by omega)
  .rw [qtg hc he];exact h
 .rw [qtf (by omega)];exact zK _
 termination_by (ln l-i).toNat
 decreasing_by omega
theorem q8v (nm:ZB) (l:List Sign):0<=(ze nm l).2:=by
 unfold ze
 split
 .exact zK _
 .split
  .exact zK _
  .exact q17 (zK _)
theorem qui (nm:ZB) (g:List Page):qzk nm g=qq nm g:=by
 unfold qzk qq
 have hb:=quj g ([],[]) 0 false
 have hlen:=qe9 g
 by_cases hn:kh nm=false
 .rw [zT hn,zT hn]
 .rw [zF hn,zF hn]
  by_cases h1:(qfy ([],[]) 0 (qa g) (zf g)).1=0
  .rw [zF (by simp [h1])] at hb
   rw [zF (by simp [h1]),hb,Bool.false_or]
   dsimp only
   rw [zF (show ¬ ((0:Int)≠0) by decide)]
   have he:=q15 _ _ _ _ hlen h1
   by_cases h2:(g.any fun p=>decide (p.Staves=[]))=true
   .rw [zT h2,zT h2,he,Int.zero_add]
   .rw [zF h2,zF h2]
    have hl:∀ s ∈ qa g,0<=s.Lead/\s.Lead<=ln s.Signs:=fun s hs=>by have:=qxq _ _ _ _ hlen h1 s hs;exact ⟨this.1,Int.le_of_lt this.2⟩
    have hg:=q64 hl (zK 0)
    unfold j3 qbn zw
    rw [hg,qzh _ _ _ hl (q8v _ _)]
    by_cases h3:(ze nm (qt g)).1=0
    .have h3':¬ (ze nm (qt g)).1≠0:=by simp [h3]
     rw [zF h3',zF h3']
     by_cases h4:0<=qf0 (qt g)
     .rw [zT h4,zT h4,qzh _ _ _ hl h4];rfl
     .rw [zF h4,zF h4]
    .rw [zT h3,zT h3];rfl
  .rw [zT h1,hb,zT h1]
   dsimp only
   rw [zT h1]
theorem zak {l:List Sign} {i j:Int} (h0:0<=i) (hij:i<j) (hj:j<=ln l):sub l i j=ix l i::sub l (i+1) j:=by
 rw [qmn h0 (by omega),je h0 (by omega),qmn (by omega) (by omega)]
 unfold upto
 rw [show (j-i).toNat=(j-(i+1)).toNat+1 by omega]
 rfl
theorem qu0 {l:List Sign} {i j:Int} (h0:0<=i) (hij:i<=j) (hj:j<=ln l):j8 (qd2 l i) (sub l i j)=qd2 l j:=by
 by_cases hc:i<j
 .rw [zak h0 hc hj]
  show j8 (qao (qd2 l i).1 (qd2 l i).2 (ix l i)) (sub l (i+1) j)=_
  rw [<-qku h0]
  exact qu0 (by omega) (by omega) hj
 .have:i=j:=by omega
  subst this
  rw [qmn h0 (zK i),Int.sub_self];rfl
 termination_by (j-i).toNat
 decreasing_by omega
theorem q84 (l:List Sign):qd2 l (ln l)=j8 ([],[]) l:=by
 rw [<-qu0 (zK 0) (qf l) (zK _),q5c,qmn (zK 0) (qf l),qal,js (by omega)]
theorem q22 (l:List Sign):qpx l (ln l)=(j8 ([],[]) l).1++(j8 ([],[]) l).2:=by
 unfold qpx
 rw [q84]
theorem q5b (f:List Sign×List Sign) (l m:List Sign):j8 f (l++m)=j8 (j8 f l) m:=by
 unfold j8
 rw [List.foldl_append]
end Go.Proofs.YtlkfjinaiepocaaDoor
namespace Go.Proofs.YtlkfjinaiepocaaDoor
open Go Go.E2 Go.E3
def qa0 (a0:ZB) (i:Int):Prop:=0<=i/\i<=ln a0/\∀ j,0<=j->j<i->qno (bx a0 j)=true
def z6 (a0:ZB) (i:Int):Nat:=(ln a0-i).toNat
def qaz (a0:ZB) (i:Int):Prop:=0<=i/\i<=ln a0/\∀ j,0<=j->j<i->qno (bx a0 j)=true
def z5 (a0:ZB) (i:Int):Nat:=(ln a0-i).toNat
def zkq (l:List Int) (i:Int):Prop:=0<=i/\i<=4/\∀ j,0<=j->j<i->(ix l j=2∨ix l j=3)
def jv (a0 a1 a2 a3 i:Int):Prop:=0<=i/\i<=4/\(i<1∨a0=2∨a0=3)/\(i<2∨a1=2∨a1=3)/\(i<3∨a2=2∨a2=3)/\(i<4∨a3=2∨a3=3)
def zj (_ _ _ _ i:Int):Nat:=(4-i).toNat
def qc3 (a0 a1 a2 a3 i:Int):Prop:=zkq [a0,a1,a2,a3] i
def qcd (_ _ _ _ i:Int):Nat:=(4-i).toNat
def qbx (_:ZB) (l:List Sign) (b:Bool) (i:Int):Prop:=0<=i/\i<=ln l/\qhi l i=qhi l 0/\b=ins l i/\(b=true->i<ln l/\(ix l i).Kind=4)
def qa1 (_:ZB) (l:List Sign) (_:Bool) (i:Int):Nat:=(ln l-i).toNat
def jo (_:ZB) (l:List Sign) (i:Int):Prop:=0<=i/\i<=ln l/\qhi l i=qhi l 0
def zl (_:ZB) (l:List Sign) (i:Int):Nat:=(ln l-i).toNat
def qct (a0 a1:List Sign) (i:Int):Prop:=0<=i/\i<=ln a0/\∀ j,0<=j->j<i->ix a0 j=ix a1 j
def qce (a0 _:List Sign) (i:Int):Nat:=(ln a0-i).toNat
def qhx (_:ZB) (a1:List Page) (_:ZB) (a3:List Page) (i:Int):Prop:=0<=i/\i<=ln a1/\∀ j,0<=j->j<i->ix a1 j=ix a3 j
def qgz (_:ZB) (a1:List Page) (_:ZB) (_:List Page) (i:Int):Nat:=(ln a1-i).toNat
def qhy (_:ZB) (a1:List Page) (_:ZB) (a3:List Page) (k i:Int):Prop:=0<=k/\k<=ln (ix a1 i).Staves/\∀ j,0<=j->j<k->ix (ix a1 i).Staves j=ix (ix a3 i).Staves j
def qg0 (_:ZB) (a1:List Page) (_:ZB) (_:List Page) (k i:Int):Nat:=(ln (ix a1 i).Staves-k).toNat
def qhv (a0:List Sign) (i:Int):Prop:=0<=i/\i<=ln a0/\kk (fr a0 i)=kk a0
def qgx (a0:List Sign) (i:Int):Nat:=(ln a0-i).toNat
def qhw (a0:List Sign) (a1:Int) (i:Int):Prop:=0<=i/\i<=ln a0/\kk (fr a0 i)=qbg a0 a1
def qgy (a0:List Sign) (_:Int) (i:Int):Nat:=(ln a0-i).toNat
def qkx (a0:List Sign) (i:Int):Prop:=0<=i/\i<=ln a0/\qmq (fr a0 i) i=qf0 a0
def qjr (a0:List Sign) (i:Int):Nat:=(ln a0-i).toNat
def zt (l:List Sign) (g:List Group) (i:Int):Prop:=0<=i/\i<=ln l/\g++qj8 l i=zw l/\ln g<=i
def qx (l:List Sign) (_:List Group) (i:Int):Nat:=(ln l-i).toNat
def qee (l:List Sign) (to i:Int):Prop:=i+1<=to/\to<=ln l/\tT l to=tT l (i+1)
def qfo (l:List Sign) (to _:Int):Nat:=(ln l-to).toNat
def qe4 (l:List Sign) (a:Int) (c k:List Sign) (i:Int):Prop:=0<=i/\i<=a/\(c,k)=qd2 l i
def qau (_:List Sign) (a:Int) (_ _:List Sign) (i:Int):Nat:=(a-i).toNat
structure Hold (p:Prop):Prop where
 out:p
end Go.Proofs.YtlkfjinaiepocaaDoor
namespace Go.Proofs.YtlkfjinaiepocaaDoor
open Go Go.E2 Go.E3
structure Hold2 (p:Prop):Prop where
 get:p
def qh0 (_:ZB) (a1:List Page) (out:List Staff) (i:Int):Prop:=Hold2 (0<=i/\i<=ln a1/\out=qa (upto a1 i))
def qjz (_:ZB) (a1:List Page) (_:List Staff) (i:Int):Nat:=(ln a1-i).toNat
def qi1 (a0:ZB) (a1:List Page) (i:Int) (nm:ZB) (S:List Sign):Prop:=Hold2 (0<=i/\i<=ln (qa a1)/\nm=a0/\S=zh (upto (qa a1) i))
def qha (_:ZB) (a1:List Page) (i:Int) (_:ZB) (_:List Sign):Nat:=(ln (qa a1)-i).toNat
def qjn (_:ZB) (a1:List Page) (a2:Int) (x n:Int):Prop:=Hold2 (0<=n/\n<=ln (qa a1)/\0<=x/\x<=a2/\qvo (fr (qa a1) n) n x=jm a1 a2)
def qk5 (_:ZB) (a1:List Page) (_:Int) (_ n:Int):Nat:=(ln (qa a1)-n).toNat
def qhz (a0:List Sign) (a1:Int) (_:Bool) (_:Int) (a4 a5:List Sign) (i:Int):Prop:=Hold2 (0<=i/\i<=ln (upto a0 a1)/\∀ j,0<=j->j<i->ix (upto a0 a1) j=ix (a4++a5) j)
def qjy (a0:List Sign) (a1:Int) (_:Bool) (_:Int) (_ _:List Sign) (i:Int):Nat:=(ln (upto a0 a1)-i).toNat
def qaj (_:ZB) (a1:List Page) (x:Int):Prop:=Hold2 (0<=x/\x<=ln (qt a1)/\qmq (fr (qt a1) x) x=qf0 (qt a1))
def qh8 (_:ZB) (a1:List Page) (x:Int):Nat:=(ln (qt a1)-x).toNat
def zb (_:ZB) (a1:List Page) (x:Int):Prop:=Hold2 (0<=x/\x<=ln (qt a1)/\ql6 a1 (qt a1) x=ql6 a1 (qt a1) 0)
def qi (_:ZB) (a1:List Page) (x:Int):Nat:=(ln (qt a1)-x).toNat
def j6 (_:ZB) (a1:List Page) (y x:Int):Prop:=Hold2 (x+1<=y/\y<=ln (qt a1)/\tT (qt a1) y=tT (qt a1) (x+1))
def qdx (_:ZB) (a1:List Page) (y _:Int):Nat:=(ln (qt a1)-y).toNat
def jl (_:ZB) (a1:List Page) (a n:Int):Prop:=Hold2 (0<=n/\n<=ln (qa a1)/\a=ln (zh (upto (qa a1) n))/\qn4 (qt a1) (fr (qa a1) n) n a=qn4 (qt a1) (qa a1) 0 0)
def qdy (_:ZB) (a1:List Page) (_ n:Int):Nat:=(ln (qa a1)-n).toNat
def kz (_:ZB) (a1:List Page) (n:Int) (em:Bool) (i:Int) (c k:List Sign):Prop:=Hold2 (0<=i/\i<=ln a1/\0<=n/\n<=500 * i/\ln c<=1/\ln k<=1/\qk (upto a1 i)/\qaw (c,k) n em (fr a1 i)=qaw ([],[]) 0 false a1)
def qby (_:ZB) (a1:List Page) (_:Int) (_:Bool) (i:Int) (_ _:List Sign):Nat:=(ln a1-i).toNat
def ju (_:ZB) (a1:List Page) (n j:Int) (c k:List Sign) (em:Bool) (i:Int):Prop:=Hold2 (0<=j/\j<=ln (ix a1 i).Staves/\0<=n/\n<=500 * i+j/\ln c<=1/\ln k<=1/\(∀ s ∈ upto (ix a1 i).Staves j,qil s)/\qxt (qbi (c,k) n j (fr (ix a1 i).Staves j)) em (fr a1 (i+1))=qaw ([],[]) 0 false a1)
def qgn (_:ZB) (a1:List Page) (_ j:Int) (_ _:List Sign) (_:Bool) (i:Int):Nat:=(ln (ix a1 i).Staves-j).toNat
def qar (_:ZB) (a1:List Page) (x:Int) (c k:List Sign) (n:Int) (em:Bool) (i j:Int):Prop:=Hold2 (0<=x/\x<=ln (qeg (ix (ix a1 i).Staves j))/\ln c<=1/\ln k<=1/\
 qxt (qbi (j8 (c,k) (fr (qeg (ix (ix a1 i).Staves j)) x)) (n+1) (j+1) (fr (ix a1 i).Staves (j+1))) em (fr a1 (i+1))=qaw ([],[]) 0 false a1)
def qgo (_:ZB) (a1:List Page) (x:Int) (_ _:List Sign) (_:Int) (_:Bool) (i j:Int):Nat:=(ln (qeg (ix (ix a1 i).Staves j))-x).toNat
def zbm (s:List Int) (r:List Bool) (t:List Int×List Bool):List Int×List Bool:=(s++t.1,r++t.2)
def zy (_:ZB) (a1:List Page) (s:List Int) (r:List Bool) (a:Int) (q:Bool) (i:Int):Prop:=Hold2 (0<=i/\i<=ln a1/\ln s<=i/\ln r<=i/\a=ln (qt (upto a1 i))-1/\zbm s r (qam a q (fr a1 i))=qam (-1) false a1)
def qbz (_:ZB) (a1:List Page) (_:List Int) (_:List Bool) (_:Int) (_:Bool) (i:Int):Nat:=(ln a1-i).toNat
def jw (_:ZB) (a1:List Page) (a:Int) (q:Bool) (j:Int) (s:List Int) (r:List Bool) (i:Int):Prop:=Hold2 (0<=j/\j<=ln (ix a1 i).Staves/\∃ a' q',a=a'+ln (zh (upto (ix a1 i).Staves j))/\q=qhb q' (zh (upto (ix a1 i).Staves j))/\a'=ln (qt (upto a1 i))-1/\zbm s r (qam a' q' (fr a1 i))=qam (-1) false a1)
def qgv (_:ZB) (a1:List Page) (_:Int) (_:Bool) (j:Int) (_:List Int) (_:List Bool) (i:Int):Nat:=(ln (ix a1 i).Staves-j).toNat
def zz (_:ZB) (a1:List Page) (a:Int) (q:Bool) (x:Int) (s:List Int) (r:List Bool) (i j:Int):Prop:=Hold2 (0<=x/\x<=ln (qeg (ix (ix a1 i).Staves j))/\∃ a' q',a=a'+ln (zh (upto (ix a1 i).Staves j))+x/\q=qhb (qhb q' (zh (upto (ix a1 i).Staves j))) (upto (qeg (ix (ix a1 i).Staves j)) x)/\a'=ln (qt (upto a1 i))-1/\zbm s r (qam a' q' (fr a1 i))=qam (-1) false a1)
def jc (_:ZB) (a1:List Page) (_:Int) (_:Bool) (x:Int) (_:List Int) (_:List Bool) (i j:Int):Nat:=(ln (qeg (ix (ix a1 i).Staves j))-x).toNat
end Go.Proofs.YtlkfjinaiepocaaDoor
namespace Go.Proofs.YtlkfjinaiepocaaDoor
open Go Go.E2 Go.E3
def qgl (_:ZB) (a1:List Page) (x:List Staff) (pg pc:List Int) (i:Int):Prop:=Hold2 (0<=i/\i<=ln a1/\x=qa (upto a1 i)/\pg=qbc 0 (upto a1 i)/\pc=zf (upto a1 i))
def qfp (_:ZB) (a1:List Page) (_:List Staff) (_ _:List Int) (i:Int):Nat:=(ln a1-i).toNat
def qgm (_:ZB) (a1:List Page) (x:List Staff) (pg pc:List Int) (k i:Int):Prop:=
 Hold2 (0<=k/\k<=ln (ix a1 i).Staves/\x=qa (upto a1 i)++upto (ix a1 i).Staves k/\pg=qbc 0 (upto a1 i)++qvl (upto (ix a1 i).Staves k) i/\pc=zf (upto a1 i)++qlz 0 (upto (ix a1 i).Staves k))
def qfq (_:ZB) (a1:List Page) (_:List Staff) (_ _:List Int) (k i:Int):Nat:=(ln (ix a1 i).Staves-k).toNat
def qjo (a0 a1:List Sign) (x:Int):Prop:=qct a0 a1 x
def qk6 (a0 a1:List Sign) (x:Int):Nat:=qce a0 a1 x
def qto (p:List Sign) (o:List Int) (l:List Staff):Prop:=ln o=ln p/\p=zh l/\ln l<=250000/\∀ s ∈ l,ln s.Signs<=500/\qil s
def qh1 (_:ZB) (a1:List Sign) (a2:List Int) (_:List Staff) (x:Int):Prop:=Hold2 (0<=x/\x<=ln (zw a1)/\qs9 a2 (fr (zw a1) x)=qs9 a2 (zw a1))
def qg1 (_:ZB) (a1:List Sign) (_:List Int) (_:List Staff) (x:Int):Nat:=(ln (zw a1)-x).toNat
def qh2 (_:ZB) (a1:List Sign) (_:List Int) (a3:List Staff) (a n:Int):Prop:=Hold2 (0<=n/\n<=ln a3/\a=ln (zh (upto a3 n))/\qn4 a1 (fr a3 n) n a=qn4 a1 a3 0 0)
def qg2 (_:ZB) (_:List Sign) (_:List Int) (a3:List Staff) (_ n:Int):Nat:=(ln a3-n).toNat
def qcn (a0:ZB) (a1:List Page) (o:List Int) (i:Int) (nm:ZB) (S:List Sign):Prop:=
 Hold2 (0<=i/\i<=ln (qa a1)/\nm=a0/\S=zh (upto (qa a1) i)/\o=qlb 0 (upto (qa a1) i)/\(∀ s ∈ upto (qa a1) i,q4o s)/\qfy (j8 ([],[]) S) i (fr (qa a1) i) (fr (zf a1) i)=qfy ([],[]) 0 (qa a1) (zf a1))
def qgp (_:ZB) (a1:List Page) (_:List Int) (i:Int) (_:ZB) (_:List Sign):Nat:=(ln (qa a1)-i).toNat
def qhp (a0:ZB) (a1:List Page) (o:List Int) (k:Int) (nm:ZB) (S:List Sign) (i:Int):Prop:=
 Hold2 ((ix (qa a1) i).Lead<=k/\k<=ln (ix (qa a1) i).Signs/\nm=a0/\S=zh (upto (qa a1) i)++sub (ix (qa a1) i).Signs (ix (qa a1) i).Lead k/\o=qlb 0 (upto (qa a1) i)++qln i (sub (ix (qa a1) i).Signs (ix (qa a1) i).Lead k))
def qgq (_:ZB) (a1:List Page) (_:List Int) (k:Int) (_:ZB) (_:List Sign) (i:Int):Nat:=(ln (ix (qa a1) i).Signs-k).toNat
def qhq (_:ZB) (a1:List Page) (x:Int):Prop:=Hold2 (0<=x/\x<=ln a1/\∀ p ∈ upto a1 x,p.Staves≠[])
def qgr (_:ZB) (a1:List Page) (x:Int):Nat:=(ln a1-x).toNat
def qjj (a0:ZB) (a1:List Page) (i:Int) (nm:ZB) (S:List Sign):Prop:=qi1 a0 a1 i nm S
def qh5 (a0:ZB) (a1:List Page) (i:Int) (nm:ZB) (S:List Sign):Nat:=qha a0 a1 i nm S
def qht (_:ZB) (a1:List Page) (a2:Int) (n i:Int):Prop:=Hold2 (0<=i/\i<=ln (qa a1)/\0<=n/\n<=500 * i/\
 (0<=a2->n<=a2/\qvt (fr (qa a1) i) (fr (qbc 0 a1) i) (fr (zf a1) i) (a2-n)=qvt (qa a1) (qbc 0 a1) (zf a1) a2))
def qgu (_:ZB) (a1:List Page) (_:Int) (_ i:Int):Nat:=(ln (qa a1)-i).toNat
def qhr (_:ZB) (a1:List Page) (a2:Int) (x i:Int):Prop:=Hold2 (0<=i/\i<=ln a1/\0<=x/\x<=a2/\
 qvt (qa (fr a1 i)) (qbc i (fr a1 i)) (zf (fr a1 i)) x=qvt (qa a1) (qbc 0 a1) (zf a1) a2)
def qgs (_:ZB) (a1:List Page) (_:Int) (_ i:Int):Nat:=(ln a1-i).toNat
def qhs (_:ZB) (a1:List Page) (a2:Int) (x k i:Int):Prop:=Hold2 (0<=k/\k<=ln (ix a1 i).Staves/\0<=x/\x<=a2/\
 qvt (fr (ix a1 i).Staves k++qa (fr a1 (i+1))) (qvl (fr (ix a1 i).Staves k) i++qbc (i+1) (fr a1 (i+1))) (qlz k (fr (ix a1 i).Staves k)++zf (fr a1 (i+1))) x=qvt (qa a1) (qbc 0 a1) (zf a1) a2)
def qgt (_:ZB) (a1:List Page) (_:Int) (_ k i:Int):Nat:=(ln (ix a1 i).Staves-k).toNat
def qfm (a0:ZB) (a1:List Page) (s:List Int) (r:List Bool) (n:Int) (q:Bool) (i:Int):Prop:=zy a0 a1 s r (n-1) q i
def qb0 (_:ZB) (a1:List Page) (_:List Int) (_:List Bool) (_:Int) (_:Bool) (i:Int):Nat:=(ln a1-i).toNat
def qhu (a0:ZB) (a1:List Page) (n:Int) (q:Bool) (j:Int) (s:List Int) (r:List Bool) (i:Int):Prop:=jw a0 a1 (n-1) q j s r i
def qgw (_:ZB) (a1:List Page) (_:Int) (_:Bool) (j:Int) (_:List Int) (_:List Bool) (i:Int):Nat:=(ln (ix a1 i).Staves-j).toNat
def qbu (a0:ZB) (a1:List Page) (n:Int) (q:Bool) (x:Int) (s:List Int) (r:List Bool) (i j:Int):Prop:=Hold2 ((ix (ix a1 i).Staves j).Lead<=x/\zz a0 a1 (n-1) q (x-(ix (ix a1 i).Staves j).Lead) s r i j)
def jd (_:ZB) (a1:List Page) (_:Int) (_:Bool) (x:Int) (_:List Int) (_:List Bool) (i j:Int):Nat:=(ln (ix (ix a1 i).Staves j).Signs-x).toNat
def qai (a0:ZB) (a1:List Page) (i:Int) (nm:ZB) (S:List Sign):Prop:=Hold2 (0<=i/\i<=ln a1/\nm=a0/\S++qnc (decide (0<i)) (fr a1 i)=qnc false a1)
def qas (_:ZB) (a1:List Page) (i:Int) (_:ZB) (_:List Sign):Nat:=(ln a1-i).toNat
def jk (a0:ZB) (a1:List Page) (k:Int) (nm:ZB) (S:List Sign) (i:Int):Prop:=Hold2 (0<=k/\k<=ln (ix a1 i).Staves/\nm=a0/\S++(wrS (fr (ix a1 i).Staves k)++qnc true (fr a1 (i+1)))=qnc false a1)
def qat (_:ZB) (a1:List Page) (k:Int) (_:ZB) (_:List Sign) (i:Int):Nat:=(ln (ix a1 i).Staves-k).toNat
def qg8 (a0:ZB) (a1:List Page) (i:Int) (nm:ZB) (S:List Sign):Prop:=qai a0 a1 i nm S
def qco (a0:ZB) (a1:List Page) (i:Int) (nm:ZB) (S:List Sign):Nat:=qas a0 a1 i nm S
def qdk (a0:ZB) (a1:List Page) (k:Int) (nm:ZB) (S:List Sign) (i:Int):Prop:=jk a0 a1 k nm S i
def qcp (a0:ZB) (a1:List Page) (k:Int) (nm:ZB) (S:List Sign) (i:Int):Nat:=qat a0 a1 k nm S i
def qfl (a0 a1:List Int) (x:Int):Prop:=Hold2 (0<=x/\x<=ln a0/\∀ j,0<=j->j<x->ix a0 j=ix a1 j)
def qen (a0 _:List Int) (x:Int):Nat:=(ln a0-x).toNat
def qem (a0 a1:List Bool) (x:Int):Prop:=Hold2 (0<=x/\x<=ln a0/\∀ j,0<=j->j<x->ix a0 j=ix a1 j)
def qdw (a0 _:List Bool) (x:Int):Nat:=(ln a0-x).toNat
def qjk (_:ZB) (a1:List Page) (n i:Int):Prop:=Hold2 (0<=i/\i<=ln a1/\q9i (upto a1 i)/\n=ln (wrS (qa (upto a1 i))))
def qh6 (_:ZB) (a1:List Page) (_ i:Int):Nat:=(ln a1-i).toNat
def qjl (_:ZB) (a1:List Page) (n k i:Int):Prop:=Hold2 (0<=k/\k<=ln (ix a1 i).Staves/\zgo (upto (ix a1 i).Staves k)/\n=ln (wrS (qa (upto a1 i)))+ln (wrS (upto (ix a1 i).Staves k)))
def qh7 (_:ZB) (a1:List Page) (_ k i:Int):Nat:=(ln (ix a1 i).Staves-k).toNat
def qmy (a0:ZB) (a1:List Page) (i:Int) (nm:ZB) (g:List Page):Prop:=Hold2 (0<=i/\i<=ln a1/\nm=a0/\g=upto a1 i)
def qk3 (_:ZB) (a1:List Page) (i:Int) (_:ZB) (_:List Page):Nat:=(ln a1-i).toNat
def qmz (_:ZB) (a1:List Page) (k:Int) (l:List Staff) (i:Int):Prop:=Hold2 (0<=k/\k<=ln (ix a1 i).Staves/\l=upto (ix a1 i).Staves k)
def qk4 (_:ZB) (a1:List Page) (k:Int) (_:List Staff) (i:Int):Nat:=(ln (ix a1 i).Staves-k).toNat
end Go.Proofs.YtlkfjinaiepocaaDoor
