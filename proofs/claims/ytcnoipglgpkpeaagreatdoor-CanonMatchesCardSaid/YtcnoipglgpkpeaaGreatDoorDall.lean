import Derived.Test.YtcnoipglgpkpeaaGreatDoorNat
import Derived.Test.YtcnoipglgpkpeaaGreatDoorM6
namespace Go.Proofs.YtcnoipglgpkpeaaGreatDoor
open Go Go.E2 Go.E3
set_option maxRecDepth 100000
def qy (a b:Int):Int:=(Nat.gcd a.toNat b.toNat:Nat)
theorem qb0 (a b:Int):0<=qy a b:=Int.natCast_nonneg _
theorem qw3 {a:Int} (h:0<=a):qy a 0=a:=by
 unfold qy
 rw [Int.toNat_zero,Nat.gcd_zero_right]
 omega
theorem qw2 {a b:Int} (ha:0<=a) (hb:0<=b):qy b (Int.tmod a b)=qy a b:=by
 unfold qy
 obtain ⟨m,rfl⟩:=Int.eq_ofNat_of_zero_le ha
 obtain ⟨n,rfl⟩:=Int.eq_ofNat_of_zero_le hb
 have:Int.tmod (m:Int) (n:Int)=((m % n:Nat):Int):=by rw [<-Int.ofNat_tmod]
 rw [this,Int.toNat_natCast,Int.toNat_natCast,Int.toNat_natCast,Nat.gcd_comm m n,Nat.gcd_comm n (m % n),<-Nat.gcd_rec]
theorem qe1 {a b:Int} (hb:1<=b):1<=qy a b:=by
 unfold qy
 have:0<Nat.gcd a.toNat b.toNat:=Nat.gcd_pos_of_pos_right _ (by omega)
 omega
theorem qw1 {a b:Int} (ha:0<=a):qy a b * a.tdiv (qy a b)=a:=by
 have h:qy a b ∣ a:=by
  unfold qy
  have:=Nat.gcd_dvd_left a.toNat b.toNat
  have h2:((Nat.gcd a.toNat b.toNat:Nat):Int) ∣ ((a.toNat:Nat):Int):=Int.natCast_dvd_natCast.2 this
  rwa [Int.toNat_of_nonneg ha] at h2
 exact Int.mul_tdiv_cancel' h
theorem qjv {a b:Int} (hb:0<=b):qy a b * b.tdiv (qy a b)=b:=by
 have h:qy a b ∣ b:=by
  unfold qy
  have:=Nat.gcd_dvd_right a.toNat b.toNat
  have h2:((Nat.gcd a.toNat b.toNat:Nat):Int) ∣ ((b.toNat:Nat):Int):=Int.natCast_dvd_natCast.2 this
  rwa [Int.toNat_of_nonneg hb] at h2
 exact Int.mul_tdiv_cancel' h
theorem qff {a b:Int} (ha:0<=a) (hb:0<b):0<=Int.tmod a b/\Int.tmod a b<b:=⟨Int.tmod_nonneg _ ha,Int.tmod_lt_of_pos _ hb⟩
theorem kr {a b:Int} (ha:0<=a) (hb:0<=b):0<=a.tdiv b/\a.tdiv b<=a:=by
 refine ⟨Int.tdiv_nonneg ha hb,?_⟩
 rw [Int.tdiv_eq_ediv_of_nonneg ha]
 exact Int.ediv_le_self _ ha
theorem qfx {a b A B:Int} (h0:0<=a) (h1:a<=A) (h2:0<=b) (h3:b<=B):0<=a * b/\a * b<=A * B:=
 ⟨Int.mul_nonneg h0 h2,Int.mul_le_mul h1 h3 h2 (Int.le_trans h0 h1)⟩
theorem qqc {a b:Int} (h0:1<=a) (h1:1<=b):1<=a * b:=by
 have:=Int.mul_le_mul h0 h1 (by omega) (by omega)
 omega
def qe (n d:Int):Int:=if n<0∨1099511627776<n∨d<1∨1048576<d then 2 else if 1<qy n d then 3 else 0
def ofT (n d:Int):Int×Int×Int:=if 1099511627776<n.tdiv (qy n d)∨1048576<d.tdiv (qy n d) then (0,0,4) else (n.tdiv (qy n d),d.tdiv (qy n d),0)
def j4:List Time->Int
 | []=>0
 | x::l=>if qe x.N x.D≠0 then qe x.N x.D else j4 l
def kg (a b c d:Int):Int×Int×Int:=if qe a b≠0 then (0,0,qe a b) else if qe c d≠0 then (0,0,qe c d) else ofT (a * d+c * b) (b * d)
def zmw (a b c d:Int):Int×Int:=if qe a b≠0 then (0,qe a b) else if qe c d≠0 then (0,qe c d) else if a * d<c * b then (-1,0) else if c * b<a * d then (1,0) else (0,0)
def zb (a b c:Int):Int:=if a<0∨6<a∨b<0∨8<b∨c < -1∨1<c then 2 else 0
theorem jh {n d:Int} (h:qe n d=0):0<=n/\n<=1099511627776/\1<=d/\d<=1048576:=by
 unfold qe at h
 split at h
 .omega
 .omega
theorem qfs (a b c d:Int):j4 [Time.mk a b,Time.mk c d]=if qe a b≠0 then qe a b else qe c d:=by
 simp only [j4]
 split
 .rfl
 .split
  .rfl
  .omega
def qbr (x:Event):Int:=
 if qe x.AtN x.AtD≠0 then qe x.AtN x.AtD else if qe x.DurN x.DurD≠0 then qe x.DurN x.DurD else if x.DurN=0 then 2
 else if x.Rest=true/\(x.PitchStep≠0∨x.PitchOctave≠0∨x.PitchAlter≠0) then 3
 else if x.Rest=false/\zb x.PitchStep x.PitchOctave x.PitchAlter≠0 then zb x.PitchStep x.PitchOctave x.PitchAlter
 else if x.Sign<0∨x.Pass<0 then 2 else 0
def qjd (x:Event) (n d:Int):Int:=
 if qbr x≠0 then qbr x else if x.AtN≠n∨x.AtD≠d then 6 else (kg x.AtN x.AtD x.DurN x.DurD).2.2
def qb6:List Event->Int->Int->Int->Int×Int
 | [],_,_,_=>(0,0)
 | x::l,i,n,d=>if qjd x n d≠0 then (qjd x n d,i) else qb6 l (i+1) (kg x.AtN x.AtD x.DurN x.DurD).1 (kg x.AtN x.AtD x.DurN x.DurD).2.1
def qm (l:List Event):Int×Int:=if 2000<ln l then (11,0) else qb6 l 0 0 1
def jq (l:List Event):Int×Int×Int:=
 if (qm l).1≠0 then (0,0,(qm l).1) else if ln l=0 then (0,1,0) else kg (ix l (ln l-1)).AtN (ix l (ln l-1)).AtD (ix l (ln l-1)).DurN (ix l (ln l-1)).DurD
def cm (l:List Event) (tn td j:Int):Int:=(zmw (ix l j).AtN (ix l j).AtD tn td).1
def qcw:List Event->Int->Int->Prop
 | [],_,_=>True
 | x::l,n,d=>x.AtN=n/\x.AtD=d/\qbr x=0/\(kg n d x.DurN x.DurD).2.2=0/\qcw l (kg n d x.DurN x.DurD).1 (kg n d x.DurN x.DurD).2.1
theorem q08:∀ {l:List Event} {i n d:Int},(qb6 l i n d).1=0->qcw l n d
 | [],_,_,_,_=>trivial
 | x::l,i,n,d,h=>by
  simp only [qb6] at h
  by_cases h1:qjd x n d≠0
  .rw [zT h1] at h;exact absurd h h1
  .rw [zF h1] at h
   have h1':qjd x n d=0:=by omega
   unfold qjd at h1'
   by_cases h2:qbr x≠0
   .rw [zT h2] at h1';exact absurd h1' h2
   .rw [zF h2] at h1'
    by_cases h3:x.AtN≠n∨x.AtD≠d
    .rw [zT h3] at h1';omega
    .rw [zF h3] at h1'
     have e1:x.AtN=n:=by omega
     have e2:x.AtD=d:=by omega
     rw [e1,e2] at h1' h
     exact ⟨e1,e2,by omega,h1',q08 h⟩
def qij (a b c d:Int):Int×Int×Int:=if qe a b≠0 then (0,0,qe a b) else if qe c d≠0 then (0,0,qe c d) else if a * d<c * b then (0,0,2) else ofT (a * d-c * b) (b * d)
def qcv (n d m c:Int):Int×Int×Int:=
 if (0<n.tdiv (qy n c)/\Int.tdiv 1099511627776 (n.tdiv (qy n c))<m.tdiv (qy m d))∨1048576<d.tdiv (qy m d) * c.tdiv (qy n c) then (0,0,4)
 else (n.tdiv (qy n c) * m.tdiv (qy m d),d.tdiv (qy m d) * c.tdiv (qy n c),0)
def qcu (a b c d:Int):Int×Int×Int:=if qe a b≠0 then (0,0,qe a b) else if qe c d≠0 then (0,0,qe c d) else qcv a b c d
def qfp (a b c d:Int):Int×Int×Int:=if qe a b≠0 then (0,0,qe a b) else if qe c d≠0 then (0,0,qe c d) else if c=0 then (0,0,5) else qcv a b d c
def qmf (n al:Int):Int×Int×Int×Int:=if n<0∨62<n∨al < -1∨1<al then (0,0,0,2) else (Int.tmod n 7,Int.tdiv n 7,al,0)
def qbw (st oc al k:Int):Int×Int×Int×Int:=if zb st oc al≠0 then (0,0,0,zb st oc al) else if k < -62∨62<k then (0,0,0,2) else qmf (7 * oc+st+k) al
def qdt (st oc al s2 o2 a2:Int):Int×Int×Int×Int:=if zb st oc al≠0 then (0,0,0,zb st oc al) else if zb s2 o2 a2≠0 then (0,0,0,zb s2 o2 a2) else qmf (2 * (7 * o2+s2)-(7 * oc+st)) (-al)
def qgs:List Event->Int->Int->List Event
 | [],_,_=>[]
 | x::l,n,d=>{x with AtN:=n,AtD:=d}::qgs l (kg n d x.DurN x.DurD).1 (kg n d x.DurN x.DurD).2.1
def qkj:List Event->Int->Int->Int
 | [],_,_=>0
 | x::l,n,d=>if (kg n d x.DurN x.DurD).2.2≠0 then (kg n d x.DurN x.DurD).2.2 else qkj l (kg n d x.DurN x.DurD).1 (kg n d x.DurN x.DurD).2.1
def qa0 (l:List Event):List Event×Int:=if qkj l 0 1≠0 then ([],qkj l 0 1) else (qgs l 0 1,0)
def zq (l:List Event):List Event×Int:=if (qm l).1≠0 then ([],(qm l).1) else qa0 l.reverse
def qah (f:Int->Int->Int->Int×Int×Int×Int) (x:Event):Event:=
 if x.Rest=true then x else {x with PitchStep:=(f x.PitchStep x.PitchOctave x.PitchAlter).1,PitchOctave:=(f x.PitchStep x.PitchOctave x.PitchAlter).2.1,PitchAlter:=(f x.PitchStep x.PitchOctave x.PitchAlter).2.2.1}
def qkk (f:Int->Int->Int->Int×Int×Int×Int) (x:Event):Int:=if x.Rest=true then 0 else (f x.PitchStep x.PitchOctave x.PitchAlter).2.2.2
def qmc (g:Event->Int):List Event->Int
 | []=>0
 | x::l=>if g x≠0 then g x else qmc g l
def qgm (f:Event->Event) (g:Event->Int) (l:List Event):List Event×Int:=if qmc g l≠0 then ([],qmc g l) else qa0 (l.map f)
def qhb (l:List Event) (s o a:Int):List Event×Int:=
 if (qm l).1≠0 then ([],(qm l).1) else if zb s o a≠0 then ([],zb s o a) else qgm (qah fun x y z=>qdt x y z s o a) (qkk fun x y z=>qdt x y z s o a) l
def qak (l:List Event) (k:Int):List Event×Int:=
 if (qm l).1≠0 then ([],(qm l).1) else qgm (qah fun x y z=>qbw x y z k) (qkk fun x y z=>qbw x y z k) l
def qgy (n d:Int):Int:=if qe n d≠0 then qe n d else if n=0 then 5 else 0
def qzz (n d:Int) (x:Event):Event:={x with DurN:=(qcu x.DurN x.DurD n d).1,DurD:=(qcu x.DurN x.DurD n d).2.1}
def qbu (l:List Event) (n d:Int):List Event×Int:=
 if (qm l).1≠0 then ([],(qm l).1) else if qgy n d≠0 then ([],qgy n d) else qgm (qzz n d) (fun x=>(qcu x.DurN x.DurD n d).2.2) l
def qaj (l:List Event) (n d:Int):List Event×Int:=
 if (qm l).1≠0 then ([],(qm l).1) else if qgy n d≠0 then ([],qgy n d) else if 2000<=ln l then ([],11) else qa0 (⟨0,0,n,d,0,0,0,true,0,0⟩::l)
def qxe (a b c d:Int):Int:=if (a=2∨a=3)/\(b=2∨b=3)/\(c=2∨c=3)/\(d=2∨d=3) then 0 else 12
def qrx (dn dd k fn fd m1 m2 m3 m4:Int):Int:=
 if qe dn dd≠0 then qe dn dd else if k < -14∨14<k then 2 else if qe fn fd≠0 then qe fn fd else if fn=0 then 5
 else if m1=0/\m2=0/\m3=0/\m4=0 then 0 else qxe m1 m2 m3 m4
def qc:List Event->Int×Int×Int×Bool
 | []=>(0,0,0,false)
 | x::l=>if x.Rest=true then qc l else (x.PitchStep,x.PitchOctave,x.PitchAlter,true)
def qcd (r:List Event×Int) (f:List Event->List Event×Int):List Event×Int:=if r.2≠0 then ([],r.2) else f r.1
def qcj (l:List Event) (mi re:Bool):List Event×Int:=
 qcd (if re=true then zq l else (l,0)) fun m=>if mi=true/\(qc m).2.2.2=true then qhb m (qc m).1 (qc m).2.1 (qc m).2.2.1 else (m,0)
def kf (l:List Event) (dn dd k:Int) (mi re:Bool) (fn fd m1 m2 m3 m4:Int):List Event×Int:=
 if (qm l).1≠0 then ([],(qm l).1) else if qrx dn dd k fn fd m1 m2 m3 m4≠0 then ([],qrx dn dd k fn fd m1 m2 m3 m4)
 else qcd (qcj l mi re) fun a=>qcd (qak a k) fun b=>qcd (qbu b fn fd) fun c=>if 0<dn then qaj c dn dd else (c,0)
def qdu (a n:Int):Int:=if n<1 then 0 else if Int.tmod a n<0 then Int.tmod a n+n else Int.tmod a n
def tT (n d:Int):Int×Int:=(n.tdiv (qy n d),d.tdiv (qy n d))
def qb4 (a b c d:Int):Int×Int:=tT (a * d+c * b) (b * d)
abbrev zh1:List Time:=[(Time.mk 1 1),(Time.mk 2 1),(Time.mk 1 2),(Time.mk 3 1),(Time.mk 4 1),(Time.mk 3 2),(Time.mk 6 1),(Time.mk 2 3),(Time.mk 4 3)]
def qa3 (k:Int):Time:=ix zh1 (Int.tmod (Int.tdiv k 63) 9)
def evK (k i n d:Int):Event:=
 if Int.tdiv k 567=6 then ⟨n,d,(qa3 k).N,(qa3 k).D,0,0,0,true,i,Int.tmod (Int.tdiv k 567) 2⟩
 else ⟨n,d,(qa3 k).N,(qa3 k).D,Int.tmod k 7,3+Int.tmod (Int.tdiv k 7) 3,Int.tmod (Int.tdiv k 21) 3-1,false,i,Int.tmod (Int.tdiv k 567) 2⟩
def qf2 (most:Int):List Int->Int->Int->Int->List Event
 | [],_,_,_=>[]
 | a::l,i,n,d=>if i<most then evK (qdu a 3969) i n d::qf2 most l (i+1) (qb4 n d (qa3 (qdu a 3969)).N (qa3 (qdu a 3969)).D).1 (qb4 n d (qa3 (qdu a 3969)).N (qa3 (qdu a 3969)).D).2 else []
def zz (l:List Int) (most:Int):List Event:=qf2 most l 0 0 1
abbrev qhl:List Int:=[6,12,3,18,24,9,36,4,8]
def sxt (s:Int):Int×Int:=tT s 6
def qxz (n d i:Int):Prop:=∃ s,0<=s/\s<=36 * i/\n=(sxt s).1/\d=(sxt s).2
def qib (s o:Int):Int:=7 * o+s
abbrev qoi:List Int:=[0,2,4,5,7,9,11]
def qf6 (s o a:Int):Int:=12 * o+ix qoi s+a
def qgn (s o a s2 o2 a2:Int):Int×Int×Int:=
 if zb s o a≠0 then (0,0,zb s o a) else if zb s2 o2 a2≠0 then (0,0,zb s2 o2 a2) else (qib s2 o2-qib s o,qf6 s2 o2 a2-qf6 s o a,0)
def qba (n a:Int):Int:=12 * Int.tdiv n 7+ix qoi (Int.tmod n 7)+a
def zh (l m:List Event) (mi re:Bool):Int×Bool:=
 if (qcj l mi re).2≠0 then (0,false)
 else if (qc (qcj l mi re).1).2.2.2=true/\(qc m).2.2.2=true then (qib (qc m).1 (qc m).2.1-qib (qc (qcj l mi re).1).1 (qc (qcj l mi re).1).2.1,true)
 else (0,true)
def qi (l m:List Event) (dn dd:Int):Int×Int×Bool:=
 if (jq l).2.2≠0 then (0,0,false) else if (jq m).2.2≠0 then (0,0,false) else if (qij (jq m).1 (jq m).2.1 dn dd).2.2≠0 then (0,0,false)
 else ((qfp (qij (jq m).1 (jq m).2.1 dn dd).1 (qij (jq m).1 (jq m).2.1 dn dd).2.1 (jq l).1 (jq l).2.1).1,(qfp (qij (jq m).1 (jq m).2.1 dn dd).1 (qij (jq m).1 (jq m).2.1 dn dd).2.1 (jq l).1 (jq l).2.1).2.1,
  decide ((qfp (qij (jq m).1 (jq m).2.1 dn dd).1 (qij (jq m).1 (jq m).2.1 dn dd).2.1 (jq l).1 (jq l).2.1).2.2=0))
def qeb (a b:Event):Bool:=decide (a.DurN=b.DurN/\a.DurD=b.DurD/\a.Rest=b.Rest/\a.PitchStep=b.PitchStep/\a.PitchOctave=b.PitchOctave/\a.PitchAlter=b.PitchAlter)
def qcq:List Event->List Event->Bool
 | [],[]=>true
 | x::l,y::m=>qeb x y&&qcq l m
 | _,_=>false
def qs6 (l m:List Event) (dn dd:Int) (mi re:Bool):Canon:=⟨dn,dd,(zh l m mi re).1,mi,re,(qi l m dn dd).1,(qi l m dn dd).2.1,0,0,0,0⟩
def q66 (l m:List Event) (dn dd:Int) (mi re:Bool):List Event×Int:=kf l dn dd (zh l m mi re).1 mi re (qi l m dn dd).1 (qi l m dn dd).2.1 0 0 0 0
def qde (l m:List Event) (dn dd:Int) (mi re:Bool):Bool:=
 (zh l m mi re).2&&((qi l m dn dd).2.2&&(decide ((q66 l m dn dd mi re).2=0)&&qcq (q66 l m dn dd mi re).1 m))
def qiz (m:List Event):Bool:=decide (0<ln m)&&(ix m 0).Rest
def qvu (l m:List Event) (n:Int):List Canon:=
 if Int.tmod n 2=1 then (if qiz m=true/\qde l m (ix m 0).DurN (ix m 0).DurD (decide (Int.tmod (Int.tdiv n 2) 2=1)) (decide (Int.tdiv n 4=1))=true then [qs6 l m (ix m 0).DurN (ix m 0).DurD (decide (Int.tmod (Int.tdiv n 2) 2=1)) (decide (Int.tdiv n 4=1))] else [])
 else if qde l m 0 1 (decide (Int.tmod (Int.tdiv n 2) 2=1)) (decide (Int.tdiv n 4=1))=true then [qs6 l m 0 1 (decide (Int.tmod (Int.tdiv n 2) 2=1)) (decide (Int.tdiv n 4=1))] else []
def qc0 (l m:List Event):Nat->List Canon
 | 0=>[]
 | n+1=>qc0 l m n++qvu l m n
def kb (l m:List Event):List Canon×Int:=if (qm l).1≠0 then ([],(qm l).1) else if (qm m).1≠0 then ([],(qm m).1) else (qc0 l m 8,0)
abbrev zmy:List Int:=[1,2,1,3,3]
abbrev zmx:List Int:=[1,1,2,2,1]
def zb6 (k:Int):Int×Int:=tT (ix zmy (Int.tmod (Int.tdiv k 60) 5)) (ix zmx (Int.tmod (Int.tdiv k 60) 5))
def qk0 (k:Int):Int×Int:=if Int.tmod (Int.tdiv k 300) 2=1 then tT (1+Int.tmod (Int.tdiv k 600) 9) 2 else (0,1)
def quh (k:Int):Canon:=⟨(qk0 k).1,(qk0 k).2,Int.tmod k 15-7,decide (Int.tmod (Int.tdiv k 30) 2=1),decide (Int.tmod (Int.tdiv k 15) 2=1),(zb6 k).1,(zb6 k).2,0,0,0,0⟩
def zd (n:Int):Canon:=quh (qdu n 1048576)
def mkC (l:List Event) (c:Canon):List Event×Int:=kf l c.DelayN c.DelayD c.Steps c.Mirror c.Retro c.FactorN c.FactorD c.MensMax c.MensMod c.MensTem c.MensPro
theorem qxk {n d:Int} (h0:0<=n) (h1:1<=d) (h:(ofT n d).2.2=0):qe (ofT n d).1 (ofT n d).2.1=0:=by
 unfold ofT at h ⊢
 split at h
 .simp at h
 .rename_i hno
  rw [zF hno]
  obtain ⟨N,rfl⟩:=Int.eq_ofNat_of_zero_le h0
  obtain ⟨D,rfl⟩:=Int.eq_ofNat_of_zero_le (show 0<=d by omega)
  have hD:0<D:=by omega
  have hg:0<Nat.gcd N D:=Nat.gcd_pos_of_pos_right _ hD
  have e:qy (N:Int) (D:Int)=((Nat.gcd N D:Nat):Int):=by simp [qy]
  rw [e] at hno ⊢
  have e1:Int.tdiv (N:Int) ((Nat.gcd N D:Nat):Int)=((N / Nat.gcd N D:Nat):Int):=(Int.ofNat_tdiv _ _).symm
  have e2:Int.tdiv (D:Int) ((Nat.gcd N D:Nat):Int)=((D / Nat.gcd N D:Nat):Int):=(Int.ofNat_tdiv _ _).symm
  rw [e1,e2] at hno ⊢
  have hd:0<D / Nat.gcd N D:=Nat.div_pos (Nat.le_of_dvd hD (Nat.gcd_dvd_right N D)) hg
  have hc:=Nat.gcd_div_gcd_div_gcd_of_pos_right (n:=N) hD
  revert hno hc hd
  generalize N / Nat.gcd N D=p
  generalize D / Nat.gcd N D=q
  intro hno hd hc
  show qe (p:Int) (q:Int)=0
  have hg1:qy (p:Int) (q:Int)=1:=by simp [qy,hc]
  unfold qe
  rw [zF (by omega),hg1,zF (by omega)]
theorem q55 {a b c d:Int} (h1:qe a b=0) (h2:qe c d=0):kg a b c d=ofT (a * d+c * b) (b * d):=by
 unfold kg
 rw [zF (by omega),zF (by omega)]
theorem zbl {a0 a1 a2 a3:Int} (h1:qe a0 a1=0) (h2:qe a2 a3=0):I64 (a0 * a3)/\I64 (a2 * a1)/\I64 ((a0 * a3)+(a2 * a1))/\I64 (a1 * a3)/\
  (0<=((a0 * a3)+(a2 * a1))/\1<=(a1 * a3)/\((a0 * a3)+(a2 * a1))<=4611686018427387904/\(a1 * a3)<=4611686018427387904)/\I64 ((a0 * a3)-(a2 * a1)):=by
 have b1:=jh h1
 have b2:=jh h2
 have p1:=qfx b1.1 b1.2.1 (show 0<=a3 by omega) b2.2.2.2
 have p2:=qfx b2.1 b2.2.1 (show 0<=a1 by omega) b1.2.2.2
 have p3:=qqc b1.2.2.1 b2.2.2.1
 have p4:=qfx (show 0<=a1 by omega) b1.2.2.2 (show 0<=a3 by omega) b2.2.2.2
 omega
theorem q8w {a b c d:Int} (h1:qe a b=0) (h2:qe c d=0) (h:(kg a b c d).2.2=0):qe (kg a b c d).1 (kg a b c d).2.1=0:=by
 obtain ⟨_,_,_,_,⟨b5,b6,_⟩,_⟩:=zbl h1 h2
 rw [q55 h1 h2] at h ⊢
 exact qxk b5 b6 h
theorem qfo:∀ {l:List Event} {n d:Int},qcw l n d->∀ x ∈ l,qbr x=0
 | [],_,_,_,x,hx=>by cases hx
 | y::l,n,d,⟨_,_,h1,_,h2⟩,x,hx=>by
  rcases zD.1 hx with rfl | hx
  .exact h1
  .exact qfo h2 x hx
theorem qgg {l:List Event} (h:(qm l).1=0):qcw l 0 1/\ln l<=2000:=by
 unfold qm at h
 split at h
 .simp at h
 .exact ⟨q08 h,by omega⟩
theorem q07:∀ {l:List Event} {i n d:Int},qcw l n d->qb6 l i n d=(0,0)
 | [],_,_,_,_=>rfl
 | x::l,i,n,d,⟨h1,h2,h3,h4,h5⟩=>by
  have e:qjd x n d=0:=by
   unfold qjd
   rw [zF (by omega),zF (by omega),h1,h2,h4]
  unfold qb6
  rw [zF (by omega),h1,h2]
  exact q07 h5
theorem qby {l:List Event} (h:qcw l 0 1) (hl:ln l<=2000):qm l=(0,0):=by
 unfold qm
 rw [zF (by omega)]
 exact q07 h
theorem qj1 {α β:Type} (f:α->β) (l:List α):ln (l.map f)=ln l:=by simp [ln]
theorem qj2 {α:Type} (l:List α):ln l.reverse=ln l:=by simp [ln]
theorem qhd {x:Event}:qbr x=0↔qe x.AtN x.AtD=0/\qe x.DurN x.DurD=0/\x.DurN≠0/\¬(x.Rest=true/\(x.PitchStep≠0∨x.PitchOctave≠0∨x.PitchAlter≠0))/\
  (x.Rest=false->zb x.PitchStep x.PitchOctave x.PitchAlter=0)/\0<=x.Sign/\0<=x.Pass:=by
 unfold qbr
 constructor
 .intro h
  split at h
  .contradiction
  .split at h
   .contradiction
   .split at h
    .omega
    .split at h
     .omega
     .split at h
      .rename_i hc;exact absurd h hc.2
      .rename_i c1 c2 c3 c4 c5
       split at h
       .omega
       .refine ⟨by omega,by omega,c3,c4,fun hr=>?_,by omega,by omega⟩
        by_cases hz:zb x.PitchStep x.PitchOctave x.PitchAlter=0
        .exact hz
        .exact absurd ⟨hr,hz⟩ c5
 .rintro ⟨h1,h2,h3,h4,h5,h6,h7⟩
  rw [zF (by omega),zF (by omega),zF h3,zF h4,zF (fun h=>h.2 (h5 h.1)),zF (by omega)]
theorem zj2 {x:Event} {n d:Int} (h:qbr x=0) (hc:qe n d=0):qbr {x with AtN:=n,AtD:=d}=0:=by
 obtain ⟨_,h2⟩:=qhd.1 h
 exact qhd.2 ⟨hc,h2⟩
theorem qqe (x:Event) (l:List Event) (n d:Int):qgs (x::l) n d = {x with AtN:=n,AtD:=d}::qgs l (kg n d x.DurN x.DurD).1 (kg n d x.DurN x.DurD).2.1:=rfl
theorem qxh (x:Event) (l:List Event) (n d:Int):qkj (x::l) n d=if (kg n d x.DurN x.DurD).2.2≠0 then (kg n d x.DurN x.DurD).2.2 else qkj l (kg n d x.DurN x.DurD).1 (kg n d x.DurN x.DurD).2.1:=rfl
theorem qwr (g:Event->Int) (x:Event) (l:List Event):qmc g (x::l)=if g x≠0 then g x else qmc g l:=rfl
theorem qja (a:List Event) (f:List Event->List Event×Int):qcd (a,0) f=f a:=by
 unfold qcd
 rw [zF (by simp)]
theorem qhn {r:List Event×Int} (h:r.2≠0) (f:List Event->List Event×Int):qcd r f=([],r.2):=by
 unfold qcd
 rw [zT h]
theorem qwo:∀ {l:List Event} {n d:Int},qcw l n d->qgs l n d=l/\qkj l n d=0
 | [],_,_,_=>⟨rfl,rfl⟩
 | x::l,n,d,⟨h1,h2,_,h4,h5⟩=>by
  obtain ⟨i1,i2⟩:=qwo h5
  unfold qgs qkj
  rw [zF (by omega),i1,i2]
  refine ⟨?_,rfl⟩
  subst h1 h2
  rfl
theorem ql3:∀ {l:List Event} {n d:Int},(∀ x ∈ l,∃ m c,qbr {x with AtN:=m,AtD:=c}=0)->qe n d=0->qkj l n d=0->qcw (qgs l n d) n d
 | [],_,_,_,_,_=>trivial
 | x::l,n,d,h,hc,he=>by
  unfold qkj at he
  obtain ⟨m,c,hx⟩:=h x zC
  by_cases h0:(kg n d x.DurN x.DurD).2.2≠0
  .rw [zT h0] at he;exact absurd he h0
  .rw [zF h0] at he
   have hd:qe x.DurN x.DurD=0:=(qhd.1 hx).2.1
   exact ⟨rfl,rfl,zj2 (x:={x with AtN:=m,AtD:=c}) hx hc,by show (kg n d x.DurN x.DurD).2.2=0;omega,ql3 (fun y hy=>h y (zG _ hy)) (q8w hc hd (by omega)) he⟩
theorem qlj:∀ (l:List Event) (n d:Int),ln (qgs l n d)=ln l
 | [],_,_=>rfl
 | x::l,n,d=>by unfold qgs;rw [qbe,qbe,qlj l]
theorem qze {f:Event->Event} (hf:∀ x,(f x).DurN=x.DurN/\(f x).DurD=x.DurD) (ha:∀ (x:Event) (n d:Int),Event.mk n d (f x).DurN (f x).DurD (f x).PitchStep (f x).PitchOctave (f x).PitchAlter (f x).Rest (f x).Sign (f x).Pass=f (Event.mk n d x.DurN x.DurD x.PitchStep x.PitchOctave x.PitchAlter x.Rest x.Sign x.Pass)) :
  ∀ (l:List Event) (n d:Int),qgs (l.map f) n d=(qgs l n d).map f/\qkj (l.map f) n d=qkj l n d
 | [],_,_=>⟨rfl,rfl⟩
 | x::l,n,d=>by
  obtain ⟨h1,h2⟩:=hf x
  rw [List.map_cons]
  unfold qgs qkj
  rw [ha,h1,h2,(qze hf ha l _ _).1,(qze hf ha l _ _).2,List.map_cons]
  exact ⟨rfl,rfl⟩
theorem qul (f:Int->Int->Int->Int×Int×Int×Int) (x:Event):(qah f x).DurN=x.DurN/\(qah f x).DurD=x.DurD:=by unfold qah;split<;>exact ⟨rfl,rfl⟩
theorem zhc (f:Int->Int->Int->Int×Int×Int×Int) (x:Event) (n d:Int):Event.mk n d (qah f x).DurN (qah f x).DurD (qah f x).PitchStep (qah f x).PitchOctave (qah f x).PitchAlter (qah f x).Rest (qah f x).Sign (qah f x).Pass=qah f (Event.mk n d x.DurN x.DurD x.PitchStep x.PitchOctave x.PitchAlter x.Rest x.Sign x.Pass):=by
 unfold qah
 dsimp only
 split<;>rfl
theorem qpr {g:Event->Int}:∀ {l:List Event},qmc g l=0->∀ x ∈ l,g x=0
 | [],_,x,hx=>by cases hx
 | y::l,h,x,hx=>by
  unfold qmc at h
  by_cases h0:g y≠0
  .rw [zT h0] at h;exact absurd h h0
  .rw [zF h0] at h
   rcases zD.1 hx with rfl | hx
   .omega
   .exact qpr h x hx
theorem ze8 {f:Int->Int->Int->Int×Int×Int×Int} {l:List Event} (h:qcw l 0 1) (he:qmc (qkk f) l=0):qgm (qah f) (qkk f) l=(l.map (qah f),0):=by
 obtain ⟨c1,c2⟩:=qwo h
 obtain ⟨m1,m2⟩:=qze (qul f) (zhc f) l 0 1
 unfold qgm qa0
 rw [zF (by omega),m1,m2,c1,c2]
 rfl
theorem zaj {a b:Int} (h0:0<=a) (h1:a<=6) (h2:0<=b):Int.tmod (7 * b+a) 7=a/\Int.tdiv (7 * b+a) 7=b:=by
 rw [Int.tmod_eq_emod_of_nonneg (by omega),Int.tdiv_eq_ediv_of_nonneg (by omega)]
 omega
theorem qho {a b c:Int} (h:zb a b c=0):0<=a/\a<=6/\0<=b/\b<=8/\-1<=c/\c<=1:=by
 unfold zb at h
 split at h
 .omega
 .omega
theorem q7p {n al:Int} (h:(qmf n al).2.2.2=0):zb (qmf n al).1 (qmf n al).2.1 (qmf n al).2.2.1=0/\7 * (qmf n al).2.1+(qmf n al).1=n/\(qmf n al).2.2.1=al:=by
 unfold qmf at h ⊢
 by_cases hc:n<0∨62<n∨al < -1∨1<al
 .rw [zT hc] at h;simp at h
 .rw [zF hc]
  dsimp only
  rw [Int.tmod_eq_emod_of_nonneg (by omega),Int.tdiv_eq_ediv_of_nonneg (by omega)]
  refine ⟨?_,by omega,rfl⟩
  unfold zb
  rw [zF (by omega)]
theorem qot (a:Int) {n:Int} (h:1<=n):0<=qdu a n/\qdu a n<n:=by
 unfold qdu
 rw [zF (by omega)]
 have h1:=Int.tmod_lt_of_pos a (show 0<n by omega)
 have h2:-n<Int.tmod a n:=Int.lt_tmod_of_pos _ (by omega)
 split<;>omega
def zd0 (s c:Int):Bool:=decide (qb4 (sxt s).1 (sxt s).2 (sxt c).1 (sxt c).2=sxt (s+c))&&decide (qe (sxt s).1 (sxt s).2=0)&&decide (kg (sxt s).1 (sxt s).2 (sxt c).1 (sxt c).2=((sxt (s+c)).1,(sxt (s+c)).2,0))&&decide ((sxt s).1<=1000)&&decide ((sxt s).2<=6)
theorem zhh:((List.range 721).all fun s=>qhl.all fun c=>zd0 (s:Int) c)=true:=by kernel_rfl
theorem q7i {s c:Int} (h0:0<=s) (h1:s<=720) (hc:c ∈ qhl):qb4 (sxt s).1 (sxt s).2 (sxt c).1 (sxt c).2=sxt (s+c)/\qe (sxt s).1 (sxt s).2=0/\kg (sxt s).1 (sxt s).2 (sxt c).1 (sxt c).2=((sxt (s+c)).1,(sxt (s+c)).2,0)/\(sxt s).1<=1000/\(sxt s).2<=6:=by
 have h:=List.all_eq_true.1 (List.all_eq_true.1 zhh s.toNat (List.mem_range.2 (by omega))) c hc
 rw [show ((s.toNat:Nat):Int)=s by omega] at h
 simp only [zd0,zA,decide_eq_true_eq] at h
 exact ⟨h.1.1.1.1,h.1.1.1.2,h.1.1.2,h.1.2,h.2⟩
theorem qr7 {k:Int} (h:0<=k):∃ c ∈ qhl,(qa3 k).N=(sxt c).1/\(qa3 k).D=(sxt c).2/\3<=c/\c<=36/\(qa3 k).N≠0/\qe (qa3 k).N (qa3 k).D=0/\1<=(qa3 k).N/\(qa3 k).N<=6/\1<=(qa3 k).D/\(qa3 k).D<=3:=by
 have h1:0<=Int.tdiv k 63:=Int.tdiv_nonneg h (by decide)
 have h2:0<=Int.tmod (Int.tdiv k 63) 9:=Int.tmod_nonneg _ h1
 have h3:Int.tmod (Int.tdiv k 63) 9<9:=Int.tmod_lt_of_pos _ (by decide)
 unfold qa3
 generalize Int.tmod (Int.tdiv k 63) 9=j at *
 rcases (show j=0∨j=1∨j=2∨j=3∨j=4∨j=5∨j=6∨j=7∨j=8 by omega) with rfl | rfl | rfl | rfl | rfl | rfl | rfl | rfl | rfl
 .exact ⟨6,by decide,by decide,by decide,by decide,by decide,by decide,by decide,by decide,by decide,by decide,by decide⟩
 .exact ⟨12,by decide,by decide,by decide,by decide,by decide,by decide,by decide,by decide,by decide,by decide,by decide⟩
 .exact ⟨3,by decide,by decide,by decide,by decide,by decide,by decide,by decide,by decide,by decide,by decide,by decide⟩
 .exact ⟨18,by decide,by decide,by decide,by decide,by decide,by decide,by decide,by decide,by decide,by decide,by decide⟩
 .exact ⟨24,by decide,by decide,by decide,by decide,by decide,by decide,by decide,by decide,by decide,by decide,by decide⟩
 .exact ⟨9,by decide,by decide,by decide,by decide,by decide,by decide,by decide,by decide,by decide,by decide,by decide⟩
 .exact ⟨36,by decide,by decide,by decide,by decide,by decide,by decide,by decide,by decide,by decide,by decide,by decide⟩
 .exact ⟨4,by decide,by decide,by decide,by decide,by decide,by decide,by decide,by decide,by decide,by decide,by decide⟩
 .exact ⟨8,by decide,by decide,by decide,by decide,by decide,by decide,by decide,by decide,by decide,by decide,by decide⟩
theorem qu2:qxz 0 1 0:=⟨0,zK _,zK _,by decide,by decide⟩
theorem q27 {n d i:Int} (h:qxz n d i) (hi:i<=20):qe n d=0/\0<=n/\n<=1000/\1<=d/\d<=6:=by
 obtain ⟨s,h0,h1,rfl,rfl⟩:=h
 obtain ⟨_,r2,_,r4,r5⟩:=q7i h0 (by omega) (c:=6) (by decide)
 have:=jh r2
 exact ⟨r2,by omega,r4,by omega,r5⟩
theorem qu1 {n d i k:Int} (h:qxz n d i) (hi:i<20) (hk:0<=k) :
  qxz (qb4 n d (qa3 k).N (qa3 k).D).1 (qb4 n d (qa3 k).N (qa3 k).D).2 (i+1)/\kg n d (qa3 k).N (qa3 k).D=((qb4 n d (qa3 k).N (qa3 k).D).1,(qb4 n d (qa3 k).N (qa3 k).D).2,0):=by
 obtain ⟨s,h0,h1,rfl,rfl⟩:=h
 obtain ⟨c,hc,e1,e2,c0,c1,_⟩:=qr7 hk
 obtain ⟨r1,r2,r3,r4,r5⟩:=q7i h0 (by omega) hc
 rw [e1,e2,r1,r3]
 exact ⟨⟨s+c,by omega,by omega,rfl,rfl⟩,rfl⟩
theorem zb3 (k i n d:Int):(evK k i n d).AtN=n/\(evK k i n d).AtD=d/\(evK k i n d).DurN=(qa3 k).N/\(evK k i n d).DurD=(qa3 k).D/\(evK k i n d).Sign=i/\(evK k i n d).Pass=Int.tmod (Int.tdiv k 567) 2:=by
 unfold evK;split<;>exact ⟨rfl,rfl,rfl,rfl,rfl,rfl⟩
theorem zha {k:Int} (h:0<=k):0<=Int.tmod (Int.tdiv k 567) 2/\Int.tmod (Int.tdiv k 567) 2<=1:=by
 have h1:0<=Int.tdiv k 567:=Int.tdiv_nonneg h (by decide)
 have:=Int.tmod_nonneg 2 h1
 have:=Int.tmod_lt_of_pos (Int.tdiv k 567) (show (0:Int)<2 by decide)
 omega
theorem zf6 {k i n d:Int} (hk:0<=k) (hi:0<=i) (hc:qe n d=0):qbr (evK k i n d)=0:=by
 obtain ⟨c,_,_,_,_,_,c3,c4,_⟩:=qr7 hk
 have hp:=zha hk
 unfold evK
 split
 .unfold qbr
  dsimp only
  rw [zF (by omega),zF (by omega),zF c3,zF (by simp),zF (by simp),zF (by omega)]
 .have h1:=Int.tmod_nonneg 7 hk
  have h2:=Int.tmod_lt_of_pos k (show (0:Int)<7 by decide)
  have h3:=Int.tmod_nonneg 3 (Int.tdiv_nonneg hk (show (0:Int)<=7 by decide))
  have h4:=Int.tmod_lt_of_pos (Int.tdiv k 7) (show (0:Int)<3 by decide)
  have h5:=Int.tmod_nonneg 3 (Int.tdiv_nonneg hk (show (0:Int)<=21 by decide))
  have h6:=Int.tmod_lt_of_pos (Int.tdiv k 21) (show (0:Int)<3 by decide)
  have hpc:zb (Int.tmod k 7) (3+Int.tmod (Int.tdiv k 7) 3) (Int.tmod (Int.tdiv k 21) 3-1)=0:=by
   unfold zb;rw [zF (by omega)]
  unfold qbr
  dsimp only
  rw [zF (by omega),zF (by omega),zF c3,zF (by simp),zF (by rw [hpc];simp),zF (by omega)]
theorem qru {most:Int} (hm:most<=20):∀ (l:List Int) (i n d:Int),0<=i->qxz n d i->qcw (qf2 most l i n d) n d
 | [],_,_,_,_,_=>trivial
 | a::l,i,n,d,h0,hs=>by
  unfold qf2
  split
  .rename_i hi
   have hk:=(qot a (show 1<=(3969:Int) by decide)).1
   obtain ⟨b1,_⟩:=q27 hs (by omega)
   obtain ⟨n1,n2⟩:=qu1 hs (by omega) hk
   obtain ⟨e1,e2,e3,e4,_,_⟩:=zb3 (qdu a 3969) i n d
   refine ⟨e1,e2,zf6 hk h0 b1,?_,?_⟩
   .rw [e3,e4,n2]
   .rw [e3,e4,n2]
    exact qru hm l _ _ _ (by omega) n1
  .exact trivial
theorem qx6 {most:Int}:∀ (l:List Int) (i n d:Int),0<=i->i<=most->ln (qf2 most l i n d)<=most-i
 | [],i,_,_,_,h=>by unfold qf2;rw [qgp];omega
 | a::l,i,n,d,h0,h=>by
  unfold qf2
  split
  .rw [qbe]
   have:=qx6 (most:=most) l (i+1) (qb4 n d (qa3 (qdu a 3969)).N (qa3 (qdu a 3969)).D).1 (qb4 n d (qa3 (qdu a 3969)).N (qa3 (qdu a 3969)).D).2 (by omega) (by omega)
   omega
  .rw [qgp];omega
def Six (l:List Event):Prop:=∀ x ∈ l,∃ c ∈ qhl,x.DurN=(sxt c).1/\x.DurD=(sxt c).2
theorem zd1:∀ c ∈ qhl,3<=c/\c<=36:=by decide
theorem zal (l:List Int) (most:Int):Six (zz l most):=by
 have key:∀ (l:List Int) (i n d:Int),Six (qf2 most l i n d):=by
  intro l
  induction l with
  | nil=>intro i n d x hx;cases hx
  | cons a l ih=>
   intro i n d x hx
   unfold qf2 at hx
   split at hx
   .rcases zD.1 hx with rfl | hx
    .obtain ⟨c,hc,e1,e2,_⟩:=qr7 (qot a (show 1<=(3969:Int) by decide)).1
     obtain ⟨_,_,e3,e4,_⟩:=zb3 (qdu a 3969) i n d
     exact ⟨c,hc,by rw [e3,e1],by rw [e4,e2]⟩
    .exact ih _ _ _ x hx
   .cases hx
 exact key l 0 0 1
theorem qtw:∀ {l:List Event},(∀ x ∈ l,qbr x=0)->(qc l).2.2.2=true->zb (qc l).1 (qc l).2.1 (qc l).2.2.1=0
 | [],_,h=>by simp [qc] at h
 | x::l,h,hf=>by
  unfold qc at hf ⊢
  by_cases hr:x.Rest=true
  .rw [zT hr] at hf ⊢
   exact qtw (fun y hy=>h y (zG _ hy)) hf
  .rw [zF hr]
   exact (qhd.1 (h x zC)).2.2.2.2.1 (by simpa using hr)
theorem qpu {f:Int->Int->Int->Int×Int×Int×Int}:∀ {l:List Event},(qc l).2.2.2=true->qc (l.map (qah f))=((f (qc l).1 (qc l).2.1 (qc l).2.2.1).1,(f (qc l).1 (qc l).2.1 (qc l).2.2.1).2.1,(f (qc l).1 (qc l).2.1 (qc l).2.2.1).2.2.1,true)
 | [],h=>by simp [qc] at h
 | x::l,h=>by
  rw [List.map_cons]
  unfold qc at h ⊢
  by_cases hr:x.Rest=true
  .have e:qah f x=x:=by unfold qah;rw [zT hr]
   rw [zT hr] at h
   rw [e,zT hr,zT hr]
   exact qpu h
  .have e:(qah f x).Rest=x.Rest:=by unfold qah;split<;>rfl
   rw [e,zF hr,zF hr]
   unfold qah
   rw [zF hr]
theorem q7d {f:Int->Int->Int->Int×Int×Int×Int} {x:Event} (h:qkk f x=0) (hr:x.Rest=false):(f x.PitchStep x.PitchOctave x.PitchAlter).2.2.2=0:=by
 unfold qkk at h
 rw [zF (by simp [hr])] at h
 exact h
theorem zhe {f:Int->Int->Int->Int×Int×Int×Int} {x:Event} (h:qbr x=0) (hf:x.Rest=false->zb (f x.PitchStep x.PitchOctave x.PitchAlter).1 (f x.PitchStep x.PitchOctave x.PitchAlter).2.1 (f x.PitchStep x.PitchOctave x.PitchAlter).2.2.1=0):qbr (qah f x)=0:=by
 by_cases hr:x.Rest=true
 .have e:qah f x=x:=by unfold qah;rw [zT hr]
  rw [e];exact h
 .have hr':x.Rest=false:=by simpa using hr
  obtain ⟨h1,h2,h3,h4,h5,h6,h7⟩:=qhd.1 h
  have e:qah f x = {x with PitchStep:=(f x.PitchStep x.PitchOctave x.PitchAlter).1,PitchOctave:=(f x.PitchStep x.PitchOctave x.PitchAlter).2.1,PitchAlter:=(f x.PitchStep x.PitchOctave x.PitchAlter).2.2.1}:=by unfold qah;rw [zF hr]
  rw [e]
  exact qhd.2 ⟨h1,h2,h3,fun hc=>hr hc.1,fun _=>hf hr',h6,h7⟩
theorem qwn {f:Event->Event} (hf:∀ x,(f x).DurN=x.DurN/\(f x).DurD=x.DurD) (ha:∀ x,(f x).AtN=x.AtN/\(f x).AtD=x.AtD) :
  ∀ {l:List Event} {n d:Int},qcw l n d->(∀ x ∈ l,qbr (f x)=0)->qcw (l.map f) n d
 | [],_,_,_,_=>trivial
 | x::l,n,d,⟨h1,h2,h3,h4,h5⟩,hx=>by
  obtain ⟨d1,d2⟩:=hf x
  obtain ⟨a1,a2⟩:=ha x
  refine ⟨by rw [a1,h1],by rw [a2,h2],hx x zC,by rw [d1,d2];exact h4,?_⟩
  rw [d1,d2]
  exact qwn hf ha h5 fun y hy=>hx y (zG _ hy)
theorem zhd (f:Int->Int->Int->Int×Int×Int×Int) (x:Event):(qah f x).AtN=x.AtN/\(qah f x).AtD=x.AtD:=by unfold qah;split<;>exact ⟨rfl,rfl⟩
def Tw (n d v:Int):Prop:=qe n d=0/\12 * n=v * d
theorem zbs {n d:Int} (h:qe n d=0):Nat.gcd n.toNat d.toNat=1:=by
 have hb:=jh h
 have g:=qe1 (a:=n) (b:=d) (by omega)
 unfold qe at h
 split at h
 .omega
 .split at h
  .omega
  .rename_i h1
   unfold qy at h1 g
   omega
theorem zea {n d n' d' v:Int} (h:Tw n d v) (h':Tw n' d' v):n=n'/\d=d':=by
 obtain ⟨c,e⟩:=h
 obtain ⟨c',e'⟩:=h'
 have g:=zbs c
 have g':=zbs c'
 have b:=jh c
 have b':=jh c'
 have hx:n * d'=n' * d:=by
  have h1:12 * (n * d')=12 * (n' * d):=by
   rw [<-Int.mul_assoc,<-Int.mul_assoc,e,e',Int.mul_assoc,Int.mul_assoc,Int.mul_comm d d']
  omega
 obtain ⟨N,rfl⟩:=Int.eq_ofNat_of_zero_le b.1
 obtain ⟨D,rfl⟩:=Int.eq_ofNat_of_zero_le (show 0<=d by omega)
 obtain ⟨N',rfl⟩:=Int.eq_ofNat_of_zero_le b'.1
 obtain ⟨D',rfl⟩:=Int.eq_ofNat_of_zero_le (show 0<=d' by omega)
 simp only [Int.toNat_natCast] at g g'
 have hn:N * D'=N' * D:=by exact_mod_cast hx
 have d1:D ∣ D':=Nat.Coprime.dvd_of_dvd_mul_left (Nat.Coprime.symm g) ⟨N',by rw [hn,Nat.mul_comm]⟩
 have d2:D' ∣ D:=Nat.Coprime.dvd_of_dvd_mul_left (Nat.Coprime.symm g') ⟨N,by rw [<-hn,Nat.mul_comm]⟩
 have hd:D=D':=Nat.dvd_antisymm d1 d2
 subst hd
 have:N=N':=Nat.eq_of_mul_eq_mul_right (by omega) hn
 subst this
 exact ⟨rfl,rfl⟩
theorem zda {x y v:Int} (h0:0<=x) (h1:1<=y) (h:12 * x=v * y) (hs:(ofT x y).2.2=0):Tw (ofT x y).1 (ofT x y).2.1 v:=by
 refine ⟨qxk h0 h1 hs,?_⟩
 have g:=qe1 (a:=x) (b:=y) h1
 have gl:=qw1 (a:=x) (b:=y) h0
 have gr:=qjv (a:=x) (b:=y) (by omega)
 unfold ofT at hs ⊢
 split at hs
 .simp at hs
 .rename_i hc
  rw [zF hc]
  show 12 * x.tdiv (qy x y)=v * y.tdiv (qy x y)
  have e:qy x y * (12 * x.tdiv (qy x y))=qy x y * (v * y.tdiv (qy x y)):=by
   rw [Int.mul_left_comm,gl,Int.mul_left_comm,gr,h]
  exact Int.eq_of_mul_eq_mul_left (by omega) e
theorem zd8 {a b v c e w:Int} (h:Tw a b v) (h2:Tw c e w) (hs:(kg a b c e).2.2=0):Tw (kg a b c e).1 (kg a b c e).2.1 (v+w):=by
 obtain ⟨_,_,_,_,⟨b5,b6,_⟩,_⟩:=zbl h.1 h2.1
 rw [q55 h.1 h2.1] at hs ⊢
 refine zda b5 b6 ?_ hs
 have e1:12 * (a * e)=v * (b * e):=by rw [<-Int.mul_assoc,h.2,Int.mul_assoc]
 have e2:12 * (c * b)=w * (b * e):=by rw [<-Int.mul_assoc,h2.2,Int.mul_assoc,Int.mul_comm e b]
 rw [Int.mul_add,Int.add_mul,e1,e2]
theorem zmr {x y v:Int} (h0:0<=x) (h1:1<=y) (h:12 * x=v * y) (v1:v<=100000):(ofT x y).2.2=0:=by
 have v0:0<=v:=by
  by_cases hv:0<=v
  .exact hv
  .have:v * y<0:=Int.mul_neg_of_neg_of_pos (by omega) (by omega)
   omega
 have g:=qe1 (a:=x) (b:=y) h1
 have gl:=qw1 (a:=x) (b:=y) h0
 have gr:=qjv (a:=x) (b:=y) (by omega)
 have e:12 * x.tdiv (qy x y)=v * y.tdiv (qy x y):=by
  have e:qy x y * (12 * x.tdiv (qy x y))=qy x y * (v * y.tdiv (qy x y)):=by
   rw [Int.mul_left_comm,gl,Int.mul_left_comm,gr,h]
  exact Int.eq_of_mul_eq_mul_left (by omega) e
 have hc:Nat.gcd (x.tdiv (qy x y)).toNat (y.tdiv (qy x y)).toNat=1:=by
  obtain ⟨N,rfl⟩:=Int.eq_ofNat_of_zero_le h0
  obtain ⟨D,rfl⟩:=Int.eq_ofNat_of_zero_le (show 0<=y by omega)
  have hD:0<D:=by omega
  have e:qy (N:Int) (D:Int)=((Nat.gcd N D:Nat):Int):=by simp [qy]
  rw [e]
  have e1:Int.tdiv (N:Int) ((Nat.gcd N D:Nat):Int)=((N / Nat.gcd N D:Nat):Int):=(Int.ofNat_tdiv _ _).symm
  have e2:Int.tdiv (D:Int) ((Nat.gcd N D:Nat):Int)=((D / Nat.gcd N D:Nat):Int):=(Int.ofNat_tdiv _ _).symm
  rw [e1,e2,Int.toNat_natCast,Int.toNat_natCast]
  exact Nat.gcd_div_gcd_div_gcd_of_pos_right hD
 have hp:0<=x.tdiv (qy x y):=Int.tdiv_nonneg h0 (by omega)
 have hq:0<=y.tdiv (qy x y):=Int.tdiv_nonneg (by omega) (by omega)
 unfold ofT
 rw [zF]
 revert e hc hp hq
 generalize x.tdiv (qy x y)=p
 generalize y.tdiv (qy x y)=q
 intro e hc hp hq
 obtain ⟨p,rfl⟩:=Int.eq_ofNat_of_zero_le hp
 obtain ⟨q,rfl⟩:=Int.eq_ofNat_of_zero_le hq
 obtain ⟨v,rfl⟩:=Int.eq_ofNat_of_zero_le v0
 simp only [Int.toNat_natCast] at hc
 have e':12 * p=v * q:=by exact_mod_cast e
 have dv:q ∣ 12:=Nat.Coprime.dvd_of_dvd_mul_right (k:=q) (n:=p) (m:=12) (Nat.Coprime.symm hc) ⟨v,by rw [e',Nat.mul_comm]⟩
 have q12:q<=12:=Nat.le_of_dvd (by decide) dv
 have:v * q<=v * 12:=Nat.mul_le_mul_left v q12
 omega
theorem zkh {a b v c e w:Int} (h:Tw a b (v+w)) (h2:Tw c e w) (v0:0<=v) (v1:v<=100000):(qij a b c e).2.2=0/\Tw (qij a b c e).1 (qij a b c e).2.1 v:=by
 have b1:=jh h.1
 have b2:=jh h2.1
 have e1:12 * (a * e)=(v+w) * (b * e):=by rw [<-Int.mul_assoc,h.2,Int.mul_assoc]
 have e2:12 * (c * b)=w * (b * e):=by rw [<-Int.mul_assoc,h2.2,Int.mul_assoc,Int.mul_comm e b]
 have p:=qqc b1.2.2.1 b2.2.2.1
 have p2:0<=v * (b * e):=Int.mul_nonneg v0 (by omega)
 rw [Int.add_mul] at e1
 have hv:12 * (a * e-c * b)=v * (b * e):=by omega
 have hle:c * b<=a * e:=by omega
 unfold qij
 rw [zF (by have:=h.1;omega),zF (by have:=h2.1;omega),zF (by omega)]
 have hs:=zmr (x:=a * e-c * b) (y:=b * e) (by omega) p hv v1
 exact ⟨hs,zda (by omega) p hv hs⟩
def twl (v:Int):Int×Int:=tT v 12
theorem zkg:((List.range 2161).all fun v=>decide (qe (twl v).1 (twl v).2=0)&&decide (12 * (twl v).1=(v:Int) * (twl v).2))=true:=by kernel_rfl
theorem zki {v:Int} (h0:0<=v) (h1:v<=2160):Tw (twl v).1 (twl v).2 v:=by
 have h:=List.all_eq_true.1 zkg v.toNat (List.mem_range.2 (by omega))
 rw [show ((v.toNat:Nat):Int)=v by omega] at h
 simp only [zA,decide_eq_true_eq] at h
 exact h
theorem zeb {s:Int} (h0:0<=s) (h1:s<=720):Tw (sxt s).1 (sxt s).2 (2 * s):=by
 have h:=List.all_eq_true.1 (show ((List.range 721).all fun v=>decide (qe (sxt v).1 (sxt v).2=0)&&decide (12 * (sxt v).1=(2 * (v:Int)) * (sxt v).2))=true by kernel_rfl) s.toNat (List.mem_range.2 (by omega))
 rw [show ((s.toNat:Nat):Int)=s by omega] at h
 simp only [zA,decide_eq_true_eq] at h
 exact h
abbrev qmi:List (Int×Int×Int):=[(1,1,2),(2,1,4),(1,2,1),(3,2,3),(3,1,6)]
theorem zf7:(qmi.all fun f=>(List.range 360).all fun s=>decide (qfp (twl (f.2.2 * (s+1))).1 (twl (f.2.2 * (s+1))).2 (sxt (s+1)).1 (sxt (s+1)).2=(f.1,f.2.1,0)))=true:=by kernel_rfl
theorem zf8 {f:Int×Int×Int} (hf:f ∈ qmi) {s:Int} (h0:1<=s) (h1:s<=360):qfp (twl (f.2.2 * s)).1 (twl (f.2.2 * s)).2 (sxt s).1 (sxt s).2=(f.1,f.2.1,0):=by
 have h:=List.all_eq_true.1 (List.all_eq_true.1 zf7 f hf) (s-1).toNat (List.mem_range.2 (by omega))
 rw [show (((s-1).toNat:Nat):Int)+1=s by omega] at h
 exact of_decide_eq_true h
theorem zf9:(qmi.all fun f=>qhl.all fun c=>decide (qe (qcu (sxt c).1 (sxt c).2 f.1 f.2.1).1 (qcu (sxt c).1 (sxt c).2 f.1 f.2.1).2.1=0)&&decide (12 * (qcu (sxt c).1 (sxt c).2 f.1 f.2.1).1=f.2.2 * c * (qcu (sxt c).1 (sxt c).2 f.1 f.2.1).2.1)&&decide ((qcu (sxt c).1 (sxt c).2 f.1 f.2.1).1≠0))=true:=by kernel_rfl
theorem zd9 {f:Int×Int×Int} (hf:f ∈ qmi) {c:Int} (hc:c ∈ qhl):Tw (qcu (sxt c).1 (sxt c).2 f.1 f.2.1).1 (qcu (sxt c).1 (sxt c).2 f.1 f.2.1).2.1 (f.2.2 * c)/\(qcu (sxt c).1 (sxt c).2 f.1 f.2.1).1≠0:=by
 have h:=List.all_eq_true.1 (List.all_eq_true.1 zf9 f hf) c hc
 simp only [zA,decide_eq_true_eq] at h
 exact ⟨⟨h.1.1,h.1.2⟩,h.2⟩
def Tws:List Event->Int->Prop
 | [],v=>v=0
 | x::l,v=>∃ a b,Tw x.DurN x.DurD a/\Tws l b/\v=a+b
theorem qz2:∀ {l m:List Event} {v:Int},l.map (fun x=>(x.DurN,x.DurD))=m.map (fun x=>(x.DurN,x.DurD))->Tws l v->Tws m v
 | [],[],_,_,h=>h
 | [],_::_,_,e,_=>by simp at e
 | _::_,[],_,e,_=>by simp at e
 | x::l,y::m,v,e,⟨a,b,h1,h2,h3⟩=>by
  simp only [List.map_cons,List.cons.injEq,zP] at e
  obtain ⟨⟨e1,e2⟩,e3⟩:=e
  exact ⟨a,b,by rw [<-e1,<-e2];exact h1,qz2 e3 h2,h3⟩
theorem qsa:∀ (l:List Event) (n d:Int),(qgs l n d).map (fun x=>(x.DurN,x.DurD))=l.map (fun x=>(x.DurN,x.DurD))
 | [],_,_=>rfl
 | x::l,n,d=>by rw [qqe,List.map_cons,qsa l];rfl
theorem zge {x y:Event} {l:List Event}:ix (x::y::l) (ln (x::y::l)-1)=ix (y::l) (ln (y::l)-1):=by
 have n0:=zm l
 rw [qbe,qbe,show ln l+1+1-1=(ln l)+1 by omega,qb9 n0,show ln l+1-1=ln l by omega]
theorem qwm:∀ {l:List Event} {n d v w:Int},l≠[]->qcw l n d->Tw n d v->Tws l w->
  (kg (ix l (ln l-1)).AtN (ix l (ln l-1)).AtD (ix l (ln l-1)).DurN (ix l (ln l-1)).DurD).2.2=0/\
  Tw (kg (ix l (ln l-1)).AtN (ix l (ln l-1)).AtD (ix l (ln l-1)).DurN (ix l (ln l-1)).DurD).1 (kg (ix l (ln l-1)).AtN (ix l (ln l-1)).AtD (ix l (ln l-1)).DurN (ix l (ln l-1)).DurD).2.1 (v+w)
 | [],_,_,_,_,h,_,_,_=>absurd rfl h
 | [x],n,d,v,w,_,⟨h1,h2,_,h4,_⟩,ht,⟨a,b,t1,t2,t3⟩=>by
  have e:ix [x] (ln [x]-1)=x:=rfl
  have hb:b=0:=t2
  subst hb t3
  rw [e,h1,h2,Int.add_zero]
  exact ⟨h4,zd8 ht t1 h4⟩
 | x::y::l,n,d,v,w,_,⟨h1,h2,_,h4,h5⟩,ht,⟨a,b,t1,t2,t3⟩=>by
  rw [zge,t3,<-Int.add_assoc]
  exact qwm (by simp) h5 (zd8 ht t1 h4) t2
theorem qz1:Tw 0 1 0:=⟨by decide,by decide⟩
theorem q6k {l:List Event} {w:Int} (h:qcw l 0 1) (hl:ln l<=2000) (hw:Tws l w):(jq l).2.2=0/\Tw (jq l).1 (jq l).2.1 w:=by
 cases l with
 | nil=>
  have e:w=0:=hw
  subst e
  exact ⟨by decide,qz1⟩
 | cons x l=>
  have n0:=zm l
  have n1:=qbe x l
  unfold jq
  rw [qby h hl,zF (by simp),zF (by omega)]
  have:=qwm (by simp) h qz1 hw
  rw [Int.zero_add] at this
  exact this
def nTr (re mi:Bool) (i:Nat):Nat:=(if re=true then 4 else 0)+(if mi=true then 2 else 0)+i
theorem qow (l m:List Event) (re mi:Bool):qvu l m ((nTr re mi 0:Nat):Int)=if qde l m 0 1 mi re=true then [qs6 l m 0 1 mi re] else []:=by
 cases re<;>cases mi<;>rfl
theorem qsc (l m:List Event) (re mi:Bool):qvu l m ((nTr re mi 1:Nat):Int)=if qiz m=true/\qde l m (ix m 0).DurN (ix m 0).DurD mi re=true then [qs6 l m (ix m 0).DurN (ix m 0).DurD mi re] else []:=by
 cases re<;>cases mi<;>rfl
theorem zgr:∀ n:Nat,n<8->∃ re mi,n=nTr re mi 0∨n=nTr re mi 1:=fun n h=>by
 rcases (show n=0∨n=1∨n=2∨n=3∨n=4∨n=5∨n=6∨n=7 by omega) with rfl | rfl | rfl | rfl | rfl | rfl | rfl | rfl
 .exact ⟨false,false,.inl rfl⟩
 .exact ⟨false,false,.inr rfl⟩
 .exact ⟨false,true,.inl rfl⟩
 .exact ⟨false,true,.inr rfl⟩
 .exact ⟨true,false,.inl rfl⟩
 .exact ⟨true,false,.inr rfl⟩
 .exact ⟨true,true,.inl rfl⟩
 .exact ⟨true,true,.inr rfl⟩
theorem qqp {l m:List Event} {c:Canon} {j:Nat} (h:c ∈ qvu l m (j:Int)):∀ n:Nat,j<n->c ∈ qc0 l m n
 | 0,hj=>absurd hj (Nat.not_lt_zero _)
 | n+1,hj=>by
  unfold qc0
  by_cases hn:j=n
  .subst hn
   exact List.mem_append_right _ h
  .exact List.mem_append_left _ (qqp h n (by omega))
theorem q3f {l m:List Event} {c:Canon}:∀ n:Nat,n<=8->c ∈ qc0 l m n->∃ dn dd mi re,qde l m dn dd mi re=true/\c=qs6 l m dn dd mi re
 | 0,_,h=>by cases h
 | n+1,hn,h=>by
  unfold qc0 at h
  rcases List.mem_append.1 h with h | h
  .exact q3f n (by omega) h
  .obtain ⟨re,mi,rfl | rfl⟩:=zgr n (by omega)
   .rw [qow] at h
    by_cases hc:qde l m 0 1 mi re=true
    .rw [zT hc] at h
     exact ⟨_,_,_,_,hc,List.mem_singleton.1 h⟩
    .rw [zF hc] at h;cases h
   .rw [qsc] at h
    by_cases hc:qiz m=true/\qde l m (ix m 0).DurN (ix m 0).DurD mi re=true
    .rw [zT hc] at h
     exact ⟨_,_,_,_,hc.2,List.mem_singleton.1 h⟩
    .rw [zF hc] at h;cases h
def Sxs:List Event->Int->Prop
 | [],s=>s=0
 | x::l,s=>∃ c ∈ qhl,∃ r,x.DurN=(sxt c).1/\x.DurD=(sxt c).2/\Sxs l r/\s=c+r
theorem zd6:∀ {l:List Event},Six l->∃ s,Sxs l s/\3 * ln l<=s/\s<=36 * ln l
 | [],_=>⟨0,rfl,by rw [qgp];omega,by rw [qgp];omega⟩
 | x::l,h=>by
  obtain ⟨c,hc,e1,e2⟩:=h x zC
  obtain ⟨r,h1,h2,h3⟩:=zd6 (l:=l) fun y hy=>h y (zG _ hy)
  have cb:=zd1 c hc
  exact ⟨c+r,⟨c,hc,r,e1,e2,h1,rfl⟩,by rw [qbe];omega,by rw [qbe];omega⟩
theorem q3b:∀ {l:List Event} {x:Event} {s c:Int},Sxs l s->c ∈ qhl->x.DurN=(sxt c).1->x.DurD=(sxt c).2->Sxs (l++[x]) (s+c)
 | [],x,s,c,h,hc,e1,e2=>⟨c,hc,0,e1,e2,rfl,by have h:s=0:=h;omega⟩
 | y::l,x,s,c,⟨a,ha,r,h1,h2,h3,h4⟩,hc,e1,e2=>⟨a,ha,r+c,h1,h2,q3b h3 hc e1 e2,by omega⟩
theorem q7m:∀ {l:List Event} {s:Int},Sxs l s->Sxs l.reverse s
 | [],_,h=>h
 | x::l,s,⟨c,hc,r,e1,e2,h1,h2⟩=>by
  rw [List.reverse_cons,h2,Int.add_comm]
  exact q3b (q7m h1) hc e1 e2
theorem qz0:∀ {l m:List Event} {s:Int},l.map (fun x=>(x.DurN,x.DurD))=m.map (fun x=>(x.DurN,x.DurD))->Sxs l s->Sxs m s
 | [],[],_,_,h=>h
 | [],_::_,_,e,_=>by simp at e
 | _::_,[],_,e,_=>by simp at e
 | x::l,y::m,s,e,⟨c,hc,r,e1,e2,h1,h2⟩=>by
  simp only [List.map_cons,List.cons.injEq,zP] at e
  obtain ⟨⟨d1,d2⟩,d3⟩:=e
  exact ⟨c,hc,r,by rw [<-d1,e1],by rw [<-d2,e2],qz0 d3 h1,h2⟩
theorem q7o:∀ {l:List Event} {s:Int},Sxs l s->Tws l (2 * s)
 | [],_,h=>by have h:_=(0:Int):=h;subst h;rfl
 | x::l,s,⟨c,hc,r,e1,e2,h1,h2⟩=>by
  have cb:=zd1 c hc
  exact ⟨2 * c,2 * r,by rw [e1,e2];exact zeb (by omega) (by omega),q7o h1,by omega⟩
theorem q7l:∀ {l:List Event} {s:Int},Sxs l s->Six l
 | [],_,_,x,hx=>by cases hx
 | y::l,s,⟨c,hc,r,e1,e2,h1,h2⟩,x,hx=>by
  rcases zD.1 hx with rfl | hx
  .exact ⟨c,hc,e1,e2⟩
  .exact q7l h1 x hx
theorem q7n {f:Int×Int×Int} (hf:f ∈ qmi):∀ {l:List Event} {s:Int},Sxs l s->Tws (l.map (qzz f.1 f.2.1)) (f.2.2 * s)
 | [],_,h=>by have h:_=(0:Int):=h;subst h;exact Int.mul_zero _
 | x::l,s,⟨c,hc,r,e1,e2,h1,h2⟩=>by
  refine ⟨f.2.2 * c,f.2.2 * r,?_,q7n hf h1,by rw [h2,Int.mul_add]⟩
  show Tw (qcu x.DurN x.DurD f.1 f.2.1).1 (qcu x.DurN x.DurD f.1 f.2.1).2.1 _
  rw [e1,e2]
  exact (zd9 hf hc).1
structure Vo (m l:List Event):Prop where
 ch:qcw l 0 1
 len:ln l=ln m
 sx:∀ s,Sxs m s->Sxs l s
theorem q7q {l:List Event} (h:qcw l 0 1):Vo l l:=⟨h,rfl,fun _ hs=>hs⟩
theorem qn0 {r:List Event×Int} {f:List Event->List Event×Int} (h:(qcd r f).2=0):r.2=0/\qcd r f=f r.1:=by
 obtain ⟨a,e⟩:=r
 by_cases he:e=0
 .subst he;exact ⟨rfl,qja a f⟩
 .rw [qhn (r:=(a,e)) he] at h
  exact absurd h he
theorem qpo {l:List Event} (h:(qa0 l).2=0):qkj l 0 1=0/\qa0 l=(qgs l 0 1,0):=by
 unfold qa0 at h ⊢
 by_cases hc:qkj l 0 1≠0
 .rw [zT hc] at h;exact absurd h hc
 .rw [zF hc];exact ⟨by omega,rfl⟩
theorem q56 {f:Event->Event} {g:Event->Int} {l:List Event} (h:(qgm f g l).2=0):qmc g l=0/\qkj (l.map f) 0 1=0/\qgm f g l=(qgs (l.map f) 0 1,0):=by
 unfold qgm at h ⊢
 by_cases hc:qmc g l≠0
 .rw [zT hc] at h;exact absurd h hc
 .rw [zF hc] at h ⊢
  obtain ⟨h1,h2⟩:=qpo h
  exact ⟨by omega,h1,h2⟩
theorem q97 {m l:List Event} (h:Vo m l) (hn:ln m<=2000) (h0:(zq l).2=0):Vo m (zq l).1/\(zq l).1=qgs l.reverse 0 1:=by
 unfold zq at h0 ⊢
 rw [qby h.ch (by have:=h.len;omega),zF (by simp)] at h0 ⊢
 obtain ⟨h1,h2⟩:=qpo h0
 rw [h2]
 refine ⟨⟨ql3 (fun x hx=>⟨x.AtN,x.AtD,qfo h.ch x (List.mem_reverse.1 hx)⟩) (by decide) h1,by show ln (qgs l.reverse 0 1)=_;rw [qlj,qj2];exact h.len,fun s hs=>qz0 (qsa _ _ _).symm (q7m (h.sx s hs))⟩,rfl⟩
theorem zf2 {f:Event->Event} (hf:∀ x,(f x).DurN=x.DurN/\(f x).DurD=x.DurD) (l:List Event):l.map (fun x=>(x.DurN,x.DurD))=(l.map f).map (fun x=>(x.DurN,x.DurD)):=by
 rw [List.map_map]
 refine List.map_congr_left fun x _=>?_
 show _=((f x).DurN,(f x).DurD)
 rw [(hf x).1,(hf x).2]
theorem q7e {f:Int->Int->Int->Int×Int×Int×Int} (hf:∀ a b c,(f a b c).2.2.2=0->zb (f a b c).1 (f a b c).2.1 (f a b c).2.2.1=0) {m l:List Event} (h:Vo m l) (h0:(qgm (qah f) (qkk f) l).2=0) :
  Vo m (l.map (qah f))/\qgm (qah f) (qkk f) l=(l.map (qah f),0)/\qmc (qkk f) l=0:=by
 obtain ⟨h1,_,_⟩:=q56 h0
 refine ⟨⟨qwn (qul f) (zhd f) h.ch fun x hx=>zhe (qfo h.ch x hx) fun hr=>hf _ _ _ (q7d (qpr h1 x hx) hr),by rw [qj1];exact h.len,fun s hs=>qz0 (zf2 (qul f) l) (h.sx s hs)⟩,ze8 h.ch h1,h1⟩
theorem q3e (x y:Int):(qmf x y).2.2.2=0->zb (qmf x y).1 (qmf x y).2.1 (qmf x y).2.2.1=0:=fun h=>(q7p h).1
theorem zcz (s o al a b c:Int):(qdt a b c s o al).2.2.2=0->zb (qdt a b c s o al).1 (qdt a b c s o al).2.1 (qdt a b c s o al).2.2.1=0:=by
 unfold qdt
 split
 .intro h;exact absurd h ‹_›
 .split
  .intro h;exact absurd h ‹_›
  .exact q3e _ _
theorem zc1 (k a b c:Int):(qbw a b c k).2.2.2=0->zb (qbw a b c k).1 (qbw a b c k).2.1 (qbw a b c k).2.2.1=0:=by
 unfold qbw
 split
 .intro h;exact absurd h ‹_›
 .split
  .intro h;exact absurd h (by decide)
  .exact q3e _ _
theorem zgp {k a b c:Int} (h:(qbw a b c k).2.2.2=0):qib (qbw a b c k).1 (qbw a b c k).2.1=qib a b+k:=by
 unfold qbw at h ⊢
 by_cases h1:zb a b c≠0
 .rw [zT h1] at h;exact absurd h h1
 .rw [zF h1] at h ⊢
  by_cases h2:k < -62∨62<k
  .rw [zT h2] at h;exact absurd h (by decide)
  .rw [zF h2] at h ⊢
   have:=(q7p h).2.1
   unfold qib
   omega
theorem zgn {m l:List Event} (h:Vo m l) (hn:ln m<=2000) {a b c:Int} (h0:(qhb l a b c).2=0):∃ f,Vo m (l.map (qah f))/\(qhb l a b c).1=l.map (qah f):=by
 unfold qhb at h0 ⊢
 rw [qby h.ch (by have:=h.len;omega),zF (by simp)] at h0 ⊢
 by_cases hp:zb a b c≠0
 .rw [zT hp] at h0;exact absurd h0 hp
 .rw [zF hp] at h0 ⊢
  obtain ⟨h1,h2,_⟩:=q7e (zcz a b c) h h0
  exact ⟨_,h1,by rw [h2]⟩
theorem zgo {m l:List Event} {k:Int} (h:Vo m l) (hn:ln m<=2000) (h0:(qak l k).2=0):Vo m (l.map (qah fun x y z=>qbw x y z k))/\(qak l k).1=l.map (qah fun x y z=>qbw x y z k)/\qmc (qkk fun x y z=>qbw x y z k) l=0:=by
 unfold qak at h0 ⊢
 rw [qby h.ch (by have:=h.len;omega),zF (by simp)] at h0 ⊢
 obtain ⟨h1,h2,h3⟩:=q7e (zc1 k) h h0
 exact ⟨h1,by rw [h2],h3⟩
theorem qm6:∀ {l:List Event},(∃ x ∈ l,x.Rest=false)->(qc l).2.2.2=true
 | [],⟨x,hx,_⟩=>by cases hx
 | y::l,⟨x,hx,hr⟩=>by
  unfold qc
  by_cases hy:y.Rest=true
  .rw [zT hy]
   rcases zD.1 hx with rfl | hx
   .rw [hr] at hy;cases hy
   .exact qm6 ⟨x,hx,hr⟩
  .rw [zF hy]
theorem qni:∀ {l:List Event},(qc l).2.2.2=true->∃ x ∈ l,x.Rest=false/\x.PitchStep=(qc l).1/\x.PitchOctave=(qc l).2.1/\x.PitchAlter=(qc l).2.2.1
 | [],h=>by simp [qc] at h
 | y::l,h=>by
  unfold qc at h ⊢
  by_cases hy:y.Rest=true
  .rw [zT hy] at h ⊢
   obtain ⟨x,hx,hh⟩:=qni h
   exact ⟨x,zG _ hx,hh⟩
  .rw [zF hy]
   exact ⟨y,zC,by simpa using hy,rfl,rfl,rfl⟩
theorem qly:∀ (l:List Event) (n d:Int),qc (qgs l n d)=qc l
 | [],_,_=>rfl
 | x::l,n,d=>by
  rw [qqe]
  unfold qc
  rw [qly l]
theorem qwv (n d:Int):∀ l:List Event,qc (l.map (qzz n d))=qc l
 | []=>rfl
 | x::l=>by
  rw [List.map_cons]
  unfold qc
  rw [qwv n d l]
  rfl
theorem zc6 {l:List Event} (h:(qc l).2.2.2=true):(qc (qgs l.reverse 0 1)).2.2.2=true:=by
 obtain ⟨x,hx,hr,_⟩:=qni h
 rw [qly]
 exact qm6 ⟨x,List.mem_reverse.2 hx,hr⟩
theorem q3h {l:List Event} {mi re:Bool} (h:qcw l 0 1) (hn:ln l<=2000) (h0:(qcj l mi re).2=0):Vo l (qcj l mi re).1/\((qc l).2.2.2=true->(qc (qcj l mi re).1).2.2.2=true):=by
 unfold qcj at h0 ⊢
 obtain ⟨h1,h2⟩:=qn0 h0
 rw [h2] at h0 ⊢
 have hr:Vo l (if re=true then zq l else (l,0)).1/\((qc l).2.2.2=true->(qc (if re=true then zq l else (l,0)).1).2.2.2=true):=by
  by_cases hre:re=true
  .rw [zT hre] at h1 ⊢
   obtain ⟨k1,k2⟩:=q97 (q7q h) hn h1
   exact ⟨k1,fun hl=>by rw [k2];exact zc6 hl⟩
  .rw [zF hre];exact ⟨q7q h,fun hl=>hl⟩
 revert hr h0
 generalize (if re=true then zq l else (l,0)).1=a
 intro h0 ⟨ha,hf⟩
 by_cases hm:mi=true/\(qc a).2.2.2=true
 .rw [zT hm] at h0 ⊢
  obtain ⟨f,k1,k2⟩:=zgn ha hn h0
  rw [k2]
  exact ⟨k1,fun _=>by rw [qpu hm.2]⟩
 .rw [zF hm];exact ⟨ha,hf⟩
theorem zhj {m l:List Event} {s:Int} (h:Vo m l) (hs:Sxs m s) (hn:ln m<=2000) {f:Int×Int×Int} (hf:f ∈ qmi) (h0:(qbu l f.1 f.2.1).2=0) :
  qcw (qbu l f.1 f.2.1).1 0 1/\ln (qbu l f.1 f.2.1).1=ln m/\Tws (qbu l f.1 f.2.1).1 (f.2.2 * s)/\qc (qbu l f.1 f.2.1).1=qc l:=by
 unfold qbu at h0 ⊢
 rw [qby h.ch (by have:=h.len;omega),zF (by simp)] at h0 ⊢
 by_cases ha:qgy f.1 f.2.1≠0
 .rw [zT ha] at h0;exact absurd h0 ha
 .rw [zF ha] at h0 ⊢
  obtain ⟨_,h2,h3⟩:=q56 h0
  rw [h3]
  refine ⟨ql3 (fun x hx=>?_) (by decide) h2,by show ln (qgs (l.map (qzz f.1 f.2.1)) 0 1)=_;rw [qlj,qj1];exact h.len,qz2 (qsa _ _ _).symm (q7n hf (h.sx s hs)),by rw [qly,qwv]⟩
  obtain ⟨y,hy,rfl⟩:=List.mem_map.1 hx
  obtain ⟨c,hc,e1,e2⟩:=q7l (h.sx s hs) y hy
  obtain ⟨⟨m1,_⟩,m3⟩:=zd9 hf hc
  obtain ⟨o1,o2,o3,o4,o5,o6,o7⟩:=qhd.1 (qfo h.ch y hy)
  rw [<-e1,<-e2] at m1 m3
  exact ⟨y.AtN,y.AtD,qhd.2 ⟨o1,m1,m3,o4,o5,o6,o7⟩⟩
theorem zf0 {l:List Event} {n d v w:Int} (h:qcw l 0 1) (hl:ln l<=1000) (hn:0<n) (ht:Tw n d v) (hw:Tws l w) (h0:(qaj l n d).2=0) :
  qcw (qaj l n d).1 0 1/\ln (qaj l n d).1=ln l+1/\Tws (qaj l n d).1 (w+v)/\qc (qaj l n d).1=qc l/\(ix (qaj l n d).1 0).Rest=true/\(ix (qaj l n d).1 0).DurN=n/\(ix (qaj l n d).1 0).DurD=d:=by
 have ha:qgy n d=0:=by unfold qgy;rw [zF (by have:=ht.1;omega),zF (by omega)]
 unfold qaj at h0 ⊢
 rw [qby h (by omega),zF (by simp),zF (by omega),zF (by omega)] at h0 ⊢
 obtain ⟨h2,h3⟩:=qpo h0
 rw [h3]
 refine ⟨ql3 (fun x hx=>?_) (by decide) h2,by show ln (qgs _ 0 1)=_;rw [qlj,qbe],qz2 (qsa _ _ _).symm ⟨v,w,ht,hw,by omega⟩,by rw [qly];rfl,rfl,rfl,rfl⟩
 rcases zD.1 hx with rfl | hx
 .exact ⟨0,1,qhd.2 ⟨show qe 0 1=0 by decide,ht.1,by show n≠0;omega,by simp,by simp,by simp,by simp⟩⟩
 .exact ⟨x.AtN,x.AtD,qfo h x hx⟩
theorem q0v (x:Event):qeb x x=true:=decide_eq_true ⟨rfl,rfl,rfl,rfl,rfl,rfl⟩
theorem qsu:∀ l:List Event,qcq l l=true
 | []=>rfl
 | x::l=>by unfold qcq;rw [q0v,qsu l];rfl
theorem q2e {l:List Event} {s:Int} (h:qcw l 0 1) (hsx:Sxs l s) (hl:ln l<=10) (s1:1<=s) (s2:s<=360) (hf0:(qc l).2.2.2=true) {dn dd k v:Int} {mi re:Bool} {f:Int×Int×Int} (hf:f ∈ qmi)
  (hd:Tw dn dd v) (v0:0<=v) (v1:v<=54) (hdd:dn=0->dd=1) (d0:0<=dn) (hm:(kf l dn dd k mi re f.1 f.2.1 0 0 0 0).2=0) :
  (kb l (kf l dn dd k mi re f.1 f.2.1 0 0 0 0).1).2=0/\Canon.mk dn dd k mi re f.1 f.2.1 0 0 0 0 ∈ (kb l (kf l dn dd k mi re f.1 f.2.1 0 0 0 0).1).1/\ln (kf l dn dd k mi re f.1 f.2.1 0 0 0 0).1<=11:=by
 have hck:=qby h (by omega)
 have hsplit:qrx dn dd k f.1 f.2.1 0 0 0 0=0/\kf l dn dd k mi re f.1 f.2.1 0 0 0 0=qcd (qcj l mi re) fun a=>qcd (qak a k) fun b=>qcd (qbu b f.1 f.2.1) fun c=>if 0<dn then qaj c dn dd else (c,0):=by
  unfold kf at hm ⊢
  rw [hck,zF (by simp)] at hm ⊢
  by_cases hc:qrx dn dd k f.1 f.2.1 0 0 0 0≠0
  .rw [zT hc] at hm;exact absurd hm hc
  .rw [zF hc];exact ⟨by omega,rfl⟩
 have hm0:=hm
 rw [hsplit.2] at hm
 obtain ⟨t1,e1⟩:=qn0 hm
 rw [e1] at hm
 obtain ⟨t2,e2⟩:=qn0 hm
 rw [e2] at hm
 obtain ⟨t3,e3⟩:=qn0 hm
 rw [e3] at hm
 have em:kf l dn dd k mi re f.1 f.2.1 0 0 0 0=if 0<dn then qaj (qbu (qak (qcj l mi re).1 k).1 f.1 f.2.1).1 dn dd else ((qbu (qak (qcj l mi re).1 k).1 f.1 f.2.1).1,0):=by rw [hsplit.2,e1,e2,e3]
 obtain ⟨q1,q2⟩:=q3h h (by omega) t1
 have q2:=q2 hf0
 obtain ⟨q3,q4,q5⟩:=zgo q1 (by omega) t2
 rw [<-q4] at q3
 obtain ⟨c1,c2,c3,c4⟩:=zhj q3 hsx (by omega) hf t3
 have hfirst:(qc (qbu (qak (qcj l mi re).1 k).1 f.1 f.2.1).1).2.2.2=true/\qib (qc (qbu (qak (qcj l mi re).1 k).1 f.1 f.2.1).1).1 (qc (qbu (qak (qcj l mi re).1 k).1 f.1 f.2.1).1).2.1=qib (qc (qcj l mi re).1).1 (qc (qcj l mi re).1).2.1+k:=by
  rw [c4,q4,qpu q2]
  refine ⟨rfl,zgp ?_⟩
  obtain ⟨x,hx,hr,p1,p2,p3⟩:=qni q2
  have:=q7d (qpr q5 x hx) hr
  rw [p1,p2,p3] at this
  exact this
 have hall:∃ m,kf l dn dd k mi re f.1 f.2.1 0 0 0 0=(m,0)/\qcw m 0 1/\ln m<=11/\Tws m (f.2.2 * s+v)/\qc m=qc (qbu (qak (qcj l mi re).1 k).1 f.1 f.2.1).1/\(0<dn->qiz m=true/\(ix m 0).DurN=dn/\(ix m 0).DurD=dd):=by
  rw [em] at hm0 ⊢
  by_cases hdn:0<dn
  .rw [zT hdn] at hm0 ⊢
   obtain ⟨w1,w2,w3,w4,w5,w6,w7⟩:=zf0 c1 (by omega) hdn hd c3 hm0
   have nn:=zm (qbu (qak (qcj l mi re).1 k).1 f.1 f.2.1).1
   refine ⟨(qaj (qbu (qak (qcj l mi re).1 k).1 f.1 f.2.1).1 dn dd).1,Prod.ext rfl hm0,w1,by omega,w3,w4,fun _=>⟨?_,w6,w7⟩⟩
   unfold qiz
   rw [w5,Bool.and_true]
   exact decide_eq_true (by omega)
  .rw [zF hdn]
   have z:dn=0:=by omega
   have hv:v=0:=by
    have h2:=hd.2
    rw [z,hdd z] at h2
    omega
   exact ⟨_,rfl,c1,by omega,by rw [hv,Int.add_zero];exact c3,rfl,fun h=>absurd h hdn⟩
 obtain ⟨m,hmm,m1,m2,m3,m4,m5⟩:=hall
 have hckm:=qby m1 (by omega)
 have hsteps:zh l m mi re=(k,true):=by
  unfold zh
  rw [zF (by omega),zT ⟨q2,by rw [m4];exact hfirst.1⟩,m4,hfirst.2]
  exact Prod.ext (by show _=k;omega) rfl
 have hfac:qi l m dn dd=(f.1,f.2.1,true):=by
  obtain ⟨u1,u2⟩:=q6k h (by omega) (q7o hsx)
  obtain ⟨y1,y2⟩:=q6k m1 (by omega) m3
  obtain ⟨x1,x2⟩:=zea u2 (zeb (s:=s) (by omega) (by omega))
  have fb:=(show ∀ f ∈ qmi,1<=f.2.2/\f.2.2<=6 by decide) f hf
  have fs:=qfx (show 0<=f.2.2 by omega) fb.2 (show 0<=s by omega) s2
  obtain ⟨z1,z2⟩:=zkh y2 hd fs.1 (by omega)
  obtain ⟨g1,g2⟩:=zea z2 (zki fs.1 (by omega))
  unfold qi
  rw [zF (by omega),zF (by omega),zF (by omega),g1,g2,x1,x2,zf8 hf s1 s2]
  rfl
 have hmade:q66 l m dn dd mi re=(m,0):=by
  unfold q66
  rw [hsteps,hfac]
  exact hmm
 have htried:qde l m dn dd mi re=true:=by
  unfold qde
  rw [hsteps,hfac,hmade]
  dsimp only
  rw [qsu]
  rfl
 have hcan:qs6 l m dn dd mi re=Canon.mk dn dd k mi re f.1 f.2.1 0 0 0 0:=by
  unfold qs6
  rw [hsteps,hfac]
 rw [hmm]
 dsimp only
 have hmt:kb l m=(qc0 l m 8,0):=by
  unfold kb
  rw [hck,hckm,zF (by simp),zF (by simp)]
 rw [hmt]
 refine ⟨rfl,?_,m2⟩
 by_cases hdn:0<dn
 .obtain ⟨r1,r2,r3⟩:=m5 hdn
  refine qqp (j:=nTr re mi 1) ?_ 8 (by cases re<;>cases mi<;>decide)
  rw [qsc,zT ⟨r1,by rw [r2,r3];exact htried⟩,r2,r3,hcan]
  exact List.mem_singleton.2 rfl
 .have z:dn=0:=by omega
  have z1:=hdd z
  subst z z1
  refine qqp (j:=nTr re mi 0) ?_ 8 (by cases re<;>cases mi<;>decide)
  rw [qow,zT htried,hcan]
  exact List.mem_singleton.2 rfl
theorem q2d {l m:List Event} {c:Canon} (h:c ∈ (kb l m).1):(kf l c.DelayN c.DelayD c.Steps c.Mirror c.Retro c.FactorN c.FactorD c.MensMax c.MensMod c.MensTem c.MensPro).2=0/\qcq (kf l c.DelayN c.DelayD c.Steps c.Mirror c.Retro c.FactorN c.FactorD c.MensMax c.MensMod c.MensTem c.MensPro).1 m=true:=by
 unfold kb at h
 split at h
 .cases h
 .split at h
  .cases h
  .obtain ⟨dn,dd,mi,re,h1,rfl⟩:=q3f 8 (zN _) h
   unfold qde at h1
   simp only [zA,decide_eq_true_eq] at h1
   exact ⟨h1.2.2.1,h1.2.2.2⟩
theorem qpj:∀ {l m:List Event},qcq l m=true->ln l=ln m
 | [],[],_=>rfl
 | [],_::_,h=>by simp [qcq] at h
 | _::_,[],h=>by simp [qcq] at h
 | x::l,y::m,h=>by
  unfold qcq at h
  rw [zA] at h
  rw [qbe,qbe,qpj h.2]
theorem qkq:∀ {l m:List Event} {i:Int},qcq l m=true->0<=i->i<ln l->qeb (ix l i) (ix m i)=true
 | [],_,_,_,h0,h1=>by rw [qgp] at h1;omega
 | _::_,[],_,h,_,_=>by simp [qcq] at h
 | x::l,y::m,i,h,h0,h1=>by
  unfold qcq at h
  rw [zA] at h
  by_cases hi:i=0
  .subst hi;exact h.1
  .have e:i=(i-1)+1:=by omega
   rw [qbe] at h1
   rw [e,qb9 (by omega),qb9 (by omega)]
   exact qkq h.2 (by omega) (by omega)
theorem qub {α:Type} [Inhabited α] {l:List α} {i j:Int} {a:α} (h0:0<=i) (h:i<ln l) (j0:0<=j):ix (l.set i.toNat a) j=if j=i then a else ix l j:=by
 obtain ⟨n,rfl⟩:=Int.eq_ofNat_of_zero_le h0
 obtain ⟨m,rfl⟩:=Int.eq_ofNat_of_zero_le j0
 have hn:n<l.length:=by simp only [ln] at h;omega
 rw [Int.toNat_natCast]
 by_cases hm:m<l.length
 .rw [qk6 (by simpa using hm),qk6 hm,List.getElem_set]
  by_cases e:m=n
  .subst e;rw [zT rfl,zT rfl]
  .rw [zF (fun h=>e h.symm),zF (by omega)]
 .rw [zF (by omega)]
  have e1:ix (l.set n a) (m:Int)=default:=by unfold ix;simp [List.getD,hm]
  have e2:ix l (m:Int)=default:=by unfold ix;simp [List.getD,hm]
  rw [e1,e2]
theorem zca {α:Type} {l:List α} {i:Int} {a:α} (h0:0<=i):fr (l.set i.toNat a) (i+1)=fr l (i+1):=by
 obtain ⟨n,rfl⟩:=Int.eq_ofNat_of_zero_le h0
 have e:((n:Int)+1).toNat=n+1:=by omega
 unfold fr
 rw [e,Int.toNat_natCast,List.drop_set,zT (by omega)]
theorem q6x {α:Type} {l m:List α} {i:Int} (h0:0<=i) (h:fr l i=fr m i):fr l (i+1)=fr m (i+1):=by
 rw [<-zh4 h0 (show (0:Int)<=1 by decide),h,zh4 h0 (by decide)]
theorem qon {α:Type} [Inhabited α] {l m:List α} {i:Int} (h0:0<=i) (h:fr l i=fr m i):ix l i=ix m i:=by
 have e1:ix (fr l i) 0=ix l (i+0):=zh6 h0 (zK _)
 have e2:ix (fr m i) 0=ix m (i+0):=zh6 h0 (zK _)
 rw [Int.add_zero] at e1 e2
 rw [<-e1,<-e2,h]
structure ChInv (M c:List Event) (i n d:Int):Prop where
 i0:0<=i
 i1:i<=ln M
 len:ln c=ln M
 rest:fr c i=fr M i
 done:upto c i++qgs (fr M i) n d=qgs M 0 1
 err:qkj (fr M i) n d=qkj M 0 1
theorem qa6 (M:List Event):ChInv M M 0 0 1:=⟨zK _,zm _,rfl,rfl,rfl,rfl⟩
theorem ze9 {M c:List Event} {i n d:Int} (h:ChInv M c i n d) (hi:i<ln c) (he:(kg n d (ix c i).DurN (ix c i).DurD).2.2=0) :
  ChInv M (c.set i.toNat {ix c i with AtN:=n,AtD:=d}) (i+1) (kg n d (ix c i).DurN (ix c i).DurD).1 (kg n d (ix c i).DurN (ix c i).DurD).2.1:=by
 obtain ⟨i0,i1,len,rest,done,err⟩:=h
 have ex:ix c i=ix M i:=qon i0 rest
 have e1:=qf4 i0 (show i<ln M by omega)
 rw [e1] at done err
 rw [qqe,<-ex] at done
 rw [qxh,<-ex] at err
 rw [zF (by omega)] at err
 refine ⟨by omega,by omega,by rw [qp6];exact len,by rw [zca i0];exact q6x i0 rest,?_,err⟩
 rw [q3k i0 hi,List.append_assoc]
 exact done
theorem zig {M c:List Event} {i n d:Int} (h:ChInv M c i n d) (hi:i<ln c) (he:(kg n d (ix c i).DurN (ix c i).DurD).2.2≠0):qa0 M=([],(kg n d (ix c i).DurN (ix c i).DurD).2.2):=by
 obtain ⟨i0,i1,len,rest,done,err⟩:=h
 have ex:ix c i=ix M i:=qon i0 rest
 rw [qf4 i0 (show i<ln M by omega),qxh,<-ex,zT he] at err
 unfold qa0
 rw [<-err,zT he]
theorem zih {M c:List Event} {i n d:Int} (h:ChInv M c i n d) (hi:ln c<=i):qa0 M=(c,0):=by
 obtain ⟨i0,i1,len,rest,done,err⟩:=h
 rw [qpy (show ln M<=i by omega)] at done err
 have e1:qgs M 0 1=c:=by rw [<-done,q3j hi];exact zJ c
 have e2:qkj M 0 1=0:=err.symm
 unfold qa0
 rw [e2,e1,zF (by simp)]
structure MpInv (f:Event->Event) (g:Event->Int) (l c:List Event) (i:Int):Prop where
 i0:0<=i
 i1:i<=ln l
 len:ln c=ln l
 rest:fr c i=fr l i
 done:upto c i++(fr l i).map f=l.map f
 err:qmc g (fr l i)=qmc g l
theorem qe7 (f:Event->Event) (g:Event->Int) (l:List Event):MpInv f g l l 0:=⟨zK _,zm _,rfl,rfl,rfl,rfl⟩
theorem zgq {f:Event->Event} {g:Event->Int} {l c:List Event} {i:Int} (h:MpInv f g l c i) (hi:i<ln c) (he:g (ix c i)=0):MpInv f g l (c.set i.toNat (f (ix c i))) (i+1):=by
 obtain ⟨i0,i1,len,rest,done,err⟩:=h
 have ex:ix c i=ix l i:=qon i0 rest
 rw [qf4 i0 (show i<ln l by omega)] at done err
 rw [List.map_cons,<-ex] at done
 rw [qwr,<-ex,zF (by omega)] at err
 refine ⟨by omega,by omega,by rw [qp6];exact len,by rw [zca i0];exact q6x i0 rest,?_,err⟩
 rw [q3k i0 hi,List.append_assoc]
 exact done
theorem zju {f:Event->Event} {g:Event->Int} {l c:List Event} {i:Int} (h:MpInv f g l c i) (hi:i<ln c) (he:g (ix c i)≠0):qgm f g l=([],g (ix c i)):=by
 obtain ⟨i0,i1,len,rest,done,err⟩:=h
 have ex:ix c i=ix l i:=qon i0 rest
 rw [qf4 i0 (show i<ln l by omega),qwr,<-ex,zT he] at err
 unfold qgm
 rw [<-err,zT he]
theorem zjv {f:Event->Event} {g:Event->Int} {l c:List Event} {i:Int} (h:MpInv f g l c i) (hi:ln c<=i):c=l.map f/\qgm f g l=qa0 c:=by
 obtain ⟨i0,i1,len,rest,done,err⟩:=h
 rw [qpy (show ln l<=i by omega)] at done err
 have e1:c=l.map f:=by rw [<-done,q3j hi];exact (zJ c).symm
 refine ⟨e1,?_⟩
 have e2:qmc g l=0:=err.symm
 unfold qgm
 rw [e2,zF (by simp),e1]
structure RvInv (l c:List Event) (i j:Int):Prop where
 i0:0<=i
 sum:i+j=ln l-1
 zc3:i<=j+2
 len:ln c=ln l
 out:∀ k,0<=k->k<ln l->k<i∨j<k->ix c k=ix l (ln l-1-k)
 mid:∀ k,i<=k->k<=j->ix c k=ix l k
theorem qux (l:List Event):RvInv l l 0 (ln l-1):=⟨zK _,by omega,by have:=zm l;omega,rfl,fun k h0 h1 h=>by omega,fun _ _ _=>rfl⟩
theorem zhg {l c:List Event} {i j:Int} (h:RvInv l c i j) (hi:i<j):RvInv l ((c.set i.toNat (ix c j)).set j.toNat (ix c i)) (i+1) (j-1):=by
 obtain ⟨i0,sum,zc3,len,out,mid⟩:=h
 have l1:ln (c.set i.toNat (ix c j))=ln l:=by rw [qp6];exact len
 refine ⟨by omega,by omega,by omega,by rw [qp6];exact l1,fun k k0 k1 hk=>?_,fun k k0 k1=>?_⟩
 .rw [qub (by omega) (by omega) k0,qub i0 (by omega) k0]
  by_cases e1:k=j
  .rw [zT e1,mid i (zK _) (by omega)]
   congr 1;omega
  .rw [zF e1]
   by_cases e2:k=i
   .rw [zT e2,mid j (by omega) (zK _)]
    congr 1;omega
   .rw [zF e2]
    exact out k k0 k1 (by omega)
 .rw [qub (by omega) (by omega) (by omega),zF (by omega),qub i0 (by omega) (by omega),zF (by omega)]
  exact mid k (by omega) (by omega)
theorem zj9 {l c:List Event} {i j:Int} (h:RvInv l c i j) (hi:j<=i):c=l.reverse:=by
 obtain ⟨i0,sum,zc3,len,out,mid⟩:=h
 refine q2a (by rw [len];simp [ln]) fun k k0 k1=>?_
 have hr:ix l.reverse k=ix l (ln l-1-k):=by
  obtain ⟨n,rfl⟩:=Int.eq_ofNat_of_zero_le k0
  have hn:n<l.length:=by simp only [ln] at k1 len;omega
  have hm:l.length-1-n<l.length:=by omega
  have e:ln l-1-(n:Int)=((l.length-1-n:Nat):Int):=by simp only [ln];omega
  rw [e,qk6 (by simpa using hn),qk6 hm,List.getElem_reverse]
 rw [hr]
 by_cases hk:k<i∨j<k
 .exact out k k0 (by omega) hk
 .rw [mid k (by omega) (by omega)]
  congr 1;omega
theorem zgf {α:Type} [Inhabited α] {l:List α} {i:Int} {a:α} (h0:0<=i) (h:i<ln l):ix (l.set i.toNat a) i=a:=by rw [qub h0 h h0,zT rfl]
abbrev atX (c:List Event) (i n d:Int):List Event:=c.set i.toNat (Event.mk n d (ix c i).DurN (ix c i).DurD (ix c i).PitchStep (ix c i).PitchOctave (ix c i).PitchAlter (ix c i).Rest (ix c i).Sign (ix c i).Pass)
theorem qpn {M c:List Event} {i n d L:Int} {r:List Event×Int} (hL:ln M=L) (hr:r=qa0 M) (h:ChInv M c i n d) (hi:i<L) :
  0<=i/\L<=ln c/\L<=ln (atX c i n d)/\((kg n d (ix (atX c i n d) i).DurN (ix (atX c i n d) i).DurD).2.2≠0->([]:List Event)=r.1/\(kg n d (ix (atX c i n d) i).DurN (ix (atX c i n d) i).DurD).2.2=r.2)/\
  ((kg n d (ix (atX c i n d) i).DurN (ix (atX c i n d) i).DurD).2.2=0->ChInv M (atX c i n d) (i+1) (kg n d (ix (atX c i n d) i).DurN (ix (atX c i n d) i).DurD).1 (kg n d (ix (atX c i n d) i).DurN (ix (atX c i n d) i).DurD).2.1/\(L-(i+1)).toNat<(L-i).toNat):=by
 have hc:i<ln c:=by have:=h.len;omega
 have e:ix (atX c i n d) i = {ix c i with AtN:=n,AtD:=d}:=zgf h.i0 hc
 rw [e]
 dsimp only
 refine ⟨h.i0,by have:=h.len;omega,by rw [qp6];have:=h.len;omega,fun he=>?_,fun he=>⟨ze9 h hc he,by have:=h.i0;omega⟩⟩
 rw [hr,zig h hc he]
 exact ⟨rfl,rfl⟩
theorem qm1 {M c:List Event} {i n d L:Int} {r:List Event×Int} (hL:ln M=L) (hr:r=qa0 M) (h:ChInv M c i n d) (hi:L<=i):L=ln c/\c=r.1/\(0:Int)=r.2:=by
 have:=h.len
 rw [hr,zih h (by omega)]
 exact ⟨by omega,rfl,rfl⟩
theorem q47 {f:Event->Event} {g:Event->Int} {l c:List Event} {i:Int} {r:List Event×Int} (hr:r=qgm f g l) (h:MpInv f g l c i) (hi:i<ln l) :
  0<=i/\ln l<=ln c/\(g (ix c i)≠0->([]:List Event)=r.1/\g (ix c i)=r.2)/\(g (ix c i)=0->MpInv f g l (c.set i.toNat (f (ix c i))) (i+1)/\(ln l-(i+1)).toNat<(ln l-i).toNat):=by
 have hc:i<ln c:=by have:=h.len;omega
 refine ⟨h.i0,by have:=h.len;omega,fun he=>?_,fun he=>⟨zgq h hc he,by have:=h.i0;omega⟩⟩
 rw [hr,zju h hc he]
 exact ⟨rfl,rfl⟩
theorem q48 {f:Event->Event} {g:Event->Int} {l c:List Event} {i:Int} {r:List Event×Int} (hr:r=qgm f g l) (h:MpInv f g l c i) (hi:ln l<=i):c=l.map f/\r=qa0 (l.map f):=by
 obtain ⟨h1,h2⟩:=zjv h (by have:=h.len;omega)
 exact ⟨h1,by rw [hr,h2,h1]⟩
def qg8 (a0:List Time) (i:Int):Prop:=0<=i/\i<=ln a0/\j4 (fr a0 i)=j4 a0
def qgb (a0:List Time) (i:Int):Nat:=(ln a0-i).toNat
def qjy (a0 a1 a2 a3 _ _ _:Int) (_:Bool) (_ _:Int) (i:Int):Prop:=0<=i/\i<=2/\(1<=i->qe a0 a1=0)/\(2<=i->qe a2 a3=0)
def qgj (_ _ _ _ _ _ _:Int) (_:Bool) (_ _:Int) (i:Int):Nat:=(2-i).toNat
def qg5 (a0:List Event) (i n d:Int):Prop:=0<=i/\i<=ln a0/\qb6 (fr a0 i) i n d=qb6 a0 0 0 1
def qf7 (a0:List Event) (i _ _:Int):Nat:=(ln a0-i).toNat
def qol (a b x y:Int):Prop:=0<=x/\0<=y/\qy x y=qy a b
def ql2 (_ _ _ y:Int):Nat:=y.toNat
def qdk (a:List Int) (most:Int) (o:List Event) (i n d:Int):Prop:=0<=i/\i<=ln a/\i<=most/\ln o=i/\qxz n d i/\o++qf2 most (fr a i) i n d=zz a most
def qbg (a:List Int) (_:Int) (_:List Event) (i _ _:Int):Nat:=(ln a-i).toNat
def qx7 (l:List Event) (dn dd k:Int) (mi re:Bool) (fn fd:Int) (i:Int):List Event×Int:=
 if i<=0 then (l,0) else if i=1 then (if re=true then zq l else (l,0)) else if i=2 then qcj l mi re else if i=3 then qcd (qcj l mi re) fun a=>qak a k
 else if i=4 then qcd (qcd (qcj l mi re) fun a=>qak a k) fun b=>qbu b fn fd
 else qcd (qcd (qcd (qcj l mi re) fun a=>qak a k) fun b=>qbu b fn fd) fun c=>if 0<dn then qaj c dn dd else (c,0)
def qnp (a b c d:Int):Prop:=0<=a/\a<=1099511627776/\1<=b/\b<=1048576/\0<=c/\c<=1099511627776/\1<=d/\d<=1099511627776/\qy a b=1/\qy c d=1
def qbc (a0:List Event) (i j:Int) (c:List Event):Prop:=RvInv a0 c i j
def qf9 (a0:List Event) (i _:Int) (_:List Event):Nat:=(ln a0-i).toNat
def qbd (a0:List Event) (i:Int) (c:List Event) (n d:Int):Prop:=ChInv a0.reverse c i n d
def qi3 (a0:List Event) (i:Int) (_:List Event) (_ _:Int):Nat:=(ln a0-i).toNat
def j9 (a0:List Event) (a1 a2 a3 i:Int) (c:List Event):Prop:=MpInv (qah fun x y z=>qdt x y z a1 a2 a3) (qkk fun x y z=>qdt x y z a1 a2 a3) a0 c i
def qc8 (a0:List Event) (_ _ _ i:Int) (_:List Event):Nat:=(ln a0-i).toNat
def qav (a0:List Event) (a1 a2 a3 i:Int) (c:List Event) (n d:Int):Prop:=ChInv (a0.map (qah fun x y z=>qdt x y z a1 a2 a3)) c i n d
def qh9 (a0:List Event) (_ _ _ i:Int) (_:List Event) (_ _:Int):Nat:=(ln a0-i).toNat
def qbb (a0:List Event) (a1 i:Int) (c:List Event):Prop:=MpInv (qah fun x y z=>qbw x y z a1) (qkk fun x y z=>qbw x y z a1) a0 c i
def qe6 (a0:List Event) (_ i:Int) (_:List Event):Nat:=(ln a0-i).toNat
def qb2 (a0:List Event) (a1 i:Int) (c:List Event) (n d:Int):Prop:=ChInv (a0.map (qah fun x y z=>qbw x y z a1)) c i n d
def qj6 (a0:List Event) (_ i:Int) (_:List Event) (_ _:Int):Nat:=(ln a0-i).toNat
def qaf (a0:List Event) (a1 a2 i:Int) (c:List Event):Prop:=MpInv (qzz a1 a2) (fun x=>(qcu x.DurN x.DurD a1 a2).2.2) a0 c i
def qgq (a0:List Event) (_ _ i:Int) (_:List Event):Nat:=(ln a0-i).toNat
def qag (a0:List Event) (a1 a2 i:Int) (c:List Event) (n d:Int):Prop:=ChInv (a0.map (qzz a1 a2)) c i n d
def qgr (a0:List Event) (_ _ i:Int) (_:List Event) (_ _:Int):Nat:=(ln a0-i).toNat
def qb8 (a0:List Event) (a1 a2 i:Int) (c:List Event) (n d:Int):Prop:=ChInv (⟨0,0,a1,a2,0,0,0,true,0,0⟩::a0) c i n d
def qd4 (a0:List Event) (a1 a2 i:Int) (_:List Event) (_ _:Int):Nat:=(ln (Event.mk 0 0 a1 a2 0 0 0 true 0 0::a0)-i).toNat
def qg7 (a0:List Event) (i:Int):Prop:=0<=i/\i<=ln a0/\qc (fr a0 i)=qc a0
def qga (a0:List Event) (i:Int):Nat:=(ln a0-i).toNat
def za (a0:List Event) (a1 a2 a3:Int) (a4 a5:Bool) (a6 a7 _ _ _ _ i:Int) (l:List Event) (e:Int):Prop:=0<=i/\i<=5/\(l,e)=qx7 a0 a1 a2 a3 a4 a5 a6 a7 i/\ln l<=2000+i/\(e≠0->l=[])
def qf (_:List Event) (_ _ _:Int) (_ _:Bool) (_ _ _ _ _ _ i:Int) (_:List Event) (_:Int):Nat:=(5-i).toNat
def qbn (m:List Event):List Time:=[Time.mk 0 1]++(if qiz m=true then [Time.mk (ix m 0).DurN (ix m 0).DurD] else [])
def nOf (re mi:Bool) (i:Int):Int:=(if re=true then 4 else 0)+(if mi=true then 2 else 0)+i
def zs (a0:List Event) (a1 a2 a3:Int) (a4 a5:Bool) (a6 a7 _ _ _ _:Int) (_:List Event) (i:Int) (l:List Event) (e:Int):Prop:=0<=i/\i<=2/\(l,e)=qx7 a0 a1 a2 a3 a4 a5 a6 a7 i/\ln l<=2000+i/\(e≠0->l=[])
def zg (_:List Event) (_ _ _:Int) (_ _:Bool) (_ _ _ _ _ _:Int) (_:List Event) (i:Int) (_:List Event) (_:Int):Nat:=(2-i).toNat
def qe3 (_ a1:List Event) (y:List Time):Prop:=y=qbn a1
def zj (a0 a1:List Event) (out:List Canon) (i:Int) (re mi:Bool):Prop:=0<=i/\i<=ln (qbn a1)/\out=qc0 a0 a1 (nOf re mi i).toNat
def ze (_ a1:List Event) (_:List Canon) (i:Int) (_ _:Bool):Nat:=(ln (qbn a1)-i).toNat
def qg6 (_ _:List Event) (i:Int) (v w:List Event):Prop:=0<=i/\i<=ln v/\∀ j,0<=j->j<i->qeb (ix v j) (ix w j)=true
def qf8 (_ _:List Event) (i:Int) (v _:List Event):Nat:=(ln v-i).toNat
def qdl (a0:List Int) (a1:Int) (y:List Event):Prop:=y=(mkC (zz a0 10) (zd a1)).1/\(mkC (zz a0 10) (zd a1)).2=0/\0<ln (zz a0 10)/\(ix (zz a0 10) 0).Rest=false
def qax (a0:List Int) (a1:Int) (b:Bool) (i:Int):Prop:=0<=i/\i<=ln (kb (zz a0 10) (mkC (zz a0 10) (zd a1)).1).1/\∀ j,0<=j->j<i->ix (kb (zz a0 10) (mkC (zz a0 10) (zd a1)).1).1 j=zd a1->b=true
def ky (a0:List Int) (a1:Int) (_:Bool) (i:Int):Nat:=(ln (kb (zz a0 10) (mkC (zz a0 10) (zd a1)).1).1-i).toNat
def qdm (a0:List Int) (a1:Int) (k:Int):Prop:=0<=k/\k<=ln (mkC (zz a0 10) (zd a1)).1
def qcy (a0:List Int) (a1:Int) (k:Int):Nat:=(ln (mkC (zz a0 10) (zd a1)).1-k).toNat
end Go.Proofs.YtcnoipglgpkpeaaGreatDoor
