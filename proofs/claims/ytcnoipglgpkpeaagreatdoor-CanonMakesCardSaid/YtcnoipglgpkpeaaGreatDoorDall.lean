import Derived.Test.YtcnoipglgpkpeaaGreatDoorNat
import Derived.Test.YtcnoipglgpkpeaaGreatDoorM6
namespace Go.Proofs.YtcnoipglgpkpeaaGreatDoor
open Go Go.E2 Go.E3
set_option maxRecDepth 100000
def zd (a b:Int):Int:=(Nat.gcd a.toNat b.toNat:Nat)
theorem j9 (a b:Int):0<=zd a b:=Int.natCast_nonneg _
theorem qzc {a:Int} (h:0<=a):zd a 0=a:=by
 unfold zd
 rw [Int.toNat_zero,Nat.gcd_zero_right]
 omega
theorem qzb {a b:Int} (ha:0<=a) (hb:0<=b):zd b (Int.tmod a b)=zd a b:=by
 unfold zd
 obtain ⟨m,rfl⟩:=Int.eq_ofNat_of_zero_le ha
 obtain ⟨n,rfl⟩:=Int.eq_ofNat_of_zero_le hb
 have:Int.tmod (m:Int) (n:Int)=((m % n:Nat):Int):=by rw [<-Int.ofNat_tmod]
 rw [this,Int.toNat_natCast,Int.toNat_natCast,Int.toNat_natCast,Nat.gcd_comm m n,Nat.gcd_comm n (m % n),<-Nat.gcd_rec]
theorem qgy {a b:Int} (hb:1<=b):1<=zd a b:=by
 unfold zd
 have:0<Nat.gcd a.toNat b.toNat:=Nat.gcd_pos_of_pos_right _ (by omega)
 omega
theorem qvq {a b:Int} (hb:0<=b):zd a b * b.tdiv (zd a b)=b:=by
 have h:zd a b ∣ b:=by
  unfold zd
  have:=Nat.gcd_dvd_right a.toNat b.toNat
  have h2:((Nat.gcd a.toNat b.toNat:Nat):Int) ∣ ((b.toNat:Nat):Int):=Int.natCast_dvd_natCast.2 this
  rwa [Int.toNat_of_nonneg hb] at h2
 exact Int.mul_tdiv_cancel' h
theorem q2n {a b:Int} (ha:0<=a) (hb:0<b):0<=Int.tmod a b/\Int.tmod a b<b:=⟨Int.tmod_nonneg _ ha,Int.tmod_lt_of_pos _ hb⟩
theorem j4 {a b:Int} (ha:0<=a) (hb:0<=b):0<=a.tdiv b/\a.tdiv b<=a:=by
 refine ⟨Int.tdiv_nonneg ha hb,?_⟩
 rw [Int.tdiv_eq_ediv_of_nonneg ha]
 exact Int.ediv_le_self _ ha
theorem qf9 {a b A B:Int} (h0:0<=a) (h1:a<=A) (h2:0<=b) (h3:b<=B):0<=a * b/\a * b<=A * B:=
 ⟨Int.mul_nonneg h0 h2,Int.mul_le_mul h1 h3 h2 (Int.le_trans h0 h1)⟩
theorem qwb {a b:Int} (h0:1<=a) (h1:1<=b):1<=a * b:=by
 have:=Int.mul_le_mul h0 h1 (by omega) (by omega)
 omega
def qd (n d:Int):Int:=if n<0∨1099511627776<n∨d<1∨1048576<d then 2 else if 1<zd n d then 3 else 0
def ofT (n d:Int):Int×Int×Int:=if 1099511627776<n.tdiv (zd n d)∨1048576<d.tdiv (zd n d) then (0,0,4) else (n.tdiv (zd n d),d.tdiv (zd n d),0)
def qaf:List Time->Int
 | []=>0
 | x::l=>if qd x.N x.D≠0 then qd x.N x.D else qaf l
def zs (a b c d:Int):Int×Int×Int:=if qd a b≠0 then (0,0,qd a b) else if qd c d≠0 then (0,0,qd c d) else ofT (a * d+c * b) (b * d)
def zsg (a b c d:Int):Int×Int:=if qd a b≠0 then (0,qd a b) else if qd c d≠0 then (0,qd c d) else if a * d<c * b then (-1,0) else if c * b<a * d then (1,0) else (0,0)
def qi (a b c:Int):Int:=if a<0∨6<a∨b<0∨8<b∨c < -1∨1<c then 2 else 0
theorem j6 {n d:Int} (h:qd n d=0):0<=n/\n<=1099511627776/\1<=d/\d<=1048576:=by
 unfold qd at h
 split at h
 .omega
 .omega
theorem qf4 (a b c d:Int):qaf [Time.mk a b,Time.mk c d]=if qd a b≠0 then qd a b else qd c d:=by
 simp only [qaf]
 split
 .rfl
 .split
  .rfl
  .omega
def qcu (x:Event):Int:=
 if qd x.AtN x.AtD≠0 then qd x.AtN x.AtD else if qd x.DurN x.DurD≠0 then qd x.DurN x.DurD else if x.DurN=0 then 2
 else if x.Rest=true/\(x.PitchStep≠0∨x.PitchOctave≠0∨x.PitchAlter≠0) then 3
 else if x.Rest=false/\qi x.PitchStep x.PitchOctave x.PitchAlter≠0 then qi x.PitchStep x.PitchOctave x.PitchAlter
 else if x.Sign<0∨x.Pass<0 then 2 else 0
def qg4 (x:Event) (n d:Int):Int:=
 if qcu x≠0 then qcu x else if x.AtN≠n∨x.AtD≠d then 6 else (zs x.AtN x.AtD x.DurN x.DurD).2.2
def qbp:List Event->Int->Int->Int->Int×Int
 | [],_,_,_=>(0,0)
 | x::l,i,n,d=>if qg4 x n d≠0 then (qg4 x n d,i) else qbp l (i+1) (zs x.AtN x.AtD x.DurN x.DurD).1 (zs x.AtN x.AtD x.DurN x.DurD).2.1
def qe (l:List Event):Int×Int:=if 2000<ln l then (11,0) else qbp l 0 0 1
def ze (l:List Event):Int×Int×Int:=
 if (qe l).1≠0 then (0,0,(qe l).1) else if ln l=0 then (0,1,0) else zs (ix l (ln l-1)).AtN (ix l (ln l-1)).AtD (ix l (ln l-1)).DurN (ix l (ln l-1)).DurD
def cm (l:List Event) (tn td j:Int):Int:=(zsg (ix l j).AtN (ix l j).AtD tn td).1
theorem q4u {a b:Event} (h1:a.AtN=b.AtN) (h2:a.AtD=b.AtD) (h3:a.DurN=b.DurN) (h4:a.DurD=b.DurD) (h5:a.PitchStep=b.PitchStep) (h6:a.PitchOctave=b.PitchOctave) (h7:a.PitchAlter=b.PitchAlter) (h8:a.Rest=b.Rest) (h9:a.Sign=b.Sign) (h10:a.Pass=b.Pass):a=b:=by
 cases a;cases b
 simp only at h1 h2 h3 h4 h5 h6 h7 h8 h9 h10
 subst h1 h2 h3 h4 h5 h6 h7 h8 h9 h10
 rfl
def qtm (a b:Event):Bool:=a.AtN == b.AtN&&(a.AtD == b.AtD&&(a.DurN == b.DurN&&(a.DurD == b.DurD&&(a.PitchStep == b.PitchStep&&(a.PitchOctave == b.PitchOctave&&(a.PitchAlter == b.PitchAlter&&(a.Rest == b.Rest&&(a.Sign == b.Sign&&a.Pass == b.Pass))))))))
def qa5:List Event->List Event->Bool
 | [],[]=>true
 | x::l,y::m=>qtm x y&&qa5 l m
 | _,_=>false
theorem q59 {a b:Event}:qtm a b=true↔a=b:=by
 constructor
 .intro h
  simp only [qtm,zA,beq_iff_eq] at h
  obtain ⟨c1,c2,c3,c4,c5,c6,c7,c8,c9,c10⟩:=h
  exact q4u c1 c2 c3 c4 c5 c6 c7 c8 c9 c10
 .intro h
  subst h
  simp [qtm]
theorem qof:∀ {a b:List Event},qa5 a b=true↔a=b
 | [],[]=>by simp [qa5]
 | [],_::_=>by simp [qa5]
 | _::_,[]=>by simp [qa5]
 | x::l,y::m=>by simp only [qa5,zA,q59,qof (a:=l) (b:=m),List.cons.injEq]
theorem qwt {a b:List Event} (h:a=b):qa5 a b=true:=qof.2 h
theorem qz8 {a b:List Event} (h:a≠b):qa5 a b=false:=by rw [<-Bool.not_eq_true,qof];exact h
def qgt:List Event->Int->Int->Prop
 | [],_,_=>True
 | x::l,n,d=>x.AtN=n/\x.AtD=d/\qcu x=0/\(zs n d x.DurN x.DurD).2.2=0/\qgt l (zs n d x.DurN x.DurD).1 (zs n d x.DurN x.DurD).2.1
theorem q39:∀ {l:List Event} {i n d:Int},(qbp l i n d).1=0->qgt l n d
 | [],_,_,_,_=>trivial
 | x::l,i,n,d,h=>by
  simp only [qbp] at h
  by_cases h1:qg4 x n d≠0
  .rw [zT h1] at h;exact absurd h h1
  .rw [zF h1] at h
   have h1':qg4 x n d=0:=by omega
   unfold qg4 at h1'
   by_cases h2:qcu x≠0
   .rw [zT h2] at h1';exact absurd h1' h2
   .rw [zF h2] at h1'
    by_cases h3:x.AtN≠n∨x.AtD≠d
    .rw [zT h3] at h1';omega
    .rw [zF h3] at h1'
     have e1:x.AtN=n:=by omega
     have e2:x.AtD=d:=by omega
     rw [e1,e2] at h1' h
     exact ⟨e1,e2,by omega,h1',q39 h⟩
def qam (a b c d:Int):Int×Int×Int:=if qd a b≠0 then (0,0,qd a b) else if qd c d≠0 then (0,0,qd c d) else if a * d<c * b then (0,0,2) else ofT (a * d-c * b) (b * d)
def ku (n d m c:Int):Int×Int×Int:=
 if (0<n.tdiv (zd n c)/\Int.tdiv 1099511627776 (n.tdiv (zd n c))<m.tdiv (zd m d))∨1048576<d.tdiv (zd m d) * c.tdiv (zd n c) then (0,0,4)
 else (n.tdiv (zd n c) * m.tdiv (zd m d),d.tdiv (zd m d) * c.tdiv (zd n c),0)
def qal (a b c d:Int):Int×Int×Int:=if qd a b≠0 then (0,0,qd a b) else if qd c d≠0 then (0,0,qd c d) else ku a b c d
def qbb (a b c d:Int):Int×Int×Int:=if qd a b≠0 then (0,0,qd a b) else if qd c d≠0 then (0,0,qd c d) else if c=0 then (0,0,5) else ku a b d c
def qla (n al:Int):Int×Int×Int×Int:=if n<0∨62<n∨al < -1∨1<al then (0,0,0,2) else (Int.tmod n 7,Int.tdiv n 7,al,0)
def qbl (st oc al k:Int):Int×Int×Int×Int:=if qi st oc al≠0 then (0,0,0,qi st oc al) else if k < -62∨62<k then (0,0,0,2) else qla (7 * oc+st+k) al
def qa2 (st oc al s2 o2 a2:Int):Int×Int×Int×Int:=if qi st oc al≠0 then (0,0,0,qi st oc al) else if qi s2 o2 a2≠0 then (0,0,0,qi s2 o2 a2) else qla (2 * (7 * o2+s2)-(7 * oc+st)) (-al)
def qg3:List Event->Int->Int->List Event
 | [],_,_=>[]
 | x::l,n,d=>{x with AtN:=n,AtD:=d}::qg3 l (zs n d x.DurN x.DurD).1 (zs n d x.DurN x.DurD).2.1
def qjq:List Event->Int->Int->Int
 | [],_,_=>0
 | x::l,n,d=>if (zs n d x.DurN x.DurD).2.2≠0 then (zs n d x.DurN x.DurD).2.2 else qjq l (zs n d x.DurN x.DurD).1 (zs n d x.DurN x.DurD).2.1
def zy (l:List Event):List Event×Int:=if qjq l 0 1≠0 then ([],qjq l 0 1) else (qg3 l 0 1,0)
def za (l:List Event):List Event×Int:=if (qe l).1≠0 then ([],(qe l).1) else zy l.reverse
def jz (f:Int->Int->Int->Int×Int×Int×Int) (x:Event):Event:=
 if x.Rest=true then x else {x with PitchStep:=(f x.PitchStep x.PitchOctave x.PitchAlter).1,PitchOctave:=(f x.PitchStep x.PitchOctave x.PitchAlter).2.1,PitchAlter:=(f x.PitchStep x.PitchOctave x.PitchAlter).2.2.1}
def qiu (f:Int->Int->Int->Int×Int×Int×Int) (x:Event):Int:=if x.Rest=true then 0 else (f x.PitchStep x.PitchOctave x.PitchAlter).2.2.2
def qny (g:Event->Int):List Event->Int
 | []=>0
 | x::l=>if g x≠0 then g x else qny g l
def qfa (f:Event->Event) (g:Event->Int) (l:List Event):List Event×Int:=if qny g l≠0 then ([],qny g l) else zy (l.map f)
def qaz (l:List Event) (s o a:Int):List Event×Int:=
 if (qe l).1≠0 then ([],(qe l).1) else if qi s o a≠0 then ([],qi s o a) else qfa (jz fun x y z=>qa2 x y z s o a) (qiu fun x y z=>qa2 x y z s o a) l
def jr (l:List Event) (k:Int):List Event×Int:=
 if (qe l).1≠0 then ([],(qe l).1) else qfa (jz fun x y z=>qbl x y z k) (qiu fun x y z=>qbl x y z k) l
def qhf (n d:Int):Int:=if qd n d≠0 then qd n d else if n=0 then 5 else 0
def q6g (n d:Int) (x:Event):Event:={x with DurN:=(qal x.DurN x.DurD n d).1,DurD:=(qal x.DurN x.DurD n d).2.1}
def qbn (l:List Event) (n d:Int):List Event×Int:=
 if (qe l).1≠0 then ([],(qe l).1) else if qhf n d≠0 then ([],qhf n d) else qfa (q6g n d) (fun x=>(qal x.DurN x.DurD n d).2.2) l
def jq (l:List Event) (n d:Int):List Event×Int:=
 if (qe l).1≠0 then ([],(qe l).1) else if qhf n d≠0 then ([],qhf n d) else if 2000<=ln l then ([],11) else zy (⟨0,0,n,d,0,0,0,true,0,0⟩::l)
def qg0 (a b c d:Int):Int:=if (a=2∨a=3)/\(b=2∨b=3)/\(c=2∨c=3)/\(d=2∨d=3) then 0 else 12
def qjl (dn dd k fn fd m1 m2 m3 m4:Int):Int:=
 if qd dn dd≠0 then qd dn dd else if k < -14∨14<k then 2 else if qd fn fd≠0 then qd fn fd else if fn=0 then 5
 else if m1=0/\m2=0/\m3=0/\m4=0 then 0 else qg0 m1 m2 m3 m4
def qc:List Event->Int×Int×Int×Bool
 | []=>(0,0,0,false)
 | x::l=>if x.Rest=true then qc l else (x.PitchStep,x.PitchOctave,x.PitchAlter,true)
def qbf (r:List Event×Int) (f:List Event->List Event×Int):List Event×Int:=if r.2≠0 then ([],r.2) else f r.1
def z5 (l:List Event) (mi re:Bool):List Event×Int:=
 qbf (if re=true then za l else (l,0)) fun m=>if mi=true/\(qc m).2.2.2=true then qaz m (qc m).1 (qc m).2.1 (qc m).2.2.1 else (m,0)
def zr (l:List Event) (dn dd k:Int) (mi re:Bool) (fn fd m1 m2 m3 m4:Int):List Event×Int:=
 if (qe l).1≠0 then ([],(qe l).1) else if qjl dn dd k fn fd m1 m2 m3 m4≠0 then ([],qjl dn dd k fn fd m1 m2 m3 m4)
 else qbf (z5 l mi re) fun a=>qbf (jr a k) fun b=>qbf (qbn b fn fd) fun c=>if 0<dn then jq c dn dd else (c,0)
def tT (n d:Int):Int×Int:=(n.tdiv (zd n d),d.tdiv (zd n d))
abbrev zbk:List Int:=[6,12,3,18,24,9,36,4,8]
def sxt (s:Int):Int×Int:=tT s 6
def qir (s o:Int):Int:=7 * o+s
abbrev qpf:List Int:=[0,2,4,5,7,9,11]
def qgh (s o a:Int):Int:=12 * o+ix qpf s+a
def qa1 (s o a s2 o2 a2:Int):Int×Int×Int:=
 if qi s o a≠0 then (0,0,qi s o a) else if qi s2 o2 a2≠0 then (0,0,qi s2 o2 a2) else (qir s2 o2-qir s o,qgh s2 o2 a2-qgh s o a,0)
def qbt (n a:Int):Int:=12 * Int.tdiv n 7+ix qpf (Int.tmod n 7)+a
def qjj (l:List Event) (n d:Int):Int:=if (qe l).1≠0 then (qe l).1 else qhf n d
def q2g (a b:Canon):Bool:=decide (a.DelayN=b.DelayN/\a.DelayD=b.DelayD/\a.Steps=b.Steps/\a.Mirror=b.Mirror/\a.Retro=b.Retro/\a.FactorN=b.FactorN/\a.FactorD=b.FactorD/\a.MensMax=b.MensMax/\a.MensMod=b.MensMod/\a.MensTem=b.MensTem/\a.MensPro=b.MensPro)
def qcd:List Canon->List Canon->Bool
 | [],[]=>true
 | x::l,y::m=>q2g x y&&qcd l m
 | _,_=>false
def zh (l m:List Event) (mi re:Bool):Int×Bool:=
 if (z5 l mi re).2≠0 then (0,false)
 else if (qc (z5 l mi re).1).2.2.2=true/\(qc m).2.2.2=true then (qir (qc m).1 (qc m).2.1-qir (qc (z5 l mi re).1).1 (qc (z5 l mi re).1).2.1,true)
 else (0,true)
def qm (l m:List Event) (dn dd:Int):Int×Int×Bool:=
 if (ze l).2.2≠0 then (0,0,false) else if (ze m).2.2≠0 then (0,0,false) else if (qam (ze m).1 (ze m).2.1 dn dd).2.2≠0 then (0,0,false)
 else ((qbb (qam (ze m).1 (ze m).2.1 dn dd).1 (qam (ze m).1 (ze m).2.1 dn dd).2.1 (ze l).1 (ze l).2.1).1,(qbb (qam (ze m).1 (ze m).2.1 dn dd).1 (qam (ze m).1 (ze m).2.1 dn dd).2.1 (ze l).1 (ze l).2.1).2.1,
  decide ((qbb (qam (ze m).1 (ze m).2.1 dn dd).1 (qam (ze m).1 (ze m).2.1 dn dd).2.1 (ze l).1 (ze l).2.1).2.2=0))
def qc7 (a b:Event):Bool:=decide (a.DurN=b.DurN/\a.DurD=b.DurD/\a.Rest=b.Rest/\a.PitchStep=b.PitchStep/\a.PitchOctave=b.PitchOctave/\a.PitchAlter=b.PitchAlter)
def jd:List Event->List Event->Bool
 | [],[]=>true
 | x::l,y::m=>qc7 x y&&jd l m
 | _,_=>false
def qql (l m:List Event) (dn dd:Int) (mi re:Bool):Canon:=⟨dn,dd,(zh l m mi re).1,mi,re,(qm l m dn dd).1,(qm l m dn dd).2.1,0,0,0,0⟩
def zhw (l m:List Event) (dn dd:Int) (mi re:Bool):List Event×Int:=zr l dn dd (zh l m mi re).1 mi re (qm l m dn dd).1 (qm l m dn dd).2.1 0 0 0 0
def qdb (l m:List Event) (dn dd:Int) (mi re:Bool):Bool:=
 (zh l m mi re).2&&((qm l m dn dd).2.2&&(decide ((zhw l m dn dd mi re).2=0)&&jd (zhw l m dn dd mi re).1 m))
def qiw (m:List Event):Bool:=decide (0<ln m)&&(ix m 0).Rest
def ql9 (l m:List Event) (n:Int):List Canon:=
 if Int.tmod n 2=1 then (if qiw m=true/\qdb l m (ix m 0).DurN (ix m 0).DurD (decide (Int.tmod (Int.tdiv n 2) 2=1)) (decide (Int.tdiv n 4=1))=true then [qql l m (ix m 0).DurN (ix m 0).DurD (decide (Int.tmod (Int.tdiv n 2) 2=1)) (decide (Int.tdiv n 4=1))] else [])
 else if qdb l m 0 1 (decide (Int.tmod (Int.tdiv n 2) 2=1)) (decide (Int.tdiv n 4=1))=true then [qql l m 0 1 (decide (Int.tmod (Int.tdiv n 2) 2=1)) (decide (Int.tdiv n 4=1))] else []
def qgs (l m:List Event):Nat->List Canon
 | 0=>[]
 | n+1=>qgs l m n++ql9 l m n
def ky (l m:List Event):List Canon×Int:=if (qe l).1≠0 then ([],(qe l).1) else if (qe m).1≠0 then ([],(qe m).1) else (qgs l m 8,0)
end Go.Proofs.YtcnoipglgpkpeaaGreatDoor
namespace Go.Proofs.YtcnoipglgpkpeaaGreatDoor
open Go Go.E2 Go.E3
set_option maxRecDepth 100000
theorem zel {n d:Int} (h0:0<=n) (h1:1<=d) (h:(ofT n d).2.2=0):qd (ofT n d).1 (ofT n d).2.1=0:=by
 unfold ofT at h ⊢
 split at h
 .simp at h
 .rename_i hno
  rw [zF hno]
  obtain ⟨N,rfl⟩:=Int.eq_ofNat_of_zero_le h0
  obtain ⟨D,rfl⟩:=Int.eq_ofNat_of_zero_le (show 0<=d by omega)
  have hD:0<D:=by omega
  have hg:0<Nat.gcd N D:=Nat.gcd_pos_of_pos_right _ hD
  have e:zd (N:Int) (D:Int)=((Nat.gcd N D:Nat):Int):=by simp [zd]
  rw [e] at hno ⊢
  have e1:Int.tdiv (N:Int) ((Nat.gcd N D:Nat):Int)=((N / Nat.gcd N D:Nat):Int):=(Int.ofNat_tdiv _ _).symm
  have e2:Int.tdiv (D:Int) ((Nat.gcd N D:Nat):Int)=((D / Nat.gcd N D:Nat):Int):=(Int.ofNat_tdiv _ _).symm
  rw [e1,e2] at hno ⊢
  have hd:0<D / Nat.gcd N D:=Nat.div_pos (Nat.le_of_dvd hD (Nat.gcd_dvd_right N D)) hg
  have hc:=Nat.gcd_div_gcd_div_gcd_of_pos_right (n:=N) hD
  revert hno hc hd
  generalize N / Nat.gcd N D=p
  generalize D / Nat.gcd N D=q
  intro hno hd hc
  show qd (p:Int) (q:Int)=0
  have hg1:zd (p:Int) (q:Int)=1:=by simp [zd,hc]
  unfold qd
  rw [zF (by omega),hg1,zF (by omega)]
theorem zkc {a b c d:Int} (h1:qd a b=0) (h2:qd c d=0):zs a b c d=ofT (a * d+c * b) (b * d):=by
 unfold zs
 rw [zF (by omega),zF (by omega)]
theorem znx {a0 a1 a2 a3:Int} (h1:qd a0 a1=0) (h2:qd a2 a3=0):I64 (a0 * a3)/\I64 (a2 * a1)/\I64 ((a0 * a3)+(a2 * a1))/\I64 (a1 * a3)/\
  (0<=((a0 * a3)+(a2 * a1))/\1<=(a1 * a3)/\((a0 * a3)+(a2 * a1))<=4611686018427387904/\(a1 * a3)<=4611686018427387904)/\I64 ((a0 * a3)-(a2 * a1)):=by
 have b1:=j6 h1
 have b2:=j6 h2
 have p1:=qf9 b1.1 b1.2.1 (show 0<=a3 by omega) b2.2.2.2
 have p2:=qf9 b2.1 b2.2.1 (show 0<=a1 by omega) b1.2.2.2
 have p3:=qwb b1.2.2.1 b2.2.2.1
 have p4:=qf9 (show 0<=a1 by omega) b1.2.2.2 (show 0<=a3 by omega) b2.2.2.2
 omega
theorem zdb {a b c d:Int} (h1:qd a b=0) (h2:qd c d=0) (h:(zs a b c d).2.2=0):qd (zs a b c d).1 (zs a b c d).2.1=0:=by
 obtain ⟨_,_,_,_,⟨b5,b6,_⟩,_⟩:=znx h1 h2
 rw [zkc h1 h2] at h ⊢
 exact zel b5 b6 h
theorem qf1:∀ {l:List Event} {n d:Int},qgt l n d->∀ x ∈ l,qcu x=0
 | [],_,_,_,x,hx=>by cases hx
 | y::l,n,d,⟨_,_,h1,_,h2⟩,x,hx=>by
  rcases zD.1 hx with rfl | hx
  .exact h1
  .exact qf1 h2 x hx
theorem qao {l:List Event} (h:(qe l).1=0):qgt l 0 1/\ln l<=2000:=by
 unfold qe at h
 split at h
 .simp at h
 .exact ⟨q39 h,by omega⟩
theorem q38:∀ {l:List Event} {i n d:Int},qgt l n d->qbp l i n d=(0,0)
 | [],_,_,_,_=>rfl
 | x::l,i,n,d,⟨h1,h2,h3,h4,h5⟩=>by
  have e:qg4 x n d=0:=by
   unfold qg4
   rw [zF (by omega),zF (by omega),h1,h2,h4]
  unfold qbp
  rw [zF (by omega),h1,h2]
  exact q38 h5
theorem qr9 {l:List Event} (h:qgt l 0 1) (hl:ln l<=2000):qe l=(0,0):=by
 unfold qe
 rw [zF (by omega)]
 exact q38 h
theorem qko {α β:Type} (f:α->β) (l:List α):ln (l.map f)=ln l:=by simp [ln]
theorem qin {α:Type} (l:List α):ln l.reverse=ln l:=by simp [ln]
theorem qmt {x:Event}:qcu x=0↔qd x.AtN x.AtD=0/\qd x.DurN x.DurD=0/\x.DurN≠0/\¬(x.Rest=true/\(x.PitchStep≠0∨x.PitchOctave≠0∨x.PitchAlter≠0))/\
  (x.Rest=false->qi x.PitchStep x.PitchOctave x.PitchAlter=0)/\0<=x.Sign/\0<=x.Pass:=by
 unfold qcu
 constructor
 .intro h
  split at h
  .contradiction
  .split at h
   .contradiction
   .split at h
    .omega
    .split at h
     .omega
     .split at h
      .rename_i hc;exact absurd h hc.2
      .rename_i c1 c2 c3 c4 c5
       split at h
       .omega
       .refine ⟨by omega,by omega,c3,c4,fun hr=>?_,by omega,by omega⟩
        by_cases hz:qi x.PitchStep x.PitchOctave x.PitchAlter=0
        .exact hz
        .exact absurd ⟨hr,hz⟩ c5
 .rintro ⟨h1,h2,h3,h4,h5,h6,h7⟩
  rw [zF (by omega),zF (by omega),zF h3,zF h4,zF (fun h=>h.2 (h5 h.1)),zF (by omega)]
theorem zp1 {x:Event} {n d:Int} (h:qcu x=0) (hc:qd n d=0):qcu {x with AtN:=n,AtD:=d}=0:=by
 obtain ⟨_,h2⟩:=qmt.1 h
 exact qmt.2 ⟨hc,h2⟩
theorem qms (x:Event) (l:List Event) (n d:Int):qg3 (x::l) n d = {x with AtN:=n,AtD:=d}::qg3 l (zs n d x.DurN x.DurD).1 (zs n d x.DurN x.DurD).2.1:=rfl
theorem qre (x:Event) (l:List Event) (n d:Int):qjq (x::l) n d=if (zs n d x.DurN x.DurD).2.2≠0 then (zs n d x.DurN x.DurD).2.2 else qjq l (zs n d x.DurN x.DurD).1 (zs n d x.DurN x.DurD).2.1:=rfl
theorem qyy (g:Event->Int) (x:Event) (l:List Event):qny g (x::l)=if g x≠0 then g x else qny g l:=rfl
theorem qb9 (a:List Event) (f:List Event->List Event×Int):qbf (a,0) f=f a:=by
 unfold qbf
 rw [zF (by simp)]
theorem qcz {r:List Event×Int} (h:r.2≠0) (f:List Event->List Event×Int):qbf r f=([],r.2):=by
 unfold qbf
 rw [zT h]
theorem qqo:∀ {l:List Event} {n d:Int},qgt l n d->qg3 l n d=l/\qjq l n d=0
 | [],_,_,_=>⟨rfl,rfl⟩
 | x::l,n,d,⟨h1,h2,_,h4,h5⟩=>by
  obtain ⟨i1,i2⟩:=qqo h5
  unfold qg3 qjq
  rw [zF (by omega),i1,i2]
  refine ⟨?_,rfl⟩
  subst h1 h2
  rfl
theorem qzp:∀ {l:List Event} {n d:Int},(∀ x ∈ l,∃ m c,qcu {x with AtN:=m,AtD:=c}=0)->qd n d=0->qjq l n d=0->qgt (qg3 l n d) n d
 | [],_,_,_,_,_=>trivial
 | x::l,n,d,h,hc,he=>by
  unfold qjq at he
  obtain ⟨m,c,hx⟩:=h x zC
  by_cases h0:(zs n d x.DurN x.DurD).2.2≠0
  .rw [zT h0] at he;exact absurd he h0
  .rw [zF h0] at he
   have hd:qd x.DurN x.DurD=0:=(qmt.1 hx).2.1
   exact ⟨rfl,rfl,zp1 (x:={x with AtN:=m,AtD:=c}) hx hc,by show (zs n d x.DurN x.DurD).2.2=0;omega,qzp (fun y hy=>h y (zG _ hy)) (zdb hc hd (by omega)) he⟩
theorem qwe:∀ (l:List Event) (n d:Int),ln (qg3 l n d)=ln l
 | [],_,_=>rfl
 | x::l,n,d=>by unfold qg3;rw [qeo,qeo,qwe l]
theorem qtk {f:Event->Event} (hf:∀ x,(f x).DurN=x.DurN/\(f x).DurD=x.DurD) (ha:∀ (x:Event) (n d:Int),Event.mk n d (f x).DurN (f x).DurD (f x).PitchStep (f x).PitchOctave (f x).PitchAlter (f x).Rest (f x).Sign (f x).Pass=f (Event.mk n d x.DurN x.DurD x.PitchStep x.PitchOctave x.PitchAlter x.Rest x.Sign x.Pass)) :
  ∀ (l:List Event) (n d:Int),qg3 (l.map f) n d=(qg3 l n d).map f/\qjq (l.map f) n d=qjq l n d
 | [],_,_=>⟨rfl,rfl⟩
 | x::l,n,d=>by
  obtain ⟨h1,h2⟩:=hf x
  rw [List.map_cons]
  unfold qg3 qjq
  rw [ha,h1,h2,(qtk hf ha l _ _).1,(qtk hf ha l _ _).2,List.map_cons]
  exact ⟨rfl,rfl⟩
theorem qpv (f:Int->Int->Int->Int×Int×Int×Int) (x:Event):(jz f x).DurN=x.DurN/\(jz f x).DurD=x.DurD:=by unfold jz;split<;>exact ⟨rfl,rfl⟩
theorem zbe (f:Int->Int->Int->Int×Int×Int×Int) (x:Event) (n d:Int):Event.mk n d (jz f x).DurN (jz f x).DurD (jz f x).PitchStep (jz f x).PitchOctave (jz f x).PitchAlter (jz f x).Rest (jz f x).Sign (jz f x).Pass=jz f (Event.mk n d x.DurN x.DurD x.PitchStep x.PitchOctave x.PitchAlter x.Rest x.Sign x.Pass):=by
 unfold jz
 dsimp only
 split<;>rfl
theorem qyz {g:Event->Int}:∀ {l:List Event},qny g l=0->∀ x ∈ l,g x=0
 | [],_,x,hx=>by cases hx
 | y::l,h,x,hx=>by
  unfold qny at h
  by_cases h0:g y≠0
  .rw [zT h0] at h;exact absurd h h0
  .rw [zF h0] at h
   rcases zD.1 hx with rfl | hx
   .omega
   .exact qyz h x hx
theorem zke {f:Int->Int->Int->Int×Int×Int×Int} {l:List Event} (h:qgt l 0 1) (he:qny (qiu f) l=0):qfa (jz f) (qiu f) l=(l.map (jz f),0):=by
 obtain ⟨c1,c2⟩:=qqo h
 obtain ⟨m1,m2⟩:=qtk (qpv f) (zbe f) l 0 1
 unfold qfa zy
 rw [zF (by omega),m1,m2,c1,c2]
 rfl
theorem zfa {a b:Int} (h0:0<=a) (h1:a<=6) (h2:0<=b):Int.tmod (7 * b+a) 7=a/\Int.tdiv (7 * b+a) 7=b:=by
 rw [Int.tmod_eq_emod_of_nonneg (by omega),Int.tdiv_eq_ediv_of_nonneg (by omega)]
 omega
theorem qbd {a b c:Int} (h:qi a b c=0):0<=a/\a<=6/\0<=b/\b<=8/\-1<=c/\c<=1:=by
 unfold qi at h
 split at h
 .omega
 .omega
theorem zm3 {n al:Int} (h:(qla n al).2.2.2=0):qi (qla n al).1 (qla n al).2.1 (qla n al).2.2.1=0/\7 * (qla n al).2.1+(qla n al).1=n/\(qla n al).2.2.1=al:=by
 unfold qla at h ⊢
 by_cases hc:n<0∨62<n∨al < -1∨1<al
 .rw [zT hc] at h;simp at h
 .rw [zF hc]
  dsimp only
  rw [Int.tmod_eq_emod_of_nonneg (by omega),Int.tdiv_eq_ediv_of_nonneg (by omega)]
  refine ⟨?_,by omega,rfl⟩
  unfold qi
  rw [zF (by omega)]
end Go.Proofs.YtcnoipglgpkpeaaGreatDoor
namespace Go.Proofs.YtcnoipglgpkpeaaGreatDoor
open Go Go.E2 Go.E3
set_option maxRecDepth 100000
theorem qlt:∀ {l:List Event},(∀ x ∈ l,qcu x=0)->(qc l).2.2.2=true->qi (qc l).1 (qc l).2.1 (qc l).2.2.1=0
 | [],_,h=>by simp [qc] at h
 | x::l,h,hf=>by
  unfold qc at hf ⊢
  by_cases hr:x.Rest=true
  .rw [zT hr] at hf ⊢
   exact qlt (fun y hy=>h y (zG _ hy)) hf
  .rw [zF hr]
   exact (qmt.1 (h x zC)).2.2.2.2.1 (by simpa using hr)
theorem qy4 {f:Int->Int->Int->Int×Int×Int×Int}:∀ {l:List Event},(qc l).2.2.2=true->qc (l.map (jz f))=((f (qc l).1 (qc l).2.1 (qc l).2.2.1).1,(f (qc l).1 (qc l).2.1 (qc l).2.2.1).2.1,(f (qc l).1 (qc l).2.1 (qc l).2.2.1).2.2.1,true)
 | [],h=>by simp [qc] at h
 | x::l,h=>by
  rw [List.map_cons]
  unfold qc at h ⊢
  by_cases hr:x.Rest=true
  .have e:jz f x=x:=by unfold jz;rw [zT hr]
   rw [zT hr] at h
   rw [e,zT hr,zT hr]
   exact qy4 h
  .have e:(jz f x).Rest=x.Rest:=by unfold jz;split<;>rfl
   rw [e,zF hr,zF hr]
   unfold jz
   rw [zF hr]
theorem zmv {f:Int->Int->Int->Int×Int×Int×Int} {x:Event} (h:qiu f x=0) (hr:x.Rest=false):(f x.PitchStep x.PitchOctave x.PitchAlter).2.2.2=0:=by
 unfold qiu at h
 rw [zF (by simp [hr])] at h
 exact h
theorem zmx {f:Int->Int->Int->Int×Int×Int×Int} {x:Event} (h:qcu x=0) (hf:x.Rest=false->qi (f x.PitchStep x.PitchOctave x.PitchAlter).1 (f x.PitchStep x.PitchOctave x.PitchAlter).2.1 (f x.PitchStep x.PitchOctave x.PitchAlter).2.2.1=0):qcu (jz f x)=0:=by
 by_cases hr:x.Rest=true
 .have e:jz f x=x:=by unfold jz;rw [zT hr]
  rw [e];exact h
 .have hr':x.Rest=false:=by simpa using hr
  obtain ⟨h1,h2,h3,h4,h5,h6,h7⟩:=qmt.1 h
  have e:jz f x = {x with PitchStep:=(f x.PitchStep x.PitchOctave x.PitchAlter).1,PitchOctave:=(f x.PitchStep x.PitchOctave x.PitchAlter).2.1,PitchAlter:=(f x.PitchStep x.PitchOctave x.PitchAlter).2.2.1}:=by unfold jz;rw [zF hr]
  rw [e]
  exact qmt.2 ⟨h1,h2,h3,fun hc=>hr hc.1,fun _=>hf hr',h6,h7⟩
theorem qyu {f:Event->Event} (hf:∀ x,(f x).DurN=x.DurN/\(f x).DurD=x.DurD) (ha:∀ x,(f x).AtN=x.AtN/\(f x).AtD=x.AtD) :
  ∀ {l:List Event} {n d:Int},qgt l n d->(∀ x ∈ l,qcu (f x)=0)->qgt (l.map f) n d
 | [],_,_,_,_=>trivial
 | x::l,n,d,⟨h1,h2,h3,h4,h5⟩,hx=>by
  obtain ⟨d1,d2⟩:=hf x
  obtain ⟨a1,a2⟩:=ha x
  refine ⟨by rw [a1,h1],by rw [a2,h2],hx x zC,by rw [d1,d2];exact h4,?_⟩
  rw [d1,d2]
  exact qyu hf ha h5 fun y hy=>hx y (zG _ hy)
theorem zmu (f:Int->Int->Int->Int×Int×Int×Int) (x:Event):(jz f x).AtN=x.AtN/\(jz f x).AtD=x.AtD:=by unfold jz;split<;>exact ⟨rfl,rfl⟩
theorem za6:∀ (l:List Event) (n d:Int),(qg3 l n d).map (fun x=>(x.DurN,x.DurD))=l.map (fun x=>(x.DurN,x.DurD))
 | [],_,_=>rfl
 | x::l,n,d=>by rw [qms,List.map_cons,za6 l];rfl
theorem zl1 {x y:Event} {l:List Event}:ix (x::y::l) (ln (x::y::l)-1)=ix (y::l) (ln (y::l)-1):=by
 have n0:=zn l
 rw [qeo,qeo,show ln l+1+1-1=(ln l)+1 by omega,qco n0,show ln l+1-1=ln l by omega]
def nTr (re mi:Bool) (i:Nat):Nat:=(if re=true then 4 else 0)+(if mi=true then 2 else 0)+i
theorem q5s (l m:List Event) (re mi:Bool):ql9 l m ((nTr re mi 0:Nat):Int)=if qdb l m 0 1 mi re=true then [qql l m 0 1 mi re] else []:=by
 cases re<;>cases mi<;>rfl
theorem zbb (l m:List Event) (re mi:Bool):ql9 l m ((nTr re mi 1:Nat):Int)=if qiw m=true/\qdb l m (ix m 0).DurN (ix m 0).DurD mi re=true then [qql l m (ix m 0).DurN (ix m 0).DurD mi re] else []:=by
 cases re<;>cases mi<;>rfl
def Sxs:List Event->Int->Prop
 | [],s=>s=0
 | x::l,s=>∃ c ∈ zbk,∃ r,x.DurN=(sxt c).1/\x.DurD=(sxt c).2/\Sxs l r/\s=c+r
theorem q6h:∀ {l:List Event} {x:Event} {s c:Int},Sxs l s->c ∈ zbk->x.DurN=(sxt c).1->x.DurD=(sxt c).2->Sxs (l++[x]) (s+c)
 | [],x,s,c,h,hc,e1,e2=>⟨c,hc,0,e1,e2,rfl,by have h:s=0:=h;omega⟩
 | y::l,x,s,c,⟨a,ha,r,h1,h2,h3,h4⟩,hc,e1,e2=>⟨a,ha,r+c,h1,h2,q6h h3 hc e1 e2,by omega⟩
theorem zbn:∀ {l:List Event} {s:Int},Sxs l s->Sxs l.reverse s
 | [],_,h=>h
 | x::l,s,⟨c,hc,r,e1,e2,h1,h2⟩=>by
  rw [List.reverse_cons,h2,Int.add_comm]
  exact q6h (zbn h1) hc e1 e2
theorem q2m:∀ {l m:List Event} {s:Int},l.map (fun x=>(x.DurN,x.DurD))=m.map (fun x=>(x.DurN,x.DurD))->Sxs l s->Sxs m s
 | [],[],_,_,h=>h
 | [],_::_,_,e,_=>by simp at e
 | _::_,[],_,e,_=>by simp at e
 | x::l,y::m,s,e,⟨c,hc,r,e1,e2,h1,h2⟩=>by
  simp only [List.map_cons,List.cons.injEq,zP] at e
  obtain ⟨⟨d1,d2⟩,d3⟩:=e
  exact ⟨c,hc,r,by rw [<-d1,e1],by rw [<-d2,e2],q2m d3 h1,h2⟩
structure Vo (m l:List Event):Prop where
 ch:qgt l 0 1
 len:ln l=ln m
 sx:∀ s,Sxs m s->Sxs l s
theorem zbo {l:List Event} (h:qgt l 0 1):Vo l l:=⟨h,rfl,fun _ hs=>hs⟩
theorem zgp {r:List Event×Int} {f:List Event->List Event×Int} (h:(qbf r f).2=0):r.2=0/\qbf r f=f r.1:=by
 obtain ⟨a,e⟩:=r
 by_cases he:e=0
 .subst he;exact ⟨rfl,qb9 a f⟩
 .rw [qcz (r:=(a,e)) he] at h
  exact absurd h he
theorem qyt {l:List Event} (h:(zy l).2=0):qjq l 0 1=0/\zy l=(qg3 l 0 1,0):=by
 unfold zy at h ⊢
 by_cases hc:qjq l 0 1≠0
 .rw [zT hc] at h;exact absurd h hc
 .rw [zF hc];exact ⟨by omega,rfl⟩
theorem zkd {f:Event->Event} {g:Event->Int} {l:List Event} (h:(qfa f g l).2=0):qny g l=0/\qjq (l.map f) 0 1=0/\qfa f g l=(qg3 (l.map f) 0 1,0):=by
 unfold qfa at h ⊢
 by_cases hc:qny g l≠0
 .rw [zT hc] at h;exact absurd h hc
 .rw [zF hc] at h ⊢
  obtain ⟨h1,h2⟩:=qyt h
  exact ⟨by omega,h1,h2⟩
theorem zev {m l:List Event} (h:Vo m l) (hn:ln m<=2000) (h0:(za l).2=0):Vo m (za l).1/\(za l).1=qg3 l.reverse 0 1:=by
 unfold za at h0 ⊢
 rw [qr9 h.ch (by have:=h.len;omega),zF (by simp)] at h0 ⊢
 obtain ⟨h1,h2⟩:=qyt h0
 rw [h2]
 refine ⟨⟨qzp (fun x hx=>⟨x.AtN,x.AtD,qf1 h.ch x (List.mem_reverse.1 hx)⟩) (by decide) h1,by show ln (qg3 l.reverse 0 1)=_;rw [qwe,qin];exact h.len,fun s hs=>q2m (za6 _ _ _).symm (zbn (h.sx s hs))⟩,rfl⟩
theorem zlq {f:Event->Event} (hf:∀ x,(f x).DurN=x.DurN/\(f x).DurD=x.DurD) (l:List Event):l.map (fun x=>(x.DurN,x.DurD))=(l.map f).map (fun x=>(x.DurN,x.DurD)):=by
 rw [List.map_map]
 refine List.map_congr_left fun x _=>?_
 show _=((f x).DurN,(f x).DurD)
 rw [(hf x).1,(hf x).2]
theorem zmw {f:Int->Int->Int->Int×Int×Int×Int} (hf:∀ a b c,(f a b c).2.2.2=0->qi (f a b c).1 (f a b c).2.1 (f a b c).2.2.1=0) {m l:List Event} (h:Vo m l) (h0:(qfa (jz f) (qiu f) l).2=0) :
  Vo m (l.map (jz f))/\qfa (jz f) (qiu f) l=(l.map (jz f),0)/\qny (qiu f) l=0:=by
 obtain ⟨h1,_,_⟩:=zkd h0
 refine ⟨⟨qyu (qpv f) (zmu f) h.ch fun x hx=>zmx (qf1 h.ch x hx) fun hr=>hf _ _ _ (zmv (qyz h1 x hx) hr),by rw [qko];exact h.len,fun s hs=>q2m (zlq (qpv f) l) (h.sx s hs)⟩,zke h.ch h1,h1⟩
theorem zi7 (x y:Int):(qla x y).2.2.2=0->qi (qla x y).1 (qla x y).2.1 (qla x y).2.2.1=0:=fun h=>(zm3 h).1
theorem zh0 (s o al a b c:Int):(qa2 a b c s o al).2.2.2=0->qi (qa2 a b c s o al).1 (qa2 a b c s o al).2.1 (qa2 a b c s o al).2.2.1=0:=by
 unfold qa2
 split
 .intro h;exact absurd h ‹_›
 .split
  .intro h;exact absurd h ‹_›
  .exact zi7 _ _
theorem zl9 {m l:List Event} (h:Vo m l) (hn:ln m<=2000) {a b c:Int} (h0:(qaz l a b c).2=0):∃ f,Vo m (l.map (jz f))/\(qaz l a b c).1=l.map (jz f):=by
 unfold qaz at h0 ⊢
 rw [qr9 h.ch (by have:=h.len;omega),zF (by simp)] at h0 ⊢
 by_cases hp:qi a b c≠0
 .rw [zT hp] at h0;exact absurd h0 hp
 .rw [zF hp] at h0 ⊢
  obtain ⟨h1,h2,_⟩:=zmw (zh0 a b c) h h0
  exact ⟨_,h1,by rw [h2]⟩
theorem qvl:∀ {l:List Event},(∃ x ∈ l,x.Rest=false)->(qc l).2.2.2=true
 | [],⟨x,hx,_⟩=>by cases hx
 | y::l,⟨x,hx,hr⟩=>by
  unfold qc
  by_cases hy:y.Rest=true
  .rw [zT hy]
   rcases zD.1 hx with rfl | hx
   .rw [hr] at hy;cases hy
   .exact qvl ⟨x,hx,hr⟩
  .rw [zF hy]
theorem qwd:∀ {l:List Event},(qc l).2.2.2=true->∃ x ∈ l,x.Rest=false/\x.PitchStep=(qc l).1/\x.PitchOctave=(qc l).2.1/\x.PitchAlter=(qc l).2.2.1
 | [],h=>by simp [qc] at h
 | y::l,h=>by
  unfold qc at h ⊢
  by_cases hy:y.Rest=true
  .rw [zT hy] at h ⊢
   obtain ⟨x,hx,hh⟩:=qwd h
   exact ⟨x,zG _ hx,hh⟩
  .rw [zF hy]
   exact ⟨y,zC,by simpa using hy,rfl,rfl,rfl⟩
theorem qy5:∀ (l:List Event) (n d:Int),qc (qg3 l n d)=qc l
 | [],_,_=>rfl
 | x::l,n,d=>by
  rw [qms]
  unfold qc
  rw [qy5 l]
theorem zh6 {l:List Event} (h:(qc l).2.2.2=true):(qc (qg3 l.reverse 0 1)).2.2.2=true:=by
 obtain ⟨x,hx,hr,_⟩:=qwd h
 rw [qy5]
 exact qvl ⟨x,List.mem_reverse.2 hx,hr⟩
theorem q6n {l:List Event} {mi re:Bool} (h:qgt l 0 1) (hn:ln l<=2000) (h0:(z5 l mi re).2=0):Vo l (z5 l mi re).1/\((qc l).2.2.2=true->(qc (z5 l mi re).1).2.2.2=true):=by
 unfold z5 at h0 ⊢
 obtain ⟨h1,h2⟩:=zgp h0
 rw [h2] at h0 ⊢
 have hr:Vo l (if re=true then za l else (l,0)).1/\((qc l).2.2.2=true->(qc (if re=true then za l else (l,0)).1).2.2.2=true):=by
  by_cases hre:re=true
  .rw [zT hre] at h1 ⊢
   obtain ⟨k1,k2⟩:=zev (zbo h) hn h1
   exact ⟨k1,fun hl=>by rw [k2];exact zh6 hl⟩
  .rw [zF hre];exact ⟨zbo h,fun hl=>hl⟩
 revert hr h0
 generalize (if re=true then za l else (l,0)).1=a
 intro h0 ⟨ha,hf⟩
 by_cases hm:mi=true/\(qc a).2.2.2=true
 .rw [zT hm] at h0 ⊢
  obtain ⟨f,k1,k2⟩:=zl9 ha hn h0
  rw [k2]
  exact ⟨k1,fun _=>by rw [qy4 hm.2]⟩
 .rw [zF hm];exact ⟨ha,hf⟩
theorem qyp:∀ {l m:List Event},jd l m=true->ln l=ln m
 | [],[],_=>rfl
 | [],_::_,h=>by simp [jd] at h
 | _::_,[],h=>by simp [jd] at h
 | x::l,y::m,h=>by
  unfold jd at h
  rw [zA] at h
  rw [qeo,qeo,qyp h.2]
theorem qot:∀ {l m:List Event} {i:Int},jd l m=true->0<=i->i<ln l->qc7 (ix l i) (ix m i)=true
 | [],_,_,_,h0,h1=>by rw [qkp] at h1;omega
 | _::_,[],_,h,_,_=>by simp [jd] at h
 | x::l,y::m,i,h,h0,h1=>by
  unfold jd at h
  rw [zA] at h
  by_cases hi:i=0
  .subst hi;exact h.1
  .have e:i=(i-1)+1:=by omega
   rw [qeo] at h1
   rw [e,qco (by omega),qco (by omega)]
   exact qot h.2 (by omega) (by omega)
theorem qv2 {α:Type} [Inhabited α] {l:List α} {i j:Int} {a:α} (h0:0<=i) (h:i<ln l) (j0:0<=j):ix (l.set i.toNat a) j=if j=i then a else ix l j:=by
 obtain ⟨n,rfl⟩:=Int.eq_ofNat_of_zero_le h0
 obtain ⟨m,rfl⟩:=Int.eq_ofNat_of_zero_le j0
 have hn:n<l.length:=by simp only [ln] at h;omega
 rw [Int.toNat_natCast]
 by_cases hm:m<l.length
 .rw [qn9 (by simpa using hm),qn9 hm,List.getElem_set]
  by_cases e:m=n
  .subst e;rw [zT rfl,zT rfl]
  .rw [zF (fun h=>e h.symm),zF (by omega)]
 .rw [zF (by omega)]
  have e1:ix (l.set n a) (m:Int)=default:=by unfold ix;simp [List.getD,hm]
  have e2:ix l (m:Int)=default:=by unfold ix;simp [List.getD,hm]
  rw [e1,e2]
theorem zhb {α:Type} {l:List α} {i:Int} {a:α} (h0:0<=i):fr (l.set i.toNat a) (i+1)=fr l (i+1):=by
 obtain ⟨n,rfl⟩:=Int.eq_ofNat_of_zero_le h0
 have e:((n:Int)+1).toNat=n+1:=by omega
 unfold fr
 rw [e,Int.toNat_natCast,List.drop_set,zT (by omega)]
theorem zas {α:Type} {l m:List α} {i:Int} (h0:0<=i) (h:fr l i=fr m i):fr l (i+1)=fr m (i+1):=by
 rw [<-znj h0 (show (0:Int)<=1 by decide),h,znj h0 (by decide)]
theorem qpj {α:Type} [Inhabited α] {l m:List α} {i:Int} (h0:0<=i) (h:fr l i=fr m i):ix l i=ix m i:=by
 have e1:ix (fr l i) 0=ix l (i+0):=znl h0 (zK _)
 have e2:ix (fr m i) 0=ix m (i+0):=znl h0 (zK _)
 rw [Int.add_zero] at e1 e2
 rw [<-e1,<-e2,h]
structure ChInv (M c:List Event) (i n d:Int):Prop where
 i0:0<=i
 i1:i<=ln M
 len:ln c=ln M
 rest:fr c i=fr M i
 done:upto c i++qg3 (fr M i) n d=qg3 M 0 1
 err:qjq (fr M i) n d=qjq M 0 1
theorem qbo (M:List Event):ChInv M M 0 0 1:=⟨zK _,zn _,rfl,rfl,rfl,rfl⟩
theorem zkf {M c:List Event} {i n d:Int} (h:ChInv M c i n d) (hi:i<ln c) (he:(zs n d (ix c i).DurN (ix c i).DurD).2.2=0) :
  ChInv M (c.set i.toNat {ix c i with AtN:=n,AtD:=d}) (i+1) (zs n d (ix c i).DurN (ix c i).DurD).1 (zs n d (ix c i).DurN (ix c i).DurD).2.1:=by
 obtain ⟨i0,i1,len,rest,done,err⟩:=h
 have ex:ix c i=ix M i:=qpj i0 rest
 have e1:=qem i0 (show i<ln M by omega)
 rw [e1] at done err
 rw [qms,<-ex] at done
 rw [qre,<-ex] at err
 rw [zF (by omega)] at err
 refine ⟨by omega,by omega,by rw [qq6];exact len,by rw [zhb i0];exact zas i0 rest,?_,err⟩
 rw [q6q i0 hi,List.append_assoc]
 exact done
theorem zn0 {M c:List Event} {i n d:Int} (h:ChInv M c i n d) (hi:i<ln c) (he:(zs n d (ix c i).DurN (ix c i).DurD).2.2≠0):zy M=([],(zs n d (ix c i).DurN (ix c i).DurD).2.2):=by
 obtain ⟨i0,i1,len,rest,done,err⟩:=h
 have ex:ix c i=ix M i:=qpj i0 rest
 rw [qem i0 (show i<ln M by omega),qre,<-ex,zT he] at err
 unfold zy
 rw [<-err,zT he]
theorem zn1 {M c:List Event} {i n d:Int} (h:ChInv M c i n d) (hi:ln c<=i):zy M=(c,0):=by
 obtain ⟨i0,i1,len,rest,done,err⟩:=h
 rw [qn1 (show ln M<=i by omega)] at done err
 have e1:qg3 M 0 1=c:=by rw [<-done,qw9 hi];exact zJ c
 have e2:qjq M 0 1=0:=err.symm
 unfold zy
 rw [e2,e1,zF (by simp)]
structure MpInv (f:Event->Event) (g:Event->Int) (l c:List Event) (i:Int):Prop where
 i0:0<=i
 i1:i<=ln l
 len:ln c=ln l
 rest:fr c i=fr l i
 done:upto c i++(fr l i).map f=l.map f
 err:qny g (fr l i)=qny g l
theorem qbi (f:Event->Event) (g:Event->Int) (l:List Event):MpInv f g l l 0:=⟨zK _,zn _,rfl,rfl,rfl,rfl⟩
theorem za5 {f:Event->Event} {g:Event->Int} {l c:List Event} {i:Int} (h:MpInv f g l c i) (hi:i<ln c) (he:g (ix c i)=0):MpInv f g l (c.set i.toNat (f (ix c i))) (i+1):=by
 obtain ⟨i0,i1,len,rest,done,err⟩:=h
 have ex:ix c i=ix l i:=qpj i0 rest
 rw [qem i0 (show i<ln l by omega)] at done err
 rw [List.map_cons,<-ex] at done
 rw [qyy,<-ex,zF (by omega)] at err
 refine ⟨by omega,by omega,by rw [qq6];exact len,by rw [zhb i0];exact zas i0 rest,?_,err⟩
 rw [q6q i0 hi,List.append_assoc]
 exact done
theorem zpt {f:Event->Event} {g:Event->Int} {l c:List Event} {i:Int} (h:MpInv f g l c i) (hi:i<ln c) (he:g (ix c i)≠0):qfa f g l=([],g (ix c i)):=by
 obtain ⟨i0,i1,len,rest,done,err⟩:=h
 have ex:ix c i=ix l i:=qpj i0 rest
 rw [qem i0 (show i<ln l by omega),qyy,<-ex,zT he] at err
 unfold qfa
 rw [<-err,zT he]
theorem zpu {f:Event->Event} {g:Event->Int} {l c:List Event} {i:Int} (h:MpInv f g l c i) (hi:ln c<=i):c=l.map f/\qfa f g l=zy c:=by
 obtain ⟨i0,i1,len,rest,done,err⟩:=h
 rw [qn1 (show ln l<=i by omega)] at done err
 have e1:c=l.map f:=by rw [<-done,qw9 hi];exact (zJ c).symm
 refine ⟨e1,?_⟩
 have e2:qny g l=0:=err.symm
 unfold qfa
 rw [e2,zF (by simp),e1]
structure RvInv (l c:List Event) (i j:Int):Prop where
 i0:0<=i
 sum:i+j=ln l-1
 zh3:i<=j+2
 len:ln c=ln l
 out:∀ k,0<=k->k<ln l->k<i∨j<k->ix c k=ix l (ln l-1-k)
 mid:∀ k,i<=k->k<=j->ix c k=ix l k
theorem qwr (l:List Event):RvInv l l 0 (ln l-1):=⟨zK _,by omega,by have:=zn l;omega,rfl,fun k h0 h1 h=>by omega,fun _ _ _=>rfl⟩
theorem zmz {l c:List Event} {i j:Int} (h:RvInv l c i j) (hi:i<j):RvInv l ((c.set i.toNat (ix c j)).set j.toNat (ix c i)) (i+1) (j-1):=by
 obtain ⟨i0,sum,zh3,len,out,mid⟩:=h
 have l1:ln (c.set i.toNat (ix c j))=ln l:=by rw [qq6];exact len
 refine ⟨by omega,by omega,by omega,by rw [qq6];exact l1,fun k k0 k1 hk=>?_,fun k k0 k1=>?_⟩
 .rw [qv2 (by omega) (by omega) k0,qv2 i0 (by omega) k0]
  by_cases e1:k=j
  .rw [zT e1,mid i (zK _) (by omega)]
   congr 1;omega
  .rw [zF e1]
   by_cases e2:k=i
   .rw [zT e2,mid j (by omega) (zK _)]
    congr 1;omega
   .rw [zF e2]
    exact out k k0 k1 (by omega)
 .rw [qv2 (by omega) (by omega) (by omega),zF (by omega),qv2 i0 (by omega) (by omega),zF (by omega)]
  exact mid k (by omega) (by omega)
theorem zp7 {l c:List Event} {i j:Int} (h:RvInv l c i j) (hi:j<=i):c=l.reverse:=by
 obtain ⟨i0,sum,zh3,len,out,mid⟩:=h
 refine qly (by rw [len];simp [ln]) fun k k0 k1=>?_
 have hr:ix l.reverse k=ix l (ln l-1-k):=by
  obtain ⟨n,rfl⟩:=Int.eq_ofNat_of_zero_le k0
  have hn:n<l.length:=by simp only [ln] at k1 len;omega
  have hm:l.length-1-n<l.length:=by omega
  have e:ln l-1-(n:Int)=((l.length-1-n:Nat):Int):=by simp only [ln];omega
  rw [e,qn9 (by simpa using hn),qn9 hm,List.getElem_reverse]
 rw [hr]
 by_cases hk:k<i∨j<k
 .exact out k k0 (by omega) hk
 .rw [mid k (by omega) (by omega)]
  congr 1;omega
theorem zl2 {α:Type} [Inhabited α] {l:List α} {i:Int} {a:α} (h0:0<=i) (h:i<ln l):ix (l.set i.toNat a) i=a:=by rw [qv2 h0 h h0,zT rfl]
abbrev atX (c:List Event) (i n d:Int):List Event:=c.set i.toNat (Event.mk n d (ix c i).DurN (ix c i).DurD (ix c i).PitchStep (ix c i).PitchOctave (ix c i).PitchAlter (ix c i).Rest (ix c i).Sign (ix c i).Pass)
theorem qqn {M c:List Event} {i n d L:Int} {r:List Event×Int} (hL:ln M=L) (hr:r=zy M) (h:ChInv M c i n d) (hi:i<L) :
  0<=i/\L<=ln c/\L<=ln (atX c i n d)/\((zs n d (ix (atX c i n d) i).DurN (ix (atX c i n d) i).DurD).2.2≠0->([]:List Event)=r.1/\(zs n d (ix (atX c i n d) i).DurN (ix (atX c i n d) i).DurD).2.2=r.2)/\
  ((zs n d (ix (atX c i n d) i).DurN (ix (atX c i n d) i).DurD).2.2=0->ChInv M (atX c i n d) (i+1) (zs n d (ix (atX c i n d) i).DurN (ix (atX c i n d) i).DurD).1 (zs n d (ix (atX c i n d) i).DurN (ix (atX c i n d) i).DurD).2.1/\(L-(i+1)).toNat<(L-i).toNat):=by
 have hc:i<ln c:=by have:=h.len;omega
 have e:ix (atX c i n d) i = {ix c i with AtN:=n,AtD:=d}:=zl2 h.i0 hc
 rw [e]
 dsimp only
 refine ⟨h.i0,by have:=h.len;omega,by rw [qq6];have:=h.len;omega,fun he=>?_,fun he=>⟨zkf h hc he,by have:=h.i0;omega⟩⟩
 rw [hr,zn0 h hc he]
 exact ⟨rfl,rfl⟩
theorem qnt {M c:List Event} {i n d L:Int} {r:List Event×Int} (hL:ln M=L) (hr:r=zy M) (h:ChInv M c i n d) (hi:L<=i):L=ln c/\c=r.1/\(0:Int)=r.2:=by
 have:=h.len
 rw [hr,zn1 h (by omega)]
 exact ⟨by omega,rfl,rfl⟩
theorem qrc {f:Event->Event} {g:Event->Int} {l c:List Event} {i:Int} {r:List Event×Int} (hr:r=qfa f g l) (h:MpInv f g l c i) (hi:i<ln l) :
  0<=i/\ln l<=ln c/\(g (ix c i)≠0->([]:List Event)=r.1/\g (ix c i)=r.2)/\(g (ix c i)=0->MpInv f g l (c.set i.toNat (f (ix c i))) (i+1)/\(ln l-(i+1)).toNat<(ln l-i).toNat):=by
 have hc:i<ln c:=by have:=h.len;omega
 refine ⟨h.i0,by have:=h.len;omega,fun he=>?_,fun he=>⟨za5 h hc he,by have:=h.i0;omega⟩⟩
 rw [hr,zpt h hc he]
 exact ⟨rfl,rfl⟩
theorem qwa {f:Event->Event} {g:Event->Int} {l c:List Event} {i:Int} {r:List Event×Int} (hr:r=qfa f g l) (h:MpInv f g l c i) (hi:ln l<=i):c=l.map f/\r=zy (l.map f):=by
 obtain ⟨h1,h2⟩:=zpu h (by have:=h.len;omega)
 exact ⟨h1,by rw [hr,h2,h1]⟩
def qkk (a0 a1:Int) (x y:Int):Prop:=0<=x/\0<=y/\zd x y=zd a0 a1
def qjg (_ _:Int) (_ y:Int):Nat:=y.toNat
def qhu (a0:List Time) (i:Int):Prop:=0<=i/\i<=ln a0/\qaf (fr a0 i)=qaf a0
def qgr (a0:List Time) (i:Int):Nat:=(ln a0-i).toNat
def qkl (a0 a1 a2 a3 _ _ _:Int) (_:Bool) (_ _:Int) (i:Int):Prop:=0<=i/\i<=2/\(1<=i->qd a0 a1=0)/\(2<=i->qd a2 a3=0)
def qg1 (_ _ _ _ _ _ _:Int) (_:Bool) (_ _:Int) (i:Int):Nat:=(2-i).toNat
def qhn (a0:List Event) (i n d:Int):Prop:=0<=i/\i<=ln a0/\qbp (fr a0 i) i n d=qbp a0 0 0 1
def qgj (a0:List Event) (i _ _:Int):Nat:=(ln a0-i).toNat
def qgi (a0:List Event) (i n d:Int):Prop:=0<=i/\i<=ln a0/\qbp (fr a0 i) i n d=qbp a0 0 0 1
def qfj (a0:List Event) (i _ _:Int):Nat:=(ln a0-i).toNat
def qdy (a0 a1:List Event) (i:Int):Prop:=0<=i/\i<=ln a0/\∀ j,0<=j->j<i->ix a0 j=ix a1 j
def qdd (a0 _:List Event) (i:Int):Nat:=(ln a0-i).toNat
def q0f (l:List Event) (dn dd k:Int) (mi re:Bool) (fn fd:Int) (i:Int):List Event×Int:=
 if i<=0 then (l,0) else if i=1 then (if re=true then za l else (l,0)) else if i=2 then z5 l mi re else if i=3 then qbf (z5 l mi re) fun a=>jr a k
 else if i=4 then qbf (qbf (z5 l mi re) fun a=>jr a k) fun b=>qbn b fn fd
 else qbf (qbf (qbf (z5 l mi re) fun a=>jr a k) fun b=>qbn b fn fd) fun c=>if 0<dn then jq c dn dd else (c,0)
def qfs (a b c d:Int):Prop:=0<=a/\a<=1099511627776/\1<=b/\b<=1048576/\0<=c/\c<=1099511627776/\1<=d/\d<=1099511627776/\zd a b=1/\zd c d=1
def qbv (a0:List Event) (i j:Int) (c:List Event):Prop:=RvInv a0 c i j
def qgm (a0:List Event) (i _:Int) (_:List Event):Nat:=(ln a0-i).toNat
def qbw (a0:List Event) (i:Int) (c:List Event) (n d:Int):Prop:=ChInv a0.reverse c i n d
def qjn (a0:List Event) (i:Int) (_:List Event) (_ _:Int):Nat:=(ln a0-i).toNat
def qak (a0:List Event) (a1 a2 a3 i:Int) (c:List Event):Prop:=MpInv (jz fun x y z=>qa2 x y z a1 a2 a3) (qiu fun x y z=>qa2 x y z a1 a2 a3) a0 c i
def qdn (a0:List Event) (_ _ _ i:Int) (_:List Event):Nat:=(ln a0-i).toNat
def qba (a0:List Event) (a1 a2 a3 i:Int) (c:List Event) (n d:Int):Prop:=ChInv (a0.map (jz fun x y z=>qa2 x y z a1 a2 a3)) c i n d
def qip (a0:List Event) (_ _ _ i:Int) (_:List Event) (_ _:Int):Nat:=(ln a0-i).toNat
def qbu (a0:List Event) (a1 i:Int) (c:List Event):Prop:=MpInv (jz fun x y z=>qbl x y z a1) (qiu fun x y z=>qbl x y z a1) a0 c i
def qfk (a0:List Event) (_ i:Int) (_:List Event):Nat:=(ln a0-i).toNat
def qck (a0:List Event) (a1 i:Int) (c:List Event) (n d:Int):Prop:=ChInv (a0.map (jz fun x y z=>qbl x y z a1)) c i n d
def qkt (a0:List Event) (_ i:Int) (_:List Event) (_ _:Int):Nat:=(ln a0-i).toNat
def qar (a0:List Event) (a1 a2 i:Int) (c:List Event):Prop:=MpInv (q6g a1 a2) (fun x=>(qal x.DurN x.DurD a1 a2).2.2) a0 c i
def qg9 (a0:List Event) (_ _ i:Int) (_:List Event):Nat:=(ln a0-i).toNat
def qas (a0:List Event) (a1 a2 i:Int) (c:List Event) (n d:Int):Prop:=ChInv (a0.map (q6g a1 a2)) c i n d
def qha (a0:List Event) (_ _ i:Int) (_:List Event) (_ _:Int):Nat:=(ln a0-i).toNat
def qcn (a0:List Event) (a1 a2 i:Int) (c:List Event) (n d:Int):Prop:=ChInv (⟨0,0,a1,a2,0,0,0,true,0,0⟩::a0) c i n d
def qef (a0:List Event) (a1 a2 i:Int) (_:List Event) (_ _:Int):Nat:=(ln (Event.mk 0 0 a1 a2 0 0 0 true 0 0::a0)-i).toNat
def qhs (a0:List Event) (i:Int):Prop:=0<=i/\i<=ln a0/\qc (fr a0 i)=qc a0
def qgp (a0:List Event) (i:Int):Nat:=(ln a0-i).toNat
def zg (a0:List Event) (a1 a2 a3:Int) (a4 a5:Bool) (a6 a7 _ _ _ _ i:Int) (l:List Event) (e:Int):Prop:=0<=i/\i<=5/\(l,e)=q0f a0 a1 a2 a3 a4 a5 a6 a7 i/\ln l<=2000+i/\(e≠0->l=[])
def qk (_:List Event) (_ _ _:Int) (_ _:Bool) (_ _ _ _ _ _ i:Int) (_:List Event) (_:Int):Nat:=(5-i).toNat
def qb6 (m:List Event):List Time:=[Time.mk 0 1]++(if qiw m=true then [Time.mk (ix m 0).DurN (ix m 0).DurD] else [])
def nOf (re mi:Bool) (i:Int):Int:=(if re=true then 4 else 0)+(if mi=true then 2 else 0)+i
def z8 (a0:List Event) (a1 a2 a3:Int) (a4 a5:Bool) (a6 a7 _ _ _ _:Int) (_:List Event) (i:Int) (l:List Event) (e:Int):Prop:=0<=i/\i<=2/\(l,e)=q0f a0 a1 a2 a3 a4 a5 a6 a7 i/\ln l<=2000+i/\(e≠0->l=[])
def zl (_:List Event) (_ _ _:Int) (_ _:Bool) (_ _ _ _ _ _:Int) (_:List Event) (i:Int) (_:List Event) (_:Int):Nat:=(2-i).toNat
def qfg (_ a1:List Event) (y:List Time):Prop:=y=qb6 a1
def zo (a0 a1:List Event) (out:List Canon) (i:Int) (re mi:Bool):Prop:=0<=i/\i<=ln (qb6 a1)/\out=qgs a0 a1 (nOf re mi i).toNat
def zj (_ a1:List Event) (_:List Canon) (i:Int) (_ _:Bool):Nat:=(ln (qb6 a1)-i).toNat
def qho (_ _:List Event) (i:Int) (v w:List Event):Prop:=0<=i/\i<=ln v/\∀ j,0<=j->j<i->qc7 (ix v j) (ix w j)=true
def qgk (_ _:List Event) (i:Int) (v _:List Event):Nat:=(ln v-i).toNat
def qc1 (a0 a1 a2 a3 i:Int):Prop:=0<=i/\i<=4/\∀ j,0<=j->j<i->ix [a0,a1,a2,a3] j=2∨ix [a0,a1,a2,a3] j=3
def qat (_ _ _ _ i:Int):Nat:=(4-i).toNat
def qhr (a0:List Event) (o:List Event) (i n d:Int):Prop:=0<=i/\i<=ln a0/\ln o=i/\o++qg3 (fr a0 i) n d=qg3 a0 0 1/\qjq (fr a0 i) n d=qjq a0 0 1
def qgo (a0:List Event) (_:List Event) (i _ _:Int):Nat:=(ln a0-i).toNat
def qhp (a0:List Event) (o:List Event) (i:Int):Prop:=-1<=i/\i<ln a0/\ln o=ln a0-1-i/\o++(upto a0 (i+1)).reverse=a0.reverse
def qgl (_:List Event) (_:List Event) (i:Int):Nat:=(i+1).toNat
def qa9 (a0:List Event) (a1 a2 a3 i:Int) (c:List Event):Prop:=MpInv (jz fun x y z=>qa2 x y z a1 a2 a3) (qiu fun x y z=>qa2 x y z a1 a2 a3) a0 c i
def qau (a0:List Event) (_ _ _ i:Int) (_:List Event):Nat:=(ln a0-i).toNat
def qcj (a0:List Event) (a1 i:Int) (c:List Event):Prop:=MpInv (jz fun x y z=>qbl x y z a1) (qiu fun x y z=>qbl x y z a1) a0 c i
def qbx (a0:List Event) (_ i:Int) (_:List Event):Nat:=(ln a0-i).toNat
def qcc (a0:List Event) (a1 a2 i:Int) (c:List Event):Prop:=MpInv (q6g a1 a2) (fun x=>(qal x.DurN x.DurD a1 a2).2.2) a0 c i
def qg8 (a0:List Event) (_ _ i:Int) (_:List Event):Nat:=(ln a0-i).toNat
def qht (a0:List Event) (i:Int):Prop:=0<=i/\i<=ln a0/\qc (fr a0 i)=qc a0
def qgq (a0:List Event) (i:Int):Nat:=(ln a0-i).toNat
def qhq (a0 a1:List Event) (i:Int):Prop:=0<=i/\i<=ln a0/\∀ j,0<=j->j<i->qc7 (ix a0 j) (ix a1 j)=true
def qgn (a0 _:List Event) (i:Int):Nat:=(ln a0-i).toNat
def z7 (a0 a1:List Event) (o:List Canon) (n:Int):Prop:=0<=n/\n<=8/\o=qgs a0 a1 n.toNat
def qz (_ _:List Event) (_:List Canon) (n:Int):Nat:=(8-n).toNat
def qdz (a0 a1:List Canon) (i:Int):Prop:=0<=i/\i<=ln a0/\∀ j,0<=j->j<i->ix a0 j=ix a1 j
def qde (a0 _:List Canon) (i:Int):Nat:=(ln a0-i).toNat
end Go.Proofs.YtcnoipglgpkpeaaGreatDoor
