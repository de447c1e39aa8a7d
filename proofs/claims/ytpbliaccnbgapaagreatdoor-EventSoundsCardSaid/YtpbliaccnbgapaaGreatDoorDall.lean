import Derived.Test.YtpbliaccnbgapaaGreatDoorNat
import Derived.Test.YtpbliaccnbgapaaGreatDoorM6
import Derived.Lib.ItoaLen
namespace Go.Proofs.YtpbliaccnbgapaaGreatDoor
open Go Go.E2 Go.E3
abbrev ZX:ZB:=[120,120,120,120,120,120,120,120,120,120,120,120,120,120,120,120,120,120,120,120,120,120,120,120,120,120,120,120,120,120,120,120,32,112,113,112,112,112,112,112,112,112,112,112,112,112,112,112,112,112,112,112,112,112,112,112,112,112,112,99,112,112,112,112,112,112,112,112,112,112,112,112,112,112,112,112,112,112,112,112,112,112,112,112,112,112,112,112,112,112,112,112,112,112,112,112,112,112,112,112,112,112,112,112,112,112,112,112,112,112,112,112,112,112,112,112,112,112,112,112,112,112,112,112,112,112,112]
set_option maxRecDepth 100000
def zh (a b:Int):Int:=(Nat.gcd a.toNat b.toNat:Nat)
theorem qcj (a b:Int):0<=zh a b:=Int.natCast_nonneg _
theorem qqz {a:Int} (h:0<=a):zh a 0=a:=by
 unfold zh
 rw [Int.toNat_zero,Nat.gcd_zero_right]
 omega
theorem qqy {a b:Int} (ha:0<=a) (hb:0<=b):zh b (Int.tmod a b)=zh a b:=by
 unfold zh
 obtain ⟨m,rfl⟩:=Int.eq_ofNat_of_zero_le ha
 obtain ⟨n,rfl⟩:=Int.eq_ofNat_of_zero_le hb
 have:Int.tmod (m:Int) (n:Int)=((m % n:Nat):Int):=by rw [<-Int.ofNat_tmod]
 rw [this,Int.toNat_natCast,Int.toNat_natCast,Int.toNat_natCast,Nat.gcd_comm m n,Nat.gcd_comm n (m % n),<-Nat.gcd_rec]
theorem qjo {a b:Int} (hb:1<=b):1<=zh a b:=by
 unfold zh
 have:0<Nat.gcd a.toNat b.toNat:=Nat.gcd_pos_of_pos_right _ (by omega)
 omega
theorem qzh {a b:Int} (ha:0<=a):zh a b * a.tdiv (zh a b)=a:=by
 have h:zh a b ∣ a:=by
  unfold zh
  have:=Nat.gcd_dvd_left a.toNat b.toNat
  have h2:((Nat.gcd a.toNat b.toNat:Nat):Int) ∣ ((a.toNat:Nat):Int):=Int.natCast_dvd_natCast.2 this
  rwa [Int.toNat_of_nonneg ha] at h2
 exact Int.mul_tdiv_cancel' h
theorem qv0 {a b:Int} (hb:0<=b):zh a b * b.tdiv (zh a b)=b:=by
 have h:zh a b ∣ b:=by
  unfold zh
  have:=Nat.gcd_dvd_right a.toNat b.toNat
  have h2:((Nat.gcd a.toNat b.toNat:Nat):Int) ∣ ((b.toNat:Nat):Int):=Int.natCast_dvd_natCast.2 this
  rwa [Int.toNat_of_nonneg hb] at h2
 exact Int.mul_tdiv_cancel' h
theorem qm3 {a b:Int} (ha:0<=a) (hb:0<b):0<=Int.tmod a b/\Int.tmod a b<b:=⟨Int.tmod_nonneg _ ha,Int.tmod_lt_of_pos _ hb⟩
theorem qb8 {a b:Int} (ha:0<=a) (hb:0<=b):0<=a.tdiv b/\a.tdiv b<=a:=by
 refine ⟨Int.tdiv_nonneg ha hb,?_⟩
 rw [Int.tdiv_eq_ediv_of_nonneg ha]
 exact Int.ediv_le_self _ ha
theorem qd5 {a b A B:Int} (h0:0<=a) (h1:a<=A) (h2:0<=b) (h3:b<=B):0<=a * b/\a * b<=A * B:=
 ⟨Int.mul_nonneg h0 h2,Int.mul_le_mul h1 h3 h2 (Int.le_trans h0 h1)⟩
theorem ql1 {a b:Int} (h0:1<=a) (h1:1<=b):1<=a * b:=by
 have:=Int.mul_le_mul h0 h1 (by omega) (by omega)
 omega
def qe (n d:Int):Int:=if n<0∨1099511627776<n∨d<1∨1048576<d then 2 else if 1<zh n d then 3 else 0
def ofT (n d:Int):Int×Int×Int:=if 1099511627776<n.tdiv (zh n d)∨1048576<d.tdiv (zh n d) then (0,0,4) else (n.tdiv (zh n d),d.tdiv (zh n d),0)
def qd4:List Time->Int
 | []=>0
 | x::l=>if qe x.N x.D≠0 then qe x.N x.D else qd4 l
def kr (a b c d:Int):Int×Int×Int:=if qe a b≠0 then (0,0,qe a b) else if qe c d≠0 then (0,0,qe c d) else ofT (a * d+c * b) (b * d)
def qap (a b c d:Int):Int×Int:=if qe a b≠0 then (0,qe a b) else if qe c d≠0 then (0,qe c d) else if a * d<c * b then (-1,0) else if c * b<a * d then (1,0) else (0,0)
def jy (a b c:Int):Int:=if a<0∨6<a∨b<0∨8<b∨c < -1∨1<c then 2 else 0
theorem je {n d:Int} (h:qe n d=0):0<=n/\n<=1099511627776/\1<=d/\d<=1048576:=by
 unfold qe at h
 split at h
 .omega
 .omega
theorem qml (a b c d:Int):qd4 [Time.mk a b,Time.mk c d]=if qe a b≠0 then qe a b else qe c d:=by
 simp only [qd4]
 split
 .rfl
 .split
  .rfl
  .omega
def qbb (x:Event):Int:=
 if qe x.AtN x.AtD≠0 then qe x.AtN x.AtD else if qe x.DurN x.DurD≠0 then qe x.DurN x.DurD else if x.DurN=0 then 2
 else if x.Rest=true/\(x.PitchStep≠0∨x.PitchOctave≠0∨x.PitchAlter≠0) then 3
 else if x.Rest=false/\jy x.PitchStep x.PitchOctave x.PitchAlter≠0 then jy x.PitchStep x.PitchOctave x.PitchAlter
 else if x.Sign<0∨x.Pass<0 then 2 else 0
def qjr (x:Event) (n d:Int):Int:=
 if qbb x≠0 then qbb x else if x.AtN≠n∨x.AtD≠d then 6 else (kr x.AtN x.AtD x.DurN x.DurD).2.2
def qcp:List Event->Int->Int->Int->Int×Int
 | [],_,_,_=>(0,0)
 | x::l,i,n,d=>if qjr x n d≠0 then (qjr x n d,i) else qcp l (i+1) (kr x.AtN x.AtD x.DurN x.DurD).1 (kr x.AtN x.AtD x.DurN x.DurD).2.1
def zu (l:List Event):Int×Int:=if 2000<ln l then (11,0) else qcp l 0 0 1
def kv (l:List Event):Int×Int×Int:=
 if (zu l).1≠0 then (0,0,(zu l).1) else if ln l=0 then (0,1,0) else kr (ix l (ln l-1)).AtN (ix l (ln l-1)).AtD (ix l (ln l-1)).DurN (ix l (ln l-1)).DurD
def qro (tn td:Int):List Event->Int->Int->Int
 | [],_,n=>n
 | x::l,i,n=>qro tn td l (i+1) (if (qap x.AtN x.AtD tn td).1<=0 then i else n)
def atE (l:List Event) (tn td:Int):Int×Int:=
 if (kv l).2.2≠0 then (0,(kv l).2.2) else if (qap tn td (kv l).1 (kv l).2.1).2≠0 then (0,(qap tn td (kv l).1 (kv l).2.1).2)
 else if 0<=(qap tn td (kv l).1 (kv l).2.1).1 then (0,2) else (qro tn td l 0 0,0)
def cm (l:List Event) (tn td j:Int):Int:=(qap (ix l j).AtN (ix l j).AtD tn td).1
theorem qu8 {a b:Event} (h1:a.AtN=b.AtN) (h2:a.AtD=b.AtD) (h3:a.DurN=b.DurN) (h4:a.DurD=b.DurD) (h5:a.PitchStep=b.PitchStep) (h6:a.PitchOctave=b.PitchOctave) (h7:a.PitchAlter=b.PitchAlter) (h8:a.Rest=b.Rest) (h9:a.Sign=b.Sign) (h10:a.Pass=b.Pass):a=b:=by
 cases a;cases b
 simp only at h1 h2 h3 h4 h5 h6 h7 h8 h9 h10
 subst h1 h2 h3 h4 h5 h6 h7 h8 h9 h10
 rfl
def qtp (a b:Event):Bool:=a.AtN == b.AtN&&(a.AtD == b.AtD&&(a.DurN == b.DurN&&(a.DurD == b.DurD&&(a.PitchStep == b.PitchStep&&(a.PitchOctave == b.PitchOctave&&(a.PitchAlter == b.PitchAlter&&(a.Rest == b.Rest&&(a.Sign == b.Sign&&a.Pass == b.Pass))))))))
def qdb:List Event->List Event->Bool
 | [],[]=>true
 | x::l,y::m=>qtp x y&&qdb l m
 | _,_=>false
theorem q6c {a b:Event}:qtp a b=true↔a=b:=by
 constructor
 .intro h
  simp only [qtp,zA,beq_iff_eq] at h
  obtain ⟨c1,c2,c3,c4,c5,c6,c7,c8,c9,c10⟩:=h
  exact qu8 c1 c2 c3 c4 c5 c6 c7 c8 c9 c10
 .intro h
  subst h
  simp [qtp]
theorem qoi:∀ {a b:List Event},qdb a b=true↔a=b
 | [],[]=>by simp [qdb]
 | [],_::_=>by simp [qdb]
 | _::_,[]=>by simp [qdb]
 | x::l,y::m=>by simp only [qdb,zA,q6c,qoi (a:=l) (b:=m),List.cons.injEq]
theorem qw1 {a b:List Event} (h:a=b):qdb a b=true:=qoi.2 h
theorem q0e {a b:List Event} (h:a≠b):qdb a b=false:=by rw [<-Bool.not_eq_true,qoi];exact h
def qkv:List Event->Int->Int->Prop
 | [],_,_=>True
 | x::l,n,d=>x.AtN=n/\x.AtD=d/\qbb x=0/\(kr n d x.DurN x.DurD).2.2=0/\qkv l (kr n d x.DurN x.DurD).1 (kr n d x.DurN x.DurD).2.1
theorem qlc:∀ {l:List Event} {i n d:Int},(qcp l i n d).1=0->qkv l n d
 | [],_,_,_,_=>trivial
 | x::l,i,n,d,h=>by
  simp only [qcp] at h
  by_cases h1:qjr x n d≠0
  .rw [zT h1] at h;exact absurd h h1
  .rw [zF h1] at h
   have h1':qjr x n d=0:=by omega
   unfold qjr at h1'
   by_cases h2:qbb x≠0
   .rw [zT h2] at h1';exact absurd h1' h2
   .rw [zF h2] at h1'
    by_cases h3:x.AtN≠n∨x.AtD≠d
    .rw [zT h3] at h1';omega
    .rw [zF h3] at h1'
     have e1:x.AtN=n:=by omega
     have e2:x.AtD=d:=by omega
     rw [e1,e2] at h1' h
     exact ⟨e1,e2,by omega,h1',qlc h⟩
theorem qii {x:Event} (h:qbb x=0):qe x.AtN x.AtD=0/\qe x.DurN x.DurD=0/\x.DurN≠0:=by
 unfold qbb at h
 by_cases h1:qe x.AtN x.AtD≠0
 .rw [zT h1] at h;exact absurd h h1
 .rw [zF h1] at h
  by_cases h2:qe x.DurN x.DurD≠0
  .rw [zT h2] at h;exact absurd h h2
  .rw [zF h2] at h
   by_cases h3:x.DurN=0
   .rw [zT h3] at h;omega
   .exact ⟨by omega,by omega,h3⟩
theorem qmi {a b c d:Int} (h1:qe a b=0) (h2:qe c d=0) (h3:c≠0) (h:(kr a b c d).2.2=0):1<=(kr a b c d).2.1/\a * (kr a b c d).2.1<(kr a b c d).1 * b:=by
 have b1:=je h1
 have b2:=je h2
 unfold kr at h ⊢
 rw [zF (by omega),zF (by omega)] at h ⊢
 have p1:=qd5 b1.1 b1.2.1 (show 0<=d by omega) b2.2.2.2
 have p2:=qd5 b2.1 b2.2.1 (show 0<=b by omega) b1.2.2.2
 have p3:=ql1 b1.2.2.1 b2.2.2.1
 have hg:1<=zh (a * d+c * b) (b * d):=qjo p3
 unfold ofT at h ⊢
 split at h
 .simp at h
 .rename_i hno
  rw [zF hno]
  have e1:=qzh (b:=b * d) (show 0<=a * d+c * b by omega)
  have e2:=qv0 (a:=a * d+c * b) (show 0<=b * d by omega)
  generalize zh (a * d+c * b) (b * d)=g at *
  generalize (a * d+c * b).tdiv g=n' at *
  generalize (b * d).tdiv g=d' at *
  have hd:1<=d':=by
   by_cases hc:1<=d'
   .exact hc
   .have:g * d'<=0:=Int.mul_nonpos_of_nonneg_of_nonpos (by omega) (by omega)
    omega
  refine ⟨hd,?_⟩
  have k1:g * (a * d')=a * (b * d):=by rw [<-e2,Int.mul_left_comm]
  have k2:g * (n' * b)=(a * d+c * b) * b:=by rw [<-e1,Int.mul_assoc]
  have k3:(a * d+c * b) * b=a * (b * d)+c * b * b:=by
   rw [Int.add_mul,Int.mul_assoc,Int.mul_comm d b]
  have k4:1<=c * b * b:=ql1 (ql1 (by omega) b1.2.2.1) b1.2.2.1
  have k5:g * (a * d')<g * (n' * b):=by rw [k1,k2,k3];omega
  exact Int.lt_of_mul_lt_mul_left k5 (by omega)
theorem qux {a b c d e f:Int} (hb:1<=b) (hd:1<=d) (hf:1<=f) (h1:a * d<=c * b) (h2:c * f<e * d):a * f<e * b:=by
 have k1:(a * d) * f<=(c * b) * f:=Int.mul_le_mul_of_nonneg_right h1 (by omega)
 have k2:(c * f) * b<(e * d) * b:=Int.mul_lt_mul_of_pos_right h2 (by omega)
 have e1:(a * d) * f=d * (a * f):=by rw [Int.mul_comm a d,Int.mul_assoc]
 have e2:(c * b) * f=(c * f) * b:=by rw [Int.mul_assoc,Int.mul_comm b f,<-Int.mul_assoc]
 have e3:(e * d) * b=d * (e * b):=by rw [Int.mul_comm e d,Int.mul_assoc]
 have:d * (a * f)<d * (e * b):=by rw [<-e1,<-e3];omega
 exact Int.lt_of_mul_lt_mul_left this (by omega)
theorem qr5 {tn td:Int} (ht:1<=td):∀ {l:List Event} {n d:Int},qkv l n d->1<=d->tn * d<n * td->∀ x ∈ l,qe x.AtN x.AtD=0/\tn * x.AtD<x.AtN * td
 | [],_,_,_,_,_,x,hx=>by cases hx
 | y::l,n,d,hc,hd,hlt,x,hx=>by
  obtain ⟨e1,e2,e3,e4,e5⟩:=hc
  obtain ⟨o1,o2,o3⟩:=qii e3
  rcases zD.1 hx with rfl | hx
  .exact ⟨o1,by rw [e1,e2];exact hlt⟩
  .rw [e1,e2] at o1
   obtain ⟨q1,q2⟩:=qmi o1 o2 o3 e4
   exact qr5 ht e5 q1 (qux ht hd q1 (Int.le_of_lt hlt) q2) x hx
theorem qth {x:Event} {tn td:Int} (h1:qe x.AtN x.AtD=0) (h2:qe tn td=0) :
  (0<=(qap x.AtN x.AtD tn td).1↔tn * x.AtD<=x.AtN * td)/\(0<(qap x.AtN x.AtD tn td).1↔tn * x.AtD<x.AtN * td):=by
 unfold qap
 rw [zF (by omega),zF (by omega)]
 generalize x.AtN * td=u
 generalize tn * x.AtD=v
 split
 .simp only;omega
 .split<;>simp only<;>omega
theorem q05 {tn td:Int} (h2:qe tn td=0):∀ {l:List Event} {n d:Int},qkv l n d->1<=d->∀ i j,0<=i->i<j->j<ln l->0<=cm l tn td i->0<cm l tn td j
 | [],_,_,_,_,i,j,h0,h1,h3,_=>by simp only [ln,List.length_nil] at h3;omega
 | y::l,n,d,hc,hd,i,j,h0,h1,h3,h4=>by
  obtain ⟨e1,e2,e3,e4,e5⟩:=hc
  obtain ⟨o1,o2,o3⟩:=qii e3
  have ht:1<=td:=(je h2).2.2.1
  obtain ⟨q1,q2⟩:=qmi (a:=n) (b:=d) (by rw [<-e1,<-e2];exact o1) o2 o3 e4
  obtain ⟨k,rfl⟩:∃ k,j=k+1:=⟨j-1,by omega⟩
  have hk:0<=k:=by omega
  have hkl:k<ln l:=by simp only [ln,List.length_cons] at h3 ⊢;omega
  have ej:cm (y::l) tn td (k+1)=cm l tn td k:=by unfold cm;rw [qcs hk]
  rw [ej]
  by_cases hi:i=0
  .subst hi
   have h4':0<=(qap y.AtN y.AtD tn td).1:=h4
   have:=(qth o1 h2).1.1 h4'
   rw [e1,e2] at this
   obtain ⟨c1,c2⟩:=qr5 ht e5 q1 (qux ht hd q1 this q2) _ (qf8 hk hkl)
   exact (qth c1 h2).2.2 c2
  .obtain ⟨m,rfl⟩:∃ m,i=m+1:=⟨i-1,by omega⟩
   have em:cm (y::l) tn td (m+1)=cm l tn td m:=by unfold cm;rw [qcs (by omega)]
   rw [em] at h4
   exact q05 h2 e5 q1 m k (by omega) (by omega) hkl h4
theorem q6e {tn td:Int}:∀ {l:List Event} {i n:Int},(∀ x ∈ l,0<(qap x.AtN x.AtD tn td).1)->qro tn td l i n=n
 | [],_,_,_=>rfl
 | x::l,i,n,h=>by
  have:=h x zC
  simp only [qro]
  rw [zF (by omega)]
  exact q6e fun y hy=>h y (zG _ hy)
theorem qrp {tn td:Int}:∀ {l:List Event} {i n r:Int},0<=r->r<ln l->cm l tn td r<=0->(∀ j,r<j->j<ln l->0<cm l tn td j)->qro tn td l i n=i+r
 | [],_,_,r,h0,h1,_,_=>by simp only [ln,List.length_nil] at h1;omega
 | x::l,i,n,r,h0,h1,h2,h3=>by
  simp only [qro]
  by_cases hr:r=0
  .subst hr
   have h2':(qap x.AtN x.AtD tn td).1<=0:=h2
   rw [zT h2',q6e,Int.add_zero]
   intro y hy
   obtain ⟨j,j0,j1,rfl⟩:=qwk hy
   have:=h3 (j+1) (by omega) (by rw [jv];omega)
   unfold cm at this
   rwa [qcs j0] at this
  .obtain ⟨m,rfl⟩:∃ m,r=m+1:=⟨r-1,by omega⟩
   have hl:ln (x::l)=ln l+1:=jv x l
   have e:∀ j,0<=j->cm (x::l) tn td (j+1)=cm l tn td j:=fun j hj=>by unfold cm;rw [qcs hj]
   rw [qrp (r:=m) (by omega) (by omega) (by rw [<-e m (by omega)];exact h2) (fun j hj hjl=>by rw [<-e j (by omega)];exact h3 (j+1) (by omega) (by omega))]
   omega
theorem zfj {l:List Event} {tn td:Int} (h1:(kv l).2.2=0) (h2:(qap tn td (kv l).1 (kv l).2.1).2=0) (h3:(qap tn td (kv l).1 (kv l).2.1).1<0) :
  0<ln l/\cm l tn td 0<=0/\∀ i j,0<=i->i<j->j<ln l->0<=cm l tn td i->0<cm l tn td j:=by
 have ht:qe tn td=0:=by
  by_cases hc:qe tn td=0
  .exact hc
  .unfold qap at h2
   rw [zT hc] at h2
   exact h2
 have hb:=je ht
 have hcE:(zu l).1=0:=by
  by_cases hc:(zu l).1=0
  .exact hc
  .unfold kv at h1
   rw [zT hc] at h1
   exact h1
 have hch:qkv l 0 1:=by
  unfold zu at hcE
  split at hcE
  .simp at hcE
  .exact qlc hcE
 have hne:0<ln l:=by
  by_cases hc:0<ln l
  .exact hc
  .exfalso
   have hz:ln l=0:=by have:=zt l;omega
   have e:kv l=(0,1,0):=by
    unfold kv
    rw [zF (by omega),zT hz]
   rw [e] at h3
   unfold qap at h3
   rw [zF (by omega)] at h3
   simp only [Int.mul_one,Int.zero_mul] at h3
   split at h3
   .simp at h3
   .split at h3
    .omega
    .split at h3<;>simp at h3
 refine ⟨hne,?_,fun i j h0 hij hj hi=>q05 ht hch (by omega) i j h0 hij hj hi⟩
 match l,hch,hne with
 | y::l,hch,_=>
  obtain ⟨e1,e2,e3,_,_⟩:=hch
  have hs:=(qth (qii e3).1 ht).2
  rw [e1,e2] at hs
  have hc0:cm (y::l) tn td 0=(qap 0 1 tn td).1:=by
   show (qap y.AtN y.AtD tn td).1=_
   rw [e1,e2]
  rw [hc0]
  simp only [Int.mul_one,Int.zero_mul] at hs
  omega
theorem zfk {l:List Event} {tn td r:Int} (h1:(kv l).2.2=0) (h2:(qap tn td (kv l).1 (kv l).2.1).2=0) (h3:(qap tn td (kv l).1 (kv l).2.1).1<0) (h4:0<=r) (h5:r<ln l) (h6:cm l tn td r<=0) (h7:∀ j,r<j->j<ln l->0<cm l tn td j) :
  atE l tn td=(r,0):=by
 unfold atE
 rw [zF (by omega),zF (by omega),zF (by omega),qrp h4 h5 h6 h7,Int.zero_add]
def jl (b:Int):Int:=if b<32∨126<b then 120 else if b=32 then 32 else if b=34 then 113 else if b=59 then 99 else 112
def jz (b:Int):Bool:=decide (33<=b)&&decide (b<=126)&&!decide (b=59)&&!decide (b=34)
def ju (b:Int):Bool:=decide (32<=b)&&decide (b<=126)&&!decide (b=34)
def kj (b:Int):Bool:=decide (b=32)
def qaf (s:ZB):Bool:=s.all fun b=>ju b.toNat
theorem qgb {b:Int}:jz b=true↔33<=b/\b<=126/\b≠59/\b≠34:=by simp [jz,and_assoc]
theorem q8l {b:Int}:jz b=false↔(b<33∨126<b∨b=59∨b=34):=by
 rw [<-Bool.not_eq_true,qgb];omega
theorem qsg {b:Int}:ju b=true↔32<=b/\b<=126/\b≠34:=by simp [ju,and_assoc]
theorem qsh {b:Int}:ju b=false↔(b<32∨126<b∨b=34):=by
 rw [<-Bool.not_eq_true,qsg];omega
theorem qui {b:Int}:kj b=true↔b=32:=by simp [kj]
theorem q7g {b:Int}:kj b=false↔b≠32:=by simp [kj]
theorem qtg {b:Int}:jl b=120↔b<32∨126<b:=by unfold jl;split<;>(try split)<;>(try split)<;>(try split)<;>omega
theorem qo6 {b:Int}:jl b=113↔b=34:=by unfold jl;split<;>(try split)<;>(try split)<;>(try split)<;>omega
theorem q9l {b:Int}:jl b=112↔jz b=true:=by rw [qgb];unfold jl;split<;>(try split)<;>(try split)<;>(try split)<;>omega
theorem qi9 {s:ZB}:qaf s=true↔∀ i,0<=i->i<ln s->ju (bx s i)=true:=by
 simp only [qaf,List.all_eq_true]
 constructor
 .intro h i h0 h1
  exact h _ (qf8 h0 h1)
 .intro h b hb
  obtain ⟨i,h0,h1,rfl⟩:=qwk hb
  exact h i h0 h1
theorem qss {s:ZB} {i:Int} (h0:0<=i) (h1:i<ln s) (h:ju (bx s i)=false):qaf s=false:=by
 rw [<-Bool.not_eq_true,qi9]
 intro hq
 rw [hq i h0 h1] at h
 cases h
def q7w (l:ZB) (i:Int):Prop:=ln l<=i∨bx l i=32∨bx l i=59
instance (l:ZB) (i:Int):Decidable (q7w l i):=by unfold q7w;infer_instance
def qao (l:ZB) (a:Int):Int:=
 if (0<a/\bx l (a-1)≠32)∨ln l<=zp ju l (a+1)∨bx l (zp ju l (a+1))≠34∨¬ q7w l (zp ju l (a+1)+1) then -1 else zp ju l (a+1)+1
theorem q8o {l:ZB} {a:Int} (h0:0<=a) (h1:a<ln l):qao l a = -1∨(a+2<=qao l a/\qao l a<=ln l):=by
 unfold qao
 split
 .exact .inl rfl
 .have:=qej (p:=ju) (s:=l) (i:=a+1)
  right;omega
def jd (l:ZB) (from_:Int) (i:Int):List Word×Int:=
 if ln l<=zp kj l i∨bx l (zp kj l i)=59 then ([],-1)
 else if bx l (zp kj l i)=34 then
  (if h:zp kj l i<qao l (zp kj l i)/\qao l (zp kj l i)<=ln l then
    (if (jd l from_ (qao l (zp kj l i))).2<0 then (⟨from_+zp kj l i,sub l (zp kj l i+1) (qao l (zp kj l i)-1),true⟩::(jd l from_ (qao l (zp kj l i))).1,-1)
      else ([],(jd l from_ (qao l (zp kj l i))).2)) else ([],zp kj l i))
 else if jz (bx l (zp kj l i))=true then
  (if h:zp kj l i<zp jz l (zp kj l i)/\zp jz l (zp kj l i)<=ln l then
    (if (jd l from_ (zp jz l (zp kj l i))).2<0 then (⟨from_+zp kj l i,sub l (zp kj l i) (zp jz l (zp kj l i)),false⟩::(jd l from_ (zp jz l (zp kj l i))).1,-1)
      else ([],(jd l from_ (zp jz l (zp kj l i))).2)) else ([],zp kj l i))
 else ([],zp kj l i)
 termination_by (ln l-i).toNat
 decreasing_by all_goals (have:=qej (p:=kj) (s:=l) (i:=i);omega)
theorem zcj {l:ZB} {f x:Int} (h0:0<=x) (h1:x<ln l) (h:bx l x=32):jd l f x=jd l f (x+1):=by
 rw [jd,qgd h0 h1 (qui.2 h)]
 exact (jd.eq_1 l f (x+1)).symm
theorem qfz {l:ZB} {x:Int} (h:ln l<=x∨bx l x≠32):zp kj l x=x:=
 qio (h.imp id fun h=>q7g.2 h)
theorem q1a {l:ZB} {f x:Int} (h:ln l<=x∨bx l x=59):jd l f x=([],-1):=by
 rw [jd,qfz (by omega),zT h]
theorem zkr {l:ZB} {f x:Int} (h1:x<ln l) (h2:bx l x≠59) (h:(bx l x=34/\qao l x<0)∨(bx l x≠34/\bx l x≠32/\jz (bx l x)=false)) (h0:0<=x):jd l f x=([],x):=by
 rw [jd,qfz (by omega),zF (by omega)]
 rcases h with ⟨h3,h4⟩ | ⟨h3,h4,h5⟩
 .rw [zT h3,dif_neg (by omega)]
 .rw [zF h3,zF (by rw [h5];exact Bool.false_ne_true)]
theorem zck {l:ZB} {f x e:Int} (h0:0<=x) (h1:x<ln l) (h:bx l x=34) (he:qao l x=e) (h3:0<=e) :
  jd l f x=if (jd l f e).2<0 then (⟨f+x,sub l (x+1) (e-1),true⟩::(jd l f e).1,-1) else ([],(jd l f e).2):=by
 have hb:=q8o h0 h1
 rw [jd,qfz (by omega),zF (by omega),zT h,he,dif_pos (by omega)]
theorem qy1 {l:ZB} {f x e:Int} (h0:0<=x) (h1:x<ln l) (h:jz (bx l x)=true) (he:zp jz l x=e) :
  jd l f x=if (jd l f e).2<0 then (⟨f+x,sub l x e,false⟩::(jd l f e).1,-1) else ([],(jd l f e).2):=by
 have hp:=qgb.1 h
 have h2:=qgd h0 h1 h
 have h3:=qej (p:=jz) (s:=l) (i:=x+1)
 have h4:=qmb (p:=jz) (s:=l) (i:=x) (by omega)
 rw [jd,qfz (by omega),zF (by omega),zF (by omega),zT h,he,dif_pos (by omega)]
def qas:List ZB->Int->List Row×Int×Int
 | [],_=>([],0,0)
 | l::ls,at_=>
  if 1000<ln l then ([],4,at_)
  else if 0<=(jd l at_ 0).2 then ([],3,at_+(jd l at_ 0).2)
  else if (qas ls (at_+ln l+1)).2.1=0 then (if (jd l at_ 0).1=[] then (qas ls (at_+ln l+1)).1 else ⟨at_,(jd l at_ 0).1⟩::(qas ls (at_+ln l+1)).1,0,0)
  else ([],(qas ls (at_+ln l+1)).2)
def qh (text:ZB):List Row×Int×Int:=if 20000<ln text then ([],4,20000) else qas (qa 10 text) 0
def zb (n:Int):ZB:=Lib.itoa n
def zk (n d:Int):ZB×Int:=if qe n d≠0 then ([],qe n d) else if d=1 then (zb n,0) else (zb n++[47]++zb d,0)
def qm5 (b:Int):Bool:=decide (48<=b)&&decide (b<=57)
def qcv (s:ZB):Bool:=s.all fun b=>qm5 b.toNat
def qav:ZB->Int->Int
 | [],n=>n
 | b::l,n=>qav l (10 * n+((b.toNat:Int)-48))
def qx3:ZB->Int->Int×Bool
 | [],n=>(n,true)
 | b::l,n=>if qm5 b.toNat=true then qx3 l (if 288230376151711744<10 * n+((b.toNat:Int)-48) then 288230376151711744 else 10 * n+((b.toNat:Int)-48)) else (0,false)
def qiy (s:ZB):Prop:=s=[]∨(bx s 0=48/\1<ln s)
instance (s:ZB):Decidable (qiy s):=by unfold qiy;infer_instance
def kl (s:ZB):Int×Bool:=if qiy s then (0,false) else qx3 s 0
def qdn (s:ZB):Bool:=!decide (qiy s)&&qcv s
def q2g (b:Int):Bool:=!decide (b=47)
def qcq (s:ZB):Int:=zp q2g s 0
def qu (s:ZB):Int×Int×Int:=
 if qdn (upto s (qcq s))=false∨(qcq s<ln s/\qdn (fr s (qcq s+1))=false) then (0,0,3)
 else if 1099511627776<qav (upto s (qcq s)) 0 then (0,0,4)
 else if ln s<=qcq s then (qav (upto s (qcq s)) 0,1,0)
 else if 1048576<qav (fr s (qcq s+1)) 0 then (0,0,4)
 else if qav (fr s (qcq s+1)) 0<2∨1<zh (qav (upto s (qcq s)) 0) (qav (fr s (qcq s+1)) 0) then (0,0,3)
 else (qav (upto s (qcq s)) 0,qav (fr s (qcq s+1)) 0,0)
abbrev qgu:ZB:=[99,100,101,102,103,97,98]
def q7d (a:Int):ZB:=if a=0 then [] else if a<0 then [98] else [35]
def qko (st oc al:Int):ZB:=[qgu.getD st.toNat 0]++q7d al++[UInt8.ofNat (48+oc.toNat)]
def js (st oc al:Int):ZB×Int:=if jy st oc al≠0 then ([],jy st oc al) else (qko st oc al,0)
abbrev qow:ZB:=[98,32,35]
def q0z (s:ZB):Int:=if ln s≠3 then 0 else if qf qow (bx s 1)<0∨qf qow (bx s 1)=1 then 2 else qf qow (bx s 1)-1
def zf (s:ZB):Int×Int×Int×Int:=
 if ln s<2∨3<ln s∨qf qgu (bx s 0)<0∨bx s (ln s-1)<48∨56<bx s (ln s-1)∨q0z s=2 then (0,0,0,3)
 else (qf qgu (bx s 0),bx s (ln s-1)-48,q0z s,0)
def qe5 (s:ZB) (i n:Int):Int×Bool:=
 if h:0<=i/\i<ln s then (if qm5 (bx s i)=true then (if 10 * n+(bx s i-48) > 1099511627776 then (0,false) else qe5 s (i+1) (10 * n+(bx s i-48))) else (0,false)) else (n,true)
 termination_by (ln s-i).toNat
 decreasing_by omega
def zq (s:ZB):Int×Bool:=if ln s=0∨(bx s 0=48/\1<ln s) then (0,false) else qe5 s 0 0
def qji (x:Event):ZB:=
 (if x.Rest=true then [114,101,115,116,32] else [110,111,116,101,32]++(js x.PitchStep x.PitchOctave x.PitchAlter).1++[32])++(zk x.DurN x.DurD).1++[32]++zb x.Sign++[32]++zb x.Pass++[10]
def qjf:List Event->ZB->ZB×Int
 | [],acc=>(acc,0)
 | x::l,acc=>if 20000<ln (acc++qji x) then ([],4) else qjf l (acc++qji x)
def jr (l:List Event):ZB×Int:=if (zu l).1≠0 then ([],(zu l).1) else qjf l []
def q43 (l:List Event):Prop:=ln l<=60/\∀ x ∈ l,x.Sign<=9223372036854775807/\x.Pass<=9223372036854775807
abbrev qsx:ZB:=[114,101,115,116]
abbrev qso:ZB:=[110,111,116,101]
def isR (ws:List Word):Bool:=decide ((ix ws 0).Text=qsx)
def qp8 (ws:List Word):Prop:=0<ln ws/\ln ws<=1000/\∀ w ∈ ws,ln w.Text<=1000
def qde (ws:List Word):Prop:=(isR ws=true/\ln ws≠4)∨(isR ws=false/\(ln ws≠5∨(ix ws 0).Text≠qso))∨ws.any (·.Quoted)=true
instance (ws:List Word):Decidable (qde ws):=by unfold qde;infer_instance
def kD (ws:List Word):Int:=if isR ws=true then 1 else 2
def qb6 (ws:List Word):Int:=
 if qde ws then 0 else if isR ws=false/\(zf (ix ws 1).Text).2.2.2≠0 then 1
 else if (qu (ix ws (kD ws)).Text).2.2≠0∨(qu (ix ws (kD ws)).Text).1=0 then kD ws
 else if (zq (ix ws (kD ws+1)).Text).2=false then kD ws+1 else if (zq (ix ws (kD ws+2)).Text).2=false then kD ws+2 else -1
def qoe (ws:List Word) (k:Int):Prop:=qb6 ws = -1∨k<qb6 ws
instance (ws:List Word) (k:Int):Decidable (qoe ws k):=by unfold qoe;infer_instance
def zw (ws:List Word):Event where
 AtN:=0
 AtD:=0
 DurN:=if qoe ws (kD ws) then (qu (ix ws (kD ws)).Text).1 else 0
 DurD:=if qoe ws (kD ws) then (qu (ix ws (kD ws)).Text).2.1 else 0
 PitchStep:=if isR ws=false/\qoe ws 1 then (zf (ix ws 1).Text).1 else 0
 PitchOctave:=if isR ws=false/\qoe ws 1 then (zf (ix ws 1).Text).2.1 else 0
 PitchAlter:=if isR ws=false/\qoe ws 1 then (zf (ix ws 1).Text).2.2.1 else 0
 Rest:=isR ws
 Sign:=if qoe ws (kD ws+1) then (zq (ix ws (kD ws+1)).Text).1 else 0
 Pass:=if qoe ws (kD ws+2) then (zq (ix ws (kD ws+2)).Text).1 else 0
def qg8:List Row->Int->Int->Int->List Event->List Event×Int×Int
 | [],_,_,_,acc=>(acc,0,0)
 | r::rs,i,n,d,acc=>
  if i=2000 then ([],11,(ix r.Words 0).At) else if qb6 r.Words≠-1 then ([],3,(ix r.Words (qb6 r.Words)).At)
  else if (kr n d (zw r.Words).DurN (zw r.Words).DurD).2.2≠0 then ([],4,(ix r.Words 0).At)
  else qg8 rs (i+1) (kr n d (zw r.Words).DurN (zw r.Words).DurD).1 (kr n d (zw r.Words).DurN (zw r.Words).DurD).2.1 (acc++[{zw r.Words with AtN:=n,AtD:=d}])
def qgw (t:ZB):List Event×Int×Int:=if (qh t).2.1≠0 then ([],(qh t).2) else qg8 (qh t).1 0 0 1 []
def zj (a n:Int):Int:=if n<1 then 0 else if Int.tmod a n<0 then Int.tmod a n+n else Int.tmod a n
def tT (n d:Int):Int×Int:=(n.tdiv (zh n d),d.tdiv (zh n d))
def j5 (a b c d:Int):Int×Int:=tT (a * d+c * b) (b * d)
def kz (n d m c:Int):Int×Int×Int:=
 if (0<n.tdiv (zh n c)/\Int.tdiv 1099511627776 (n.tdiv (zh n c))<m.tdiv (zh m d))∨1048576<d.tdiv (zh m d) * c.tdiv (zh n c) then (0,0,4)
 else (n.tdiv (zh n c) * m.tdiv (zh m d),d.tdiv (zh m d) * c.tdiv (zh n c),0)
def qa5 (a b c d:Int):Int×Int×Int:=if qe a b≠0 then (0,0,qe a b) else if qe c d≠0 then (0,0,qe c d) else kz a b c d
abbrev zmz:List Time:=[(Time.mk 1 1),(Time.mk 2 1),(Time.mk 1 2),(Time.mk 3 1),(Time.mk 4 1),(Time.mk 3 2),(Time.mk 6 1),(Time.mk 2 3),(Time.mk 4 3)]
def qbp (k:Int):Time:=ix zmz (Int.tmod (Int.tdiv k 63) 9)
def evK (k i n d:Int):Event:=
 if Int.tdiv k 567=6 then ⟨n,d,(qbp k).N,(qbp k).D,0,0,0,true,i,Int.tmod (Int.tdiv k 567) 2⟩
 else ⟨n,d,(qbp k).N,(qbp k).D,Int.tmod k 7,3+Int.tmod (Int.tdiv k 7) 3,Int.tmod (Int.tdiv k 21) 3-1,false,i,Int.tmod (Int.tdiv k 567) 2⟩
def qe1 (most:Int):List Int->Int->Int->Int->List Event
 | [],_,_,_=>[]
 | a::l,i,n,d=>if i<most then evK (zj a 3969) i n d::qe1 most l (i+1) (j5 n d (qbp (zj a 3969)).N (qbp (zj a 3969)).D).1 (j5 n d (qbp (zj a 3969)).N (qbp (zj a 3969)).D).2 else []
def ql (l:List Int) (most:Int):List Event:=qe1 most l 0 0 1
abbrev qm1:List Int:=[6,12,3,18,24,9,36,4,8]
def sxt (s:Int):Int×Int:=tT s 6
def qw5 (n d i:Int):Prop:=∃ s,0<=s/\s<=36 * i/\n=(sxt s).1/\d=(sxt s).2
def qkd (a0 a1:Int) (x y:Int):Prop:=0<=x/\0<=y/\zh x y=zh a0 a1
def qi6 (_ _:Int) (_ y:Int):Nat:=y.toNat
def qhe (a0:List Time) (i:Int):Prop:=0<=i/\i<=ln a0/\qd4 (fr a0 i)=qd4 a0
def qgl (a0:List Time) (i:Int):Nat:=(ln a0-i).toNat
def qke (a0 a1 a2 a3 _ _ _:Int) (_:Bool) (_ _:Int) (i:Int):Prop:=0<=i/\i<=2/\(1<=i->qe a0 a1=0)/\(2<=i->qe a2 a3=0)
def qgv (_ _ _ _ _ _ _:Int) (_:Bool) (_ _:Int) (i:Int):Nat:=(2-i).toNat
def qhb (a0:List Event) (i n d:Int):Prop:=0<=i/\i<=ln a0/\qcp (fr a0 i) i n d=qcp a0 0 0 1
def qgi (a0:List Event) (i _ _:Int):Nat:=(ln a0-i).toNat
def qjq (a0:List Event) (a1 a2:Int) (i j:Int):Prop:=0<=i/\i<=j/\j<=ln a0/\(∀ k,0<=k->k<i->cm a0 a1 a2 k<0)/\∀ k,j<=k->k<ln a0->0<=cm a0 a1 a2 k
def qev (_:List Event) (_ _:Int) (i j:Int):Nat:=(j-i).toNat
def qdv (a0 a1:List Event) (i:Int):Prop:=0<=i/\i<=ln a0/\∀ j,0<=j->j<i->ix a0 j=ix a1 j
def qdg (a0 _:List Event) (i:Int):Nat:=(ln a0-i).toNat
def qjx (out:List Word) (r:List Word×Int):List Word×Int:=if r.2<0 then (out++r.1,-1) else ([],r.2)
def qis (out:List Row) (r:List Row×Int×Int):List Row×Int×Int:=if r.2.1=0 then (out++r.1,0,0) else ([],r.2)
def qhf (a0:ZB) (x:Int):Prop:=0<=x/\x<=ln a0/\∀ j,0<=j->j<x->ju (bx a0 j)=true
def qgm (a0:ZB) (x:Int):Nat:=(ln a0-x).toNat
def kf (a0 a1:ZB) (_ _:Int) (x:ZB) (i:Int) (l:List ZB):Prop:=0<=i/\ln l=j4 a0 (bx a1 0)+1/\i+ln (qa (bx a1 0) x)=j4 a0 (bx a1 0)+1/\upto l i++qa (bx a1 0) x=qa (bx a1 0) a0/\ln x<=ln a0
def ke (a0 a1:ZB) (_ _:Int) (_:ZB) (i:Int) (_:List ZB):Nat:=(j4 a0 (bx a1 0)+1-i).toNat
def qam (a0:ZB) (out:List Row) (at_:Int) (k:Int):Prop:=0<=k/\k<=ln (qa 10 a0)/\0<=at_/\at_<=1001 * k/\ln out<=k/\qas (qa 10 a0) 0=qis out (qas (fr (qa 10 a0) k) at_)
def z8 (a0:ZB) (_:List Row) (_:Int) (k:Int):Nat:=(ln (qa 10 a0)-k).toNat
def zc (_:ZB) (out:List Word) (x:Int) (begin:Int) (line:ZB):Prop:=0<=x/\x<=ln line/\ln out<=x/\jd line begin 0=qjx out (jd line begin x)
def qc (_:ZB) (_:List Word) (x:Int) (_:Int) (line:ZB):Nat:=(ln line-x).toNat
def qgs (_:ZB) (y:Int) (line:ZB) (x:Int):Prop:=x<=y/\y<=ln line/\zp kj line x=zp kj line y
def qhj (_:ZB) (y:Int) (line:ZB) (_:Int):Nat:=(ln line-y).toNat
def qcl (_:ZB) (y:Int) (line:ZB) (x:Int):Prop:=x<=y/\y<=ln line/\zp jz line x=zp jz line y
def qdy (_:ZB) (y:Int) (line:ZB) (_:Int):Nat:=(ln line-y).toNat
def k7 (a:ZB) (n:Int) (s:ZB) (i:Int):Prop:=s=a/\0<=i/\i<=ln a/\0<=n/\n<=288230376151711744/\qx3 (fr a i) n=qx3 a 0
def z6 (_:ZB) (_:Int) (s:ZB) (i:Int):Nat:=(ln s-i).toNat
def qhd (a x y:ZB) (b:Bool) (s:ZB) (i:Int):Prop:=x=a/\y=[]/\b=false/\s=a/\0<=i/\i<=ln a/\qcq a=zp q2g a i/\(∀ j,0<=j->j<i->bx a j<=57)
def qgk (_ _ _:ZB) (_:Bool) (s:ZB) (i:Int):Nat:=(ln s-i).toNat
def qbg (s:ZB) (n i:Int):Prop:=0<=i/\i<=ln s/\0<=n/\n<=1099511627776/\qe5 s i n=zq s
def qce (s:ZB) (_ i:Int):Nat:=(ln s-i).toNat
def qbx (l:List Event) (i:Int) (s:ZB):Prop:=0<=i/\i<=ln l/\ln s<=20000/\qjf (fr l i) s=qjf l []
def jg (l:List Event) (i:Int) (_:ZB):Nat:=(ln l-i).toNat
def qad (ws:List Word) (i:Int):Prop:=0<=i/\i<=ln ws/\∀ j,0<=j->j<i->(ix ws j).Quoted=false
def qbh (ws:List Word) (i:Int):Nat:=(ln ws-i).toNat
def qhc (t:ZB) (l:List Event) (i n d:Int):Prop:=0<=i/\i<=ln (qh t).1/\ln l<=i/\i<=2000/\qe n d=0/\qg8 (fr (qh t).1 i) i n d l=qg8 (qh t).1 0 0 1 []
def qgj (t:ZB) (_:List Event) (i _ _:Int):Nat:=(ln (qh t).1-i).toNat
def qps (a b x y:Int):Prop:=0<=x/\0<=y/\zh x y=zh a b
def qmr (_ _ _ y:Int):Nat:=y.toNat
def qdw (a:List Int) (most:Int) (o:List Event) (i n d:Int):Prop:=0<=i/\i<=ln a/\i<=most/\ln o=i/\qw5 n d i/\o++qe1 most (fr a i) i n d=ql a most
def qb1 (a:List Int) (_:Int) (_:List Event) (i _ _:Int):Nat:=(ln a-i).toNat
def qeo (a:List Int) (_ i:Int):Prop:=0<=i/\i<=ln (ql a 20)
def qdz (a:List Int) (_ i:Int):Nat:=(ln (ql a 20)-i).toNat
theorem qee {b:Int}:qm5 b=true↔48<=b/\b<=57:=by simp [qm5]
theorem qu0 {n:Int} (h0:0<=n) (h:n<=9):zb n=[UInt8.ofNat (48+n.toNat)]:=by
 unfold zb Lib.itoa
 rw [zF (by omega),Lib.decDigits,dif_pos (by omega)]
theorem zf6 {n:Int} (h:9<n):zb n=zb (Int.tdiv n 10)++[UInt8.ofNat (48+(Int.tmod n 10).toNat)]:=by
 have e1:Int.tdiv n 10=n / 10:=Int.tdiv_eq_ediv_of_nonneg (by omega)
 have e2:Int.tmod n 10=n % 10:=Int.tmod_eq_emod_of_nonneg (by omega)
 rw [e1,e2]
 unfold zb Lib.itoa
 rw [zF (by omega),zF (by omega),Lib.decDigits,dif_neg (by omega)]
 have q1:n.toNat / 10=(n / 10).toNat:=by omega
 have q2:n.toNat % 10=(n % 10).toNat:=by omega
 rw [q1,q2]
theorem qed {n:Int} (h0:0<=n) (h:n<=9223372036854775807):ln (zb n)<=21:=by
 have:=Lib.itoa_length_le n (by omega) h
 unfold zb
 simp only [ln]
 omega
theorem zks {n:Int} (h:0<=n):0<=Int.tmod n 10/\Int.tmod n 10<=9/\0<=Int.tdiv n 10/\Int.tdiv n 10<=n/\(0<n->Int.tdiv n 10<n)/\(9<n->0<Int.tdiv n 10)/\(n<=9->Int.tdiv n 10=0)/\(n<=9->Int.tmod n 10=n):=by
 have e1:Int.tdiv n 10=n / 10:=Int.tdiv_eq_ediv_of_nonneg (by omega)
 have e2:Int.tmod n 10=n % 10:=Int.tmod_eq_emod_of_nonneg (by omega)
 omega
theorem q18 {s:ZB} (h:s≠[]):0<ln s:=by
 cases s with
 | nil=>exact absurd rfl h
 | cons a l=>rw [jv];have:=zt l;omega
theorem qy3:qcv []=true:=rfl
theorem qj5 {b:UInt8} {l:ZB}:qcv (b::l)=(qm5 b.toNat&&qcv l):=rfl
theorem zf7 {s:ZB} {i:Int} (h0:0<=i) (h:i<ln s) (hd:bx s i<48∨57<bx s i):qcv (fr s i)=false:=by
 rw [qdd h0 h,qj5]
 have:qm5 (((ix s i).toNat:Nat):Int)=false:=by
  rw [<-Bool.not_eq_true,qee]
  have e:bx s i=((ix s i).toNat:Int):=rfl
  omega
 rw [this,Bool.false_and]
theorem zi2 {s:ZB} {i n:Int} (h0:0<=i) (h:i<ln s):qav (fr s i) n=qav (fr s (i+1)) (10 * n+(bx s i-48)):=by
 rw [qdd h0 h];rfl
theorem zmo {s:ZB} {i n:Int} (h:ln s<=i):qav (fr s i) n=n:=by rw [qka h];rfl
theorem qru:∀ {s:ZB} {n:Int},qcv s=true->0<=n->n<=qav s n
 | [],n,_,_=>zK _
 | b::l,n,h,h0=>by
  rw [qj5,zA] at h
  have hd:=qee.1 h.1
  have:=qru (s:=l) (n:=10 * n+((b.toNat:Int)-48)) h.2 (by omega)
  show n<=qav l _
  omega
theorem q6q:∀ {s:ZB} {n m:Int},n<=m->qav s n<=qav s m
 | [],n,m,h=>h
 | b::l,n,m,h=>q6q (s:=l) (by omega)
theorem zkt {s:ZB} {i:Int} (h:qcv s=true):qcv (fr s i)=true:=by
 simp only [qcv,List.all_eq_true] at h ⊢
 exact fun x hx=>h x (List.mem_of_mem_drop hx)
theorem q9y {s:ZB} {i:Int} (h:qcv s=true) (h0:0<=i) (h1:i<ln s):48<=bx s i/\bx s i<=57:=by
 simp only [qcv,List.all_eq_true] at h
 exact qee.1 (h _ (qf8 h0 h1))
theorem qp1:∀ {s:ZB} {n:Int},0<=n->n<=288230376151711744->qx3 s n=if qcv s=true then (if 288230376151711744<qav s n then 288230376151711744 else qav s n,true) else (0,false)
 | [],n,h0,h1=>by rw [zT qy3];show (n,true)=(if 288230376151711744<n then _ else n,true);rw [zF (by omega)]
 | b::l,n,h0,h1=>by
  rw [qj5]
  simp only [qx3]
  by_cases hd:qm5 b.toNat=true
  .rw [zT hd,hd,Bool.true_and]
   have hb:=qee.1 hd
   by_cases hc:288230376151711744<10 * n+((b.toNat:Int)-48)
   .rw [zT hc,qp1 (by omega) (zK _)]
    by_cases hl:qcv l=true
    .rw [zT hl,zT hl]
     have g1:=qru (s:=l) (n:=288230376151711744) hl (by omega)
     have g2:=q6q (s:=l) (Int.le_of_lt hc)
     have e:qav (b::l) n=qav l (10 * n+((b.toNat:Int)-48)):=rfl
     rw [e,zT (show 288230376151711744<qav l (10 * n+((b.toNat:Int)-48)) by have:=qru (s:=l) (n:=10 * n+((b.toNat:Int)-48)) hl (by omega);omega)]
     split
     .rfl
     .rw [show qav l 288230376151711744=288230376151711744 by omega]
    .rw [zF hl,zF hl]
   .rw [zF hc,qp1 (by omega) (by omega)]
    rfl
  .rw [zF hd]
   have:qm5 (b.toNat:Int)=false:=by simpa using hd
   rw [this,Bool.false_and,zF (by simp)]
theorem zak (s:ZB):kl s=if qdn s=true then (if 288230376151711744<qav s 0 then 288230376151711744 else qav s 0,true) else (0,false):=by
 unfold kl qdn
 by_cases h:qiy s
 .rw [zT h]
  simp [h]
 .rw [zF h,qp1 (zK _) (by omega)]
  simp [h]
theorem qof {s:ZB} (h:qdn s=true):qcv s=true:=by
 unfold qdn at h
 simp only [zA] at h
 exact h.2
theorem qkr {s:ZB} {i:Int} (h0:0<=i) (h:i<ln s):(bx s i<=127/\jq s i=bx s i/\qe9 s i=i+1)∨(128<=bx s i/\128<=jq s i):=by
 have hi:i.toNat<s.length:=by simp only [ln] at h;omega
 have hg:((⟨s.toArray⟩:ByteArray).get! i.toNat).toNat=(s.getD i.toNat 0).toNat:=by
  simp [ByteArray.get!,List.getD_eq_getElem?_getD,hi]
 by_cases hb:bx s i<=127
 .left
  have hb':(s.getD i.toNat 0).toNat<128:=by unfold bx at hb;omega
  have e:Utf8.decode ⟨s.toArray⟩ i.toNat=((s.getD i.toNat 0).toNat,1):=by
   unfold Utf8.decode
   simp only [Nat.add_zero,hg]
   rw [zT hb']
  unfold jq qe9
  rw [e]
  exact ⟨hb,rfl,rfl⟩
 .right
  have hb':¬ (s.getD i.toNat 0).toNat<128:=by unfold bx at hb;omega
  refine ⟨by omega,?_⟩
  have:128<=(Utf8.decode ⟨s.toArray⟩ i.toNat).1:=by
   unfold Utf8.decode
   simp only [Nat.add_zero,hg]
   rw [zF hb']
   have hr:(128:Nat)<=Utf8.runeError:=by decide
   split
   .split
    .assumption
    .exact hr
   .split
    .split
     .rename_i hc
      simp only [zA,decide_eq_true_eq,ge_iff_le] at hc
      exact zR (by decide) hc.1
     .exact hr
    .split
     .split
      .rename_i hc
       simp only [zA,decide_eq_true_eq,ge_iff_le] at hc
       exact zR (by decide) hc.1
      .exact hr
     .exact hr
  unfold jq
  omega
theorem qyx:∀ {l:List Event} {n d:Int},qkv l n d->∀ x ∈ l,qbb x=0
 | [],_,_,_,x,hx=>by cases hx
 | y::l,n,d,⟨_,_,h1,_,h2⟩,x,hx=>by
  rcases zD.1 hx with rfl | hx
  .exact h1
  .exact qyx h2 x hx
theorem q0s {l:List Event} (h:(zu l).1=0):∀ x ∈ l,qbb x=0:=by
 unfold zu at h
 split at h
 .simp at h
 .exact qyx (qlc h)
theorem qmt {x:Event} (h:qbb x=0):qe x.DurN x.DurD=0/\(x.Rest=false->jy x.PitchStep x.PitchOctave x.PitchAlter=0)/\0<=x.Sign/\0<=x.Pass:=by
 have h2:=(qii h).2.1
 unfold qbb at h
 rw [zF (by have:=(qii (x:=x) (by unfold qbb;exact h)).1;omega),zF (by omega)] at h
 split at h
 .omega
 .split at h
  .omega
  .split at h
   .rename_i hc;exact absurd h hc.2
   .rename_i hc
    split at h
    .omega
    .refine ⟨h2,fun hr=>?_,by omega,by omega⟩
     by_cases hz:jy x.PitchStep x.PitchOctave x.PitchAlter=0
     .exact hz
     .exact absurd ⟨hr,hz⟩ hc
theorem qrr (n d:Int):ln (zk n d).1<=43:=by
 unfold zk
 by_cases h:qe n d=0
 .have hb:=je h
  have l1:=qed (n:=n) hb.1 (by omega)
  have l2:=qed (n:=d) (by omega) (by omega)
  rw [zF (by omega)]
  split
  .show ln (zb n)<=43;omega
  .show ln (zb n++[47]++zb d)<=43
   rw [qbi,qkh];omega
 .rw [zT h];show (0:Int)<=43;decide
theorem q0j (a b c:Int):ln (js a b c).1<=3:=by
 unfold js
 split
 .show (0:Int)<=3;decide
 .show ln (qko a b c)<=3
  unfold qko q7d
  split
  .simp [ln]
  .split<;>simp [ln]
theorem q5w {l:List Event} {i:Int} {s:ZB} (h0:0<=i) (h:i<ln l):qjf (fr l i) s=if 20000<ln (s++qji (ix l i)) then ([],4) else qjf (fr l (i+1)) (s++qji (ix l i)):=by
 rw [qdd h0 h];rfl
theorem zl3 {l:List Event} {i:Int} {s:ZB} (h:ln l<=i):qjf (fr l i) s=(s,0):=by rw [qka h];rfl
theorem zea {l:List Event} (h:(zu l).1≠0):jr l=([],(zu l).1):=by unfold jr;rw [zT h]
theorem qxa {l:List Event} (h:(zu l).1=0):jr l=qjf l []:=by unfold jr;rw [zF (by omega)]
theorem qzv {n d:Int} (h0:0<=n) (h1:1<=d) (h:(ofT n d).2.2=0):qe (ofT n d).1 (ofT n d).2.1=0:=by
 unfold ofT at h ⊢
 split at h
 .simp at h
 .rename_i hno
  rw [zF hno]
  obtain ⟨N,rfl⟩:=Int.eq_ofNat_of_zero_le h0
  obtain ⟨D,rfl⟩:=Int.eq_ofNat_of_zero_le (show 0<=d by omega)
  have hD:0<D:=by omega
  have hg:0<Nat.gcd N D:=Nat.gcd_pos_of_pos_right _ hD
  have e:zh (N:Int) (D:Int)=((Nat.gcd N D:Nat):Int):=by simp [zh]
  rw [e] at hno ⊢
  have e1:Int.tdiv (N:Int) ((Nat.gcd N D:Nat):Int)=((N / Nat.gcd N D:Nat):Int):=(Int.ofNat_tdiv _ _).symm
  have e2:Int.tdiv (D:Int) ((Nat.gcd N D:Nat):Int)=((D / Nat.gcd N D:Nat):Int):=(Int.ofNat_tdiv _ _).symm
  rw [e1,e2] at hno ⊢
  have hd:0<D / Nat.gcd N D:=Nat.div_pos (Nat.le_of_dvd hD (Nat.gcd_dvd_right N D)) hg
  have hc:=Nat.gcd_div_gcd_div_gcd_of_pos_right (n:=N) hD
  revert hno hc hd
  generalize N / Nat.gcd N D=p
  generalize D / Nat.gcd N D=q
  intro hno hd hc
  show qe (p:Int) (q:Int)=0
  have hg1:zh (p:Int) (q:Int)=1:=by simp [zh,hc]
  unfold qe
  rw [zF (by omega),hg1,zF (by omega)]
theorem q0y {a b c d:Int} (h1:qe a b=0) (h2:qe c d=0):kr a b c d=ofT (a * d+c * b) (b * d):=by
 unfold kr
 rw [zF (by omega),zF (by omega)]
theorem znh {a0 a1 a2 a3:Int} (h1:qe a0 a1=0) (h2:qe a2 a3=0):I64 (a0 * a3)/\I64 (a2 * a1)/\I64 ((a0 * a3)+(a2 * a1))/\I64 (a1 * a3)/\
  (0<=((a0 * a3)+(a2 * a1))/\1<=(a1 * a3)/\((a0 * a3)+(a2 * a1))<=4611686018427387904/\(a1 * a3)<=4611686018427387904)/\I64 ((a0 * a3)-(a2 * a1)):=by
 have b1:=je h1
 have b2:=je h2
 have p1:=qd5 b1.1 b1.2.1 (show 0<=a3 by omega) b2.2.2.2
 have p2:=qd5 b2.1 b2.2.1 (show 0<=a1 by omega) b1.2.2.2
 have p3:=ql1 b1.2.2.1 b2.2.2.1
 have p4:=qd5 (show 0<=a1 by omega) b1.2.2.2 (show 0<=a3 by omega) b2.2.2.2
 omega
theorem qyt {a b c d:Int} (h1:qe a b=0) (h2:qe c d=0) (h:(kr a b c d).2.2=0):qe (kr a b c d).1 (kr a b c d).2.1=0:=by
 obtain ⟨_,_,_,_,⟨b5,b6,_⟩,_⟩:=znh h1 h2
 rw [q0y h1 h2] at h ⊢
 exact qzv b5 b6 h
theorem zjs {a b c d:Int} (h1:qe a b=0) (h2:qe c d=0) (h:(kr a b c d).2.2≠0):(kr a b c d).2.2=4:=by
 rw [q0y h1 h2] at h ⊢
 unfold ofT at h ⊢
 split at h
 .rename_i hc;rw [zT hc]
 .exact absurd rfl h
theorem zl5:((List.range 7).all fun a=>(List.range 9).all fun b=>(List.range 3).all fun c=>decide (zf (qko (a:Int) (b:Int) ((c:Int)-1))=((a:Int),(b:Int),(c:Int)-1,0)))=true:=by kernel_rfl
theorem zie {a b c:Int} (a0:0<=a) (a1:a<=6) (b0:0<=b) (b1:b<=8) (c0:-1<=c) (c1:c<=1):zf (qko a b c)=(a,b,c,0):=by
 have h:=List.all_eq_true.1 (List.all_eq_true.1 (List.all_eq_true.1 zl5 a.toNat (List.mem_range.2 (by omega))) b.toNat (List.mem_range.2 (by omega))) (c+1).toNat (List.mem_range.2 (by omega))
 have h:=of_decide_eq_true h
 rw [show ((a.toNat:Nat):Int)=a by omega,show ((b.toNat:Nat):Int)=b by omega,show (((c+1).toNat:Nat):Int)-1=c by omega] at h
 exact h
theorem qp0 (a:Int) {n:Int} (h:1<=n):0<=zj a n/\zj a n<n:=by
 unfold zj
 rw [zF (by omega)]
 have h1:=Int.tmod_lt_of_pos a (show 0<n by omega)
 have h2:-n<Int.tmod a n:=Int.lt_tmod_of_pos _ (by omega)
 split<;>omega
def ziu (s c:Int):Bool:=decide (j5 (sxt s).1 (sxt s).2 (sxt c).1 (sxt c).2=sxt (s+c))&&decide (qe (sxt s).1 (sxt s).2=0)&&decide (kr (sxt s).1 (sxt s).2 (sxt c).1 (sxt c).2=((sxt (s+c)).1,(sxt (s+c)).2,0))&&decide ((sxt s).1<=1000)&&decide ((sxt s).2<=6)
theorem zmh:((List.range 721).all fun s=>qm1.all fun c=>ziu (s:Int) c)=true:=by kernel_rfl
theorem zax {s c:Int} (h0:0<=s) (h1:s<=720) (hc:c ∈ qm1):j5 (sxt s).1 (sxt s).2 (sxt c).1 (sxt c).2=sxt (s+c)/\qe (sxt s).1 (sxt s).2=0/\kr (sxt s).1 (sxt s).2 (sxt c).1 (sxt c).2=((sxt (s+c)).1,(sxt (s+c)).2,0)/\(sxt s).1<=1000/\(sxt s).2<=6:=by
 have h:=List.all_eq_true.1 (List.all_eq_true.1 zmh s.toNat (List.mem_range.2 (by omega))) c hc
 rw [show ((s.toNat:Nat):Int)=s by omega] at h
 simp only [ziu,zA,decide_eq_true_eq] at h
 exact ⟨h.1.1.1.1,h.1.1.1.2,h.1.1.2,h.1.2,h.2⟩
theorem qpc {k:Int} (h:0<=k):∃ c ∈ qm1,(qbp k).N=(sxt c).1/\(qbp k).D=(sxt c).2/\3<=c/\c<=36/\(qbp k).N≠0/\qe (qbp k).N (qbp k).D=0/\1<=(qbp k).N/\(qbp k).N<=6/\1<=(qbp k).D/\(qbp k).D<=3:=by
 have h1:0<=Int.tdiv k 63:=Int.tdiv_nonneg h (by decide)
 have h2:0<=Int.tmod (Int.tdiv k 63) 9:=Int.tmod_nonneg _ h1
 have h3:Int.tmod (Int.tdiv k 63) 9<9:=Int.tmod_lt_of_pos _ (by decide)
 unfold qbp
 generalize Int.tmod (Int.tdiv k 63) 9=j at *
 rcases (show j=0∨j=1∨j=2∨j=3∨j=4∨j=5∨j=6∨j=7∨j=8 by omega) with rfl | rfl | rfl | rfl | rfl | rfl | rfl | rfl | rfl
 .exact ⟨6,by decide,by decide,by decide,by decide,by decide,by decide,by decide,by decide,by decide,by decide,by decide⟩
 .exact ⟨12,by decide,by decide,by decide,by decide,by decide,by decide,by decide,by decide,by decide,by decide,by decide⟩
 .exact ⟨3,by decide,by decide,by decide,by decide,by decide,by decide,by decide,by decide,by decide,by decide,by decide⟩
 .exact ⟨18,by decide,by decide,by decide,by decide,by decide,by decide,by decide,by decide,by decide,by decide,by decide⟩
 .exact ⟨24,by decide,by decide,by decide,by decide,by decide,by decide,by decide,by decide,by decide,by decide,by decide⟩
 .exact ⟨9,by decide,by decide,by decide,by decide,by decide,by decide,by decide,by decide,by decide,by decide,by decide⟩
 .exact ⟨36,by decide,by decide,by decide,by decide,by decide,by decide,by decide,by decide,by decide,by decide,by decide⟩
 .exact ⟨4,by decide,by decide,by decide,by decide,by decide,by decide,by decide,by decide,by decide,by decide,by decide⟩
 .exact ⟨8,by decide,by decide,by decide,by decide,by decide,by decide,by decide,by decide,by decide,by decide,by decide⟩
theorem qom:qw5 0 1 0:=⟨0,zK _,zK _,by decide,by decide⟩
theorem qw6 {n d i:Int} (h:qw5 n d i) (hi:i<=20):qe n d=0/\0<=n/\n<=1000/\1<=d/\d<=6:=by
 obtain ⟨s,h0,h1,rfl,rfl⟩:=h
 obtain ⟨_,r2,_,r4,r5⟩:=zax h0 (by omega) (c:=6) (by decide)
 have:=je r2
 exact ⟨r2,by omega,r4,by omega,r5⟩
theorem qol {n d i k:Int} (h:qw5 n d i) (hi:i<20) (hk:0<=k) :
  qw5 (j5 n d (qbp k).N (qbp k).D).1 (j5 n d (qbp k).N (qbp k).D).2 (i+1)/\kr n d (qbp k).N (qbp k).D=((j5 n d (qbp k).N (qbp k).D).1,(j5 n d (qbp k).N (qbp k).D).2,0):=by
 obtain ⟨s,h0,h1,rfl,rfl⟩:=h
 obtain ⟨c,hc,e1,e2,c0,c1,_⟩:=qpc hk
 obtain ⟨r1,r2,r3,r4,r5⟩:=zax h0 (by omega) hc
 rw [e1,e2,r1,r3]
 exact ⟨⟨s+c,by omega,by omega,rfl,rfl⟩,rfl⟩
theorem q7z (k i n d:Int):(evK k i n d).AtN=n/\(evK k i n d).AtD=d/\(evK k i n d).DurN=(qbp k).N/\(evK k i n d).DurD=(qbp k).D/\(evK k i n d).Sign=i/\(evK k i n d).Pass=Int.tmod (Int.tdiv k 567) 2:=by
 unfold evK;split<;>exact ⟨rfl,rfl,rfl,rfl,rfl,rfl⟩
theorem zas {k:Int} (h:0<=k):0<=Int.tmod (Int.tdiv k 567) 2/\Int.tmod (Int.tdiv k 567) 2<=1:=by
 have h1:0<=Int.tdiv k 567:=Int.tdiv_nonneg h (by decide)
 have:=Int.tmod_nonneg 2 h1
 have:=Int.tmod_lt_of_pos (Int.tdiv k 567) (show (0:Int)<2 by decide)
 omega
theorem zky {k i n d:Int} (hk:0<=k) (hi:0<=i) (hc:qe n d=0):qbb (evK k i n d)=0:=by
 obtain ⟨c,_,_,_,_,_,c3,c4,_⟩:=qpc hk
 have hp:=zas hk
 unfold evK
 split
 .unfold qbb
  dsimp only
  rw [zF (by omega),zF (by omega),zF c3,zF (by simp),zF (by simp),zF (by omega)]
 .have h1:=Int.tmod_nonneg 7 hk
  have h2:=Int.tmod_lt_of_pos k (show (0:Int)<7 by decide)
  have h3:=Int.tmod_nonneg 3 (Int.tdiv_nonneg hk (show (0:Int)<=7 by decide))
  have h4:=Int.tmod_lt_of_pos (Int.tdiv k 7) (show (0:Int)<3 by decide)
  have h5:=Int.tmod_nonneg 3 (Int.tdiv_nonneg hk (show (0:Int)<=21 by decide))
  have h6:=Int.tmod_lt_of_pos (Int.tdiv k 21) (show (0:Int)<3 by decide)
  have hpc:jy (Int.tmod k 7) (3+Int.tmod (Int.tdiv k 7) 3) (Int.tmod (Int.tdiv k 21) 3-1)=0:=by
   unfold jy;rw [zF (by omega)]
  unfold qbb
  dsimp only
  rw [zF (by omega),zF (by omega),zF c3,zF (by simp),zF (by rw [hpc];simp),zF (by omega)]
theorem qs5 {most:Int} (hm:most<=20):∀ (l:List Int) (i n d:Int),0<=i->qw5 n d i->qkv (qe1 most l i n d) n d
 | [],_,_,_,_,_=>trivial
 | a::l,i,n,d,h0,hs=>by
  unfold qe1
  split
  .rename_i hi
   have hk:=(qp0 a (show 1<=(3969:Int) by decide)).1
   obtain ⟨b1,_⟩:=qw6 hs (by omega)
   obtain ⟨n1,n2⟩:=qol hs (by omega) hk
   obtain ⟨e1,e2,e3,e4,_,_⟩:=q7z (zj a 3969) i n d
   refine ⟨e1,e2,zky hk h0 b1,?_,?_⟩
   .rw [e3,e4,n2]
   .rw [e3,e4,n2]
    exact qs5 hm l _ _ _ (by omega) n1
  .exact trivial
theorem qrv {most:Int}:∀ (l:List Int) (i n d:Int),0<=i->i<=most->ln (qe1 most l i n d)<=most-i
 | [],i,_,_,_,h=>by unfold qe1;rw [qda];omega
 | a::l,i,n,d,h0,h=>by
  unfold qe1
  split
  .rw [jv]
   have:=qrv (most:=most) l (i+1) (j5 n d (qbp (zj a 3969)).N (qbp (zj a 3969)).D).1 (j5 n d (qbp (zj a 3969)).N (qbp (zj a 3969)).D).2 (by omega) (by omega)
   omega
  .rw [qda];omega
theorem q0q {most:Int} (hm:most<=20):∀ (l:List Int) (i n d:Int),0<=i->qw5 n d i->∀ x ∈ qe1 most l i n d,0<=x.Sign/\x.Sign<=20/\0<=x.Pass/\x.Pass<=1/\0<=x.AtN/\x.AtN<=1000/\1<=x.AtD/\x.AtD<=6/\1<=x.DurN/\x.DurN<=6/\1<=x.DurD/\x.DurD<=3
 | [],_,_,_,_,_,x,hx=>by cases hx
 | a::l,i,n,d,h0,hs,x,hx=>by
  unfold qe1 at hx
  split at hx
  .rename_i hi
   have hk:=(qp0 a (show 1<=(3969:Int) by decide)).1
   rcases zD.1 hx with rfl | hx
   .obtain ⟨b1,b2,b3,b4,b5⟩:=qw6 hs (by omega)
    obtain ⟨c,_,_,_,_,_,_,_,d1,d2,d3,d4⟩:=qpc hk
    obtain ⟨e1,e2,e3,e4,e5,e6⟩:=q7z (zj a 3969) i n d
    have:=zas hk
    rw [e1,e2,e3,e4,e5,e6]
    omega
   .exact q0q hm l _ _ _ (by omega) (qol hs (by omega) hk).1 x hx
  .cases hx
theorem qr4:∀ {l:List Event} {i n d:Int},qkv l n d->qcp l i n d=(0,0)
 | [],_,_,_,_=>rfl
 | x::l,i,n,d,⟨h1,h2,h3,h4,h5⟩=>by
  have e:qjr x n d=0:=by
   unfold qjr
   rw [zF (by omega),zF (by omega),h1,h2,h4]
  unfold qcp
  rw [zF (by omega),h1,h2]
  exact qr4 h5
theorem q6s {l:List Int} {most:Int} (h0:0<=most) (hm:most<=20):zu (ql l most)=(0,0):=by
 have:=qrv (most:=most) l 0 0 1 (zK _) h0
 unfold zu
 rw [zF (by unfold ql;omega)]
 exact qr4 (qs5 hm l 0 0 1 (zK _) qom)
theorem zk2 {n d x y p q u v:Int} (e1:n * y=x * d) (e2:p * v=u * q) (h:x * v<u * y) (hd:0<d) (hq:0<q) (hy:0<y) (hv:0<v):n * q<p * d:=by
 have k:(x * v) * (d * q)<(u * y) * (d * q):=Int.mul_lt_mul_of_pos_right h (Int.mul_pos hd hq)
 have a1:(n * q) * (y * v)=(x * v) * (d * q):=by
  have:(n * q) * (y * v)=(n * y) * (q * v):=by ac_rfl
  rw [this,e1];ac_rfl
 have a2:(p * d) * (y * v)=(u * y) * (d * q):=by
  have:(p * d) * (y * v)=(p * v) * (d * y):=by ac_rfl
  rw [this,e2];ac_rfl
 have k2:(n * q) * (y * v)<(p * d) * (y * v):=by rw [a1,a2];exact k
 exact Int.lt_of_mul_lt_mul_right k2 (Int.le_of_lt (Int.mul_pos hy hv))
theorem q84 {n d:Int} (h0:0<=n) (h1:1<=d):(tT n d).1 * d=n * (tT n d).2/\0<=(tT n d).1/\(tT n d).1<=n/\1<=(tT n d).2/\(tT n d).2<=d:=by
 have e1:=qzh (b:=d) h0
 have e2:=qv0 (a:=n) (show 0<=d by omega)
 have b1:=qb8 h0 (qcj n d)
 have b2:=qb8 (show 0<=d by omega) (qcj n d)
 unfold tT
 generalize zh n d=g at *
 refine ⟨?_,b1.1,b1.2,?_,b2.2⟩
 .show n.tdiv g * d=n * d.tdiv g
  have:n.tdiv g * (g * d.tdiv g)=(g * n.tdiv g) * d.tdiv g:=by ac_rfl
  rwa [e1,e2] at this
 .show 1<=d.tdiv g
  by_cases hz:d.tdiv g=0
  .rw [hz,Int.mul_zero] at e2;omega
  .omega
theorem ziy {n d:Int} (h0:0<=n) (h1:1<=d) (h2:n<=1000000) (h3:d<=1000000):qe (tT n d).1 (tT n d).2=0:=by
 obtain ⟨_,b0,b1,b2,b3⟩:=q84 h0 h1
 have e:ofT n d=((tT n d).1,(tT n d).2,0):=by
  have f1:(tT n d).1=n.tdiv (zh n d):=rfl
  have f2:(tT n d).2=d.tdiv (zh n d):=rfl
  unfold ofT
  rw [zF (by omega),f1,f2]
 have:=qzv h0 h1 (by rw [e])
 rw [e] at this
 exact this
theorem qjl:∀ {l:List Event} {n d:Int},qkv l n d->∀ j,0<=j->j<ln l->qbb (ix l j)=0/\(kr (ix l j).AtN (ix l j).AtD (ix l j).DurN (ix l j).DurD).2.2=0/\
  (j+1<ln l->(ix l (j+1)).AtN=(kr (ix l j).AtN (ix l j).AtD (ix l j).DurN (ix l j).DurD).1/\(ix l (j+1)).AtD=(kr (ix l j).AtN (ix l j).AtD (ix l j).DurN (ix l j).DurD).2.1)
 | [],_,_,_,j,h0,h1=>by rw [qda] at h1;omega
 | x::l,n,d,⟨e1,e2,e3,e4,e5⟩,j,h0,h1=>by
  rw [jv] at h1
  by_cases hj:j=0
  .subst hj
   refine ⟨e3,by rw [qpu,e1,e2];exact e4,fun h=>?_⟩
   rw [qcs (zK 0),qpu,e1,e2]
   cases l with
   | nil=>rw [jv,qda] at h;omega
   | cons y l=>exact ⟨e5.1,e5.2.1⟩
  .obtain ⟨m,rfl⟩:∃ m,j=m+1:=⟨j-1,by omega⟩
   have:=qjl e5 m (by omega) (by omega)
   rw [qcs (show 0<=m by omega)]
   refine ⟨this.1,this.2.1,fun h=>?_⟩
   rw [qcs (show 0<=m+1 by omega)]
   rw [jv] at h
   exact this.2.2 (by omega)
theorem qld {l:List Event} (h:(zu l).1=0):qkv l 0 1:=by
 unfold zu at h
 split at h
 .simp at h
 .exact qlc h
theorem zmy {l:List Event} {i tn td:Int} (hc:(zu l).1=0) (h0:0<=i) (h1:i<ln l) (ht:qe tn td=0) (hge:(ix l i).AtN * td<=tn * (ix l i).AtD)
  (hlt:tn * (kr (ix l i).AtN (ix l i).AtD (ix l i).DurN (ix l i).DurD).2.1<(kr (ix l i).AtN (ix l i).AtD (ix l i).DurN (ix l i).DurD).1 * td):atE l tn td=(i,0):=by
 have ch:=qld hc
 have sg:=fun j (j0:0<=j) (j1:j<ln l)=>qth (tn:=tn) (td:=td) (qii (qjl ch j j0 j1).1).1 ht
 have c0:cm l tn td i<=0:=by
  have:=(sg i h0 h1).2
  unfold cm
  omega
 have c1:∀ j,i<j->j<ln l->0<cm l tn td j:=by
  intro j j0 j1
  have n1:=(qjl ch i h0 h1).2.2 (by omega)
  have b1:0<cm l tn td (i+1):=by
   have:=(sg (i+1) (by omega) (by omega)).2.2
   rw [n1.1,n1.2] at this
   have:=this hlt
   unfold cm
   rw [n1.1,n1.2]
   exact this
  by_cases hj:j=i+1
  .rw [hj];exact b1
  .exact q05 ht ch (by decide) (i+1) j (by omega) (by omega) j1 (by omega)
 have hl:0<=ln l-1/\ln l-1<ln l:=⟨by omega,by omega⟩
 obtain ⟨z1,z2,_⟩:=qjl ch (ln l-1) hl.1 hl.2
 obtain ⟨o1,o2,o3⟩:=qii z1
 have he:kv l=kr (ix l (ln l-1)).AtN (ix l (ln l-1)).AtD (ix l (ln l-1)).DurN (ix l (ln l-1)).DurD:=by unfold kv;rw [zF (by omega),zF (by omega)]
 have hec:=qyt o1 o2 z2
 obtain ⟨q1,q2⟩:=qmi o1 o2 o3 z2
 have hlast:tn * (kv l).2.1<(kv l).1 * td:=by
  by_cases hi:i=ln l-1
  .rw [he,<-hi];exact hlt
  .have:=(sg (ln l-1) hl.1 hl.2).2.1 (c1 _ (by omega) hl.2)
   rw [he]
   exact qux (je ht).2.2.1 (je o1).2.2.1 q1 (Int.le_of_lt this) q2
 rw [<-he] at hec z2
 have hcmp:qap tn td (kv l).1 (kv l).2.1=(-1,0):=by
  unfold qap
  rw [zF (by omega),zF (by omega),zT hlast]
 unfold atE
 rw [zF (by omega),hcmp]
 rw [zF (by simp),zF (show ¬ (0:Int)<=-1 by decide),qrp (r:=i) h0 h1 c0 c1,Int.zero_add]
def zar (k c:Int):Bool:=
 decide (qe (tT k 12).1 (tT k 12).2=0)&&decide ((sxt c).1 * (tT k 12).1<=1000)&&decide (0<=(qa5 (sxt c).1 (sxt c).2 (tT k 12).1 (tT k 12).2).1)&&decide ((qa5 (sxt c).1 (sxt c).2 (tT k 12).1 (tT k 12).2).1<=100)&&
 decide (1<=(qa5 (sxt c).1 (sxt c).2 (tT k 12).1 (tT k 12).2).2.1)&&decide ((qa5 (sxt c).1 (sxt c).2 (tT k 12).1 (tT k 12).2).2.1<=36)&&decide ((qa5 (sxt c).1 (sxt c).2 (tT k 12).1 (tT k 12).2).1 * (sxt c).2<(sxt c).1 * (qa5 (sxt c).1 (sxt c).2 (tT k 12).1 (tT k 12).2).2.1)
theorem zig:((List.range 12).all fun k=>qm1.all fun c=>zar (k:Int) c)=true:=by kernel_rfl
theorem zih {k c:Int} (h0:0<=k) (h1:k<12) (hc:c ∈ qm1):qe (tT k 12).1 (tT k 12).2=0/\(sxt c).1 * (tT k 12).1<=1000/\0<=(qa5 (sxt c).1 (sxt c).2 (tT k 12).1 (tT k 12).2).1/\(qa5 (sxt c).1 (sxt c).2 (tT k 12).1 (tT k 12).2).1<=100/\
  1<=(qa5 (sxt c).1 (sxt c).2 (tT k 12).1 (tT k 12).2).2.1/\(qa5 (sxt c).1 (sxt c).2 (tT k 12).1 (tT k 12).2).2.1<=36/\(qa5 (sxt c).1 (sxt c).2 (tT k 12).1 (tT k 12).2).1 * (sxt c).2<(sxt c).1 * (qa5 (sxt c).1 (sxt c).2 (tT k 12).1 (tT k 12).2).2.1:=by
 have h:=List.all_eq_true.1 (List.all_eq_true.1 zig k.toNat (List.mem_range.2 (by omega))) c hc
 rw [show ((k.toNat:Nat):Int)=k by omega] at h
 simp only [zar,zA,decide_eq_true_eq] at h
 obtain ⟨⟨⟨⟨⟨⟨p1,p2⟩,p3⟩,p4⟩,p5⟩,p6⟩,p7⟩:=h
 exact ⟨p1,p2,p3,p4,p5,p6,p7⟩
theorem q0r {most:Int}:∀ (l:List Int) (i n d:Int),∀ x ∈ qe1 most l i n d,∃ c ∈ qm1,x.DurN=(sxt c).1/\x.DurD=(sxt c).2
 | [],_,_,_,x,hx=>by cases hx
 | a::l,i,n,d,x,hx=>by
  unfold qe1 at hx
  split at hx
  .rcases zD.1 hx with rfl | hx
   .obtain ⟨c,hc,e1,e2,_⟩:=qpc (qp0 a (show 1<=(3969:Int) by decide)).1
    obtain ⟨_,_,e3,e4,_⟩:=q7z (zj a 3969) i n d
    exact ⟨c,hc,by rw [e3,e1],by rw [e4,e2]⟩
   .exact q0r l _ _ _ x hx
  .cases hx
theorem within {a b c d w z:Int} (h1:qe a b=0) (h2:qe c d=0) (ha:a<=1000) (hb:b<=6) (w0:0<=w) (w1:w<=100) (z0:1<=z) (z1:z<=36) (hw:w * d<c * z) (he:(kr a b c d).2.2=0) :
  qe (j5 a b w z).1 (j5 a b w z).2=0/\a * (j5 a b w z).2<=(j5 a b w z).1 * b/\(j5 a b w z).1 * (kr a b c d).2.1<(kr a b c d).1 * (j5 a b w z).2:=by
 have k1:=je h1
 have k2:=je h2
 have m1:=qd5 k1.1 ha (show 0<=z by omega) z1
 have m2:=qd5 w0 w1 (show 0<=b by omega) hb
 have m3:=qd5 (show 0<=b by omega) hb (show 0<=z by omega) z1
 have m4:=ql1 k1.2.2.1 z0
 have m5:=ql1 k1.2.2.1 k2.2.2.1
 obtain ⟨v1,v2,v3,v4,v5⟩:=q84 (n:=a * z+w * b) (d:=b * z) (by omega) m4
 have hp:j5 a b w z=tT (a * z+w * b) (b * z):=rfl
 refine ⟨by rw [hp];exact ziy (by omega) m4 (by omega) (by omega),?_,?_⟩
 .rw [hp]
  generalize (tT (a * z+w * b) (b * z)).1=N at *
  generalize (tT (a * z+w * b) (b * z)).2=D at *
  have e:(N * b) * z=a * D * z+w * b * D:=by
   have:(N * b) * z=N * (b * z):=by ac_rfl
   rw [this,v1,Int.add_mul]
   have:a * z * D=a * D * z:=by ac_rfl
   rw [this]
  have p:0<=w * b * D:=Int.mul_nonneg (by omega) (by omega)
  have e2:(a * D) * z<=(N * b) * z:=by rw [e];omega
  exact Int.le_of_mul_le_mul_right e2 (by omega)
 .rw [hp]
  have hof:kr a b c d=ofT (a * d+c * b) (b * d):=q0y h1 h2
  have m6:=Int.mul_nonneg k1.1 (show 0<=d by omega)
  have m7:=Int.mul_nonneg k2.1 (show 0<=b by omega)
  obtain ⟨u1,u2,u3,u4,u5⟩:=q84 (n:=a * d+c * b) (d:=b * d) (by omega) m5
  have hE:(kr a b c d).1=(tT (a * d+c * b) (b * d)).1/\(kr a b c d).2.1=(tT (a * d+c * b) (b * d)).2:=by
   rw [hof] at he ⊢
   unfold ofT at he ⊢
   split at he
   .simp at he
   .rename_i hno;rw [zF hno];exact ⟨rfl,rfl⟩
  rw [hE.1,hE.2]
  refine zk2 v1 u1 ?_ (by omega) (by omega) (by omega) (by omega)
  have r1:(a * z+w * b) * (b * d)=a * z * (b * d)+(w * d) * (b * b):=by rw [Int.add_mul];congr 1;ac_rfl
  have r2:(a * d+c * b) * (b * z)=a * z * (b * d)+(c * z) * (b * b):=by rw [Int.add_mul];congr 1<;>ac_rfl
  rw [r1,r2]
  have:=Int.mul_lt_mul_of_pos_right hw (show 0<b * b from Int.mul_pos (by omega) (by omega))
  omega
theorem zjv {l:List Event} {i:Int} (hc:(zu l).1=0) (h0:0<=i) (h1:i<ln l):atE l (ix l i).AtN (ix l i).AtD=(i,0):=by
 obtain ⟨z1,z2,_⟩:=qjl (qld hc) i h0 h1
 obtain ⟨o1,o2,o3⟩:=qii z1
 obtain ⟨q1,q2⟩:=qmi o1 o2 o3 z2
 exact zmy hc h0 h1 o1 (zK _) q2
theorem q03 {a l:ZB} {j:Int} (h0:0<=j) (h:j<ln a):bx (a++l) j=bx a j:=by rw [qo0,qo0,qwe h0 h]
theorem q0o (a l:ZB):upto (a++l) (ln a)=a:=by unfold upto ln;exact List.take_left' (by omega)
theorem q1s (a l:ZB):fr (a++l) (ln a)=l:=by unfold fr ln;exact List.drop_left' (by omega)
theorem q7j (a l:ZB) (c:UInt8):bx (a++c::l) (ln a)=c.toNat:=by
 have:=qyv (s:=a++c::l) (i:=ln a) (j:=0) (zt a) (zK _)
 rw [q1s,Int.add_zero] at this
 exact this.symm
theorem zn9 (a l:ZB) (c:UInt8):fr (a++c::l) (ln a+1)=l:=by
 rw [<-zm2 (zt a) (by decide),q1s];rfl
theorem zis {a0:ZB} (h:ln a0<=20000):qh a0=qas (qa 10 a0) 0:=by unfold qh;rw [zF (by omega)]
def b0 (s:ZB):Int:=match s with
 | []=>-1
 | c::_=>(c.toNat:Int)
abbrev WW:=ZB×Bool
def strip (w:Word):WW:=(w.Text,w.Quoted)
def qw9 (r:Row):List WW:=r.Words.map strip
def mkW (t:ZB):WW:=(t,false)
def qit (s:ZB):Prop:=s≠[]/\∀ b ∈ s,jz (b.toNat:Int)=true
theorem zat {s:ZB} (h:qit s):∀ b ∈ s,(b.toNat:Int)≠10:=fun b hb e=>by
 have:=qgb.1 (h.2 b hb);omega
theorem zdu {s:ZB} (h:qit s):0<ln s:=q18 h.1
def qlx (p:ZB×List WW):Prop:=ln p.1<=1000/\(∀ b ∈ p.1,(b.toNat:Int)≠10)/\∀ f,∃ ws',jd p.1 f 0=(ws',-1)/\ws'.map strip=p.2
def qyl (l:ZB) (ws:List WW):Prop:=(∀ b ∈ l,(b.toNat:Int)≠10)/\∀ f,∃ ws',ws'.map strip=ws/\∀ t r,jd (l++t) f (ln l)=(r,-1)->jd (l++t) f 0=(ws'++r,-1)
theorem qz6:qyl [] []:=⟨fun _ h=>(by cases h),fun _=>⟨[],rfl,fun _ _ h=>h⟩⟩
theorem qwl {a b:ZB} (h1:∀ x ∈ a,(x.toNat:Int)≠10) (h2:∀ x ∈ b,(x.toNat:Int)≠10):∀ x ∈ a++b,(x.toNat:Int)≠10:=fun x hx=>(List.mem_append.1 hx).elim (h1 x) (h2 x)
theorem zb8 {l t:ZB} {f:Int}:jd (l++32::t) f (ln l)=jd (l++32::t) f (ln l+1):=
 zcj (zt l) (by rw [qbi,jv];have:=zt t;omega) (by rw [q7j];rfl)
theorem q6v {l w t:ZB} {f:Int} {r:List Word} (hw:qit w) (ht:b0 t = -1∨b0 t=32∨b0 t=59) (h:jd (l++(w++t)) f (ln l+ln w)=(r,-1)):jd (l++(w++t)) f (ln l)=(⟨f+ln l,w,false⟩::r,-1):=by
 have n0:=zt l
 have n1:=zdu hw
 have n2:=zt t
 have hL:ln (l++(w++t))=ln l+(ln w+ln t):=by rw [qbi,qbi]
 have hf:fr (l++(w++t)) (ln l)=w++t:=q1s _ _
 have hb:∀ j,0<=j->j<ln w->jz (bx (l++(w++t)) (ln l+j))=true:=by
  intro j a b
  rw [<-qyv n0 a,hf,q03 a b,qo0]
  exact hw.2 _ (qf8 a b)
 have hrun:zp jz (l++(w++t)) (ln l)=ln l+ln w:=by
  refine qqa n0 (by omega) (by omega) (fun j a b=>by rw [show j=ln l+(j-ln l) by omega];exact hb _ (by omega) (by omega)) ?_
  cases t with
  | nil=>left;rw [hL,qda,Int.add_zero]
  | cons c t=>
   right
   have e:bx (l++(w++c::t)) (ln l+ln w)=c.toNat:=by
    rw [<-qyv n0 (by omega),hf,q7j]
   rw [e]
   have ht:(c.toNat:Int) = -1∨(c.toNat:Int)=32∨(c.toNat:Int)=59:=ht
   rcases ht with ht | ht | ht
   .omega
   .rw [ht];rfl
   .rw [ht];rfl
 have hb0:=hb 0 (zK _) n1
 rw [Int.add_zero] at hb0
 rw [qy1 n0 (by omega) hb0 hrun,h,zT (show (-1:Int)<0 by decide)]
 have:sub (l++(w++t)) (ln l) (ln l+ln w)=w:=by
  rw [q83 n0 (by omega),hf,show ln l+ln w-ln l=ln w by omega,q0o]
 rw [this]
theorem q8r {l w:ZB} {ws:List WW} (h:qyl l ws) (hw:qit w):qyl (l++w++[32]) (ws++[mkW w]):=by
 refine ⟨qwl (qwl h.1 (zat hw)) (by decide),fun f=>?_⟩
 obtain ⟨ws',e,g⟩:=h.2 f
 refine ⟨ws'++[⟨f+ln l,w,false⟩],by rw [List.map_append,e];rfl,fun t r hr=>?_⟩
 have ea:(l++w++[32])++t=l++(w++32::t):=by simp only [List.append_assoc,List.cons_append,List.nil_append]
 have eb:(l++w)++32::t=l++(w++32::t):=List.append_assoc _ _ _
 have el:ln (l++w++[32])=ln (l++w)+1:=by rw [qbi];rfl
 rw [ea,el] at hr
 rw [ea,List.append_assoc]
 refine g _ _ (q6v hw (.inr (.inl rfl)) ?_)
 rw [<-qbi,<-eb,zb8,eb];exact hr
theorem zdc {l:ZB} {ws:List WW} (h:qyl l ws) (hl:ln l<=1000):qlx (l,ws):=by
 refine ⟨hl,h.1,fun f=>?_⟩
 obtain ⟨ws',e,g⟩:=h.2 f
 have:=g [] [] (by rw [zJ];exact q1a (.inl (zK _)))
 rw [zJ,zJ] at this
 exact ⟨ws',this,e⟩
theorem zdd {l w:ZB} {ws:List WW} (h:qyl l ws) (hw:qit w) (hl:ln l+ln w<=1000):qlx (l++w,ws++[mkW w]):=by
 refine ⟨by show ln (l++w)<=1000;rw [qbi];exact hl,qwl h.1 (zat hw),fun f=>?_⟩
 obtain ⟨ws',e,g⟩:=h.2 f
 have:=g (w++[]) _ (q6v hw (.inl rfl) (q1a (.inl (by rw [zJ,qbi];exact zK _))))
 rw [zJ] at this
 exact ⟨_,this,by rw [List.map_append,e];rfl⟩
abbrev LW:=ZB×List WW
def full (ps:List LW):List (List WW):=(ps.map (·.2)).filter fun w=>!w.isEmpty
theorem zau:∀ (ps:List LW) (x:Int),(∀ p ∈ ps,qlx p)->∃ rows',qas (ps.map (·.1)) x=(rows',0,0)/\rows'.map qw9=full ps
 | [],x,_=>⟨[],rfl,rfl⟩
 | p::ps,x,h=>by
  obtain ⟨h1,_,h3⟩:=h p zC
  obtain ⟨ws',q1,q2⟩:=h3 x
  obtain ⟨rows',q3,q4⟩:=zau ps (x+ln p.1+1) fun p' hp=>h p' (zG _ hp)
  by_cases hw:ws'=[]
  .subst hw
   refine ⟨rows',?_,?_⟩
   .simp only [List.map_cons,qas,q1,q3,zF (show ¬ 1000<ln p.1 by omega),zF (by decide:¬ (0:Int)<=-1),if_true]
   .have:p.2=[]:=q2.symm
    simp [full,q4,this]
  .refine ⟨⟨x,ws'⟩::rows',?_,?_⟩
   .simp only [List.map_cons,qas,q1,q3,zF (show ¬ 1000<ln p.1 by omega),zF (by decide:¬ (0:Int)<=-1),if_true,zF hw]
   .have hne:p.2≠[]:=by
     rw [<-q2]
     simpa using hw
    have hne':p.2.isEmpty=false:=by
     cases hp:p.2 with
     | nil=>exact absurd hp hne
     | cons a l=>rfl
    simp [full,qw9,q2,q4,hne']
def qnb (ps:List LW):ZB:=ps.flatMap fun p=>p.1++([10]:ZB)
theorem q6j:∀ (ps:List LW) (q:LW),(∀ p ∈ ps,qlx p)->qlx q->qa 10 (qnb ps++q.1)=ps.map (·.1)++[q.1]
 | [],q,_,hq=>qja hq.2.1
 | p::ps,q,h,hq=>by
  have hl:qnb (p::ps)++q.1=p.1++10::(qnb ps++q.1):=by simp [qnb,List.append_assoc]
  rw [hl,qon (c:=10) (b:=10) rfl (h p zC).2.1,q6j ps q (fun p' hp=>h p' (zG _ hp)) hq]
  rfl
theorem zl9 {ps:List LW} {q:LW} (h:∀ p ∈ ps,qlx p) (hq:qlx q) (hb:ln (qnb ps++q.1)<=20000):∃ rows',qh (qnb ps++q.1)=(rows',0,0)/\rows'.map qw9=full (ps++[q]):=by
 obtain ⟨rows',q1,q2⟩:=zau (ps++[q]) 0 fun p hp=>(List.mem_append.1 hp).elim (h p) fun hp=>by rw [List.mem_singleton.1 hp];exact hq
 have e:(ps++[q]).map (·.1)=ps.map (·.1)++[q.1]:=by simp
 rw [e,<-q6j ps q h hq] at q1
 exact ⟨rows',by rw [zis hb];exact q1,q2⟩
theorem q4u (a b:List LW):full (a++b)=full a++full b:=by simp [full]
theorem zk3 {l:ZB} {ws:List WW} (h:ws≠[]):full [(l,ws)]=[ws]:=by
 cases ws with
 | nil=>exact absurd rfl h
 | cons a t=>rfl
theorem zgg {l:ZB}:full [(l,[])]=[]:=rfl
theorem zcv (ps:List LW) (l:ZB) (ws:List WW):qnb (ps++[(l,ws)])=qnb ps++(l++[10]):=by simp [qnb]
def St (u:ZB) (rs:List (List WW)) (ws:List WW) (B:Int):Prop:=∃ ps l,u=qnb ps++l/\(∀ p ∈ ps,qlx p)/\full ps=rs/\qyl l ws/\ln l<=B
theorem zpx:St [] [] [] 0:=⟨[],[],rfl,fun _ h=>(by cases h),rfl,qz6,zK _⟩
theorem St.mono {u:ZB} {rs:List (List WW)} {ws:List WW} {B C:Int} (h:St u rs ws B) (hc:B<=C):St u rs ws C:=by
 obtain ⟨ps,l,a,b,c,d,e⟩:=h
 exact ⟨ps,l,a,b,c,d,by omega⟩
theorem St.word {u w:ZB} {rs:List (List WW)} {ws:List WW} {B:Int} (h:St u rs ws B) (hw:qit w):St (u++w++[32]) rs (ws++[mkW w]) (B+ln w+1):=by
 obtain ⟨ps,l,a,b,c,d,e⟩:=h
 exact ⟨ps,l++w++[32],by rw [a];simp only [List.append_assoc],b,c,q8r d hw,by rw [qkh,qbi];omega⟩
theorem zb5 {ps:List LW} {q:LW} (h:∀ p ∈ ps,qlx p) (hq:qlx q):∀ p ∈ ps++[q],qlx p:=fun p hp=>(List.mem_append.1 hp).elim (h p) fun hp=>by rw [List.mem_singleton.1 hp];exact hq
theorem St.row {u w:ZB} {rs:List (List WW)} {ws:List WW} {B:Int} (h:St u rs ws B) (hw:qit w) (hl:B+ln w<=990):St (u++w++[10]) (rs++[ws++[mkW w]]) [] 0:=by
 obtain ⟨ps,l,a,b,c,d,e⟩:=h
 exact ⟨ps++[(l++w,ws++[mkW w])],[],by rw [a,zcv];simp only [List.append_assoc,zJ],zb5 b (zdd d hw (by omega)),by rw [q4u,c,zk3 (by simp)],qz6,zK _⟩
theorem St.done {u:ZB} {rs:List (List WW)} {B:Int} (h:St u rs [] B) (hl:B<=990) (hb:ln u<=20000):∃ rows',qh u=(rows',0,0)/\rows'.map qw9=rs:=by
 obtain ⟨ps,l,a,b,c,d,e⟩:=h
 rw [a] at hb ⊢
 obtain ⟨rows',q1,q2⟩:=zl9 (q:=(l,[])) b (zdc d (by omega)) hb
 exact ⟨rows',q1,by rw [q2,q4u,c,zgg,zJ]⟩
theorem zcl (s:ZB) (c:UInt8):qcv (s++[c])=(qcv s&&qm5 c.toNat):=by simp [qcv]
theorem q6r (c:UInt8):∀ (s:ZB) (n:Int),qav (s++[c]) n=10 * qav s n+((c.toNat:Int)-48)
 | [],n=>rfl
 | b::s,n=>q6r c s _
theorem q9x {n:Int} (h0:0<=n) (h:n<=9):((UInt8.ofNat (48+n.toNat)).toNat:Int)=48+n:=by
 have:(UInt8.ofNat (48+n.toNat)).toNat=48+n.toNat:=by simp [UInt8.toNat_ofNat];omega
 omega
theorem qtj:∀ (m:Nat) (n:Int),n.toNat<=m->0<=n->qcv (zb n)=true/\qav (zb n) 0=n/\(1<=n->bx (zb n) 0≠48)/\0<ln (zb n)/\(n<=9->ln (zb n)=1):=by
 intro m
 induction m with
 | zero=>
  intro n hm h0
  have:n=0:=by omega
  subst this
  rw [qu0 (by decide) (by decide)]
  exact ⟨by decide,by decide,fun h=>by omega,by decide,fun _=>rfl⟩
 | succ m ih=>
  intro n hm h0
  by_cases h9:n<=9
  .rw [qu0 h0 h9]
   have e:=q9x h0 h9
   have e0:bx [UInt8.ofNat (48+n.toNat)] 0=48+n:=e
   refine ⟨?_,?_,fun h=>by rw [e0];omega,by rw [jv,qda];decide,fun _=>rfl⟩
   .rw [qj5,qy3,Bool.and_true];exact qee.2 (by omega)
   .show 10 * 0+(((UInt8.ofNat (48+n.toNat)).toNat:Int)-48)=n
    omega
  .obtain ⟨d0,d1,d2,d3,d4,d5,_,_⟩:=zks h0
   obtain ⟨i1,i2,i3,i4,_⟩:=ih (Int.tdiv n 10) (by have:=d4 (by omega);omega) d2
   have e:=q9x d0 d1
   have hn:10 * Int.tdiv n 10+Int.tmod n 10=n:=Int.mul_tdiv_add_tmod n 10
   rw [zf6 (by omega)]
   refine ⟨?_,?_,fun _=>?_,by rw [qkh];omega,fun h=>absurd h h9⟩
   .rw [zcl,i1,Bool.true_and];exact qee.2 (by omega)
   .rw [q6r,i2,e];omega
   .rw [q03 (zK 0) i4];exact i3 (by have:=d5 (by omega);omega)
theorem qjm {n:Int} (h:0<=n):qcv (zb n)=true:=(qtj n.toNat n (zN _) h).1
theorem qlg {n:Int} (h:0<=n):qav (zb n) 0=n:=(qtj n.toNat n (zN _) h).2.1
theorem qpb {n:Int} (h:0<=n):0<ln (zb n):=(qtj n.toNat n (zN _) h).2.2.2.1
theorem qy2 {n:Int} (h:0<=n):¬ (bx (zb n) 0=48/\1<ln (zb n)):=by
 obtain ⟨_,_,h3,_,h5⟩:=qtj n.toNat n (zN _) h
 rintro ⟨a,b⟩
 by_cases h1:1<=n
 .exact h3 h1 a
 .have:=h5 (by omega);omega
theorem qnw {n:Int} (h:0<=n):qdn (zb n)=true:=by
 have hb:¬ qiy (zb n):=by
  rintro (e | e)
  .have:=qpb h;rw [e,qda] at this;omega
  .exact qy2 h e
 unfold qdn
 rw [qjm h]
 simp [hb]
theorem zhi:∀ (m:Nat) {s:ZB} {i n:Int},(ln s-i).toNat=m->0<=i->0<=n->qcv s=true->qav (fr s i) n<=1099511627776->qe5 s i n=(qav (fr s i) n,true)
 | 0,s,i,n,hm,h0,hn,hd,hv=>by
  rw [qe5,dif_neg (by omega),zmo (by omega)]
 | m+1,s,i,n,hm,h0,hn,hd,hv=>by
  have hi:i<ln s:=by omega
  have hb:=q9y hd h0 hi
  rw [zi2 h0 hi] at hv ⊢
  have hg:=qru (s:=fr s (i+1)) (n:=10 * n+(bx s i-48)) (zkt hd) (by omega)
  rw [qe5,dif_pos ⟨h0,hi⟩,zT (qee.2 hb),zF (by omega)]
  exact zhi m (by omega) (by omega) (by omega) hd hv
theorem q5i {n:Int} (h:0<=n) (h1:n<=1099511627776):zq (zb n)=(n,true):=by
 have hp:=qpb h
 unfold zq
 rw [if_neg (by rintro (e | e); · omega
                .exact qy2 h e),zhi _ rfl (zK _) (zK _) (qjm h) (by rw [qpj,qlg h];exact h1),qpj,qlg h]
theorem qy4 {s:ZB} (h:qcv s=true) {i:Int} (h0:0<=i) (h1:i<ln s):q2g (bx s i)=true:=by
 have:=q9y h h0 h1
 simp [q2g];omega
theorem zif {n d:Int} (h:qe n d=0):qu (zk n d).1=(n,d,0):=by
 have hb:=je h
 unfold zk
 rw [zF (by omega)]
 split
 .rename_i h1
  subst h1
  have hc:qcq (zb n)=ln (zb n):=qqa (zK _) (zt _) (zK _) (fun j a b=>qy4 (qjm hb.1) a b) (.inl rfl)
  unfold qu
  rw [hc,qxg (zK _),zF (by rw [qnw hb.1];simp),qlg hb.1,zF (by omega),zT (zK _)]
 .rename_i h1
  have hs:zb n++[47]++zb d=zb n++47::zb d:=by simp
  show qu (zb n++[47]++zb d)=(n,d,0)
  rw [hs]
  have l0:=zt (zb n)
  have l1:=qpb (n:=d) (by omega)
  have hl:ln (zb n++47::zb d)=ln (zb n)+(ln (zb d)+1):=by rw [qbi,jv]
  have hc:qcq (zb n++47::zb d)=ln (zb n):=by
   refine qqa (zK _) l0 (by omega) (fun j a b=>?_) (.inr (by rw [q7j];rfl))
   rw [q03 a b];exact qy4 (qjm hb.1) a b
  have hg:¬ 1<zh n d:=by
   unfold qe at h
   rw [zF (by omega)] at h
   split at h<;>omega
  unfold qu
  rw [hc,q0o,zn9,zF (by rw [qnw hb.1,qnw (show 0<=d by omega)];simp),qlg hb.1,qlg (show 0<=d by omega),zF (by omega),zF (by omega),zF (by omega),zF (by omega)]
theorem zcn {s:ZB} (h:qcv s=true) (h0:0<ln s):qit s:=by
 refine ⟨fun e=>by rw [e,qda] at h0;omega,fun b hb=>?_⟩
 simp only [qcv,List.all_eq_true] at h
 have:=qee.1 (h b hb)
 exact qgb.2 (by omega)
theorem qf1 {n:Int} (h:0<=n):qit (zb n):=zcn (qjm h) (qpb h)
theorem q6u {a b:ZB} (ha:qit a) (hb:∀ x ∈ b,jz (x.toNat:Int)=true):qit (a++b):=
 ⟨fun e=>ha.1 (List.append_eq_nil_iff.1 e).1,fun x hx=>(List.mem_append.1 hx).elim (ha.2 x) (hb x)⟩
theorem zec {n d:Int} (h:qe n d=0):qit (zk n d).1:=by
 have hb:=je h
 unfold zk
 rw [zF (by omega)]
 split
 .exact qf1 hb.1
 .exact q6u (q6u (qf1 hb.1) (by decide)) (qf1 (show 0<=d by omega)).2
theorem zl7:((List.range 7).all fun a=>(List.range 9).all fun b=>(List.range 3).all fun c=>(qko (a:Int) (b:Int) ((c:Int)-1)).all fun x=>jz (x.toNat:Int))=true:=by kernel_rfl
theorem q5x {a b c:Int} (h:jy a b c=0):qit (qko a b c)/\zf (qko a b c)=(a,b,c,0)/\(js a b c).1=qko a b c:=by
 have hb:0<=a/\a<=6/\0<=b/\b<=8/\-1<=c/\c<=1:=by
  unfold jy at h
  split at h<;>omega
 refine ⟨⟨by unfold qko;simp,fun x hx=>?_⟩,zie hb.1 hb.2.1 hb.2.2.1 hb.2.2.2.1 hb.2.2.2.2.1 hb.2.2.2.2.2,by unfold js;rw [zF (by omega)]⟩
 have h:=List.all_eq_true.1 (List.all_eq_true.1 (List.all_eq_true.1 zl7 a.toNat (List.mem_range.2 (by omega))) b.toNat (List.mem_range.2 (by omega))) (c+1).toNat (List.mem_range.2 (by omega))
 rw [show ((a.toNat:Nat):Int)=a by omega,show ((b.toNat:Nat):Int)=b by omega,show (((c+1).toNat:Nat):Int)-1=c by omega] at h
 exact List.all_eq_true.1 h x hx
def qg1 (x:Event):List WW:=(if x.Rest=true then [mkW qsx] else [mkW qso,mkW (qko x.PitchStep x.PitchOctave x.PitchAlter)])++[mkW (zk x.DurN x.DurD).1,mkW (zb x.Sign),mkW (zb x.Pass)]
def qme (x:Event):Prop:=qbb x=0/\x.Sign<=1000/\x.Pass<=1000
theorem zpk (a b c:Int):ln (qko a b c)<=3:=by
 unfold qko q7d
 split
 .simp [ln]
 .split<;>simp [ln]
theorem zpp {u:ZB} {rs:List (List WW)} {x:Event} (h:St u rs [] 0) (hx:qme x):St (u++qji x) (rs++[qg1 x]) [] 0:=by
 obtain ⟨f1,f2,f3,f4⟩:=qmt hx.1
 obtain ⟨_,hx1,hx2⟩:=hx
 have wr:qit qsx:=⟨by decide,by decide⟩
 have wn:qit qso:=⟨by decide,by decide⟩
 have lt:=qrr x.DurN x.DurD
 have ls:=qed (n:=x.Sign) f3 (by omega)
 have lp:=qed (n:=x.Pass) f4 (by omega)
 have wt:=zec f1
 cases hr:x.Rest with
 | true=>
  have s1:=(((h.word wr).word wt).word (qf1 f3)).row (qf1 f4) (by have:ln qsx=4:=rfl;omega)
  have e1:u++qji x=u++qsx++[32]++(zk x.DurN x.DurD).1++[32]++zb x.Sign++[32]++zb x.Pass++[10]:=by
   unfold qji;rw [zT hr];simp only [List.append_assoc,qsx,List.cons_append,List.nil_append]
  have e2:qg1 x=[]++[mkW qsx]++[mkW (zk x.DurN x.DurD).1]++[mkW (zb x.Sign)]++[mkW (zb x.Pass)]:=by
   unfold qg1;rw [zT hr];rfl
  rw [e1,e2];exact s1
 | false=>
  obtain ⟨p1,p2,p3⟩:=q5x (f2 hr)
  have lq:=zpk x.PitchStep x.PitchOctave x.PitchAlter
  have s1:=((((h.word wn).word p1).word wt).word (qf1 f3)).row (qf1 f4) (by have:ln qso=4:=rfl;omega)
  have e1:u++qji x=u++qso++[32]++qko x.PitchStep x.PitchOctave x.PitchAlter++[32]++(zk x.DurN x.DurD).1++[32]++zb x.Sign++[32]++zb x.Pass++[10]:=by
   unfold qji;rw [zF (by rw [hr];decide),p3];simp only [List.append_assoc,qso,List.cons_append,List.nil_append]
  have e2:qg1 x=[]++[mkW qso]++[mkW (qko x.PitchStep x.PitchOctave x.PitchAlter)]++[mkW (zk x.DurN x.DurD).1]++[mkW (zb x.Sign)]++[mkW (zb x.Pass)]:=by
   unfold qg1;rw [zF (by rw [hr];decide)];rfl
  rw [e1,e2];exact s1
theorem ziq {x:Event} (hx:qme x):ln (qji x)<=100:=by
 obtain ⟨f1,f2,f3,f4⟩:=qmt hx.1
 obtain ⟨_,hx1,hx2⟩:=hx
 have lt:=qrr x.DurN x.DurD
 have ls:=qed (n:=x.Sign) f3 (by omega)
 have lp:=qed (n:=x.Pass) f4 (by omega)
 have lq:=q0j x.PitchStep x.PitchOctave x.PitchAlter
 unfold qji
 have c1:ln ([32]:ZB)=1:=rfl
 have c2:ln ([10]:ZB)=1:=rfl
 have c3:ln ([114,101,115,116,32]:ZB)=5:=rfl
 have c4:ln ([110,111,116,101,32]:ZB)=5:=rfl
 split<;>simp only [qbi]<;>omega
def qlo (l:List Event):ZB:=l.flatMap qji
theorem zap:∀ {l:List Event} {acc:ZB},(∀ x ∈ l,qme x)->ln acc+100 * ln l<=20000->qjf l acc=(acc++qlo l,0)
 | [],acc,_,_=>by simp [qjf,qlo]
 | x::l,acc,h,hb=>by
  have hx:=ziq (h x zC)
  have l0:=zt l
  rw [jv] at hb
  have ha:ln (acc++qji x)<=ln acc+100:=by rw [qbi];omega
  unfold qjf
  rw [zF (by omega),zap (fun y hy=>h y (zG _ hy)) (by omega)]
  simp [qlo,List.append_assoc]
theorem q97:∀ {l:List Event} {u:ZB} {rs:List (List WW)},(∀ x ∈ l,qme x)->St u rs [] 0->St (u++qlo l) (rs++l.map qg1) [] 0
 | [],u,rs,_,h=>by simpa [qlo] using h
 | x::l,u,rs,h,hs=>by
  have:=q97 (fun y hy=>h y (zG _ hy)) (zpp hs (h x zC))
  simpa [qlo,List.append_assoc] using this
theorem zir {ws:List Word} {x:Event} (hx:qme x) (h:ws.map strip=qg1 x):qb6 ws = -1/\zw ws = {x with AtN:=0,AtD:=0}:=by
 obtain ⟨f1,f2,f3,f4⟩:=qmt hx.1
 have hone:=hx.1
 obtain ⟨_,hx1,hx2⟩:=hx
 have hT:=zif f1
 have hS:=q5i f3 (by omega)
 have hP:=q5i f4 (by omega)
 have hd:=(qii hone).2.2
 cases hr:x.Rest with
 | true=>
  have e2:qg1 x=[mkW qsx,mkW (zk x.DurN x.DurD).1,mkW (zb x.Sign),mkW (zb x.Pass)]:=by
   unfold qg1;rw [zT hr];rfl
  rw [e2] at h
  obtain ⟨w0,t0,rfl,a0,h⟩:=List.map_eq_cons_iff.1 h
  obtain ⟨w1,t1,rfl,a1,h⟩:=List.map_eq_cons_iff.1 h
  obtain ⟨w2,t2,rfl,a2,h⟩:=List.map_eq_cons_iff.1 h
  obtain ⟨w3,t3,rfl,a3,h⟩:=List.map_eq_cons_iff.1 h
  obtain rfl:=List.map_eq_nil_iff.1 h
  simp only [strip,mkW,zP] at a0 a1 a2 a3
  have i0:ix [w0,w1,w2,w3] 0=w0:=rfl
  have i1:ix [w0,w1,w2,w3] 1=w1:=rfl
  have i2:ix [w0,w1,w2,w3] 2=w2:=rfl
  have i3:ix [w0,w1,w2,w3] 3=w3:=rfl
  have hR:isR [w0,w1,w2,w3]=true:=by unfold isR;rw [i0,a0.1];decide
  have hn:¬ qde [w0,w1,w2,w3]:=by
   rintro (⟨_,c⟩ | ⟨c,_⟩ | c)
   .exact c rfl
   .rw [hR] at c;cases c
   .simp [a0.2,a1.2,a2.2,a3.2] at c
  have hk:qb6 [w0,w1,w2,w3] = -1:=by
   unfold qb6 kD
   simp only [hR,if_true]
   rw [zF hn,zF (by simp),show ix [w0,w1,w2,w3] (1+1)=w2 from rfl,show ix [w0,w1,w2,w3] (1+2)=w3 from rfl,i1,a1.1,a2.1,a3.1,hT,hS,hP]
   simp [hd]
  refine ⟨hk,?_⟩
  have hz:x.PitchStep=0/\x.PitchOctave=0/\x.PitchAlter=0:=by
   unfold qbb at hone
   rw [zF (by have:=(qii (x:=x) (by unfold qbb;exact hone)).1;omega),zF (by omega),zF hd] at hone
   by_cases hc:x.PitchStep≠0∨x.PitchOctave≠0∨x.PitchAlter≠0
   .rw [zT ⟨hr,hc⟩] at hone;cases hone
   .omega
  unfold zw qoe kD
  simp only [hk,hR,if_true,true_or]
  rw [show ix [w0,w1,w2,w3] (1+1)=w2 from rfl,show ix [w0,w1,w2,w3] (1+2)=w3 from rfl,i1,a1.1,a2.1,a3.1,hT,hS,hP]
  apply qu8<;>simp [hz.1,hz.2.1,hz.2.2,hr]
 | false=>
  obtain ⟨p1,p2,p3⟩:=q5x (f2 hr)
  have e2:qg1 x=[mkW qso,mkW (qko x.PitchStep x.PitchOctave x.PitchAlter),mkW (zk x.DurN x.DurD).1,mkW (zb x.Sign),mkW (zb x.Pass)]:=by
   unfold qg1;rw [zF (by rw [hr];decide)];rfl
  rw [e2] at h
  obtain ⟨w0,t0,rfl,a0,h⟩:=List.map_eq_cons_iff.1 h
  obtain ⟨w4,t4,rfl,a4,h⟩:=List.map_eq_cons_iff.1 h
  obtain ⟨w1,t1,rfl,a1,h⟩:=List.map_eq_cons_iff.1 h
  obtain ⟨w2,t2,rfl,a2,h⟩:=List.map_eq_cons_iff.1 h
  obtain ⟨w3,t3,rfl,a3,h⟩:=List.map_eq_cons_iff.1 h
  obtain rfl:=List.map_eq_nil_iff.1 h
  simp only [strip,mkW,zP] at a0 a1 a2 a3 a4
  have i0:ix [w0,w4,w1,w2,w3] 0=w0:=rfl
  have i4:ix [w0,w4,w1,w2,w3] 1=w4:=rfl
  have i1:ix [w0,w4,w1,w2,w3] 2=w1:=rfl
  have hR:isR [w0,w4,w1,w2,w3]=false:=by unfold isR;rw [i0,a0.1];decide
  have hn:¬ qde [w0,w4,w1,w2,w3]:=by
   rintro (⟨c,_⟩ | ⟨_,c⟩ | c)
   .rw [hR] at c;cases c
   .rcases c with c | c
    .exact c rfl
    .exact c a0.1
   .simp [a0.2,a1.2,a2.2,a3.2,a4.2] at c
  have hk:qb6 [w0,w4,w1,w2,w3] = -1:=by
   unfold qb6 kD
   simp only [hR,Bool.false_eq_true,if_false]
   rw [zF hn,show ix [w0,w4,w1,w2,w3] (2+1)=w2 from rfl,show ix [w0,w4,w1,w2,w3] (2+2)=w3 from rfl,i1,i4,a1.1,a2.1,a3.1,a4.1,p2,hT,hS,hP]
   simp [hd]
  refine ⟨hk,?_⟩
  unfold zw qoe kD
  simp only [hk,hR,Bool.false_eq_true,if_false,true_or,true_and,if_true]
  rw [show ix [w0,w4,w1,w2,w3] (2+1)=w2 from rfl,show ix [w0,w4,w1,w2,w3] (2+2)=w3 from rfl,i1,i4,a1.1,a2.1,a3.1,a4.1,p2,hT,hS,hP]
theorem zga:∀ {l:List Event} {rows:List Row} {i n d:Int} {acc:List Event},rows.map qw9=l.map qg1->qkv l n d->(∀ x ∈ l,qme x)->0<=i->i+ln l<=2000->qg8 rows i n d acc=(acc++l,0,0)
 | [],rows,i,n,d,acc,h,_,_,_,_=>by
  obtain rfl:=List.map_eq_nil_iff.1 h
  simp [qg8]
 | x::l,rows,i,n,d,acc,h,hc,hs,h0,hi=>by
  obtain ⟨r,rs,rfl,a,h⟩:=List.map_eq_cons_iff.1 h
  obtain ⟨e1,e2,e3,e4,e5⟩:=hc
  obtain ⟨k1,k2⟩:=zir (hs x zC) a
  have l0:=zt l
  rw [jv] at hi
  have hx:({zw r.Words with AtN:=n,AtD:=d}:Event)=x:=by rw [k2,<-e1,<-e2]
  unfold qg8
  rw [zF (by omega),zF (by omega),k2]
  show (if (kr n d x.DurN x.DurD).2.2≠0 then _ else _)=_
  rw [zF (by omega),zga h e5 (fun y hy=>hs y (zG _ hy)) (by omega) (by omega)]
  rw [k2] at hx
  rw [hx]
  simp
theorem zeb {l:List Event} (hc:(zu l).1=0) (hl:ln l<=20) (hs:∀ x ∈ l,x.Sign<=1000/\x.Pass<=1000):(jr l).2=0/\qgw (jr l).1=(l,0,0):=by
 have hsm:∀ x ∈ l,qme x:=fun x hx=>⟨q0s hc x hx,hs x hx⟩
 have ht:jr l=(qlo l,0):=by
  rw [qxa hc,zap hsm (by rw [qda];omega)];rfl
 have st:=q97 hsm zpx
 have hb:ln (qlo l)<=20000:=by
  have:∀ m:List Event,(∀ x ∈ m,qme x)->ln (qlo m)<=100 * ln m:=by
   intro m
   induction m with
   | nil=>intro _;exact zK _
   | cons x m ih=>
    intro h
    have:=ziq (h x zC)
    have:=ih fun y hy=>h y (zG _ hy)
    have e:qlo (x::m)=qji x++qlo m:=rfl
    rw [e,qbi,jv];omega
  have:=this l hsm
  omega
 rw [List.nil_append,List.nil_append] at st
 obtain ⟨rows,q1,q2⟩:=st.done (by decide) hb
 have hch:qkv l 0 1:=by
  unfold zu at hc
  split at hc
  .simp at hc
  .exact qlc hc
 rw [ht]
 refine ⟨rfl,?_⟩
 unfold qgw
 rw [q1,zF (by simp)]
 exact zga q2 hch hsm (zK _) (by omega)
end Go.Proofs.YtpbliaccnbgapaaGreatDoor
