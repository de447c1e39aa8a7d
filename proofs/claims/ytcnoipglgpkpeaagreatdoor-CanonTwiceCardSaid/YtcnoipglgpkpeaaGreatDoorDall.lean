import Derived.Test.YtcnoipglgpkpeaaGreatDoorNat
import Derived.Test.YtcnoipglgpkpeaaGreatDoorM6
namespace Go.Proofs.YtcnoipglgpkpeaaGreatDoor
open Go Go.E2 Go.E3
set_option maxRecDepth 100000
def qj (a b:Int):Int:=(Nat.gcd a.toNat b.toNat:Nat)
theorem qd0 (a b:Int):0<=qj a b:=Int.natCast_nonneg _
theorem quw {a:Int} (h:0<=a):qj a 0=a:=by
 unfold qj
 rw [Int.toNat_zero,Nat.gcd_zero_right]
 omega
theorem quv {a b:Int} (ha:0<=a) (hb:0<=b):qj b (Int.tmod a b)=qj a b:=by
 unfold qj
 obtain ⟨m,rfl⟩:=Int.eq_ofNat_of_zero_le ha
 obtain ⟨n,rfl⟩:=Int.eq_ofNat_of_zero_le hb
 have:Int.tmod (m:Int) (n:Int)=((m % n:Nat):Int):=by rw [<-Int.ofNat_tmod]
 rw [this,Int.toNat_natCast,Int.toNat_natCast,Int.toNat_natCast,Nat.gcd_comm m n,Nat.gcd_comm n (m % n),<-Nat.gcd_rec]
theorem qjt {a b:Int} (hb:1<=b):1<=qj a b:=by
 unfold qj
 have:0<Nat.gcd a.toNat b.toNat:=Nat.gcd_pos_of_pos_right _ (by omega)
 omega
theorem qr7 {a b:Int} (hb:0<=b):qj a b * b.tdiv (qj a b)=b:=by
 have h:qj a b ∣ b:=by
  unfold qj
  have:=Nat.gcd_dvd_right a.toNat b.toNat
  have h2:((Nat.gcd a.toNat b.toNat:Nat):Int) ∣ ((b.toNat:Nat):Int):=Int.natCast_dvd_natCast.2 this
  rwa [Int.toNat_of_nonneg hb] at h2
 exact Int.mul_tdiv_cancel' h
theorem qnw {a b:Int} (ha:0<=a) (hb:0<b):0<=Int.tmod a b/\Int.tmod a b<b:=⟨Int.tmod_nonneg _ ha,Int.tmod_lt_of_pos _ hb⟩
theorem qa3 {a b:Int} (ha:0<=a) (hb:0<=b):0<=a.tdiv b/\a.tdiv b<=a:=by
 refine ⟨Int.tdiv_nonneg ha hb,?_⟩
 rw [Int.tdiv_eq_ediv_of_nonneg ha]
 exact Int.ediv_le_self _ ha
theorem qiy {a b A B:Int} (h0:0<=a) (h1:a<=A) (h2:0<=b) (h3:b<=B):0<=a * b/\a * b<=A * B:=
 ⟨Int.mul_nonneg h0 h2,Int.mul_le_mul h1 h3 h2 (Int.le_trans h0 h1)⟩
theorem qww {a b:Int} (h0:1<=a) (h1:1<=b):1<=a * b:=by
 have:=Int.mul_le_mul h0 h1 (by omega) (by omega)
 omega
def ql (n d:Int):Int:=if n<0∨1099511627776<n∨d<1∨1048576<d then 2 else if 1<qj n d then 3 else 0
def ofT (n d:Int):Int×Int×Int:=if 1099511627776<n.tdiv (qj n d)∨1048576<d.tdiv (qj n d) then (0,0,4) else (n.tdiv (qj n d),d.tdiv (qj n d),0)
def qc2:List Time->Int
 | []=>0
 | x::l=>if ql x.N x.D≠0 then ql x.N x.D else qc2 l
def zh (a b c d:Int):Int×Int×Int:=if ql a b≠0 then (0,0,ql a b) else if ql c d≠0 then (0,0,ql c d) else ofT (a * d+c * b) (b * d)
def zhp (a b c d:Int):Int×Int:=if ql a b≠0 then (0,ql a b) else if ql c d≠0 then (0,ql c d) else if a * d<c * b then (-1,0) else if c * b<a * d then (1,0) else (0,0)
def qy (a b c:Int):Int:=if a<0∨6<a∨b<0∨8<b∨c < -1∨1<c then 2 else 0
theorem qcu {n d:Int} (h:ql n d=0):0<=n/\n<=1099511627776/\1<=d/\d<=1048576:=by
 unfold ql at h
 split at h
 .omega
 .omega
theorem qko (a b c d:Int):qc2 [Time.mk a b,Time.mk c d]=if ql a b≠0 then ql a b else ql c d:=by
 simp only [qc2]
 split
 .rfl
 .split
  .rfl
  .omega
def qab (x:Event):Int:=
 if ql x.AtN x.AtD≠0 then ql x.AtN x.AtD else if ql x.DurN x.DurD≠0 then ql x.DurN x.DurD else if x.DurN=0 then 2
 else if x.Rest=true/\(x.PitchStep≠0∨x.PitchOctave≠0∨x.PitchAlter≠0) then 3
 else if x.Rest=false/\qy x.PitchStep x.PitchOctave x.PitchAlter≠0 then qy x.PitchStep x.PitchOctave x.PitchAlter
 else if x.Sign<0∨x.Pass<0 then 2 else 0
def qh6 (x:Event) (n d:Int):Int:=
 if qab x≠0 then qab x else if x.AtN≠n∨x.AtD≠d then 6 else (zh x.AtN x.AtD x.DurN x.DurD).2.2
def qbs:List Event->Int->Int->Int->Int×Int
 | [],_,_,_=>(0,0)
 | x::l,i,n,d=>if qh6 x n d≠0 then (qh6 x n d,i) else qbs l (i+1) (zh x.AtN x.AtD x.DurN x.DurD).1 (zh x.AtN x.AtD x.DurN x.DurD).2.1
def qz (l:List Event):Int×Int:=if 2000<ln l then (11,0) else qbs l 0 0 1
def cm (l:List Event) (tn td j:Int):Int:=(zhp (ix l j).AtN (ix l j).AtD tn td).1
def qbx:List Event->Int->Int->Prop
 | [],_,_=>True
 | x::l,n,d=>x.AtN=n/\x.AtD=d/\qab x=0/\(zh n d x.DurN x.DurD).2.2=0/\qbx l (zh n d x.DurN x.DurD).1 (zh n d x.DurN x.DurD).2.1
theorem qyk:∀ {l:List Event} {i n d:Int},(qbs l i n d).1=0->qbx l n d
 | [],_,_,_,_=>trivial
 | x::l,i,n,d,h=>by
  simp only [qbs] at h
  by_cases h1:qh6 x n d≠0
  .rw [zT h1] at h;exact absurd h h1
  .rw [zF h1] at h
   have h1':qh6 x n d=0:=by omega
   unfold qh6 at h1'
   by_cases h2:qab x≠0
   .rw [zT h2] at h1';exact absurd h1' h2
   .rw [zF h2] at h1'
    by_cases h3:x.AtN≠n∨x.AtD≠d
    .rw [zT h3] at h1';omega
    .rw [zF h3] at h1'
     have e1:x.AtN=n:=by omega
     have e2:x.AtD=d:=by omega
     rw [e1,e2] at h1' h
     exact ⟨e1,e2,by omega,h1',qyk h⟩
def kj (n d m c:Int):Int×Int×Int:=
 if (0<n.tdiv (qj n c)/\Int.tdiv 1099511627776 (n.tdiv (qj n c))<m.tdiv (qj m d))∨1048576<d.tdiv (qj m d) * c.tdiv (qj n c) then (0,0,4)
 else (n.tdiv (qj n c) * m.tdiv (qj m d),d.tdiv (qj m d) * c.tdiv (qj n c),0)
def qcf (a b c d:Int):Int×Int×Int:=if ql a b≠0 then (0,0,ql a b) else if ql c d≠0 then (0,0,ql c d) else kj a b c d
def qjc (n al:Int):Int×Int×Int×Int:=if n<0∨62<n∨al < -1∨1<al then (0,0,0,2) else (Int.tmod n 7,Int.tdiv n 7,al,0)
def kf (st oc al k:Int):Int×Int×Int×Int:=if qy st oc al≠0 then (0,0,0,qy st oc al) else if k < -62∨62<k then (0,0,0,2) else qjc (7 * oc+st+k) al
def zj (st oc al s2 o2 a2:Int):Int×Int×Int×Int:=if qy st oc al≠0 then (0,0,0,qy st oc al) else if qy s2 o2 a2≠0 then (0,0,0,qy s2 o2 a2) else qjc (2 * (7 * o2+s2)-(7 * oc+st)) (-al)
def qeu:List Event->Int->Int->List Event
 | [],_,_=>[]
 | x::l,n,d=>{x with AtN:=n,AtD:=d}::qeu l (zh n d x.DurN x.DurD).1 (zh n d x.DurN x.DurD).2.1
def qg4:List Event->Int->Int->Int
 | [],_,_=>0
 | x::l,n,d=>if (zh n d x.DurN x.DurD).2.2≠0 then (zh n d x.DurN x.DurD).2.2 else qg4 l (zh n d x.DurN x.DurD).1 (zh n d x.DurN x.DurD).2.1
def qap (l:List Event):List Event×Int:=if qg4 l 0 1≠0 then ([],qg4 l 0 1) else (qeu l 0 1,0)
def kh (l:List Event):List Event×Int:=if (qz l).1≠0 then ([],(qz l).1) else qap l.reverse
def ke (f:Int->Int->Int->Int×Int×Int×Int) (x:Event):Event:=
 if x.Rest=true then x else {x with PitchStep:=(f x.PitchStep x.PitchOctave x.PitchAlter).1,PitchOctave:=(f x.PitchStep x.PitchOctave x.PitchAlter).2.1,PitchAlter:=(f x.PitchStep x.PitchOctave x.PitchAlter).2.2.1}
def qe4 (f:Int->Int->Int->Int×Int×Int×Int) (x:Event):Int:=if x.Rest=true then 0 else (f x.PitchStep x.PitchOctave x.PitchAlter).2.2.2
def qh5 (g:Event->Int):List Event->Int
 | []=>0
 | x::l=>if g x≠0 then g x else qh5 g l
def qgp (f:Event->Event) (g:Event->Int) (l:List Event):List Event×Int:=if qh5 g l≠0 then ([],qh5 g l) else qap (l.map f)
def qa2 (l:List Event) (s o a:Int):List Event×Int:=
 if (qz l).1≠0 then ([],(qz l).1) else if qy s o a≠0 then ([],qy s o a) else qgp (ke fun x y z=>zj x y z s o a) (qe4 fun x y z=>zj x y z s o a) l
def qbc (l:List Event) (k:Int):List Event×Int:=
 if (qz l).1≠0 then ([],(qz l).1) else qgp (ke fun x y z=>kf x y z k) (qe4 fun x y z=>kf x y z k) l
def qhd (n d:Int):Int:=if ql n d≠0 then ql n d else if n=0 then 5 else 0
def q0m (n d:Int) (x:Event):Event:={x with DurN:=(qcf x.DurN x.DurD n d).1,DurD:=(qcf x.DurN x.DurD n d).2.1}
def qat (l:List Event) (n d:Int):List Event×Int:=
 if (qz l).1≠0 then ([],(qz l).1) else if qhd n d≠0 then ([],qhd n d) else qgp (q0m n d) (fun x=>(qcf x.DurN x.DurD n d).2.2) l
def qbj (l:List Event) (n d:Int):List Event×Int:=
 if (qz l).1≠0 then ([],(qz l).1) else if qhd n d≠0 then ([],qhd n d) else if 2000<=ln l then ([],11) else qap (⟨0,0,n,d,0,0,0,true,0,0⟩::l)
def jr (a b c d:Int):Int:=if (a=2∨a=3)/\(b=2∨b=3)/\(c=2∨c=3)/\(d=2∨d=3) then 0 else 12
def qja (dn dd k fn fd m1 m2 m3 m4:Int):Int:=
 if ql dn dd≠0 then ql dn dd else if k < -14∨14<k then 2 else if ql fn fd≠0 then ql fn fd else if fn=0 then 5
 else if m1=0/\m2=0/\m3=0/\m4=0 then 0 else jr m1 m2 m3 m4
def qt:List Event->Int×Int×Int×Bool
 | []=>(0,0,0,false)
 | x::l=>if x.Rest=true then qt l else (x.PitchStep,x.PitchOctave,x.PitchAlter,true)
def qdw (r:List Event×Int) (f:List Event->List Event×Int):List Event×Int:=if r.2≠0 then ([],r.2) else f r.1
def qia (l:List Event) (mi re:Bool):List Event×Int:=
 qdw (if re=true then kh l else (l,0)) fun m=>if mi=true/\(qt m).2.2.2=true then qa2 m (qt m).1 (qt m).2.1 (qt m).2.2.1 else (m,0)
def qb (l:List Event) (dn dd k:Int) (mi re:Bool) (fn fd m1 m2 m3 m4:Int):List Event×Int:=
 if (qz l).1≠0 then ([],(qz l).1) else if qja dn dd k fn fd m1 m2 m3 m4≠0 then ([],qja dn dd k fn fd m1 m2 m3 m4)
 else qdw (qia l mi re) fun a=>qdw (qbc a k) fun b=>qdw (qat b fn fd) fun c=>if 0<dn then qbj c dn dd else (c,0)
theorem q6a {n d:Int} (h0:0<=n) (h1:1<=d) (h:(ofT n d).2.2=0):ql (ofT n d).1 (ofT n d).2.1=0:=by
 unfold ofT at h ⊢
 split at h
 .simp at h
 .rename_i hno
  rw [zF hno]
  obtain ⟨N,rfl⟩:=Int.eq_ofNat_of_zero_le h0
  obtain ⟨D,rfl⟩:=Int.eq_ofNat_of_zero_le (show 0<=d by omega)
  have hD:0<D:=by omega
  have hg:0<Nat.gcd N D:=Nat.gcd_pos_of_pos_right _ hD
  have e:qj (N:Int) (D:Int)=((Nat.gcd N D:Nat):Int):=by simp [qj]
  rw [e] at hno ⊢
  have e1:Int.tdiv (N:Int) ((Nat.gcd N D:Nat):Int)=((N / Nat.gcd N D:Nat):Int):=(Int.ofNat_tdiv _ _).symm
  have e2:Int.tdiv (D:Int) ((Nat.gcd N D:Nat):Int)=((D / Nat.gcd N D:Nat):Int):=(Int.ofNat_tdiv _ _).symm
  rw [e1,e2] at hno ⊢
  have hd:0<D / Nat.gcd N D:=Nat.div_pos (Nat.le_of_dvd hD (Nat.gcd_dvd_right N D)) hg
  have hc:=Nat.gcd_div_gcd_div_gcd_of_pos_right (n:=N) hD
  revert hno hc hd
  generalize N / Nat.gcd N D=p
  generalize D / Nat.gcd N D=q
  intro hno hd hc
  show ql (p:Int) (q:Int)=0
  have hg1:qj (p:Int) (q:Int)=1:=by simp [qj,hc]
  unfold ql
  rw [zF (by omega),hg1,zF (by omega)]
theorem za0 {a b c d:Int} (h1:ql a b=0) (h2:ql c d=0):zh a b c d=ofT (a * d+c * b) (b * d):=by
 unfold zh
 rw [zF (by omega),zF (by omega)]
theorem zdm {a0 a1 a2 a3:Int} (h1:ql a0 a1=0) (h2:ql a2 a3=0):I64 (a0 * a3)/\I64 (a2 * a1)/\I64 ((a0 * a3)+(a2 * a1))/\I64 (a1 * a3)/\
  (0<=((a0 * a3)+(a2 * a1))/\1<=(a1 * a3)/\((a0 * a3)+(a2 * a1))<=4611686018427387904/\(a1 * a3)<=4611686018427387904)/\I64 ((a0 * a3)-(a2 * a1)):=by
 have b1:=qcu h1
 have b2:=qcu h2
 have p1:=qiy b1.1 b1.2.1 (show 0<=a3 by omega) b2.2.2.2
 have p2:=qiy b2.1 b2.2.1 (show 0<=a1 by omega) b1.2.2.2
 have p3:=qww b1.2.2.1 b2.2.2.1
 have p4:=qiy (show 0<=a1 by omega) b1.2.2.2 (show 0<=a3 by omega) b2.2.2.2
 omega
theorem q48 {a b c d:Int} (h1:ql a b=0) (h2:ql c d=0) (h:(zh a b c d).2.2=0):ql (zh a b c d).1 (zh a b c d).2.1=0:=by
 obtain ⟨_,_,_,_,⟨b5,b6,_⟩,_⟩:=zdm h1 h2
 rw [za0 h1 h2] at h ⊢
 exact q6a b5 b6 h
theorem qh3:∀ {l:List Event} {n d:Int},qbx l n d->∀ x ∈ l,qab x=0
 | [],_,_,_,x,hx=>by cases hx
 | y::l,n,d,⟨_,_,h1,_,h2⟩,x,hx=>by
  rcases zD.1 hx with rfl | hx
  .exact h1
  .exact qh3 h2 x hx
theorem qyl {l:List Event} (h:(qz l).1=0):qbx l 0 1/\ln l<=2000:=by
 unfold qz at h
 split at h
 .simp at h
 .exact ⟨qyk h,by omega⟩
theorem qyj:∀ {l:List Event} {i n d:Int},qbx l n d->qbs l i n d=(0,0)
 | [],_,_,_,_=>rfl
 | x::l,i,n,d,⟨h1,h2,h3,h4,h5⟩=>by
  have e:qh6 x n d=0:=by
   unfold qh6
   rw [zF (by omega),zF (by omega),h1,h2,h4]
  unfold qbs
  rw [zF (by omega),h1,h2]
  exact qyj h5
theorem qdx {l:List Event} (h:qbx l 0 1) (hl:ln l<=2000):qz l=(0,0):=by
 unfold qz
 rw [zF (by omega)]
 exact qyj h
theorem qj2 {α β:Type} (f:α->β) (l:List α):ln (l.map f)=ln l:=by simp [ln]
theorem qg1 {α:Type} (l:List α):ln l.reverse=ln l:=by simp [ln]
theorem qf8 {x:Event}:qab x=0↔ql x.AtN x.AtD=0/\ql x.DurN x.DurD=0/\x.DurN≠0/\¬(x.Rest=true/\(x.PitchStep≠0∨x.PitchOctave≠0∨x.PitchAlter≠0))/\
  (x.Rest=false->qy x.PitchStep x.PitchOctave x.PitchAlter=0)/\0<=x.Sign/\0<=x.Pass:=by
 unfold qab
 constructor
 .intro h
  split at h
  .contradiction
  .split at h
   .contradiction
   .split at h
    .omega
    .split at h
     .omega
     .split at h
      .rename_i hc;exact absurd h hc.2
      .rename_i c1 c2 c3 c4 c5
       split at h
       .omega
       .refine ⟨by omega,by omega,c3,c4,fun hr=>?_,by omega,by omega⟩
        by_cases hz:qy x.PitchStep x.PitchOctave x.PitchAlter=0
        .exact hz
        .exact absurd ⟨hr,hz⟩ c5
 .rintro ⟨h1,h2,h3,h4,h5,h6,h7⟩
  rw [zF (by omega),zF (by omega),zF h3,zF h4,zF (fun h=>h.2 (h5 h.1)),zF (by omega)]
theorem ze4 {x:Event} {n d:Int} (h:qab x=0) (hc:ql n d=0):qab {x with AtN:=n,AtD:=d}=0:=by
 obtain ⟨_,h2⟩:=qf8.1 h
 exact qf8.2 ⟨hc,h2⟩
theorem q57 (x:Event) (l:List Event) (n d:Int):qeu (x::l) n d = {x with AtN:=n,AtD:=d}::qeu l (zh n d x.DurN x.DurD).1 (zh n d x.DurN x.DurD).2.1:=rfl
theorem qu5 (x:Event) (l:List Event) (n d:Int):qg4 (x::l) n d=if (zh n d x.DurN x.DurD).2.2≠0 then (zh n d x.DurN x.DurD).2.2 else qg4 l (zh n d x.DurN x.DurD).1 (zh n d x.DurN x.DurD).2.1:=rfl
theorem qui (g:Event->Int) (x:Event) (l:List Event):qh5 g (x::l)=if g x≠0 then g x else qh5 g l:=rfl
theorem qc9 (a:List Event) (f:List Event->List Event×Int):qdw (a,0) f=f a:=by
 unfold qdw
 rw [zF (by simp)]
theorem qh1 {r:List Event×Int} (h:r.2≠0) (f:List Event->List Event×Int):qdw r f=([],r.2):=by
 unfold qdw
 rw [zT h]
theorem qh2:∀ {l:List Event} {n d:Int},qbx l n d->qeu l n d=l/\qg4 l n d=0
 | [],_,_,_=>⟨rfl,rfl⟩
 | x::l,n,d,⟨h1,h2,_,h4,h5⟩=>by
  obtain ⟨i1,i2⟩:=qh2 h5
  unfold qeu qg4
  rw [zF (by omega),i1,i2]
  refine ⟨?_,rfl⟩
  subst h1 h2
  rfl
theorem qu6:∀ {l:List Event} {n d:Int},(∀ x ∈ l,∃ m c,qab {x with AtN:=m,AtD:=c}=0)->ql n d=0->qg4 l n d=0->qbx (qeu l n d) n d
 | [],_,_,_,_,_=>trivial
 | x::l,n,d,h,hc,he=>by
  unfold qg4 at he
  obtain ⟨m,c,hx⟩:=h x zC
  by_cases h0:(zh n d x.DurN x.DurD).2.2≠0
  .rw [zT h0] at he;exact absurd he h0
  .rw [zF h0] at he
   have hd:ql x.DurN x.DurD=0:=(qf8.1 hx).2.1
   exact ⟨rfl,rfl,ze4 (x:={x with AtN:=m,AtD:=c}) hx hc,by show (zh n d x.DurN x.DurD).2.2=0;omega,qu6 (fun y hy=>h y (zG _ hy)) (q48 hc hd (by omega)) he⟩
theorem qsm:∀ (l:List Event) (n d:Int),ln (qeu l n d)=ln l
 | [],_,_=>rfl
 | x::l,n,d=>by unfold qeu;rw [qng,qng,qsm l]
def strip (x:Event):Event:={x with AtN:=0,AtD:=0}
theorem qsn:∀ (l:List Event) (n d:Int),(qeu l n d).map strip=l.map strip
 | [],_,_=>rfl
 | x::l,n,d=>by unfold qeu;rw [List.map_cons,List.map_cons,qsn l];rfl
theorem qlg:∀ {l m:List Event} {n d:Int},l.map strip=m.map strip->qeu l n d=qeu m n d/\qg4 l n d=qg4 m n d
 | [],[],_,_,_=>⟨rfl,rfl⟩
 | [],_::_,_,_,h=>by simp at h
 | _::_,[],_,_,h=>by simp at h
 | x::l,y::m,n,d,h=>by
  rw [List.map_cons,List.map_cons,List.cons.injEq] at h
  obtain ⟨h1,h2⟩:=h
  have e1:x.DurN=y.DurN:=congrArg (·.DurN) h1
  have e2:x.DurD=y.DurD:=congrArg (·.DurD) h1
  have e3:({x with AtN:=n,AtD:=d}:Event) = {y with AtN:=n,AtD:=d}:=congrArg (fun z:Event=>{z with AtN:=n,AtD:=d}) h1
  obtain ⟨i1,i2⟩:=qlg (n:=(zh n d y.DurN y.DurD).1) (d:=(zh n d y.DurN y.DurD).2.1) h2
  unfold qeu qg4
  rw [e3,e1,e2,i1,i2]
  exact ⟨rfl,rfl⟩
theorem q0b {l:List Event} (h:qbx l 0 1):qeu (qeu l.reverse 0 1).reverse 0 1=l/\qg4 (qeu l.reverse 0 1).reverse 0 1=0:=by
 have e:(qeu l.reverse 0 1).reverse.map strip=l.map strip:=by
  rw [List.map_reverse,qsn,List.map_reverse,List.reverse_reverse]
 obtain ⟨e1,e2⟩:=qlg (n:=0) (d:=1) e
 obtain ⟨c1,c2⟩:=qh2 h
 rw [e1,e2]
 exact ⟨c1,c2⟩
theorem qwy {f:Event->Event} (hf:∀ x,(f x).DurN=x.DurN/\(f x).DurD=x.DurD) (ha:∀ (x:Event) (n d:Int),Event.mk n d (f x).DurN (f x).DurD (f x).PitchStep (f x).PitchOctave (f x).PitchAlter (f x).Rest (f x).Sign (f x).Pass=f (Event.mk n d x.DurN x.DurD x.PitchStep x.PitchOctave x.PitchAlter x.Rest x.Sign x.Pass)) :
  ∀ (l:List Event) (n d:Int),qeu (l.map f) n d=(qeu l n d).map f/\qg4 (l.map f) n d=qg4 l n d
 | [],_,_=>⟨rfl,rfl⟩
 | x::l,n,d=>by
  obtain ⟨h1,h2⟩:=hf x
  rw [List.map_cons]
  unfold qeu qg4
  rw [ha,h1,h2,(qwy hf ha l _ _).1,(qwy hf ha l _ _).2,List.map_cons]
  exact ⟨rfl,rfl⟩
theorem qz3 (f:Int->Int->Int->Int×Int×Int×Int) (x:Event):(ke f x).DurN=x.DurN/\(ke f x).DurD=x.DurD:=by unfold ke;split<;>exact ⟨rfl,rfl⟩
theorem zck (f:Int->Int->Int->Int×Int×Int×Int) (x:Event) (n d:Int):Event.mk n d (ke f x).DurN (ke f x).DurD (ke f x).PitchStep (ke f x).PitchOctave (ke f x).PitchAlter (ke f x).Rest (ke f x).Sign (ke f x).Pass=ke f (Event.mk n d x.DurN x.DurD x.PitchStep x.PitchOctave x.PitchAlter x.Rest x.Sign x.Pass):=by
 unfold ke
 dsimp only
 split<;>rfl
theorem quj {g:Event->Int}:∀ {l:List Event},qh5 g l=0->∀ x ∈ l,g x=0
 | [],_,x,hx=>by cases hx
 | y::l,h,x,hx=>by
  unfold qh5 at h
  by_cases h0:g y≠0
  .rw [zT h0] at h;exact absurd h h0
  .rw [zF h0] at h
   rcases zD.1 hx with rfl | hx
   .omega
   .exact quj h x hx
theorem qm1 {g:Event->Int}:∀ {l:List Event},(∀ x ∈ l,g x=0)->qh5 g l=0
 | [],_=>rfl
 | y::l,h=>by
  unfold qh5
  rw [zF (by have:=h y zC;omega)]
  exact qm1 fun x hx=>h x (zG _ hx)
theorem q3a {g:Event->Int} {k:Int}:∀ {l:List Event},(∀ x ∈ l,g x=0∨g x=k)->qh5 g l=0∨qh5 g l=k
 | [],_=>.inl rfl
 | y::l,h=>by
  unfold qh5
  split
  .rcases h y zC with h1 | h1
   .contradiction
   .exact .inr h1
  .exact q3a fun x hx=>h x (zG _ hx)
theorem qvu {f:Int->Int->Int->Int×Int×Int×Int} {l:List Event} (h:qbx l 0 1) (he:qh5 (qe4 f) l=0):qgp (ke f) (qe4 f) l=(l.map (ke f),0):=by
 obtain ⟨c1,c2⟩:=qh2 h
 obtain ⟨m1,m2⟩:=qwy (qz3 f) (zck f) l 0 1
 unfold qgp qap
 rw [zF (by omega),m1,m2,c1,c2]
 rfl
theorem q6r {a b:Int} (h0:0<=a) (h1:a<=6) (h2:0<=b):Int.tmod (7 * b+a) 7=a/\Int.tdiv (7 * b+a) 7=b:=by
 rw [Int.tmod_eq_emod_of_nonneg (by omega),Int.tdiv_eq_ediv_of_nonneg (by omega)]
 omega
theorem qh7 {a b c:Int} (h:qy a b c=0):0<=a/\a<=6/\0<=b/\b<=8/\-1<=c/\c<=1:=by
 unfold qy at h
 split at h
 .omega
 .omega
theorem qxk {a b c:Int} (h:qy a b c=0):qjc (7 * b+a) c=(a,b,c,0):=by
 obtain ⟨h0,h1,h2,h3,h4,h5⟩:=qh7 h
 obtain ⟨e1,e2⟩:=q6r h0 h1 h2
 unfold qjc
 rw [zF (by omega),e1,e2]
theorem zct {n al:Int} (h:(qjc n al).2.2.2=0):qy (qjc n al).1 (qjc n al).2.1 (qjc n al).2.2.1=0/\7 * (qjc n al).2.1+(qjc n al).1=n/\(qjc n al).2.2.1=al:=by
 unfold qjc at h ⊢
 by_cases hc:n<0∨62<n∨al < -1∨1<al
 .rw [zT hc] at h;simp at h
 .rw [zF hc]
  dsimp only
  rw [Int.tmod_eq_emod_of_nonneg (by omega),Int.tdiv_eq_ediv_of_nonneg (by omega)]
  refine ⟨?_,by omega,rfl⟩
  unfold qy
  rw [zF (by omega)]
theorem zad (n al:Int):(qjc n al).2.2.2=0∨(qjc n al).2.2.2=2:=by unfold qjc;split<;>simp
theorem q88 {a b c:Int} (h:qy a b c=0):kf a b c 0=(a,b,c,0):=by
 unfold kf
 rw [zF (by omega),zF (by omega),Int.add_zero,qxk h]
theorem qz5 {x:Event} {f:Int->Int->Int->Int×Int×Int×Int} (h:x.Rest=false->f x.PitchStep x.PitchOctave x.PitchAlter=(x.PitchStep,x.PitchOctave,x.PitchAlter,0)):ke f x=x/\qe4 f x=0:=by
 unfold ke qe4
 by_cases hr:x.Rest=true
 .rw [zT hr,zT hr];exact ⟨rfl,rfl⟩
 .rw [zF hr,zF hr,h (by simpa using hr)]
  exact ⟨rfl,rfl⟩
theorem qni {f:Event->Event}:∀ {l:List Event},(∀ x ∈ l,f x=x)->l.map f=l
 | [],_=>rfl
 | x::l,h=>by rw [List.map_cons,h x zC,qni fun y hy=>h y (zG _ hy)]
theorem q87 {l:List Event} (h:qbx l 0 1) (hl:ln l<=2000):qbc l 0=(l,0):=by
 have hx:∀ x ∈ l,ke (fun x y z=>kf x y z 0) x=x/\qe4 (fun x y z=>kf x y z 0) x=0:=fun x hx=>qz5 fun hr=>q88 ((qf8.1 (qh3 h x hx)).2.2.2.2.1 hr)
 unfold qbc
 rw [qdx h hl,zF (by simp),qvu h (qm1 fun x m=>(hx x m).2),qni fun x m=>(hx x m).1]
theorem q8j (a:Int):qj a 1=1:=by simp [qj]
theorem q5q (a:Int):qj 1 a=1:=by simp [qj]
theorem q89 {n d:Int} (h:ql n d=0):qcf n d 1 1=(n,d,0):=by
 have hb:=qcu h
 unfold qcf
 rw [zF (by omega),zF (by decide)]
 unfold kj
 rw [q8j,q5q,Int.tdiv_one,Int.tdiv_one,Int.tdiv_one,Int.mul_one,Int.mul_one,zF]
 rintro (⟨h1,h2⟩ | h1)
 .rw [Int.tdiv_eq_ediv_of_nonneg (by decide)] at h2
  have:=Int.ediv_lt_iff_lt_mul (a:=1099511627776) (b:=1) (c:=n) h1 |>.1 h2
  omega
 .omega
theorem zab {l:List Event} (h:qbx l 0 1) (hl:ln l<=2000):qat l 1 1=(l,0):=by
 have hx:∀ x ∈ l,q0m 1 1 x=x/\(qcf x.DurN x.DurD 1 1).2.2=0:=fun x hx=>by
  have:=q89 (qf8.1 (qh3 h x hx)).2.1
  unfold q0m
  rw [this]
  exact ⟨rfl,rfl⟩
 have ha:qhd 1 1=0:=by decide
 unfold qat qgp qap
 rw [qdx h hl,zF (by simp),zF (by rw [ha];simp),qm1 (fun x m=>(hx x m).2),zF (by simp),qni fun x m=>(hx x m).1,(qh2 h).1,(qh2 h).2]
 rfl
theorem qsh {α:Type} [Inhabited α] {l:List α} {i j:Int} {a:α} (h0:0<=i) (h:i<ln l) (j0:0<=j):ix (l.set i.toNat a) j=if j=i then a else ix l j:=by
 obtain ⟨n,rfl⟩:=Int.eq_ofNat_of_zero_le h0
 obtain ⟨m,rfl⟩:=Int.eq_ofNat_of_zero_le j0
 have hn:n<l.length:=by simp only [ln] at h;omega
 rw [Int.toNat_natCast]
 by_cases hm:m<l.length
 .rw [qjw (by simpa using hm),qjw hm,List.getElem_set]
  by_cases e:m=n
  .subst e;rw [zT rfl,zT rfl]
  .rw [zF (fun h=>e h.symm),zF (by omega)]
 .rw [zF (by omega)]
  have e1:ix (l.set n a) (m:Int)=default:=by unfold ix;simp [List.getD,hm]
  have e2:ix l (m:Int)=default:=by unfold ix;simp [List.getD,hm]
  rw [e1,e2]
theorem q8h {α:Type} {l:List α} {i:Int} {a:α} (h0:0<=i):fr (l.set i.toNat a) (i+1)=fr l (i+1):=by
 obtain ⟨n,rfl⟩:=Int.eq_ofNat_of_zero_le h0
 have e:((n:Int)+1).toNat=n+1:=by omega
 unfold fr
 rw [e,Int.toNat_natCast,List.drop_set,zT (by omega)]
theorem q3m {α:Type} {l m:List α} {i:Int} (h0:0<=i) (h:fr l i=fr m i):fr l (i+1)=fr m (i+1):=by
 rw [<-zdb h0 (show (0:Int)<=1 by decide),h,zdb h0 (by decide)]
theorem qnb {α:Type} [Inhabited α] {l m:List α} {i:Int} (h0:0<=i) (h:fr l i=fr m i):ix l i=ix m i:=by
 have e1:ix (fr l i) 0=ix l (i+0):=zdd h0 (zK _)
 have e2:ix (fr m i) 0=ix m (i+0):=zdd h0 (zK _)
 rw [Int.add_zero] at e1 e2
 rw [<-e1,<-e2,h]
structure ChInv (M c:List Event) (i n d:Int):Prop where
 i0:0<=i
 i1:i<=ln M
 len:ln c=ln M
 rest:fr c i=fr M i
 done:upto c i++qeu (fr M i) n d=qeu M 0 1
 err:qg4 (fr M i) n d=qg4 M 0 1
theorem qav (M:List Event):ChInv M M 0 0 1:=⟨zK _,k7 _,rfl,rfl,rfl,rfl⟩
theorem za2 {M c:List Event} {i n d:Int} (h:ChInv M c i n d) (hi:i<ln c) (he:(zh n d (ix c i).DurN (ix c i).DurD).2.2=0) :
  ChInv M (c.set i.toNat {ix c i with AtN:=n,AtD:=d}) (i+1) (zh n d (ix c i).DurN (ix c i).DurD).1 (zh n d (ix c i).DurN (ix c i).DurD).2.1:=by
 obtain ⟨i0,i1,len,rest,done,err⟩:=h
 have ex:ix c i=ix M i:=qnb i0 rest
 have e1:=qfb i0 (show i<ln M by omega)
 rw [e1] at done err
 rw [q57,<-ex] at done
 rw [qu5,<-ex] at err
 rw [zF (by omega)] at err
 refine ⟨by omega,by omega,by rw [qos];exact len,by rw [q8h i0];exact q3m i0 rest,?_,err⟩
 rw [q0s i0 hi,List.append_assoc]
 exact done
theorem zdp {M c:List Event} {i n d:Int} (h:ChInv M c i n d) (hi:i<ln c) (he:(zh n d (ix c i).DurN (ix c i).DurD).2.2≠0):qap M=([],(zh n d (ix c i).DurN (ix c i).DurD).2.2):=by
 obtain ⟨i0,i1,len,rest,done,err⟩:=h
 have ex:ix c i=ix M i:=qnb i0 rest
 rw [qfb i0 (show i<ln M by omega),qu5,<-ex,zT he] at err
 unfold qap
 rw [<-err,zT he]
theorem zdq {M c:List Event} {i n d:Int} (h:ChInv M c i n d) (hi:ln c<=i):qap M=(c,0):=by
 obtain ⟨i0,i1,len,rest,done,err⟩:=h
 rw [qok (show ln M<=i by omega)] at done err
 have e1:qeu M 0 1=c:=by rw [<-done,q0r hi];exact zJ c
 have e2:qg4 M 0 1=0:=err.symm
 unfold qap
 rw [e2,e1,zF (by simp)]
structure MpInv (f:Event->Event) (g:Event->Int) (l c:List Event) (i:Int):Prop where
 i0:0<=i
 i1:i<=ln l
 len:ln c=ln l
 rest:fr c i=fr l i
 done:upto c i++(fr l i).map f=l.map f
 err:qh5 g (fr l i)=qh5 g l
theorem qej (f:Event->Event) (g:Event->Int) (l:List Event):MpInv f g l l 0:=⟨zK _,k7 _,rfl,rfl,rfl,rfl⟩
theorem zb1 {f:Event->Event} {g:Event->Int} {l c:List Event} {i:Int} (h:MpInv f g l c i) (hi:i<ln c) (he:g (ix c i)=0):MpInv f g l (c.set i.toNat (f (ix c i))) (i+1):=by
 obtain ⟨i0,i1,len,rest,done,err⟩:=h
 have ex:ix c i=ix l i:=qnb i0 rest
 rw [qfb i0 (show i<ln l by omega)] at done err
 rw [List.map_cons,<-ex] at done
 rw [qui,<-ex,zF (by omega)] at err
 refine ⟨by omega,by omega,by rw [qos];exact len,by rw [q8h i0];exact q3m i0 rest,?_,err⟩
 rw [q0s i0 hi,List.append_assoc]
 exact done
theorem zez {f:Event->Event} {g:Event->Int} {l c:List Event} {i:Int} (h:MpInv f g l c i) (hi:i<ln c) (he:g (ix c i)≠0):qgp f g l=([],g (ix c i)):=by
 obtain ⟨i0,i1,len,rest,done,err⟩:=h
 have ex:ix c i=ix l i:=qnb i0 rest
 rw [qfb i0 (show i<ln l by omega),qui,<-ex,zT he] at err
 unfold qgp
 rw [<-err,zT he]
theorem ze0 {f:Event->Event} {g:Event->Int} {l c:List Event} {i:Int} (h:MpInv f g l c i) (hi:ln c<=i):c=l.map f/\qgp f g l=qap c:=by
 obtain ⟨i0,i1,len,rest,done,err⟩:=h
 rw [qok (show ln l<=i by omega)] at done err
 have e1:c=l.map f:=by rw [<-done,q0r hi];exact (zJ c).symm
 refine ⟨e1,?_⟩
 have e2:qh5 g l=0:=err.symm
 unfold qgp
 rw [e2,zF (by simp),e1]
structure RvInv (l c:List Event) (i j:Int):Prop where
 i0:0<=i
 sum:i+j=ln l-1
 q9b:i<=j+2
 len:ln c=ln l
 out:∀ k,0<=k->k<ln l->k<i∨j<k->ix c k=ix l (ln l-1-k)
 mid:∀ k,i<=k->k<=j->ix c k=ix l k
theorem qsz (l:List Event):RvInv l l 0 (ln l-1):=⟨zK _,by omega,by have:=k7 l;omega,rfl,fun k h0 h1 h=>by omega,fun _ _ _=>rfl⟩
theorem zcp {l c:List Event} {i j:Int} (h:RvInv l c i j) (hi:i<j):RvInv l ((c.set i.toNat (ix c j)).set j.toNat (ix c i)) (i+1) (j-1):=by
 obtain ⟨i0,sum,q9b,len,out,mid⟩:=h
 have l1:ln (c.set i.toNat (ix c j))=ln l:=by rw [qos];exact len
 refine ⟨by omega,by omega,by omega,by rw [qos];exact l1,fun k k0 k1 hk=>?_,fun k k0 k1=>?_⟩
 .rw [qsh (by omega) (by omega) k0,qsh i0 (by omega) k0]
  by_cases e1:k=j
  .rw [zT e1,mid i (zK _) (by omega)]
   congr 1;omega
  .rw [zF e1]
   by_cases e2:k=i
   .rw [zT e2,mid j (by omega) (zK _)]
    congr 1;omega
   .rw [zF e2]
    exact out k k0 k1 (by omega)
 .rw [qsh (by omega) (by omega) (by omega),zF (by omega),qsh i0 (by omega) (by omega),zF (by omega)]
  exact mid k (by omega) (by omega)
theorem zfa {l c:List Event} {i j:Int} (h:RvInv l c i j) (hi:j<=i):c=l.reverse:=by
 obtain ⟨i0,sum,q9b,len,out,mid⟩:=h
 refine qzk (by rw [len];simp [ln]) fun k k0 k1=>?_
 have hr:ix l.reverse k=ix l (ln l-1-k):=by
  obtain ⟨n,rfl⟩:=Int.eq_ofNat_of_zero_le k0
  have hn:n<l.length:=by simp only [ln] at k1 len;omega
  have hm:l.length-1-n<l.length:=by omega
  have e:ln l-1-(n:Int)=((l.length-1-n:Nat):Int):=by simp only [ln];omega
  rw [e,qjw (by simpa using hn),qjw hm,List.getElem_reverse]
 rw [hr]
 by_cases hk:k<i∨j<k
 .exact out k k0 (by omega) hk
 .rw [mid k (by omega) (by omega)]
  congr 1;omega
theorem zbt {α:Type} [Inhabited α] {l:List α} {i:Int} {a:α} (h0:0<=i) (h:i<ln l):ix (l.set i.toNat a) i=a:=by rw [qsh h0 h h0,zT rfl]
abbrev atX (c:List Event) (i n d:Int):List Event:=c.set i.toNat (Event.mk n d (ix c i).DurN (ix c i).DurD (ix c i).PitchStep (ix c i).PitchOctave (ix c i).PitchAlter (ix c i).Rest (ix c i).Sign (ix c i).Pass)
theorem qoc {M c:List Event} {i n d L:Int} {r:List Event×Int} (hL:ln M=L) (hr:r=qap M) (h:ChInv M c i n d) (hi:i<L) :
  0<=i/\L<=ln c/\L<=ln (atX c i n d)/\((zh n d (ix (atX c i n d) i).DurN (ix (atX c i n d) i).DurD).2.2≠0->([]:List Event)=r.1/\(zh n d (ix (atX c i n d) i).DurN (ix (atX c i n d) i).DurD).2.2=r.2)/\
  ((zh n d (ix (atX c i n d) i).DurN (ix (atX c i n d) i).DurD).2.2=0->ChInv M (atX c i n d) (i+1) (zh n d (ix (atX c i n d) i).DurN (ix (atX c i n d) i).DurD).1 (zh n d (ix (atX c i n d) i).DurN (ix (atX c i n d) i).DurD).2.1/\(L-(i+1)).toNat<(L-i).toNat):=by
 have hc:i<ln c:=by have:=h.len;omega
 have e:ix (atX c i n d) i = {ix c i with AtN:=n,AtD:=d}:=zbt h.i0 hc
 rw [e]
 dsimp only
 refine ⟨h.i0,by have:=h.len;omega,by rw [qos];have:=h.len;omega,fun he=>?_,fun he=>⟨za2 h hc he,by have:=h.i0;omega⟩⟩
 rw [hr,zdp h hc he]
 exact ⟨rfl,rfl⟩
theorem qls {M c:List Event} {i n d L:Int} {r:List Event×Int} (hL:ln M=L) (hr:r=qap M) (h:ChInv M c i n d) (hi:L<=i):L=ln c/\c=r.1/\(0:Int)=r.2:=by
 have:=h.len
 rw [hr,zdq h (by omega)]
 exact ⟨by omega,rfl,rfl⟩
theorem q16 {f:Event->Event} {g:Event->Int} {l c:List Event} {i:Int} {r:List Event×Int} (hr:r=qgp f g l) (h:MpInv f g l c i) (hi:i<ln l) :
  0<=i/\ln l<=ln c/\(g (ix c i)≠0->([]:List Event)=r.1/\g (ix c i)=r.2)/\(g (ix c i)=0->MpInv f g l (c.set i.toNat (f (ix c i))) (i+1)/\(ln l-(i+1)).toNat<(ln l-i).toNat):=by
 have hc:i<ln c:=by have:=h.len;omega
 refine ⟨h.i0,by have:=h.len;omega,fun he=>?_,fun he=>⟨zb1 h hc he,by have:=h.i0;omega⟩⟩
 rw [hr,zez h hc he]
 exact ⟨rfl,rfl⟩
theorem q17 {f:Event->Event} {g:Event->Int} {l c:List Event} {i:Int} {r:List Event×Int} (hr:r=qgp f g l) (h:MpInv f g l c i) (hi:ln l<=i):c=l.map f/\r=qap (l.map f):=by
 obtain ⟨h1,h2⟩:=ze0 h (by have:=h.len;omega)
 exact ⟨h1,by rw [hr,h2,h1]⟩
def zu (a n:Int):Int:=if n<1 then 0 else if Int.tmod a n<0 then Int.tmod a n+n else Int.tmod a n
def tT (n d:Int):Int×Int:=(n.tdiv (qj n d),d.tdiv (qj n d))
def qbq (a b c d:Int):Int×Int:=tT (a * d+c * b) (b * d)
abbrev zc8:List Time:=[(Time.mk 1 1),(Time.mk 2 1),(Time.mk 1 2),(Time.mk 3 1),(Time.mk 4 1),(Time.mk 3 2),(Time.mk 6 1),(Time.mk 2 3),(Time.mk 4 3)]
def qao (k:Int):Time:=ix zc8 (Int.tmod (Int.tdiv k 63) 9)
def evK (k i n d:Int):Event:=
 if Int.tdiv k 567=6 then ⟨n,d,(qao k).N,(qao k).D,0,0,0,true,i,Int.tmod (Int.tdiv k 567) 2⟩
 else ⟨n,d,(qao k).N,(qao k).D,Int.tmod k 7,3+Int.tmod (Int.tdiv k 7) 3,Int.tmod (Int.tdiv k 21) 3-1,false,i,Int.tmod (Int.tdiv k 567) 2⟩
def qe9 (most:Int):List Int->Int->Int->Int->List Event
 | [],_,_,_=>[]
 | a::l,i,n,d=>if i<most then evK (zu a 3969) i n d::qe9 most l (i+1) (qbq n d (qao (zu a 3969)).N (qao (zu a 3969)).D).1 (qbq n d (qao (zu a 3969)).N (qao (zu a 3969)).D).2 else []
def qa (l:List Int) (most:Int):List Event:=qe9 most l 0 0 1
abbrev qnu:List Int:=[6,12,3,18,24,9,36,4,8]
def sxt (s:Int):Int×Int:=tT s 6
def qs4 (n d i:Int):Prop:=∃ s,0<=s/\s<=36 * i/\n=(sxt s).1/\d=(sxt s).2
theorem qwv (a:Int) {n:Int} (h:1<=n):0<=zu a n/\zu a n<n:=by
 unfold zu
 rw [zF (by omega)]
 have h1:=Int.tmod_lt_of_pos a (show 0<n by omega)
 have h2:-n<Int.tmod a n:=Int.lt_tmod_of_pos _ (by omega)
 split<;>omega
def q97 (s c:Int):Bool:=decide (qbq (sxt s).1 (sxt s).2 (sxt c).1 (sxt c).2=sxt (s+c))&&decide (ql (sxt s).1 (sxt s).2=0)&&decide (zh (sxt s).1 (sxt s).2 (sxt c).1 (sxt c).2=((sxt (s+c)).1,(sxt (s+c)).2,0))&&decide ((sxt s).1<=1000)&&decide ((sxt s).2<=6)
theorem zcq:((List.range 721).all fun s=>qnu.all fun c=>q97 (s:Int) c)=true:=by kernel_rfl
theorem qxi {s c:Int} (h0:0<=s) (h1:s<=720) (hc:c ∈ qnu):qbq (sxt s).1 (sxt s).2 (sxt c).1 (sxt c).2=sxt (s+c)/\ql (sxt s).1 (sxt s).2=0/\zh (sxt s).1 (sxt s).2 (sxt c).1 (sxt c).2=((sxt (s+c)).1,(sxt (s+c)).2,0)/\(sxt s).1<=1000/\(sxt s).2<=6:=by
 have h:=List.all_eq_true.1 (List.all_eq_true.1 zcq s.toNat (List.mem_range.2 (by omega))) c hc
 rw [show ((s.toNat:Nat):Int)=s by omega] at h
 simp only [q97,zA,decide_eq_true_eq] at h
 exact ⟨h.1.1.1.1,h.1.1.1.2,h.1.1.2,h.1.2,h.2⟩
theorem qql {k:Int} (h:0<=k):∃ c ∈ qnu,(qao k).N=(sxt c).1/\(qao k).D=(sxt c).2/\3<=c/\c<=36/\(qao k).N≠0/\ql (qao k).N (qao k).D=0/\1<=(qao k).N/\(qao k).N<=6/\1<=(qao k).D/\(qao k).D<=3:=by
 have h1:0<=Int.tdiv k 63:=Int.tdiv_nonneg h (by decide)
 have h2:0<=Int.tmod (Int.tdiv k 63) 9:=Int.tmod_nonneg _ h1
 have h3:Int.tmod (Int.tdiv k 63) 9<9:=Int.tmod_lt_of_pos _ (by decide)
 unfold qao
 generalize Int.tmod (Int.tdiv k 63) 9=j at *
 rcases (show j=0∨j=1∨j=2∨j=3∨j=4∨j=5∨j=6∨j=7∨j=8 by omega) with rfl | rfl | rfl | rfl | rfl | rfl | rfl | rfl | rfl
 .exact ⟨6,by decide,by decide,by decide,by decide,by decide,by decide,by decide,by decide,by decide,by decide,by decide⟩
 .exact ⟨12,by decide,by decide,by decide,by decide,by decide,by decide,by decide,by decide,by decide,by decide,by decide⟩
 .exact ⟨3,by decide,by decide,by decide,by decide,by decide,by decide,by decide,by decide,by decide,by decide,by decide⟩
 .exact ⟨18,by decide,by decide,by decide,by decide,by decide,by decide,by decide,by decide,by decide,by decide,by decide⟩
 .exact ⟨24,by decide,by decide,by decide,by decide,by decide,by decide,by decide,by decide,by decide,by decide,by decide⟩
 .exact ⟨9,by decide,by decide,by decide,by decide,by decide,by decide,by decide,by decide,by decide,by decide,by decide⟩
 .exact ⟨36,by decide,by decide,by decide,by decide,by decide,by decide,by decide,by decide,by decide,by decide,by decide⟩
 .exact ⟨4,by decide,by decide,by decide,by decide,by decide,by decide,by decide,by decide,by decide,by decide,by decide⟩
 .exact ⟨8,by decide,by decide,by decide,by decide,by decide,by decide,by decide,by decide,by decide,by decide,by decide⟩
theorem qmi:qs4 0 1 0:=⟨0,zK _,zK _,by decide,by decide⟩
theorem q0i {n d i:Int} (h:qs4 n d i) (hi:i<=20):ql n d=0/\0<=n/\n<=1000/\1<=d/\d<=6:=by
 obtain ⟨s,h0,h1,rfl,rfl⟩:=h
 obtain ⟨_,r2,_,r4,r5⟩:=qxi h0 (by omega) (c:=6) (by decide)
 have:=qcu r2
 exact ⟨r2,by omega,r4,by omega,r5⟩
theorem qs5 {n d i k:Int} (h:qs4 n d i) (hi:i<20) (hk:0<=k) :
  qs4 (qbq n d (qao k).N (qao k).D).1 (qbq n d (qao k).N (qao k).D).2 (i+1)/\zh n d (qao k).N (qao k).D=((qbq n d (qao k).N (qao k).D).1,(qbq n d (qao k).N (qao k).D).2,0):=by
 obtain ⟨s,h0,h1,rfl,rfl⟩:=h
 obtain ⟨c,hc,e1,e2,c0,c1,_⟩:=qql hk
 obtain ⟨r1,r2,r3,r4,r5⟩:=qxi h0 (by omega) hc
 rw [e1,e2,r1,r3]
 exact ⟨⟨s+c,by omega,by omega,rfl,rfl⟩,rfl⟩
theorem q8b (k i n d:Int):(evK k i n d).AtN=n/\(evK k i n d).AtD=d/\(evK k i n d).DurN=(qao k).N/\(evK k i n d).DurD=(qao k).D/\(evK k i n d).Sign=i/\(evK k i n d).Pass=Int.tmod (Int.tdiv k 567) 2:=by
 unfold evK;split<;>exact ⟨rfl,rfl,rfl,rfl,rfl,rfl⟩
theorem zci {k:Int} (h:0<=k):0<=Int.tmod (Int.tdiv k 567) 2/\Int.tmod (Int.tdiv k 567) 2<=1:=by
 have h1:0<=Int.tdiv k 567:=Int.tdiv_nonneg h (by decide)
 have:=Int.tmod_nonneg 2 h1
 have:=Int.tmod_lt_of_pos (Int.tdiv k 567) (show (0:Int)<2 by decide)
 omega
theorem zbo {k i n d:Int} (hk:0<=k) (hi:0<=i) (hc:ql n d=0):qab (evK k i n d)=0:=by
 obtain ⟨c,_,_,_,_,_,c3,c4,_⟩:=qql hk
 have hp:=zci hk
 unfold evK
 split
 .unfold qab
  dsimp only
  rw [zF (by omega),zF (by omega),zF c3,zF (by simp),zF (by simp),zF (by omega)]
 .have h1:=Int.tmod_nonneg 7 hk
  have h2:=Int.tmod_lt_of_pos k (show (0:Int)<7 by decide)
  have h3:=Int.tmod_nonneg 3 (Int.tdiv_nonneg hk (show (0:Int)<=7 by decide))
  have h4:=Int.tmod_lt_of_pos (Int.tdiv k 7) (show (0:Int)<3 by decide)
  have h5:=Int.tmod_nonneg 3 (Int.tdiv_nonneg hk (show (0:Int)<=21 by decide))
  have h6:=Int.tmod_lt_of_pos (Int.tdiv k 21) (show (0:Int)<3 by decide)
  have hpc:qy (Int.tmod k 7) (3+Int.tmod (Int.tdiv k 7) 3) (Int.tmod (Int.tdiv k 21) 3-1)=0:=by
   unfold qy;rw [zF (by omega)]
  unfold qab
  dsimp only
  rw [zF (by omega),zF (by omega),zF c3,zF (by simp),zF (by rw [hpc];simp),zF (by omega)]
theorem qqb {most:Int} (hm:most<=20):∀ (l:List Int) (i n d:Int),0<=i->qs4 n d i->qbx (qe9 most l i n d) n d
 | [],_,_,_,_,_=>trivial
 | a::l,i,n,d,h0,hs=>by
  unfold qe9
  split
  .rename_i hi
   have hk:=(qwv a (show 1<=(3969:Int) by decide)).1
   obtain ⟨b1,_⟩:=q0i hs (by omega)
   obtain ⟨n1,n2⟩:=qs5 hs (by omega) hk
   obtain ⟨e1,e2,e3,e4,_,_⟩:=q8b (zu a 3969) i n d
   refine ⟨e1,e2,zbo hk h0 b1,?_,?_⟩
   .rw [e3,e4,n2]
   .rw [e3,e4,n2]
    exact qqb hm l _ _ _ (by omega) n1
  .exact trivial
theorem qvr {most:Int}:∀ (l:List Int) (i n d:Int),0<=i->i<=most->ln (qe9 most l i n d)<=most-i
 | [],i,_,_,_,h=>by unfold qe9;rw [qsl];omega
 | a::l,i,n,d,h0,h=>by
  unfold qe9
  split
  .rw [qng]
   have:=qvr (most:=most) l (i+1) (qbq n d (qao (zu a 3969)).N (qao (zu a 3969)).D).1 (qbq n d (qao (zu a 3969)).N (qao (zu a 3969)).D).2 (by omega) (by omega)
   omega
  .rw [qsl];omega
def Six (l:List Event):Prop:=∀ x ∈ l,∃ c ∈ qnu,x.DurN=(sxt c).1/\x.DurD=(sxt c).2
theorem zfc:∀ c ∈ qnu,3<=c/\c<=36:=by decide
theorem q33:∀ {l:List Event} {n d i:Int},Six l->0<=i->qs4 n d i->i+ln l<=20->qg4 l n d=0
 | [],_,_,_,_,_,_,_=>rfl
 | x::l,_,_,i,h,h0,⟨s,s0,s1,rfl,rfl⟩,hl=>by
  obtain ⟨c,hc,e1,e2⟩:=h x zC
  have cb:=zfc c hc
  have n0:=k7 l
  rw [qng] at hl
  obtain ⟨_,_,r3,_⟩:=qxi s0 (by omega) hc
  unfold qg4
  rw [e1,e2,r3,zF (by simp)]
  exact q33 (i:=i+1) (fun y hy=>h y (zG _ hy)) (by omega) ⟨s+c,by omega,by omega,rfl,rfl⟩ (by omega)
theorem q6u (l:List Int) (most:Int):Six (qa l most):=by
 have key:∀ (l:List Int) (i n d:Int),Six (qe9 most l i n d):=by
  intro l
  induction l with
  | nil=>intro i n d x hx;cases hx
  | cons a l ih=>
   intro i n d x hx
   unfold qe9 at hx
   split at hx
   .rcases zD.1 hx with rfl | hx
    .obtain ⟨c,hc,e1,e2,_⟩:=qql (qwv a (show 1<=(3969:Int) by decide)).1
     obtain ⟨_,_,e3,e4,_⟩:=q8b (zu a 3969) i n d
     exact ⟨c,hc,by rw [e3,e1],by rw [e4,e2]⟩
    .exact ih _ _ _ x hx
   .cases hx
 exact key l 0 0 1
theorem qks {l a:List Event} {mi re:Bool} (h:qbx l 0 1) (hl:ln l<=2000) (ht:qia l mi re=(a,0)) (ha:qbx a 0 1) (hal:ln a<=2000):qb l 0 1 0 mi re 1 1 0 0 0 0=(a,0):=by
 have hc:qja 0 1 0 1 1 0 0 0 0=0:=by decide
 unfold qb
 rw [qdx h hl,zF (by simp),zF (by rw [hc];simp),ht,qc9,q87 ha hal,qc9,zab ha hal,qc9,zF (by simp)]
theorem q81 {l:List Event} {mi re:Bool} {e:Int} (h:qbx l 0 1) (hl:ln l<=2000) (ht:qia l mi re=([],e)) (he:e≠0):qb l 0 1 0 mi re 1 1 0 0 0 0=([],e):=by
 have hc:qja 0 1 0 1 1 0 0 0 0=0:=by decide
 unfold qb
 rw [qdx h hl,zF (by simp),zF (by rw [hc];simp),ht,qh1 he]
theorem qtd {l:List Event} (h:qbx l 0 1) (hl:ln l<=2000) (he:qg4 l.reverse 0 1=0):qia l false true=(qeu l.reverse 0 1,0):=by
 unfold qia kh qap
 rw [zT rfl,qdx h hl,zF (by simp),zF (by omega),qc9,zF (by simp)]
theorem q0p {l:List Event} (h:qbx l 0 1) (hl:ln l<=20) (hs:Six l) :
  ∃ a,qb l 0 1 0 false true 1 1 0 0 0 0=(a,0)/\qb a 0 1 0 false true 1 1 0 0 0 0=(l,0)/\ln a=ln l:=by
 have he:qg4 l.reverse 0 1=0:=q33 (i:=0) (fun x hx=>hs x (List.mem_reverse.1 hx)) (zK _) qmi (by rw [qg1];omega)
 have hc:qbx (qeu l.reverse 0 1) 0 1:=qu6 (fun x hx=>⟨x.AtN,x.AtD,qh3 h x (List.mem_reverse.1 hx)⟩) (by decide) he
 have hal:ln (qeu l.reverse 0 1)=ln l:=by rw [qsm,qg1]
 obtain ⟨r1,r2⟩:=q0b h
 refine ⟨_,qks h (by omega) (qtd h (by omega) he) hc (by omega),?_,hal⟩
 refine qks hc (by omega) ?_ h (by omega)
 rw [qtd hc (by omega) r2,r1]
theorem qy6:∀ {l:List Event},(∀ x ∈ l,qab x=0)->(qt l).2.2.2=true->qy (qt l).1 (qt l).2.1 (qt l).2.2.1=0
 | [],_,h=>by simp [qt] at h
 | x::l,h,hf=>by
  unfold qt at hf ⊢
  by_cases hr:x.Rest=true
  .rw [zT hr] at hf ⊢
   exact qy6 (fun y hy=>h y (zG _ hy)) hf
  .rw [zF hr]
   exact (qf8.1 (h x zC)).2.2.2.2.1 (by simpa using hr)
theorem qun {f:Int->Int->Int->Int×Int×Int×Int}:∀ {l:List Event},(qt l).2.2.2=true->qt (l.map (ke f))=((f (qt l).1 (qt l).2.1 (qt l).2.2.1).1,(f (qt l).1 (qt l).2.1 (qt l).2.2.1).2.1,(f (qt l).1 (qt l).2.1 (qt l).2.2.1).2.2.1,true)
 | [],h=>by simp [qt] at h
 | x::l,h=>by
  rw [List.map_cons]
  unfold qt at h ⊢
  by_cases hr:x.Rest=true
  .have e:ke f x=x:=by unfold ke;rw [zT hr]
   rw [zT hr] at h
   rw [e,zT hr,zT hr]
   exact qun h
  .have e:(ke f x).Rest=x.Rest:=by unfold ke;split<;>rfl
   rw [e,zF hr,zF hr]
   unfold ke
   rw [zF hr]
theorem qkv {a b c s o al:Int} (h:qy a b c=0) (h2:qy s o al=0):zj a b c s o al=qjc (2 * (7 * o+s)-(7 * b+a)) (-c):=by
 unfold zj
 rw [zF (by omega),zF (by omega)]
theorem zb0 {a b c s o al:Int} (h:qy a b c=0) (h2:qy s o al=0):(zj a b c s o al).2.2.2=0∨(zj a b c s o al).2.2.2=2:=by
 rw [qkv h h2];exact zad _ _
theorem qme {a b c:Int} (h:qy a b c=0):qy a b (-c)=0:=by
 have:=qh7 h
 unfold qy
 rw [zF (by omega)]
theorem q54 {a b c s o al:Int} (h:qy a b c=0) (h2:qy s o al=0) (he:(zj a b c s o al).2.2.2=0) :
  qy (zj a b c s o al).1 (zj a b c s o al).2.1 (zj a b c s o al).2.2.1=0/\zj (zj a b c s o al).1 (zj a b c s o al).2.1 (zj a b c s o al).2.2.1 s o (-al)=(a,b,c,0):=by
 rw [qkv h h2] at he ⊢
 obtain ⟨t1,t2,t3⟩:=zct he
 refine ⟨t1,?_⟩
 rw [qkv t1 (qme h2),t2,t3,show 2 * (7 * o+s)-(2 * (7 * o+s)-(7 * b+a))=7 * b+a by omega,Int.neg_neg,qxk h]
theorem zcm {f:Int->Int->Int->Int×Int×Int×Int} {x:Event} (h:qe4 f x=0) (hr:x.Rest=false):(f x.PitchStep x.PitchOctave x.PitchAlter).2.2.2=0:=by
 unfold qe4 at h
 rw [zF (by simp [hr])] at h
 exact h
theorem q90 (f:Int->Int->Int->Int×Int×Int×Int) (x:Event):(ke f x).Rest=x.Rest:=by unfold ke;split<;>rfl
theorem qz4 {f:Int->Int->Int->Int×Int×Int×Int} {x:Event} (hr:x.Rest=false):(ke f x).PitchStep=(f x.PitchStep x.PitchOctave x.PitchAlter).1/\(ke f x).PitchOctave=(f x.PitchStep x.PitchOctave x.PitchAlter).2.1/\(ke f x).PitchAlter=(f x.PitchStep x.PitchOctave x.PitchAlter).2.2.1:=by
 unfold ke
 rw [zF (by simp [hr])]
 exact ⟨rfl,rfl,rfl⟩
theorem zcn {f:Int->Int->Int->Int×Int×Int×Int} {x:Event} (h:qab x=0) (hf:x.Rest=false->qy (f x.PitchStep x.PitchOctave x.PitchAlter).1 (f x.PitchStep x.PitchOctave x.PitchAlter).2.1 (f x.PitchStep x.PitchOctave x.PitchAlter).2.2.1=0):qab (ke f x)=0:=by
 by_cases hr:x.Rest=true
 .have e:ke f x=x:=by unfold ke;rw [zT hr]
  rw [e];exact h
 .have hr':x.Rest=false:=by simpa using hr
  obtain ⟨h1,h2,h3,h4,h5,h6,h7⟩:=qf8.1 h
  have e:ke f x = {x with PitchStep:=(f x.PitchStep x.PitchOctave x.PitchAlter).1,PitchOctave:=(f x.PitchStep x.PitchOctave x.PitchAlter).2.1,PitchAlter:=(f x.PitchStep x.PitchOctave x.PitchAlter).2.2.1}:=by unfold ke;rw [zF hr]
  rw [e]
  exact qf8.2 ⟨h1,h2,h3,fun hc=>hr hc.1,fun _=>hf hr',h6,h7⟩
theorem quf {f:Event->Event} (hf:∀ x,(f x).DurN=x.DurN/\(f x).DurD=x.DurD) (ha:∀ x,(f x).AtN=x.AtN/\(f x).AtD=x.AtD) :
  ∀ {l:List Event} {n d:Int},qbx l n d->(∀ x ∈ l,qab (f x)=0)->qbx (l.map f) n d
 | [],_,_,_,_=>trivial
 | x::l,n,d,⟨h1,h2,h3,h4,h5⟩,hx=>by
  obtain ⟨d1,d2⟩:=hf x
  obtain ⟨a1,a2⟩:=ha x
  refine ⟨by rw [a1,h1],by rw [a2,h2],hx x zC,by rw [d1,d2];exact h4,?_⟩
  rw [d1,d2]
  exact quf hf ha h5 fun y hy=>hx y (zG _ hy)
theorem zcl (f:Int->Int->Int->Int×Int×Int×Int) (x:Event):(ke f x).AtN=x.AtN/\(ke f x).AtD=x.AtD:=by unfold ke;split<;>exact ⟨rfl,rfl⟩
theorem q6s {l:List Event} (h:¬(qt l).2.2.2=true):qia l true false=(l,0):=by
 unfold qia
 rw [zF (by simp),qc9,zF (fun hc=>h hc.2)]
theorem qqa {l:List Event} (h:(qt l).2.2.2=true):qia l true false=qa2 l (qt l).1 (qt l).2.1 (qt l).2.2.1:=by
 unfold qia
 rw [zF (by simp),qc9,zT ⟨rfl,h⟩]
theorem qzn {l:List Event} {s o al:Int} (h:qbx l 0 1) (hl:ln l<=2000) (hp:qy s o al=0):qa2 l s o al=qgp (ke fun x y z=>zj x y z s o al) (qe4 fun x y z=>zj x y z s o al) l:=by
 unfold qa2
 rw [qdx h hl,zF (by simp),zF (by omega)]
theorem qxl {l:List Event} (h:qbx l 0 1) (hl:ln l<=20) :
  qb l 0 1 0 true false 1 1 0 0 0 0=([],2)∨∃ a,qb l 0 1 0 true false 1 1 0 0 0 0=(a,0)/\qb a 0 1 0 true false 1 1 0 0 0 0=(l,0)/\ln a=ln l/\
   ∀ i,0<=i->i<ln l->(ix l i).Rest=false->qy (ix a i).PitchStep (ix a i).PitchOctave (ix a i).PitchAlter=0:=by
 have hone:=qh3 h
 have hnote:=fun x (hx:x ∈ l)=>(qf8.1 (hone x hx)).2.2.2.2.1
 by_cases hf:(qt l).2.2.2=true
 .have hp:=qy6 hone hf
  have htm:=qqa hf
  have hfm:=fun f=>qun (f:=f) hf
  revert hp htm hfm
  generalize (qt l).1=s
  generalize (qt l).2.1=o
  generalize (qt l).2.2.1=al
  intro hp htm hfm
  rw [qzn h (by omega) hp] at htm
  have hk:∀ x ∈ l,qe4 (fun x y z=>zj x y z s o al) x=0∨qe4 (fun x y z=>zj x y z s o al) x=2:=fun x hx=>by
   unfold qe4
   split
   .exact .inl rfl
   .rename_i hr
    exact zb0 (hnote x hx (by simpa using hr)) hp
  by_cases he:qh5 (qe4 fun x y z=>zj x y z s o al) l=0
  .refine .inr ⟨l.map (ke fun x y z=>zj x y z s o al),?_⟩
   have tw:=fun x (hx:x ∈ l) (hr:x.Rest=false)=>q54 (hnote x hx hr) hp (zcm (quj he x hx) hr)
   have hc:qbx (l.map (ke fun x y z=>zj x y z s o al)) 0 1:=quf (qz3 _) (zcl _) h fun x hx=>zcn (hone x hx) fun hr=>(tw x hx hr).1
   have hal:=qj2 (ke fun x y z=>zj x y z s o al) l
   rw [qvu h he] at htm
   refine ⟨qks h (by omega) htm hc (by omega),qks hc (by omega) ?_ h (by omega),hal,fun i i0 i1 hr=>?_⟩
   .have hax:zj s o al s o al=(s,o,-al,0):=by
     rw [qkv hp hp,show 2 * (7 * o+s)-(7 * o+s)=7 * o+s by omega,qxk (qme hp)]
    have hfa:qt (l.map (ke fun x y z=>zj x y z s o al))=(s,o,-al,true):=by rw [hfm,hax]
    have hback:∀ x ∈ l,ke (fun x y z=>zj x y z s o (-al)) (ke (fun x y z=>zj x y z s o al) x)=x/\qe4 (fun x y z=>zj x y z s o (-al)) (ke (fun x y z=>zj x y z s o al) x)=0:=fun x hx=>by
     by_cases hr:x.Rest=true
     .have e:ke (fun x y z=>zj x y z s o al) x=x:=by unfold ke;rw [zT hr]
      rw [e]
      exact qz5 fun hn=>by rw [hr] at hn;cases hn
     .have hr':x.Rest=false:=by simpa using hr
      obtain ⟨q1,q2⟩:=tw x hx hr'
      obtain ⟨p1,p2,p3⟩:=qz4 (f:=fun x y z=>zj x y z s o al) hr'
      have hy:(ke (fun x y z=>zj x y z s o al) x).Rest≠true:=by rw [q90,hr'];simp
      have e:qe4 (fun x y z=>zj x y z s o (-al)) (ke (fun x y z=>zj x y z s o al) x)=0:=by
       unfold qe4
       rw [zF hy,p1,p2,p3]
       dsimp only
       rw [q2]
      refine ⟨?_,e⟩
      have e2:∀ y:Event,y.Rest≠true->ke (fun x y z=>zj x y z s o (-al)) y = {y with PitchStep:=(zj y.PitchStep y.PitchOctave y.PitchAlter s o (-al)).1,PitchOctave:=(zj y.PitchStep y.PitchOctave y.PitchAlter s o (-al)).2.1,PitchAlter:=(zj y.PitchStep y.PitchOctave y.PitchAlter s o (-al)).2.2.1}:=fun y hy=>by unfold ke;rw [zF hy]
      rw [e2 _ hy,p1,p2,p3,q2]
      unfold ke
      rw [zF hr]
    have he2:qh5 (qe4 fun x y z=>zj x y z s o (-al)) (l.map (ke fun x y z=>zj x y z s o al))=0:=qm1 fun y hy=>by
     obtain ⟨x,hx,rfl⟩:=List.mem_map.1 hy
     exact (hback x hx).2
    rw [qqa (by rw [hfa]),hfa]
    dsimp only
    rw [qzn hc (by omega) (qme hp),qvu hc he2,List.map_map,qni (f:=(ke fun x y z=>zj x y z s o (-al)) ∘ ke fun x y z=>zj x y z s o al) fun x hx=>(hback x hx).1]
   .have em:ix (l.map (ke fun x y z=>zj x y z s o al)) i=ke (fun x y z=>zj x y z s o al) (ix l i):=by
     obtain ⟨k,rfl⟩:=Int.eq_ofNat_of_zero_le i0
     have hk:k<l.length:=by simp only [ln] at i1;omega
     rw [qjw (by simpa using hk),qjw hk,List.getElem_map]
    obtain ⟨p1,p2,p3⟩:=qz4 (f:=fun x y z=>zj x y z s o al) hr
    rw [em,p1,p2,p3]
    exact (tw _ (q15 i0 i1) hr).1
  .have h2:qh5 (qe4 fun x y z=>zj x y z s o al) l=2:=(q3a hk).resolve_left he
   refine .inl (q81 h (by omega) ?_ (by decide))
   rw [htm]
   unfold qgp
   rw [zT he,h2]
 .have ht:=q6s hf
  refine .inr ⟨l,qks h (by omega) ht h (by omega),qks h (by omega) ht h (by omega),rfl,fun i i0 i1 hr=>hnote _ (q15 i0 i1) hr⟩
def qf4 (a0:List Time) (i:Int):Prop:=0<=i/\i<=ln a0/\qc2 (fr a0 i)=qc2 a0
def qfg (a0:List Time) (i:Int):Nat:=(ln a0-i).toNat
def qiq (a0 a1 a2 a3 _ _ _:Int) (_:Bool) (_ _:Int) (i:Int):Prop:=0<=i/\i<=2/\(1<=i->ql a0 a1=0)/\(2<=i->ql a2 a3=0)
def qfl (_ _ _ _ _ _ _:Int) (_:Bool) (_ _:Int) (i:Int):Nat:=(2-i).toNat
def qf2 (a0:List Event) (i n d:Int):Prop:=0<=i/\i<=ln a0/\qbs (fr a0 i) i n d=qbs a0 0 0 1
def qfd (a0:List Event) (i _ _:Int):Nat:=(ln a0-i).toNat
def qm9 (a b x y:Int):Prop:=0<=x/\0<=y/\qj x y=qj a b
def qku (_ _ _ y:Int):Nat:=y.toNat
def qcw (a:List Int) (most:Int) (o:List Event) (i n d:Int):Prop:=0<=i/\i<=ln a/\i<=most/\ln o=i/\qs4 n d i/\o++qe9 most (fr a i) i n d=qa a most
def qa4 (a:List Int) (_:Int) (_:List Event) (i _ _:Int):Nat:=(ln a-i).toNat
def q0t (l:List Event) (dn dd k:Int) (mi re:Bool) (fn fd:Int) (i:Int):List Event×Int:=
 if i<=0 then (l,0) else if i=1 then (if re=true then kh l else (l,0)) else if i=2 then qia l mi re else if i=3 then qdw (qia l mi re) fun a=>qbc a k
 else if i=4 then qdw (qdw (qia l mi re) fun a=>qbc a k) fun b=>qat b fn fd
 else qdw (qdw (qdw (qia l mi re) fun a=>qbc a k) fun b=>qat b fn fd) fun c=>if 0<dn then qbj c dn dd else (c,0)
def qta (a b c d:Int):Prop:=0<=a/\a<=1099511627776/\1<=b/\b<=1099511627776/\0<=c/\c<=1099511627776/\1<=d/\d<=1099511627776/\qj a b=1/\qj c d=1
def qa0 (a0:List Event) (i j:Int) (c:List Event):Prop:=RvInv a0 c i j
def qfe (a0:List Event) (i _:Int) (_:List Event):Nat:=(ln a0-i).toNat
def qa1 (a0:List Event) (i:Int) (c:List Event) (n d:Int):Prop:=ChInv a0.reverse c i n d
def qhu (a0:List Event) (i:Int) (_:List Event) (_ _:Int):Nat:=(ln a0-i).toNat
def ju (a0:List Event) (a1 a2 a3 i:Int) (c:List Event):Prop:=MpInv (ke fun x y z=>zj x y z a1 a2 a3) (qe4 fun x y z=>zj x y z a1 a2 a3) a0 c i
def qcm (a0:List Event) (_ _ _ i:Int) (_:List Event):Nat:=(ln a0-i).toNat
def qag (a0:List Event) (a1 a2 a3 i:Int) (c:List Event) (n d:Int):Prop:=ChInv (a0.map (ke fun x y z=>zj x y z a1 a2 a3)) c i n d
def qg3 (a0:List Event) (_ _ _ i:Int) (_:List Event) (_ _:Int):Nat:=(ln a0-i).toNat
def qaz (a0:List Event) (a1 i:Int) (c:List Event):Prop:=MpInv (ke fun x y z=>kf x y z a1) (qe4 fun x y z=>kf x y z a1) a0 c i
def qei (a0:List Event) (_ i:Int) (_:List Event):Nat:=(ln a0-i).toNat
def qbo (a0:List Event) (a1 i:Int) (c:List Event) (n d:Int):Prop:=ChInv (a0.map (ke fun x y z=>kf x y z a1)) c i n d
def qix (a0:List Event) (_ i:Int) (_:List Event) (_ _:Int):Nat:=(ln a0-i).toNat
def jz (a0:List Event) (a1 a2 i:Int) (c:List Event):Prop:=MpInv (q0m a1 a2) (fun x=>(qcf x.DurN x.DurD a1 a2).2.2) a0 c i
def qfp (a0:List Event) (_ _ i:Int) (_:List Event):Nat:=(ln a0-i).toNat
def j3 (a0:List Event) (a1 a2 i:Int) (c:List Event) (n d:Int):Prop:=ChInv (a0.map (q0m a1 a2)) c i n d
def qfq (a0:List Event) (_ _ i:Int) (_:List Event) (_ _:Int):Nat:=(ln a0-i).toNat
def qbu (a0:List Event) (a1 a2 i:Int) (c:List Event) (n d:Int):Prop:=ChInv (⟨0,0,a1,a2,0,0,0,true,0,0⟩::a0) c i n d
def qdb (a0:List Event) (a1 a2 i:Int) (_:List Event) (_ _:Int):Nat:=(ln (Event.mk 0 0 a1 a2 0 0 0 true 0 0::a0)-i).toNat
def qf3 (a0:List Event) (i:Int):Prop:=0<=i/\i<=ln a0/\qt (fr a0 i)=qt a0
def qff (a0:List Event) (i:Int):Nat:=(ln a0-i).toNat
def zb (a0:List Event) (a1 a2 a3:Int) (a4 a5:Bool) (a6 a7 _ _ _ _ i:Int) (l:List Event) (e:Int):Prop:=0<=i/\i<=5/\(l,e)=q0t a0 a1 a2 a3 a4 a5 a6 a7 i/\ln l<=2000+i/\(e≠0->l=[])
def qe (_:List Event) (_ _ _:Int) (_ _:Bool) (_ _ _ _ _ _ i:Int) (_:List Event) (_:Int):Nat:=(5-i).toNat
def zd (a0:List Int) (i:Int):Prop:=0<=i/\i<=ln (qa a0 10)
def qx (a0:List Int) (i:Int):Nat:=(ln (qa a0 10)-i).toNat
end Go.Proofs.YtcnoipglgpkpeaaGreatDoor
