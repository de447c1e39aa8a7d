import Derived.Test.YtcnoipglgpkpeaaGreatDoorVcs
import Derived.Test.YtcnoipglgpkpeaaGreatDoorDall
namespace Go.Proofs.YtcnoipglgpkpeaaGreatDoor
open Go Go.E2 Go.E3
set_option maxRecDepth 100000
theorem q4h (a0 a1:Int) (hp:0<=a0/\0<=a1/\a0<=4611686018427387904/\a1<=4611686018427387904):qtg a0 a1:=by
 obtain ⟨h0,h1,h2,h3⟩:=hp
 refine ⟨fun h=>⟨?_,trivial⟩,fun h=>?_⟩
 .rw [h,qw3 h0]
 .have t:=qff h0 (show 0<a1 by omega)
  have q:=kr h0 h1
  exact ⟨⟨h,by omega,by omega⟩,h,⟨⟨h1,t.1,h3,by omega⟩,by omega⟩,qw2 h0 h1,trivial⟩
theorem q78 (a0 a1:Int):qpe a0 a1:=by
 unfold qpe qe
 unhygienic (repeat' (first | exact trivial | apply And.intro | intro))
 all_goals (try split)
 all_goals (try split)
 all_goals omega
theorem q9c (a0:List Time) (hp:ln a0<=1000000000):qwu a0:=by
 refine ⟨⟨by omega,zm _,rfl⟩,fun x ⟨i0,i1,i2⟩=>⟨fun h=>?_,fun h=>⟨?_,trivial⟩⟩⟩
 .rw [qf4 i0 h] at i2
  simp only [j4] at i2
  refine ⟨⟨i0,h⟩,trivial,fun hc=>⟨?_,trivial⟩,fun hc=>⟨by omega,⟨by omega,by omega,?_⟩,?_⟩⟩
  .rw [zT hc] at i2;exact i2
  .rw [zF (by omega)] at i2;exact i2
  .simp only [qgb];omega
 .rw [qpy h] at i2;exact i2
theorem zj1 (a0 a1:Int) (hp:0<=a0/\1<=a1/\a0<=4611686018427387904/\a1<=4611686018427387904):zj0 a0 a1:=by
 obtain ⟨h0,h1,h2,h3⟩:=hp
 have g:=qe1 (a:=a0) h1
 have q1:=kr h0 (qb0 a0 a1)
 have q2:=kr (show 0<=a1 by omega) (qb0 a0 a1)
 refine ⟨⟨h0,by omega,h2,h3⟩,⟨by omega,by omega,by omega⟩,⟨by omega,by omega,by omega⟩,fun h=>?_,fun h=>⟨fun h'=>?_,fun h'=>?_⟩⟩
 .have e:ofT a0 a1=(0,0,4):=by unfold ofT;rw [zT (.inl h)]
  rw [e];exact ⟨rfl,rfl,rfl,trivial⟩
 .have e:ofT a0 a1=(0,0,4):=by unfold ofT;rw [zT (.inr h')]
  rw [e];exact ⟨rfl,rfl,rfl,trivial⟩
 .have e:ofT a0 a1=(a0.tdiv (qy a0 a1),a1.tdiv (qy a0 a1),0):=by unfold ofT;rw [zF (by omega)]
  rw [e];exact ⟨rfl,rfl,rfl,trivial⟩
theorem za0 (a0 a1:Int) (hp:0<=a0/\1<=a1/\a0<=4611686018427387904/\a1<=4611686018427387904):q0g a0 a1:=
 ⟨fun h=>absurd h (by omega),fun _=>⟨fun h=>absurd h (by omega),fun _=>⟨fun h=>absurd h (by omega),fun _=>zj1 a0 a1 hp⟩⟩⟩
theorem q34 {a0 a1 a2 a3:Int} (h1:qe a0 a1=0) (h2:qe a2 a3=0):I64 (a0 * a3)/\I64 (a2 * a1)/\I64 ((a0 * a3)+(a2 * a1))/\I64 (a1 * a3)/\
  (0<=((a0 * a3)+(a2 * a1))/\1<=(a1 * a3)/\((a0 * a3)+(a2 * a1))<=4611686018427387904/\(a1 * a3)<=4611686018427387904)/\I64 ((a0 * a3)-(a2 * a1)):=by
 have b1:=jh h1
 have b2:=jh h2
 have p1:=qfx b1.1 b1.2.1 (show 0<=a3 by omega) b2.2.2.2
 have p2:=qfx b2.1 b2.2.1 (show 0<=a1 by omega) b1.2.2.2
 have p3:=qqc b1.2.2.1 b2.2.2.1
 have p4:=qfx (show 0<=a1 by omega) b1.2.2.2 (show 0<=a3 by omega) b2.2.2.2
 omega
theorem zep (a0 a1 a2 a3:Int):q5x a0 a1 a2 a3:=by
 have hl:ln [Time.mk a0 a1,Time.mk a2 a3]=2:=rfl
 refine ⟨trivial,trivial,by omega,fun h=>?_,fun h=>?_⟩
 .rw [qfs] at h ⊢
  by_cases h1:qe a0 a1≠0
  .have e:kg a0 a1 a2 a3=(0,0,qe a0 a1):=by unfold kg;rw [zT h1]
   rw [e,zT h1];exact ⟨rfl,rfl,rfl,trivial⟩
  .rw [zF h1] at h ⊢
   have e:kg a0 a1 a2 a3=(0,0,qe a2 a3):=by unfold kg;rw [zF h1,zT h]
   rw [e];exact ⟨rfl,rfl,rfl,trivial⟩
 .rw [qfs] at h
  have h1:qe a0 a1=0:=by
   by_cases h1:qe a0 a1≠0
   .rw [zT h1] at h;exact h
   .omega
  rw [zF (by omega)] at h
  have e:kg a0 a1 a2 a3=ofT (a0 * a3+a2 * a1) (a1 * a3):=by unfold kg;rw [zF (by omega),zF (by omega)]
  obtain ⟨b1,b2,b3,b4,b5,_⟩:=q34 h1 h
  rw [e];exact ⟨b1,b2,b3,b4,b5,rfl,rfl,rfl,trivial⟩
theorem q75 (a0 a1 a2:Int):qpd a0 a1 a2:=by
 unfold qpd zb
 unhygienic (repeat' (first | exact trivial | apply And.intro | intro))
 all_goals (try split)
 all_goals omega
section
variable {a0 a1 a2 a3 a4 a5 a6:Int} {a7:Bool} {a8 a9:Int}
theorem zlh (h:qe a0 a1≠0):qbr ⟨a0,a1,a2,a3,a4,a5,a6,a7,a8,a9⟩=qe a0 a1:=by simp [qbr,h]
theorem zli (h:qe a0 a1=0) (h2:qe a2 a3≠0):qbr ⟨a0,a1,a2,a3,a4,a5,a6,a7,a8,a9⟩=qe a2 a3:=by simp [qbr,h,h2]
theorem zlj (h:qe a0 a1=0) (h2:qe a2 a3=0) (h3:a2=0):qbr ⟨a0,a1,a2,a3,a4,a5,a6,a7,a8,a9⟩=2:=by subst h3;simp [qbr,h,h2]
theorem zlk (h:qe a0 a1=0) (h2:qe a2 a3=0) (h3:a2≠0) (h4:a7=true) (h5:a4≠0∨(a5≠0∨a6≠0)):qbr ⟨a0,a1,a2,a3,a4,a5,a6,a7,a8,a9⟩=3:=by
 unfold qbr
 dsimp only
 rw [zF (by omega),zF (by omega),zF h3,zT ⟨h4,h5⟩]
theorem zll (h:qe a0 a1=0) (h2:qe a2 a3=0) (h3:a2≠0) (h4:a7=true) (h5:a4=0/\(a5=0/\a6=0)):qbr ⟨a0,a1,a2,a3,a4,a5,a6,a7,a8,a9⟩=if a8<0∨a9<0 then 2 else 0:=by
 unfold qbr
 dsimp only
 rw [zF (by omega),zF (by omega),zF h3,zF (fun hh=>by have:=hh.2;omega),zF (fun hh=>by rw [h4] at hh;cases hh.1)]
theorem zlm (h:qe a0 a1=0) (h2:qe a2 a3=0) (h3:a2≠0) (h4:a7=false) (h5:zb a4 a5 a6≠0):qbr ⟨a0,a1,a2,a3,a4,a5,a6,a7,a8,a9⟩=zb a4 a5 a6:=by
 unfold qbr
 dsimp only
 rw [zF (by omega),zF (by omega),zF h3,zF (fun hh=>by rw [h4] at hh;cases hh.1),zT ⟨h4,h5⟩]
theorem zln (h:qe a0 a1=0) (h2:qe a2 a3=0) (h3:a2≠0) (h4:a7=false) (h5:zb a4 a5 a6=0):qbr ⟨a0,a1,a2,a3,a4,a5,a6,a7,a8,a9⟩=if a8<0∨a9<0 then 2 else 0:=by
 unfold qbr
 dsimp only
 rw [zF (by omega),zF (by omega),zF h3,zF (fun hh=>by rw [h4] at hh;cases hh.1),zF (fun hh=>hh.2 h5)]
end
theorem zdb {x:Event} {n d e:Int} (h:qbr x=e) (he:e≠0):qjd x n d=e:=by unfold qjd;rw [h,zT he]
theorem zdc {x:Event} {n d:Int} (h:qbr x=0) (h2:x.AtN≠n∨x.AtD≠d):qjd x n d=6:=by unfold qjd;rw [zF (by omega),zT h2]
theorem q2m {x:Event} {n d:Int} (h:qbr x=0) (h2:x.AtN=n/\x.AtD=d):qjd x n d=(kg x.AtN x.AtD x.DurN x.DurD).2.2:=by unfold qjd;rw [zF (by omega),zF (by omega)]
theorem zgz (a0 a1 a2 a3 a4 a5 a6:Int) (a7:Bool) (a8 a9:Int):q7a a0 a1 a2 a3 a4 a5 a6 a7 a8 a9:=by
 have hl:ln [Time.mk a0 a1,Time.mk a2 a3]=2:=rfl
 refine ⟨trivial,trivial,⟨by omega,by omega,fun h=>by omega,fun h=>by omega⟩,fun x ⟨i0,i1,i2,i3⟩=>⟨fun h=>?_,fun h=>?_⟩⟩
 .rcases (show x=0∨x=1 by omega) with rfl | rfl
  .refine ⟨⟨by omega,by omega⟩,trivial,fun hc=>⟨(zlh hc).symm,trivial⟩,fun hc=>⟨by omega,rfl,rfl,rfl,rfl,rfl,rfl,rfl,rfl,rfl,rfl,⟨by omega,by omega,fun _=>hc,fun h=>by omega⟩,?_⟩⟩
   simp only [qgj];omega
  .refine ⟨⟨by omega,by omega⟩,trivial,fun hc=>⟨(zli (i2 (by omega)) hc).symm,trivial⟩,fun hc=>⟨by omega,rfl,rfl,rfl,rfl,rfl,rfl,rfl,rfl,rfl,rfl,⟨by omega,by omega,fun _=>i2 (by omega),fun _=>hc⟩,?_⟩⟩
   simp only [qgj];omega
 .have c1:=i2 (by omega)
  have c2:=i3 (by omega)
  refine ⟨fun h3=>⟨(zlj c1 c2 h3).symm,trivial⟩,fun h3=>⟨fun h4=>⟨fun h5=>⟨(zlk c1 c2 h3 h4 h5).symm,trivial⟩,fun h5=>?_⟩,fun h4=>⟨trivial,fun h5=>⟨(zlm c1 c2 h3 h4 h5).symm,trivial⟩,fun h5=>?_⟩⟩⟩
  .rw [zll c1 c2 h3 h4 h5]
   refine ⟨fun h6=>⟨?_,trivial⟩,fun h6=>⟨fun h7=>⟨?_,trivial⟩,fun h7=>⟨?_,trivial⟩⟩⟩
   .rw [zT (.inl h6)]
   .rw [zT (.inr h7)]
   .rw [zF (by omega)]
  .rw [zln c1 c2 h3 h4 h5]
   refine ⟨fun h6=>⟨?_,trivial⟩,fun h6=>⟨fun h7=>⟨?_,trivial⟩,fun h7=>⟨?_,trivial⟩⟩⟩
   .rw [zT (.inl h6)]
   .rw [zT (.inr h7)]
   .rw [zF (by omega)]
theorem q4d {a0:List Event} {x n d:Int} (hl:ln a0<=2000) (h0:0<=x) (h1:x<ln a0) (hi:qb6 (fr a0 x) x n d=qb6 a0 0 0 1) :
  (qjd (ix a0 x) n d≠0->qm a0=(qjd (ix a0 x) n d,x))/\(qjd (ix a0 x) n d=0->qb6 (fr a0 (x+1)) (x+1) (kg (ix a0 x).AtN (ix a0 x).AtD (ix a0 x).DurN (ix a0 x).DurD).1 (kg (ix a0 x).AtN (ix a0 x).AtD (ix a0 x).DurN (ix a0 x).DurD).2.1=qb6 a0 0 0 1):=by
 rw [qf4 h0 h1] at hi
 simp only [qb6] at hi
 refine ⟨fun h=>?_,fun h=>?_⟩
 .rw [zT h] at hi
  unfold qm
  rw [zF (by omega)]
  exact hi.symm
 .rw [zF (by omega)] at hi
  exact hi
theorem q80 {a0:List Event} {x n d:Int} (hl:ln a0<=2000) (h1:ln a0<=x) (hi:qb6 (fr a0 x) x n d=qb6 a0 0 0 1):qm a0=(0,0):=by
 rw [qpy h1] at hi
 unfold qm
 rw [zF (by omega)]
 exact hi.symm
theorem q4c {a0:List Event} (h:2000<ln a0):qm a0=(11,0):=by unfold qm;rw [zT h]
theorem q7z (a0:List Event) (hp:ln a0<=1000000000):qv6 a0:=by
 refine ⟨fun h=>?_,fun hl=>⟨⟨by omega,zm _,rfl⟩,fun x n d ⟨i0,i1,i2⟩=>⟨fun h=>?_,fun h=>?_⟩⟩⟩
 .rw [q4c h];exact ⟨rfl,rfl,trivial⟩
 .obtain ⟨s1,s2⟩:=q4d hl i0 h i2
  refine ⟨⟨i0,h⟩,trivial,fun hc=>?_,fun hc=>⟨fun ho=>?_,fun ho=>⟨trivial,fun ha=>?_,fun ha=>⟨by omega,⟨by omega,by omega,?_⟩,?_⟩⟩⟩⟩
  .have e:qjd (ix a0 x) n d=qbr (ix a0 x):=zdb rfl hc
   rw [s1 (by rw [e];exact hc),e]
   exact ⟨rfl,rfl,trivial⟩
  .have e:qjd (ix a0 x) n d=6:=zdc hc ho
   rw [s1 (by rw [e];omega),e]
   exact ⟨rfl,rfl,trivial⟩
  .have e:qjd (ix a0 x) n d=_:=q2m hc ho
   rw [s1 (by rw [e];exact ha),e]
   exact ⟨rfl,rfl,trivial⟩
  .have e:qjd (ix a0 x) n d=_:=q2m hc ho
   exact s2 (by rw [e];exact ha)
  .simp only [qf7];omega
 .rw [q80 hl h i2];exact ⟨rfl,rfl,trivial⟩
theorem zev (a0:List Event) (hp:ln a0<=1000000000):q5z a0:=by
 have h0:=zm a0
 refine ⟨hp,fun h=>?_,fun h=>⟨fun h2=>?_,fun h2=>⟨by omega,⟨by omega,by omega⟩,trivial,?_⟩⟩⟩
 .have e:jq a0=(0,0,(qm a0).1):=by unfold jq;rw [zT h]
  rw [e];exact ⟨rfl,rfl,rfl,trivial⟩
 .have e:jq a0=(0,1,0):=by unfold jq;rw [zF (by omega),zT h2]
  rw [e];exact ⟨rfl,rfl,rfl,trivial⟩
 .have e:jq a0=kg (ix a0 (ln a0-1)).AtN (ix a0 (ln a0-1)).AtD (ix a0 (ln a0-1)).DurN (ix a0 (ln a0-1)).DurD:=by unfold jq;rw [zF (by omega),zF h2]
  rw [e];exact ⟨rfl,rfl,rfl,trivial⟩
theorem zgs {n:Int} (h:0<=n):∃ m:Nat,n=m:=⟨n.toNat,by omega⟩
theorem q81 {a b c d:Int} (hp:qnp a b c d):qy (a.tdiv (qy a d) * c.tdiv (qy c b)) (b.tdiv (qy c b) * d.tdiv (qy a d))=1:=by
 obtain ⟨h0,_,h2,_,h4,_,h6,_,h8,h9⟩:=hp
 obtain ⟨A,rfl⟩:=zgs h0
 obtain ⟨B,rfl⟩:=zgs (show 0<=b by omega)
 obtain ⟨C,rfl⟩:=zgs h4
 obtain ⟨D,rfl⟩:=zgs (show 0<=d by omega)
 have hB:0<B:=by omega
 have hD:0<D:=by omega
 have e:∀ x y:Nat,qy (x:Int) (y:Int)=((Nat.gcd x y:Nat):Int):=fun x y=>by simp [qy]
 rw [e] at h8 h9
 have c1 : Nat.Coprime A B := by have : Nat.gcd A B = 1 := by omega
                                 exact this
 have c2 : Nat.Coprime C D := by have : Nat.gcd C D = 1 := by omega
                                 exact this
 rw [e A D,e C B]
 simp only [<-Int.ofNat_tdiv,<-Int.natCast_mul]
 rw [e]
 have g1:0<Nat.gcd A D:=Nat.gcd_pos_of_pos_right _ hD
 have g2:0<Nat.gcd C B:=Nat.gcd_pos_of_pos_right _ hB
 have dA:A / Nat.gcd A D ∣ A:=Nat.div_dvd_of_dvd (Nat.gcd_dvd_left A D)
 have dD:D / Nat.gcd A D ∣ D:=Nat.div_dvd_of_dvd (Nat.gcd_dvd_right A D)
 have dC:C / Nat.gcd C B ∣ C:=Nat.div_dvd_of_dvd (Nat.gcd_dvd_left C B)
 have dB:B / Nat.gcd C B ∣ B:=Nat.div_dvd_of_dvd (Nat.gcd_dvd_right C B)
 have k1:Nat.Coprime (A / Nat.gcd A D) (B / Nat.gcd C B):=Nat.Coprime.coprime_dvd_left dA (Nat.Coprime.coprime_dvd_right dB c1)
 have k2:Nat.Coprime (A / Nat.gcd A D) (D / Nat.gcd A D):=Nat.coprime_div_gcd_div_gcd g1
 have k3:Nat.Coprime (C / Nat.gcd C B) (B / Nat.gcd C B):=Nat.coprime_div_gcd_div_gcd g2
 have k4:Nat.Coprime (C / Nat.gcd C B) (D / Nat.gcd A D):=Nat.Coprime.coprime_dvd_left dC (Nat.Coprime.coprime_dvd_right dD c2)
 have k:Nat.Coprime (A / Nat.gcd A D * (C / Nat.gcd C B)) (B / Nat.gcd C B * (D / Nat.gcd A D)):=Nat.Coprime.mul_left (Nat.Coprime.mul_right k1 k2) (Nat.Coprime.mul_right k3 k4)
 have:Nat.gcd (A / Nat.gcd A D * (C / Nat.gcd C B)) (B / Nat.gcd C B * (D / Nat.gcd A D))=1:=k
 omega
theorem q7f {n g:Int} (h:1<=n) (e:g * n.tdiv g=n) (h0:0<=n.tdiv g):1<=n.tdiv g:=by
 by_cases hz:n.tdiv g=0
 .rw [hz,Int.mul_zero] at e;omega
 .omega
theorem zdx {a b m:Int} (ha:0<a) (hm:0<=m):m.tdiv a<b↔m<b * a:=by
 rw [Int.tdiv_eq_ediv_of_nonneg hm]
 exact Int.ediv_lt_iff_lt_mul ha
theorem zah (a0 a1 a2 a3:Int) (hp:qnp a0 a1 a2 a3):qqn a0 a1 a2 a3:=by
 have hcop:=q81 hp
 obtain ⟨h0,h1,h2,h3,h4,h5,h6,h7,h8,h9⟩:=hp
 have g1:=qe1 (a:=a0) h6
 have g2:=qe1 (a:=a2) h2
 have q0:=kr h0 (qb0 a0 a3)
 have q3:=kr (show 0<=a3 by omega) (qb0 a0 a3)
 have q2:=kr h4 (qb0 a2 a1)
 have q1:=kr (show 0<=a1 by omega) (qb0 a2 a1)
 have p3:=q7f h6 (qjv (a:=a0) (show 0<=a3 by omega)) q3.1
 have p1:=q7f h2 (qjv (a:=a2) (show 0<=a1 by omega)) q1.1
 have eT:qcv a0 a1 a2 a3=if (0<a0.tdiv (qy a0 a3)/\Int.tdiv 1099511627776 (a0.tdiv (qy a0 a3))<a2.tdiv (qy a2 a1))∨1048576<a1.tdiv (qy a2 a1) * a3.tdiv (qy a0 a3) then (0,0,4)
  else (a0.tdiv (qy a0 a3) * a2.tdiv (qy a2 a1),a1.tdiv (qy a2 a1) * a3.tdiv (qy a0 a3),0):=rfl
 have eO:∀ n d:Int,qy n d=1->n<=1099511627776->d<=1048576->ofT n d=(n,d,0):=fun n d hg hn hd=>by
  unfold ofT
  rw [hg,Int.tdiv_one,Int.tdiv_one,zF (by omega)]
 have b0:∀ z:Int,0<=z->0<=Int.tdiv 1099511627776 z/\Int.tdiv 1099511627776 z<=1099511627776:=fun z hz=>kr (by decide) hz
 have b1:∀ z:Int,0<=z->0<=Int.tdiv 1048576 z/\Int.tdiv 1048576 z<=1048576:=fun z hz=>kr (by decide) hz
 unfold qqn
 dsimp only
 rw [eT]
 have z0:qy a0 a3≠0:=by omega
 have z2:qy a2 a1≠0:=by omega
 revert hcop q0 q1 q2 q3 p1 p3 z0 z2 g1 g2
 generalize a0.tdiv (qy a0 a3)=x0
 generalize a1.tdiv (qy a2 a1)=x1
 generalize a2.tdiv (qy a2 a1)=x2
 generalize a3.tdiv (qy a0 a3)=x3
 intro hcop g1 g2 q0 q3 q2 q1 p3 p1 z0 z2
 have bx0:=b0 x0 q0.1
 have bx3:=b1 x3 q3.1
 have e1:0<x0->(Int.tdiv 1099511627776 x0<x2↔1099511627776<x2 * x0):=fun h=>zdx h (by decide)
 have e2:Int.tdiv 1048576 x3<x1↔1048576<x1 * x3:=zdx (by omega) (by decide)
 have pn:0<=x0 * x2:=Int.mul_nonneg q0.1 q2.1
 have pd:1<=x1 * x3:=qqc p1 p3
 have fin:x0 * x2<=1099511627776->x1 * x3<=1048576->ofT (x0 * x2) (x1 * x3)=(x0 * x2,x1 * x3,0):=eO _ _ hcop
 have zero:x0<=0->x0 * x2=0:=fun h=>by
  have:x0=0:=by omega
  rw [this,Int.zero_mul]
 have cm:=Int.mul_comm x2 x0
 refine ⟨⟨h0,by omega,by omega,by omega⟩,⟨h4,by omega,by omega,by omega⟩,⟨z0,by omega,by omega⟩,⟨z0,by omega,by omega⟩,⟨z2,by omega,by omega⟩,⟨z2,by omega,by omega⟩,fun hz=>⟨⟨by omega,by omega,by omega⟩,fun hc=>?_,fun hc=>⟨fun hd=>⟨⟨by omega,by omega,by omega⟩,fun he=>?_,fun he=>?_⟩,fun hd=>absurd hd (by omega)⟩⟩,fun hz=>⟨fun hd=>⟨⟨by omega,by omega,by omega⟩,fun he=>?_,fun he=>?_⟩,fun hd=>absurd hd (by omega)⟩⟩
 .rw [zT (.inl ⟨hz,hc⟩)];exact ⟨rfl,rfl,rfl,trivial⟩
 .rw [zT (.inr (e2.1 he))];exact ⟨rfl,rfl,rfl,trivial⟩
 .have n1:x0 * x2<=1099511627776:=by have:=e1 hz;omega
  have n2:x1 * x3<=1048576:=by omega
  rw [zF (by omega),fin n1 n2];exact ⟨⟨by omega,by omega⟩,⟨by omega,by omega⟩,⟨pn,pd,by omega,by omega⟩,rfl,rfl,rfl,trivial⟩
 .rw [zT (.inr (e2.1 he))];exact ⟨rfl,rfl,rfl,trivial⟩
 .have n1:x0 * x2<=1099511627776:=by have:=zero hz;omega
  have n2:x1 * x3<=1048576:=by omega
  rw [zF (by omega),fin n1 n2];exact ⟨⟨by omega,by omega⟩,⟨by omega,by omega⟩,⟨pn,pd,by omega,by omega⟩,rfl,rfl,rfl,trivial⟩
theorem qyg {n d:Int} (h:qe n d=0):qy n d=1:=by
 have hb:=jh h
 have hg:=qe1 (a:=n) hb.2.2.1
 unfold qe at h
 rw [zF (by omega)] at h
 split at h<;>omega
theorem ze2 (a0 a1 a2 a3:Int):q51 a0 a1 a2 a3:=by
 have hl:ln [Time.mk a0 a1,Time.mk a2 a3]=2:=rfl
 refine ⟨trivial,trivial,by omega,fun h=>?_,fun h=>?_⟩
 .rw [qfs] at h ⊢
  unfold qcu
  by_cases h1:qe a0 a1≠0
  .rw [zT h1,zT h1];exact ⟨rfl,rfl,rfl,trivial⟩
  .rw [zF h1] at h
   rw [zF h1,zF h1,zT h];exact ⟨rfl,rfl,rfl,trivial⟩
 .rw [qfs] at h
  have h1:qe a0 a1=0:=by
   by_cases h1:qe a0 a1≠0
   .rw [zT h1] at h;exact h
   .omega
  rw [zF (by omega)] at h
  have k1:=jh h1
  have k2:=jh h
  have e:qcu a0 a1 a2 a3=qcv a0 a1 a2 a3:=by unfold qcu;rw [zF (by omega),zF (by omega)]
  rw [e]
  exact ⟨⟨k1.1,k1.2.1,k1.2.2.1,by omega,k2.1,k2.2.1,k2.2.2.1,by omega,qyg h1,qyg h⟩,rfl,rfl,rfl,trivial⟩
theorem za4 (a0 a1 a2 a3:Int):qsn a0 a1 a2 a3:=by
 have q:=@qho a0 a1 a2
 have t:0<=7 * a1+a0+a3->0<=Int.tdiv (7 * a1+a0+a3) 7/\Int.tdiv (7 * a1+a0+a3) 7<=7 * a1+a0+a3:=fun h=>kr h (by decide)
 unfold qsn qbw qmf
 dsimp only
 unhygienic (repeat' (first | exact trivial | apply And.intro | intro))
 all_goals (try split)
 all_goals (try split)
 all_goals (try split)
 all_goals first | omega | rfl
theorem q3w (a0 a1 a2 a3 a4 a5:Int):qmw a0 a1 a2 a3 a4 a5:=by
 have q:=@qho a0 a1 a2
 have q2:=@qho a3 a4 a5
 have t:0<=2 * (7 * a4+a3)-(7 * a1+a0)->0<=Int.tdiv (2 * (7 * a4+a3)-(7 * a1+a0)) 7/\Int.tdiv (2 * (7 * a4+a3)-(7 * a1+a0)) 7<=2 * (7 * a4+a3)-(7 * a1+a0):=fun h=>kr h (by decide)
 unfold qmw qdt qmf
 dsimp only
 unhygienic (repeat' (first | exact trivial | apply And.intro | intro))
 all_goals (try split)
 all_goals (try split)
 all_goals (try split)
 all_goals first | omega | rfl
theorem q72 (a0 a1 a2 a3:Int):qpc a0 a1 a2 a3:=by
 unfold qpc qxe
 dsimp only
 unhygienic (repeat' (first | exact trivial | apply And.intro | intro))
 all_goals (try split)
 all_goals omega
theorem q7w (a0 a1 a2:Int) (a3 a4:Bool) (a5 a6 a7 a8 a9 a10:Int):qpb a0 a1 a2 a3 a4 a5 a6 a7 a8 a9 a10:=by
 unfold qpb qrx
 dsimp only
 unhygienic (repeat' (first | exact trivial | apply And.intro | intro))
 all_goals (try split)
 all_goals (try split)
 all_goals (try split)
 all_goals (try split)
 all_goals (try split)
 all_goals omega
theorem q8t (a0 a1:Int):qph a0 a1:=by
 unfold qph qgy
 unhygienic (repeat' (first | exact trivial | apply And.intro | intro))
 all_goals (try split)
 all_goals (try split)
 all_goals omega
theorem zar (a0:List Event) (hp:ln a0<=1000000000):q0b a0:=
 fun _ hx=>⟨fun h=>⟨(hx h).symm,trivial⟩,fun _=>⟨qhr (l:=([]:List Event)) (by rw [qgp];omega),rfl,trivial⟩⟩
theorem q89 (a0:List Event) (hp:ln a0<=1000000000):qwt a0:=by
 refine ⟨⟨zK _,zm _,rfl⟩,fun i ⟨i0,i1,i2⟩=>⟨fun hi=>⟨⟨i0,hi⟩,fun hr=>?_,fun hr=>?_⟩,fun hi=>?_⟩⟩
 .rw [qf4 i0 hi] at i2
  rw [<-i2]
  unfold qc
  rw [zF (by rw [hr];simp)]
  exact ⟨rfl,rfl,rfl,rfl,trivial⟩
 .rw [qf4 i0 hi] at i2
  unfold qc at i2
  rw [zT hr] at i2
  refine ⟨⟨by omega,by omega⟩,⟨by omega,by omega,?_⟩,?_⟩
  .rw [i2]
   cases a0 with
   | nil=>rfl
   | cons x l=>rfl
  .simp only [qga];omega
 .rw [qpy hi] at i2
  rw [<-i2]
  exact ⟨rfl,rfl,rfl,rfl,trivial⟩
theorem all_nil (f:Event->Event) (g:Event->Int):qgm f g []=qa0 (([]:List Event).map f):=by unfold qgm qmc;rw [zF (by simp)]
theorem qgk {M c:List Event} {i n d:Int} {r:List Event×Int} (hL:ln M=0) (hr:r=qa0 M) (h:ChInv M c i n d):c=r.1/\(0:Int)=r.2/\True:=by
 obtain ⟨_,k1,k2⟩:=qm1 hL hr h h.i0
 exact ⟨k1,k2,trivial⟩
theorem zia {f:Int->Int->Int->Int×Int×Int×Int} {x:Event} (h:x.Rest=true):qah f x=x/\qkk f x=0:=by
 unfold qah qkk
 rw [zT h,zT h]
 exact ⟨rfl,rfl⟩
theorem zh9 {f:Int->Int->Int->Int×Int×Int×Int} {x:Event} (h:x.Rest=false):qah f x = {x with PitchStep:=(f x.PitchStep x.PitchOctave x.PitchAlter).1,PitchOctave:=(f x.PitchStep x.PitchOctave x.PitchAlter).2.1,PitchAlter:=(f x.PitchStep x.PitchOctave x.PitchAlter).2.2.1}/\
  qkk f x=(f x.PitchStep x.PitchOctave x.PitchAlter).2.2.2:=by
 unfold qah qkk
 rw [zF (by simp [h]),zF (by simp [h])]
 exact ⟨rfl,rfl⟩
theorem q3z (a0:List Event) (a1:Int) (a2:Int) (a3:Int) (hp:ln a0<=1000000000):qsm a0 a1 a2 a3:=by
 have hz:ln ([]:List Event)=0:=rfl
 have hb0:(qm a0).1≠0->qhb a0 a1 a2 a3=([],(qm a0).1):=fun h0=>by unfold qhb;rw [zT h0]
 have hb1:(qm a0).1=0->zb a1 a2 a3≠0->qhb a0 a1 a2 a3=([],zb a1 a2 a3):=fun h0 h1=>by unfold qhb;rw [zF (by omega),zT h1]
 have hr:(qm a0).1=0->zb a1 a2 a3=0->qhb a0 a1 a2 a3=qgm (qah fun x y z=>qdt x y z a1 a2 a3) (qkk fun x y z=>qdt x y z a1 a2 a3) a0:=fun h0 h1=>by unfold qhb;rw [zF (by omega),zF (by omega)]
 refine ⟨hp,fun h0=>?_,fun h0=>⟨trivial,fun h1=>?_,fun h1=>fun x hx=>⟨fun ht=>?_,fun _=>⟨qhr (l:=([]:List Event)) (by omega),fun hn=>?_,fun hn=>?_⟩⟩⟩⟩
 .rw [hb0 h0];exact ⟨rfl,rfl,trivial⟩
 .rw [hb1 h0 h1];exact ⟨rfl,rfl,trivial⟩
 .obtain rfl:=hx ht
  have hR:=(hr h0 h1).trans (all_nil _ _)
  exact ⟨qe7 _ _ _,fun i c h=>⟨fun hi=>absurd hi (by have:=MpInv.i0 h;omega),fun hi=>⟨qa6 _,fun i c n d h=>⟨fun hi=>absurd hi (by have:=ChInv.i0 h;omega),fun hi=>qgk (M:=([]:List Event).map (qah fun x y z=>qdt x y z a1 a2 a3)) rfl hR h⟩⟩⟩⟩
 .have hR:=hr h0 h1
  refine ⟨qe7 _ _ _,fun i c h=>⟨fun hi=>?_,fun hi=>?_⟩⟩
  .obtain ⟨k0,k1,k2,k3⟩:=q47 hR h hi
   refine ⟨⟨k0,hi⟩,k1,fun ht=>?_,fun ht=>?_⟩
   .obtain ⟨e1,e2⟩:=zia (f:=fun x y z=>qdt x y z a1 a2 a3) ht
    rw [e1] at k3
    exact ⟨⟨k0,hi⟩,k1,trivial,⟨by omega,by omega⟩,rfl,rfl,rfl,(k3 e2).1,(k3 e2).2⟩
   .obtain ⟨e1,e2⟩:=zh9 (f:=fun x y z=>qdt x y z a1 a2 a3) ht
    rw [e1,e2] at k3
    rw [e2] at k2
    exact ⟨trivial,fun he=>⟨(k2 he).1,(k2 he).2,trivial⟩,fun he=>⟨⟨k0,hi⟩,k1,trivial,⟨by omega,by omega⟩,rfl,rfl,rfl,(k3 he).1,(k3 he).2⟩⟩
  .obtain ⟨e1,e2⟩:=q48 hR h hi
   subst e1
   refine ⟨qa6 _,fun i c n d h=>⟨fun hi=>?_,fun hi=>?_⟩⟩
   .obtain ⟨k0,k1,k2,k3,k4⟩:=qpn (qj1 _ _) e2 h hi
    exact ⟨⟨k0,hi⟩,k1,trivial,⟨k0,hi⟩,k2,trivial,fun he=>⟨(k3 he).1,(k3 he).2,trivial⟩,fun he=>⟨⟨by omega,by omega⟩,rfl,rfl,rfl,(k4 he).1,(k4 he).2⟩⟩
   .obtain ⟨k0,k1,k2⟩:=qm1 (qj1 _ _) e2 h hi
    exact ⟨k0,k1,k2,trivial⟩
 .obtain rfl:=qor hn
  have hR:=(hr h0 h1).trans (all_nil _ _)
  exact ⟨qe7 _ _ _,fun i c h=>⟨fun hi=>absurd hi (by have:=MpInv.i0 h;omega),fun hi=>⟨qa6 _,fun i c n d h=>⟨fun hi=>absurd hi (by have:=ChInv.i0 h;omega),fun hi=>qgk (M:=([]:List Event).map (qah fun x y z=>qdt x y z a1 a2 a3)) rfl hR h⟩⟩⟩⟩
theorem za7 (a0:List Event) (a1:Int) (hp:ln a0<=1000000000):q0k a0 a1:=by
 have hz:ln ([]:List Event)=0:=rfl
 have hb0:(qm a0).1≠0->qak a0 a1=([],(qm a0).1):=fun h0=>by unfold qak;rw [zT h0]
 have hr:(qm a0).1=0->qak a0 a1=qgm (qah fun x y z=>qbw x y z a1) (qkk fun x y z=>qbw x y z a1) a0:=fun h0=>by unfold qak;rw [zF (by omega)]
 refine ⟨hp,fun h0=>?_,fun h0=>fun x hx=>⟨fun ht=>?_,fun _=>⟨qhr (l:=([]:List Event)) (by omega),fun hn=>?_,fun hn=>?_⟩⟩⟩
 .rw [hb0 h0];exact ⟨rfl,rfl,trivial⟩
 .obtain rfl:=hx ht
  have hR:=(hr h0).trans (all_nil _ _)
  exact ⟨qe7 _ _ _,fun i c h=>⟨fun hi=>absurd hi (by have:=MpInv.i0 h;omega),fun hi=>⟨qa6 _,fun i c n d h=>⟨fun hi=>absurd hi (by have:=ChInv.i0 h;omega),fun hi=>qgk (M:=([]:List Event).map (qah fun x y z=>qbw x y z a1)) rfl hR h⟩⟩⟩⟩
 .have hR:=hr h0
  refine ⟨qe7 _ _ _,fun i c h=>⟨fun hi=>?_,fun hi=>?_⟩⟩
  .obtain ⟨k0,k1,k2,k3⟩:=q47 hR h hi
   refine ⟨⟨k0,hi⟩,k1,fun ht=>?_,fun ht=>?_⟩
   .obtain ⟨e1,e2⟩:=zia (f:=fun x y z=>qbw x y z a1) ht
    rw [e1] at k3
    exact ⟨⟨k0,hi⟩,k1,trivial,⟨by omega,by omega⟩,rfl,(k3 e2).1,(k3 e2).2⟩
   .obtain ⟨e1,e2⟩:=zh9 (f:=fun x y z=>qbw x y z a1) ht
    rw [e1,e2] at k3
    rw [e2] at k2
    exact ⟨trivial,fun he=>⟨(k2 he).1,(k2 he).2,trivial⟩,fun he=>⟨⟨k0,hi⟩,k1,trivial,⟨by omega,by omega⟩,rfl,(k3 he).1,(k3 he).2⟩⟩
  .obtain ⟨e1,e2⟩:=q48 hR h hi
   subst e1
   refine ⟨qa6 _,fun i c n d h=>⟨fun hi=>?_,fun hi=>?_⟩⟩
   .obtain ⟨k0,k1,k2,k3,k4⟩:=qpn (qj1 _ _) e2 h hi
    exact ⟨⟨k0,hi⟩,k1,trivial,⟨k0,hi⟩,k2,trivial,fun he=>⟨(k3 he).1,(k3 he).2,trivial⟩,fun he=>⟨⟨by omega,by omega⟩,rfl,(k4 he).1,(k4 he).2⟩⟩
   .obtain ⟨k0,k1,k2⟩:=qm1 (qj1 _ _) e2 h hi
    exact ⟨k0,k1,k2,trivial⟩
 .obtain rfl:=qor hn
  have hR:=(hr h0).trans (all_nil _ _)
  exact ⟨qe7 _ _ _,fun i c h=>⟨fun hi=>absurd hi (by have:=MpInv.i0 h;omega),fun hi=>⟨qa6 _,fun i c n d h=>⟨fun hi=>absurd hi (by have:=ChInv.i0 h;omega),fun hi=>qgk (M:=([]:List Event).map (qah fun x y z=>qbw x y z a1)) rfl hR h⟩⟩⟩⟩
theorem q0q (a0:List Event) (a1:Int) (a2:Int) (hp:ln a0<=1000000000):qqw a0 a1 a2:=by
 have hz:ln ([]:List Event)=0:=rfl
 have hb0:(qm a0).1≠0->qbu a0 a1 a2=([],(qm a0).1):=fun h0=>by unfold qbu;rw [zT h0]
 have hb1:(qm a0).1=0->qgy a1 a2≠0->qbu a0 a1 a2=([],qgy a1 a2):=fun h0 h1=>by unfold qbu;rw [zF (by omega),zT h1]
 have hr:(qm a0).1=0->qgy a1 a2=0->qbu a0 a1 a2=qgm (qzz a1 a2) (fun x=>(qcu x.DurN x.DurD a1 a2).2.2) a0:=fun h0 h1=>by unfold qbu;rw [zF (by omega),zF (by omega)]
 refine ⟨hp,fun h0=>?_,fun h0=>⟨trivial,fun h1=>?_,fun h1=>fun x hx=>⟨fun ht=>?_,fun _=>⟨qhr (l:=([]:List Event)) (by omega),fun hn=>?_,fun hn=>?_⟩⟩⟩⟩
 .rw [hb0 h0];exact ⟨rfl,rfl,trivial⟩
 .rw [hb1 h0 h1];exact ⟨rfl,rfl,trivial⟩
 .obtain rfl:=hx ht
  have hR:=(hr h0 h1).trans (all_nil _ _)
  exact ⟨qe7 _ _ _,fun i c h=>⟨fun hi=>absurd hi (by have:=MpInv.i0 h;omega),fun hi=>⟨qa6 _,fun i c n d h=>⟨fun hi=>absurd hi (by have:=ChInv.i0 h;omega),fun hi=>qgk (M:=([]:List Event).map (qzz a1 a2)) rfl hR h⟩⟩⟩⟩
 .have hR:=hr h0 h1
  refine ⟨qe7 _ _ _,fun i c h=>⟨fun hi=>?_,fun hi=>?_⟩⟩
  .obtain ⟨k0,k1,k2,k3⟩:=q47 hR h hi
   exact ⟨⟨k0,hi⟩,k1,trivial,fun he=>⟨(k2 he).1,(k2 he).2,trivial⟩,fun he=>⟨⟨k0,hi⟩,k1,trivial,⟨by omega,by omega⟩,rfl,rfl,(k3 he).1,(k3 he).2⟩⟩
  .obtain ⟨e1,e2⟩:=q48 hR h hi
   subst e1
   refine ⟨qa6 _,fun i c n d h=>⟨fun hi=>?_,fun hi=>?_⟩⟩
   .obtain ⟨k0,k1,k2,k3,k4⟩:=qpn (qj1 _ _) e2 h hi
    exact ⟨⟨k0,hi⟩,k1,trivial,⟨k0,hi⟩,k2,trivial,fun he=>⟨(k3 he).1,(k3 he).2,trivial⟩,fun he=>⟨⟨by omega,by omega⟩,rfl,rfl,(k4 he).1,(k4 he).2⟩⟩
   .obtain ⟨k0,k1,k2⟩:=qm1 (qj1 _ _) e2 h hi
    exact ⟨k0,k1,k2,trivial⟩
 .obtain rfl:=qor hn
  have hR:=(hr h0 h1).trans (all_nil _ _)
  exact ⟨qe7 _ _ _,fun i c h=>⟨fun hi=>absurd hi (by have:=MpInv.i0 h;omega),fun hi=>⟨qa6 _,fun i c n d h=>⟨fun hi=>absurd hi (by have:=ChInv.i0 h;omega),fun hi=>qgk (M:=([]:List Event).map (qzz a1 a2)) rfl hR h⟩⟩⟩⟩
theorem q8n (a0:List Event) (hp:ln a0<=1000000000):qwg a0:=by
 have hz:ln ([]:List Event)=0:=rfl
 have hb:(qm a0).1≠0->zq a0=([],(qm a0).1):=fun h=>by unfold zq;rw [zT h]
 have hr:(qm a0).1=0->zq a0=qa0 a0.reverse:=fun h=>by unfold zq;rw [zF (by omega)]
 refine ⟨hp,fun h0=>?_,fun h0=>fun x hx=>⟨fun ht=>?_,fun _=>⟨qhr (l:=([]:List Event)) (by omega),fun hn=>?_,fun hn=>?_⟩⟩⟩
 .rw [hb h0];exact ⟨rfl,rfl,trivial⟩
 .obtain rfl:=hx ht
  have hR:=hr h0
  exact ⟨qux [],fun i j c h=>⟨fun hi=>absurd hi (by have:=RvInv.i0 h;have:=RvInv.sum h;omega),fun hi=>⟨qa6 [],fun i c n d h=>⟨fun hi=>absurd hi (by have:=ChInv.i0 h;omega),fun hi=>qgk (M:=[]) rfl hR h⟩⟩⟩⟩
 .have hR:=hr h0
  refine ⟨⟨by omega,by omega⟩,qux a0,fun i j c h=>⟨fun hi=>?_,fun hi=>?_⟩⟩
  .have q0:=RvInv.i0 h
   have q1:=RvInv.sum h
   have q2:=RvInv.len h
   exact ⟨⟨by omega,by omega⟩,by omega,⟨q0,by omega⟩,by omega,⟨q0,by omega⟩,by omega,trivial,⟨by omega,by omega⟩,by rw [qp6];omega,trivial,⟨by omega,by omega⟩,⟨by omega,by omega⟩,zhg h hi,by simp only [qf9];omega⟩
  .have e1:=zj9 h hi
   subst e1
   refine ⟨qa6 _,fun i c n d h=>⟨fun hi=>?_,fun hi=>?_⟩⟩
   .obtain ⟨k0,k1,k2,k3,k4⟩:=qpn (qj2 _) hR h hi
    exact ⟨⟨k0,hi⟩,k1,trivial,⟨k0,hi⟩,k2,trivial,fun he=>⟨(k3 he).1,(k3 he).2,trivial⟩,fun he=>⟨⟨by omega,by omega⟩,(k4 he).1,(k4 he).2⟩⟩
   .obtain ⟨k0,k1,k2⟩:=qm1 (qj2 _) hR h hi
    exact ⟨k0,k1,k2,trivial⟩
 .obtain rfl:=qor hn
  have hR:=hr h0
  exact ⟨⟨by omega,by omega⟩,qux [],fun i j c h=>⟨fun hi=>absurd hi (by have:=RvInv.i0 h;have:=RvInv.sum h;omega),fun hi=>⟨qa6 [],fun i c n d h=>⟨fun hi=>absurd hi (by have:=ChInv.i0 h;omega),fun hi=>qgk (M:=[]) rfl hR h⟩⟩⟩⟩
theorem q8c (a0:List Event) (a1 a2:Int) (hp:ln a0<=1000000000):qv8 a0 a1 a2:=by
 have hl:ln [Event.mk 0 0 a1 a2 0 0 0 true 0 0]=1:=rfl
 have hr:(qm a0).1=0->qgy a1 a2=0->ln a0<2000->qaj a0 a1 a2=qa0 (⟨0,0,a1,a2,0,0,0,true,0,0⟩::a0):=fun h0 h1 h2=>by unfold qaj;rw [zF (by omega),zF (by omega),zF (by omega)]
 refine ⟨hp,fun h0=>?_,fun h0=>⟨trivial,fun h1=>?_,fun h1=>⟨fun h2=>?_,fun h2=>⟨trivial,rfl,rfl,rfl,qhr (by omega),fun hn=>?_,fun hn=>?_⟩⟩⟩⟩
 .have e:qaj a0 a1 a2=([],(qm a0).1):=by unfold qaj;rw [zT h0]
  rw [e];exact ⟨rfl,rfl,trivial⟩
 .have e:qaj a0 a1 a2=([],qgy a1 a2):=by unfold qaj;rw [zF (by omega),zT h1]
  rw [e];exact ⟨rfl,rfl,trivial⟩
 .have e:qaj a0 a1 a2=([],11):=by unfold qaj;rw [zF (by omega),zF (by omega),zT h2]
  rw [e];exact ⟨rfl,rfl,trivial⟩
 .have hR:=hr h0 h1 h2
  have hL:ln ([Event.mk 0 0 a1 a2 0 0 0 true 0 0]++a0)=ln a0+1:=by rw [qw8,hl];omega
  refine ⟨qa6 _,fun i c n d h=>⟨fun hi=>?_,fun hi=>?_⟩⟩
  .obtain ⟨k0,k1,k2,k3,k4⟩:=qpn (rfl) hR h hi
   exact ⟨⟨k0,hi⟩,k1,trivial,⟨k0,hi⟩,k2,trivial,fun he=>⟨(k3 he).1,(k3 he).2,trivial⟩,fun he=>⟨⟨by omega,by omega⟩,rfl,rfl,(k4 he).1,(k4 he).2⟩⟩
  .obtain ⟨k0,k1,k2⟩:=qm1 (rfl) hR h hi
   exact ⟨k0,k1,k2,trivial⟩
 .obtain rfl:=qor hn
  have hR:=hr h0 h1 h2
  refine ⟨qa6 _,fun i c n d h=>⟨fun hi=>?_,fun hi=>?_⟩⟩
  .obtain ⟨k0,k1,k2,k3,k4⟩:=qpn (rfl) hR h hi
   exact ⟨⟨k0,hi⟩,k1,trivial,⟨k0,hi⟩,k2,trivial,fun he=>⟨(k3 he).1,(k3 he).2,trivial⟩,fun he=>⟨⟨by omega,by omega⟩,rfl,rfl,(k4 he).1,(k4 he).2⟩⟩
  .obtain ⟨k0,k1,k2⟩:=qm1 (rfl) hR h hi
   exact ⟨k0,k1,k2,trivial⟩
def fJ (dn dd k:Int) (mi re:Bool) (fn fd j:Int) (a:List Event):List Event×Int:=
 if j=0 then (if re=true then zq a else (a,0)) else if j=1 then (if mi=true/\(qc a).2.2.2=true then qhb a (qc a).1 (qc a).2.1 (qc a).2.2.1 else (a,0))
 else if j=2 then qak a k else if j=3 then qbu a fn fd else if 0<dn then qaj a dn dd else (a,0)
theorem qx8 (l:List Event) (dn dd k:Int) (mi re:Bool) (fn fd:Int) {j:Int} (h0:0<=j) (h1:j<5):qx7 l dn dd k mi re fn fd (j+1)=qcd (qx7 l dn dd k mi re fn fd j) (fJ dn dd k mi re fn fd j):=by
 rcases (show j=0∨j=1∨j=2∨j=3∨j=4 by omega) with rfl | rfl | rfl | rfl | rfl
 .show (if re=true then zq l else (l,0))=qcd (l,0) _
  rw [qja];rfl
 .rfl
 .rfl
 .rfl
 .rfl
theorem bind_assoc (r:List Event×Int) (f g:List Event->List Event×Int):qcd (qcd r f) g=qcd r fun a=>qcd (f a) g:=by
 by_cases h:r.2≠0
 .have h2:(([],r.2):List Event×Int).2≠0:=h
  rw [qhn h,qhn h,qhn h2]
 .obtain ⟨a,e⟩:=r
  have h2:e=0:=by simpa using h
  subst h2
  rw [qja,qja]
theorem qm2 (l:List Event):ln (qa0 l).1<=ln l/\((qa0 l).2≠0->(qa0 l).1=[]):=by
 have n0:=zm l
 unfold qa0
 split
 .exact ⟨n0,fun _=>rfl⟩
 .exact ⟨by show ln (qgs l 0 1)<=ln l;rw [qlj];omega,fun h=>absurd rfl h⟩
theorem qsw (f:Event->Event) (g:Event->Int) (l:List Event):ln (qgm f g l).1<=ln l/\((qgm f g l).2≠0->(qgm f g l).1=[]):=by
 have n0:=zm l
 unfold qgm
 split
 .exact ⟨n0,fun _=>rfl⟩
 .have:=qm2 (l.map f)
  rw [qj1] at this
  exact this
theorem qut (l:List Event):ln (zq l).1<=ln l/\((zq l).2≠0->(zq l).1=[]):=by
 have n0:=zm l
 unfold zq
 split
 .exact ⟨n0,fun _=>rfl⟩
 .have:=qm2 l.reverse
  rw [qj2] at this
  exact this
theorem q2f (l:List Event) (s o a:Int):ln (qhb l s o a).1<=ln l/\((qhb l s o a).2≠0->(qhb l s o a).1=[]):=by
 have n0:=zm l
 unfold qhb
 split
 .exact ⟨n0,fun _=>rfl⟩
 .split
  .exact ⟨n0,fun _=>rfl⟩
  .exact qsw _ _ l
theorem zc0 (l:List Event) (k:Int):ln (qak l k).1<=ln l/\((qak l k).2≠0->(qak l k).1=[]):=by
 have n0:=zm l
 unfold qak
 split
 .exact ⟨n0,fun _=>rfl⟩
 .exact qsw _ _ l
theorem zd5 (l:List Event) (n d:Int):ln (qbu l n d).1<=ln l/\((qbu l n d).2≠0->(qbu l n d).1=[]):=by
 have n0:=zm l
 unfold qbu
 split
 .exact ⟨n0,fun _=>rfl⟩
 .split
  .exact ⟨n0,fun _=>rfl⟩
  .exact qsw _ _ l
theorem zb0 (l:List Event) (n d:Int):ln (qaj l n d).1<=ln l+1/\((qaj l n d).2≠0->(qaj l n d).1=[]):=by
 have n0:=zm l
 have n1:ln ([]:List Event)<=ln l+1:=by rw [qgp];omega
 unfold qaj
 split
 .exact ⟨n1,fun _=>rfl⟩
 .split
  .exact ⟨n1,fun _=>rfl⟩
  .split
   .exact ⟨n1,fun _=>rfl⟩
   .have:=qm2 (⟨0,0,n,d,0,0,0,true,0,0⟩::l)
    rw [qbe] at this
    exact this
theorem zax (a0:List Event) (a1 a2 a3:Int) (a4 a5:Bool) (a6 a7 a8 a9 a10 a11:Int) (hp:ln a0<=1000000000):q0f a0 a1 a2 a3 a4 a5 a6 a7 a8 a9 a10 a11:=by
 have n0:=zm a0
 refine ⟨hp,fun h0=>?_,fun h0=>⟨trivial,fun h1=>?_,fun h1=>⟨hp,⟨zK _,by decide,rfl,by have:=(qgg h0).2;omega,fun h=>absurd rfl h⟩,fun i l e h=>?_⟩⟩⟩
 .have q:kf a0 a1 a2 a3 a4 a5 a6 a7 a8 a9 a10 a11=([],(qm a0).1):=by unfold kf;rw [zT h0]
  rw [q];exact ⟨rfl,rfl,trivial⟩
 .have q:kf a0 a1 a2 a3 a4 a5 a6 a7 a8 a9 a10 a11=([],qrx a1 a2 a3 a6 a7 a8 a9 a10 a11):=by unfold kf;rw [zF (by omega),zT h1]
  rw [q];exact ⟨rfl,rfl,trivial⟩
 .obtain ⟨i0,i5,hw,hl,hn⟩:=h
  refine ⟨fun hi=>?_,fun hi=>?_⟩
  .have m0:(5-(i+1)).toNat<(5-i).toNat:=by omega
   have lb:ln l<=1000000000:=by omega
   have w:=qx8 a0 a1 a2 a3 a4 a5 a6 a7 i0 hi
   rw [<-hw] at w
   have nb:e≠0->za a0 a1 a2 a3 a4 a5 a6 a7 a8 a9 a10 a11 (i+1) l e:=fun he=>by
    refine ⟨by omega,by omega,?_,by omega,hn⟩
    rw [w,qhn (show (l,e).2≠0 from he),hn he]
   have nx:∀ P:List Event×Int,fJ a1 a2 a3 a4 a5 a6 a7 i l=P->ln P.1<=ln l+1/\(P.2≠0->P.1=[])->e=0->(P.2≠0->za a0 a1 a2 a3 a4 a5 a6 a7 a8 a9 a10 a11 (i+1) [] P.2)/\(P.2=0->za a0 a1 a2 a3 a4 a5 a6 a7 a8 a9 a10 a11 (i+1) P.1 e):=fun P hP hf he=>by
    subst he
    rw [qja,hP] at w
    refine ⟨fun hq=>⟨by omega,by omega,?_,by rw [qgp];omega,fun _=>rfl⟩,fun hq=>⟨by omega,by omega,?_,by omega,fun h=>absurd rfl h⟩⟩
    .rw [w,<-hf.2 hq]
    .rw [w,<-hq]
   have sm:fJ a1 a2 a3 a4 a5 a6 a7 i l=(l,0)->e=0->za a0 a1 a2 a3 a4 a5 a6 a7 a8 a9 a10 a11 (i+1) l e:=fun hP he=>(nx (l,0) hP ⟨by show ln l<=ln l+1;omega,fun h=>absurd rfl h⟩ he).2 rfl
   have up:∀ {P:List Event×Int},ln P.1<=ln l/\(P.2≠0->P.1=[])->ln P.1<=ln l+1/\(P.2≠0->P.1=[]):=fun h=>⟨by have:=h.1;omega,h.2⟩
   refine ⟨⟨i0,hi⟩,fun hj=>⟨fun he=>⟨fun hr=>⟨lb,fun h'=>absurd he h',fun _=>?_⟩,fun hr=>⟨⟨by omega,by omega⟩,rfl,rfl,rfl,rfl,rfl,rfl,rfl,rfl,rfl,rfl,rfl,rfl,rfl,rfl,rfl,rfl,rfl,rfl,rfl,rfl,rfl,rfl,sm (by subst hj;unfold fJ;rw [zT rfl,zF (by simp [hr])]) he,m0⟩⟩,fun he=>⟨⟨by omega,by omega⟩,rfl,rfl,rfl,rfl,rfl,rfl,rfl,rfl,rfl,rfl,rfl,rfl,rfl,rfl,rfl,rfl,rfl,rfl,rfl,rfl,rfl,rfl,nb he,m0⟩⟩,
    fun hj=>⟨fun he=>⟨lb,fun hf=>⟨fun hr=>⟨lb,fun h'=>absurd he h',fun _=>?_⟩,fun hr=>⟨⟨by omega,by omega⟩,rfl,rfl,rfl,rfl,rfl,rfl,rfl,rfl,rfl,rfl,rfl,rfl,rfl,rfl,rfl,rfl,rfl,rfl,rfl,rfl,rfl,rfl,sm (by subst hj;unfold fJ;rw [zF (by decide),zT rfl,zF (by simp [hr])]) he,m0⟩⟩,fun hf=>⟨⟨by omega,by omega⟩,rfl,rfl,rfl,rfl,rfl,rfl,rfl,rfl,rfl,rfl,rfl,rfl,rfl,rfl,rfl,rfl,rfl,rfl,rfl,rfl,rfl,rfl,sm (by subst hj;unfold fJ;rw [zF (by decide),zT rfl,zF (by simp [hf])]) he,m0⟩⟩,fun he=>⟨⟨by omega,by omega⟩,rfl,rfl,rfl,rfl,rfl,rfl,rfl,rfl,rfl,rfl,rfl,rfl,rfl,rfl,rfl,rfl,rfl,rfl,rfl,rfl,rfl,rfl,nb he,m0⟩⟩,
    fun hj=>⟨fun he=>⟨lb,fun h'=>absurd he h',fun _=>?_⟩,fun he=>⟨⟨by omega,by omega⟩,rfl,rfl,rfl,rfl,rfl,rfl,rfl,rfl,rfl,rfl,rfl,rfl,rfl,rfl,rfl,rfl,rfl,rfl,rfl,rfl,rfl,rfl,nb he,m0⟩⟩,
    fun hj=>⟨fun he=>⟨lb,fun h'=>absurd he h',fun _=>?_⟩,fun he=>⟨⟨by omega,by omega⟩,rfl,rfl,rfl,rfl,rfl,rfl,rfl,rfl,rfl,rfl,rfl,rfl,rfl,rfl,rfl,rfl,rfl,rfl,rfl,rfl,rfl,rfl,nb he,m0⟩⟩,
    fun hj=>⟨fun he=>⟨fun hr=>⟨lb,fun h'=>absurd he h',fun _=>?_⟩,fun hr=>⟨⟨by omega,by omega⟩,rfl,rfl,rfl,rfl,rfl,rfl,rfl,rfl,rfl,rfl,rfl,rfl,rfl,rfl,rfl,rfl,rfl,rfl,rfl,rfl,rfl,rfl,sm (by subst hj;unfold fJ;rw [zF (by decide),zF (by decide),zF (by decide),zF (by decide),zF (by omega)]) he,m0⟩⟩,fun he=>⟨⟨by omega,by omega⟩,rfl,rfl,rfl,rfl,rfl,rfl,rfl,rfl,rfl,rfl,rfl,rfl,rfl,rfl,rfl,rfl,rfl,rfl,rfl,rfl,rfl,rfl,nb he,m0⟩⟩,trivial⟩
   .have q:=nx (zq l) (by subst hj;unfold fJ;rw [zT rfl,zT hr]) (up (qut l)) he
    exact ⟨fun hq=>⟨⟨by omega,by omega⟩,rfl,rfl,rfl,rfl,rfl,rfl,rfl,rfl,rfl,rfl,rfl,rfl,rfl,rfl,rfl,rfl,rfl,rfl,rfl,rfl,rfl,rfl,q.1 hq,m0⟩,fun hq=>⟨⟨by omega,by omega⟩,rfl,rfl,rfl,rfl,rfl,rfl,rfl,rfl,rfl,rfl,rfl,rfl,rfl,rfl,rfl,rfl,rfl,rfl,rfl,rfl,rfl,rfl,q.2 hq,m0⟩⟩
   .have q:=nx (qhb l (qc l).1 (qc l).2.1 (qc l).2.2.1) (by subst hj;unfold fJ;rw [zF (by decide),zT rfl,zT ⟨hr,hf⟩]) (up (q2f l _ _ _)) he
    exact ⟨fun hq=>⟨⟨by omega,by omega⟩,rfl,rfl,rfl,rfl,rfl,rfl,rfl,rfl,rfl,rfl,rfl,rfl,rfl,rfl,rfl,rfl,rfl,rfl,rfl,rfl,rfl,rfl,q.1 hq,m0⟩,fun hq=>⟨⟨by omega,by omega⟩,rfl,rfl,rfl,rfl,rfl,rfl,rfl,rfl,rfl,rfl,rfl,rfl,rfl,rfl,rfl,rfl,rfl,rfl,rfl,rfl,rfl,rfl,q.2 hq,m0⟩⟩
   .have q:=nx (qak l a3) (by subst hj;unfold fJ;rw [zF (by decide),zF (by decide),zT rfl]) (up (zc0 l _)) he
    exact ⟨fun hq=>⟨⟨by omega,by omega⟩,rfl,rfl,rfl,rfl,rfl,rfl,rfl,rfl,rfl,rfl,rfl,rfl,rfl,rfl,rfl,rfl,rfl,rfl,rfl,rfl,rfl,rfl,q.1 hq,m0⟩,fun hq=>⟨⟨by omega,by omega⟩,rfl,rfl,rfl,rfl,rfl,rfl,rfl,rfl,rfl,rfl,rfl,rfl,rfl,rfl,rfl,rfl,rfl,rfl,rfl,rfl,rfl,rfl,q.2 hq,m0⟩⟩
   .have q:=nx (qbu l a6 a7) (by subst hj;unfold fJ;rw [zF (by decide),zF (by decide),zF (by decide),zT rfl]) (up (zd5 l _ _)) he
    exact ⟨fun hq=>⟨⟨by omega,by omega⟩,rfl,rfl,rfl,rfl,rfl,rfl,rfl,rfl,rfl,rfl,rfl,rfl,rfl,rfl,rfl,rfl,rfl,rfl,rfl,rfl,rfl,rfl,q.1 hq,m0⟩,fun hq=>⟨⟨by omega,by omega⟩,rfl,rfl,rfl,rfl,rfl,rfl,rfl,rfl,rfl,rfl,rfl,rfl,rfl,rfl,rfl,rfl,rfl,rfl,rfl,rfl,rfl,rfl,q.2 hq,m0⟩⟩
   .have q:=nx (qaj l a1 a2) (by subst hj;unfold fJ;rw [zF (by decide),zF (by decide),zF (by decide),zF (by decide),zT hr]) (zb0 l _ _) he
    exact ⟨fun hq=>⟨⟨by omega,by omega⟩,rfl,rfl,rfl,rfl,rfl,rfl,rfl,rfl,rfl,rfl,rfl,rfl,rfl,rfl,rfl,rfl,rfl,rfl,rfl,rfl,rfl,rfl,q.1 hq,m0⟩,fun hq=>⟨⟨by omega,by omega⟩,rfl,rfl,rfl,rfl,rfl,rfl,rfl,rfl,rfl,rfl,rfl,rfl,rfl,rfl,rfl,rfl,rfl,rfl,rfl,rfl,rfl,rfl,q.2 hq,m0⟩⟩
  .have h5:i=5:=by omega
   have q:kf a0 a1 a2 a3 a4 a5 a6 a7 a8 a9 a10 a11=qx7 a0 a1 a2 a3 a4 a5 a6 a7 5:=by
    unfold kf qx7
    rw [zF (by omega),zF (by omega),zF (by decide),zF (by decide),zF (by decide),zF (by decide),zF (by decide),bind_assoc,bind_assoc]
   rw [q,<-h5,<-hw]
   exact ⟨rfl,rfl,trivial⟩
theorem zec {a b c d:Int} (h:j4 [Time.mk a b,Time.mk c d]=0):qe a b=0/\qe c d=0:=by
 rw [qfs] at h
 by_cases h1:qe a b≠0
 .rw [zT h1] at h;exact absurd h h1
 .rw [zF h1] at h;exact ⟨by omega,h⟩
theorem zhk {a b c d:Int} (h:j4 [Time.mk a b,Time.mk c d]≠0):qij a b c d=(0,0,j4 [Time.mk a b,Time.mk c d]):=by
 rw [qfs] at h ⊢
 unfold qij
 by_cases h1:qe a b≠0
 .rw [zT h1,zT h1]
 .rw [zF h1] at h
  rw [zF h1,zF h1,zT h]
theorem zfy {a b c d:Int} (h:j4 [Time.mk a b,Time.mk c d]≠0):qfp a b c d=(0,0,j4 [Time.mk a b,Time.mk c d]):=by
 rw [qfs] at h ⊢
 unfold qfp
 by_cases h1:qe a b≠0
 .rw [zT h1,zT h1]
 .rw [zF h1] at h
  rw [zF h1,zF h1,zT h]
theorem zbz {a b c d:Int} (h1:qe a b=0) (h2:qe c d=0):qfp a b c d=if c=0 then (0,0,5) else qcv a b d c:=by
 unfold qfp
 rw [zF (by omega),zF (by omega)]
theorem zbr {n d:Int} (h:qe n d=0) (h0:n≠0):qy d n=1:=by
 have:=qyg h
 unfold qy at this ⊢
 rw [Nat.gcd_comm]
 exact this
theorem zfz {a b c d:Int} (h1:qe a b=0) (h2:qe c d=0) (h:c≠0):qnp a b d c:=by
 have k1:=jh h1
 have k2:=jh h2
 exact ⟨k1.1,k1.2.1,k1.2.2.1,by omega,by omega,by omega,by omega,k2.2.1,qyg h1,zbr h2 h⟩
theorem zes (a0 a1 a2 a3:Int):q5y a0 a1 a2 a3:=by
 have hl:ln [Time.mk a0 a1,Time.mk a2 a3]=2:=rfl
 refine ⟨trivial,trivial,by omega,fun h=>?_,fun h=>?_⟩
 .rw [zfy h];exact ⟨rfl,rfl,rfl,trivial⟩
 .obtain ⟨h1,h2⟩:=zec h
  rw [zbz h1 h2]
  refine ⟨fun hz=>?_,fun hz=>?_⟩
  .rw [zT hz];exact ⟨rfl,rfl,rfl,trivial⟩
  .rw [zF hz];exact ⟨zfz h1 h2 hz,rfl,rfl,rfl,trivial⟩
theorem q4n (a0 a1:List Event) (a2 a3:Int) (hp:ln a0<=1000000000/\ln a1<=1000000000):qtr a0 a1 a2 a3:=by
 refine ⟨hp.1,fun h=>?_,fun h=>⟨hp.2,fun h1=>?_,fun h1=>⟨trivial,fun h2=>?_,fun h2=>⟨trivial,?_⟩⟩⟩⟩
 .have e:qi a0 a1 a2 a3=(0,0,false):=by unfold qi;rw [zT h]
  rw [e];exact ⟨rfl,rfl,rfl,trivial⟩
 .have e:qi a0 a1 a2 a3=(0,0,false):=by unfold qi;rw [zF (by omega),zT h1]
  rw [e];exact ⟨rfl,rfl,rfl,trivial⟩
 .have e:qi a0 a1 a2 a3=(0,0,false):=by unfold qi;rw [zF (by omega),zF (by omega),zT h2]
  rw [e];exact ⟨rfl,rfl,rfl,trivial⟩
 .unfold qi
  rw [zF (by omega),zF (by omega),zF (by omega)]
  exact ⟨rfl,rfl,rfl,trivial⟩
end Go.Proofs.YtcnoipglgpkpeaaGreatDoor
namespace Go.Proofs.YtcnoipglgpkpeaaGreatDoor
open Go Go.E2 Go.E3
set_option maxRecDepth 100000
theorem qwj:∀ {l m:List Event},qcq l m=true↔ln l=ln m/\∀ j,0<=j->j<ln l->qeb (ix l j) (ix m j)=true
 | [],[]=>⟨fun _=>⟨rfl,fun j h0 h1=>by rw [qgp] at h1;omega⟩,fun _=>rfl⟩
 | [],y::m=>⟨fun h=>(by cases h),fun h=>(by have h1:=h.1;have:=zm m;rw [qgp,qbe] at h1;omega)⟩
 | x::l,[]=>⟨fun h=>(by cases h),fun h=>(by have h1:=h.1;have:=zm l;rw [qgp,qbe] at h1;omega)⟩
 | x::l,y::m=>by
  unfold qcq
  rw [zA,qwj (l:=l) (m:=m),qbe,qbe]
  constructor
  .rintro ⟨h1,h2,h3⟩
   refine ⟨by omega,fun j j0 j1=>?_⟩
   by_cases hj:j=0
   .subst hj;exact h1
   .obtain ⟨k,rfl⟩:∃ k,j=k+1:=⟨j-1,by omega⟩
    rw [qb9 (by omega),qb9 (by omega)]
    exact h3 k (by omega) (by omega)
  .rintro ⟨h1,h2⟩
   refine ⟨h2 0 (zK _) (by have:=zm l;omega),by omega,fun j j0 j1=>?_⟩
   have:=h2 (j+1) (by omega) (by omega)
   rwa [qb9 (by omega),qb9 (by omega)] at this
end Go.Proofs.YtcnoipglgpkpeaaGreatDoor
namespace Go.Proofs.YtcnoipglgpkpeaaGreatDoor
open Go Go.E2 Go.E3
set_option maxRecDepth 100000
end Go.Proofs.YtcnoipglgpkpeaaGreatDoor
namespace Go.Proofs.YtcnoipglgpkpeaaGreatDoor
open Go Go.E2 Go.E3
set_option maxRecDepth 100000
end Go.Proofs.YtcnoipglgpkpeaaGreatDoor
namespace Go.Proofs.YtcnoipglgpkpeaaGreatDoor
open Go Go.E2 Go.E3
set_option maxRecDepth 100000
theorem ze6 (a0 a1 a2 a3:Int):q53 a0 a1 a2 a3:=by
 have hl:ln [Time.mk a0 a1,Time.mk a2 a3]=2:=rfl
 refine ⟨trivial,trivial,by omega,fun h=>?_,fun h=>?_⟩
 .rw [zhk h];exact ⟨rfl,rfl,rfl,trivial⟩
 .obtain ⟨h1,h2⟩:=zec h
  have b1:=jh h1
  have b2:=jh h2
  have p1:=qfx b1.1 b1.2.1 (show 0<=a3 by omega) b2.2.2.2
  have p2:=qfx b2.1 b2.2.1 (show 0<=a1 by omega) b1.2.2.2
  have p3:=qqc b1.2.2.1 b2.2.2.1
  have p4:=qfx (show 0<=a1 by omega) b1.2.2.2 (show 0<=a3 by omega) b2.2.2.2
  have e:qij a0 a1 a2 a3=if a0 * a3<a2 * a1 then (0,0,2) else ofT (a0 * a3-a2 * a1) (a1 * a3):=by unfold qij;rw [zF (by omega),zF (by omega)]
  refine ⟨⟨by omega,by omega⟩,⟨by omega,by omega⟩,⟨by omega,by omega⟩,⟨by omega,by omega⟩,fun hc=>?_,fun hc=>⟨fun hd=>absurd hd (by omega),fun _=>⟨fun hd=>absurd hd (by omega),fun _=>?_⟩⟩⟩
  .rw [e,zT (by omega)];exact ⟨rfl,rfl,rfl,trivial⟩
  .rw [e,zF (by omega)]
   have g:=qe1 (a:=a0 * a3-a2 * a1) p3
   have q1:=kr hc (qb0 (a0 * a3-a2 * a1) (a1 * a3))
   have q2:=kr (show 0<=a1 * a3 by omega) (qb0 (a0 * a3-a2 * a1) (a1 * a3))
   refine ⟨⟨by omega,by omega,by omega,by omega⟩,⟨by omega,by omega,by omega⟩,⟨by omega,by omega,by omega⟩,fun h=>?_,fun h=>⟨fun h'=>?_,fun h'=>?_⟩⟩
   .unfold ofT;rw [zT (.inl h)];exact ⟨rfl,rfl,rfl,trivial⟩
   .unfold ofT;rw [zT (.inr h')];exact ⟨rfl,rfl,rfl,trivial⟩
   .unfold ofT;rw [zF (by omega)];exact ⟨rfl,rfl,rfl,trivial⟩
end Go.Proofs.YtcnoipglgpkpeaaGreatDoor
namespace Go.Proofs.YtcnoipglgpkpeaaGreatDoor
open Go Go.E2 Go.E3
set_option maxRecDepth 100000
theorem q9g:∀ k:Int,0<=k->k<=6->0<=ix qoi k/\ix qoi k<=11:=fun k h0 h1=>by
 rcases (show k=0∨k=1∨k=2∨k=3∨k=4∨k=5∨k=6 by omega) with rfl | rfl | rfl | rfl | rfl | rfl | rfl<;>decide
theorem qw7 {s o a:Int} (h:zb s o a=0):qba (7 * o+s) a=qf6 s o a/\-1<=qf6 s o a/\qf6 s o a<=200:=by
 obtain ⟨h0,h1,h2,h3,h4,h5⟩:=qho h
 obtain ⟨e1,e2⟩:=zaj h0 h1 h2
 have b:=q9g s h0 h1
 unfold qba qf6
 rw [e1,e2]
 exact ⟨rfl,by omega,by omega⟩
theorem qz9 (a0 a1 a2 a3 a4 a5:Int):qqs a0 a1 a2 a3 a4 a5:=by
 refine ⟨trivial,fun h=>?_,fun h=>⟨trivial,fun h'=>?_,fun h'=>?_⟩⟩
 .have e:qgn a0 a1 a2 a3 a4 a5=(0,0,zb a0 a1 a2):=by unfold qgn;rw [zT h]
  rw [e];exact ⟨rfl,rfl,rfl,trivial⟩
 .have e:qgn a0 a1 a2 a3 a4 a5=(0,0,zb a3 a4 a5):=by unfold qgn;rw [zF (by omega),zT h']
  rw [e];exact ⟨rfl,rfl,rfl,trivial⟩
 .have e:qgn a0 a1 a2 a3 a4 a5=(qib a3 a4-qib a0 a1,qf6 a3 a4 a5-qf6 a0 a1 a2,0):=by unfold qgn;rw [zF (by omega),zF (by omega)]
  have b1:=qho h
  have b2:=qho h'
  obtain ⟨e1,c1,c2⟩:=qw7 h
  obtain ⟨e2,d1,d2⟩:=qw7 h'
  rw [e,e1,e2]
  exact ⟨⟨by omega,by omega⟩,⟨by omega,by omega⟩,⟨by omega,by omega⟩,⟨by omega,by omega⟩,⟨by omega,by omega⟩,⟨by omega,by omega,by omega,by omega⟩,⟨by omega,by omega,by omega,by omega⟩,⟨by omega,by omega⟩,rfl,rfl,rfl,trivial⟩
theorem q4y (a0 a1:Int) (hp:(0:Int)<=a0/\(a0:Int)<=62/\(-1:Int)<=a1/\(a1:Int)<=1):qt7 a0 a1:=by
 obtain ⟨h0,h1,h2,h3⟩:=hp
 have hd:=kr h0 (show (0:Int)<=7 by decide)
 have hm:=qff h0 (show (0:Int)<7 by decide)
 have key:∀ k v:Int,ix qoi k=v->Int.tmod a0 7=k->12 * Int.tdiv a0 7+v+a1=qba a0 a1:=fun k v hv hk=>by unfold qba;rw [hk,hv]
 exact ⟨⟨by decide,by omega,by omega⟩,⟨by omega,by omega⟩,by decide,⟨hm.1,by show _<(7:Int);omega⟩,
  fun h=>⟨⟨by omega,by omega⟩,⟨by omega,by omega⟩,key 0 0 rfl h,trivial⟩,fun h=>⟨⟨by omega,by omega⟩,⟨by omega,by omega⟩,key 1 2 rfl h,trivial⟩,
  fun h=>⟨⟨by omega,by omega⟩,⟨by omega,by omega⟩,key 2 4 rfl h,trivial⟩,fun h=>⟨⟨by omega,by omega⟩,⟨by omega,by omega⟩,key 3 5 rfl h,trivial⟩,
  fun h=>⟨⟨by omega,by omega⟩,⟨by omega,by omega⟩,key 4 7 rfl h,trivial⟩,fun h=>⟨⟨by omega,by omega⟩,⟨by omega,by omega⟩,key 5 9 rfl h,trivial⟩,
  fun h=>⟨⟨by omega,by omega⟩,⟨by omega,by omega⟩,key 6 11 rfl h,trivial⟩,trivial⟩
theorem zad (a0:List Event) (a1 a2 a3:Int) (a4 a5:Bool) (a6 a7 a8 a9 a10 a11:Int) (a12:List Event) (hp:(qm a0).1=0/\(qm a12).1=0):qx1 a0 a1 a2 a3 a4 a5 a6 a7 a8 a9 a10 a11 a12:=by
 obtain ⟨h0,h12⟩:=hp
 have n0:=zm a0
 have v0:=qgg h0
 have v12:=qgg h12
 refine ⟨by omega,⟨zK _,by decide,rfl,by omega,fun h=>absurd rfl h⟩,fun i l e h=>?_⟩
 obtain ⟨i0,i2,hw,hl,hn⟩:=h
 refine ⟨fun hi=>?_,fun hi=>?_⟩
 .have m0:(2-(i+1)).toNat<(2-i).toNat:=by omega
  have lb:ln l<=1000000000:=by omega
  have w:=qx8 a0 a1 a2 a3 a4 a5 a6 a7 i0 (show i<5 by omega)
  rw [<-hw] at w
  have nb:e≠0->zs a0 a1 a2 a3 a4 a5 a6 a7 a8 a9 a10 a11 a12 (i+1) l e:=fun he=>by
   refine ⟨by omega,by omega,?_,by omega,hn⟩
   rw [w,qhn (show (l,e).2≠0 from he),hn he]
  have nx:∀ P:List Event×Int,fJ a1 a2 a3 a4 a5 a6 a7 i l=P->ln P.1<=ln l+1/\(P.2≠0->P.1=[])->e=0->(P.2≠0->zs a0 a1 a2 a3 a4 a5 a6 a7 a8 a9 a10 a11 a12 (i+1) [] P.2)/\(P.2=0->zs a0 a1 a2 a3 a4 a5 a6 a7 a8 a9 a10 a11 a12 (i+1) P.1 e):=fun P hP hf he=>by
   subst he
   rw [qja,hP] at w
   refine ⟨fun hq=>⟨by omega,by omega,?_,by rw [qgp];omega,fun _=>rfl⟩,fun hq=>⟨by omega,by omega,?_,by omega,fun h=>absurd rfl h⟩⟩
   .rw [w,<-hf.2 hq]
   .rw [w,<-hq]
  have sm:fJ a1 a2 a3 a4 a5 a6 a7 i l=(l,0)->e=0->zs a0 a1 a2 a3 a4 a5 a6 a7 a8 a9 a10 a11 a12 (i+1) l e:=fun hP he=>(nx (l,0) hP ⟨by show ln l<=ln l+1;omega,fun h=>absurd rfl h⟩ he).2 rfl
  have up:∀ {P:List Event×Int},ln P.1<=ln l/\(P.2≠0->P.1=[])->ln P.1<=ln l+1/\(P.2≠0->P.1=[]):=fun h=>⟨by have:=h.1;omega,h.2⟩
  refine ⟨⟨i0,hi⟩,fun hj=>⟨fun he=>⟨fun hr=>⟨lb,fun h'=>absurd he h',fun _=>?_⟩,fun hr=>⟨⟨by omega,by omega⟩,rfl,rfl,rfl,rfl,rfl,rfl,rfl,rfl,rfl,rfl,rfl,rfl,rfl,rfl,rfl,rfl,rfl,rfl,rfl,rfl,rfl,rfl,sm (by subst hj;unfold fJ;rw [zT rfl,zF (by simp [hr])]) he,m0⟩⟩,fun he=>⟨⟨by omega,by omega⟩,rfl,rfl,rfl,rfl,rfl,rfl,rfl,rfl,rfl,rfl,rfl,rfl,rfl,rfl,rfl,rfl,rfl,rfl,rfl,rfl,rfl,rfl,nb he,m0⟩⟩,
   fun hj=>⟨fun he=>⟨lb,fun hf=>⟨fun hr=>⟨lb,fun h'=>absurd he h',fun _=>?_⟩,fun hr=>⟨⟨by omega,by omega⟩,rfl,rfl,rfl,rfl,rfl,rfl,rfl,rfl,rfl,rfl,rfl,rfl,rfl,rfl,rfl,rfl,rfl,rfl,rfl,rfl,rfl,rfl,sm (by subst hj;unfold fJ;rw [zF (by decide),zT rfl,zF (by simp [hr])]) he,m0⟩⟩,fun hf=>⟨⟨by omega,by omega⟩,rfl,rfl,rfl,rfl,rfl,rfl,rfl,rfl,rfl,rfl,rfl,rfl,rfl,rfl,rfl,rfl,rfl,rfl,rfl,rfl,rfl,rfl,sm (by subst hj;unfold fJ;rw [zF (by decide),zT rfl,zF (by simp [hf])]) he,m0⟩⟩,fun he=>⟨⟨by omega,by omega⟩,rfl,rfl,rfl,rfl,rfl,rfl,rfl,rfl,rfl,rfl,rfl,rfl,rfl,rfl,rfl,rfl,rfl,rfl,rfl,rfl,rfl,rfl,nb he,m0⟩⟩,trivial⟩
  .have q:=nx (zq l) (by subst hj;unfold fJ;rw [zT rfl,zT hr]) (up (qut l)) he
   exact ⟨fun hq=>⟨⟨by omega,by omega⟩,rfl,rfl,rfl,rfl,rfl,rfl,rfl,rfl,rfl,rfl,rfl,rfl,rfl,rfl,rfl,rfl,rfl,rfl,rfl,rfl,rfl,rfl,q.1 hq,m0⟩,fun hq=>⟨⟨by omega,by omega⟩,rfl,rfl,rfl,rfl,rfl,rfl,rfl,rfl,rfl,rfl,rfl,rfl,rfl,rfl,rfl,rfl,rfl,rfl,rfl,rfl,rfl,rfl,q.2 hq,m0⟩⟩
  .have q:=nx (qhb l (qc l).1 (qc l).2.1 (qc l).2.2.1) (by subst hj;unfold fJ;rw [zF (by decide),zT rfl,zT ⟨hr,hf⟩]) (up (q2f l _ _ _)) he
   exact ⟨fun hq=>⟨⟨by omega,by omega⟩,rfl,rfl,rfl,rfl,rfl,rfl,rfl,rfl,rfl,rfl,rfl,rfl,rfl,rfl,rfl,rfl,rfl,rfl,rfl,rfl,rfl,rfl,q.1 hq,m0⟩,fun hq=>⟨⟨by omega,by omega⟩,rfl,rfl,rfl,rfl,rfl,rfl,rfl,rfl,rfl,rfl,rfl,rfl,rfl,rfl,rfl,rfl,rfl,rfl,rfl,rfl,rfl,rfl,q.2 hq,m0⟩⟩
 .have h2:i=2:=by omega
  subst h2
  have ht:qcj a0 a4 a5=(l,e):=hw.symm
  refine ⟨fun he=>?_,fun he=>⟨by omega,by omega,fun hf=>?_,fun hf=>⟨fun hg=>?_,fun hg=>⟨trivial,?_⟩⟩⟩⟩
  .have q:zh a0 a12 a4 a5=(0,false):=by unfold zh;rw [ht,zT he]
   rw [q];exact ⟨rfl,rfl,trivial⟩
  .have q:zh a0 a12 a4 a5=(0,true):=by unfold zh;rw [ht,zF (by simp [he]),zF (fun h=>by rw [hf] at h;exact absurd h.1 (by decide))]
   rw [q];exact ⟨rfl,rfl,trivial⟩
  .have q:zh a0 a12 a4 a5=(0,true):=by unfold zh;rw [ht,zF (by simp [he]),zF (fun h=>by rw [hg] at h;exact absurd h.2 (by decide))]
   rw [q];exact ⟨rfl,rfl,trivial⟩
  .have q:zh a0 a12 a4 a5=(qib (qc a12).1 (qc a12).2.1-qib (qc l).1 (qc l).2.1,true):=by unfold zh;rw [ht,zF (by simp [he]),zT ⟨hf,hg⟩]
   have hc:=(q3h (mi:=a4) (re:=a5) v0.1 v0.2 (by rw [ht];exact he)).1.ch
   rw [ht] at hc
   have p1:=qtw (qfo hc) hf
   have p2:=qtw (qfo v12.1) hg
   have b:qgn (qc l).1 (qc l).2.1 (qc l).2.2.1 (qc a12).1 (qc a12).2.1 (qc a12).2.2.1=(qib (qc a12).1 (qc a12).2.1-qib (qc l).1 (qc l).2.1,qf6 (qc a12).1 (qc a12).2.1 (qc a12).2.2.1-qf6 (qc l).1 (qc l).2.1 (qc l).2.2.1,0):=by
    unfold qgn;rw [zF (fun h=>h p1),zF (fun h=>h p2)]
   rw [q,b]
   exact ⟨rfl,rfl,trivial⟩
theorem qlr (l m:List Event) {n:Int} (h:0<=n):qc0 l m (n+1).toNat=qc0 l m n.toNat++qvu l m n:=by
 obtain ⟨k,rfl⟩:=Int.eq_ofNat_of_zero_le h
 rw [show ((k:Int)+1).toNat=k+1 by omega,Int.toNat_natCast]
 rfl
theorem zg2 (l m:List Event) (n:Int):ln (qvu l m n)<=1:=by
 unfold qvu
 split
 .split
  .exact zK _
  .exact by decide
 .split
  .exact zK _
  .exact by decide
theorem qnq (l m:List Event):∀ n:Nat,ln (qc0 l m n)<=n
 | 0=>zK _
 | n+1=>by
  have h1:=qnq l m n
  have h2:=zg2 l m n
  show ln (qc0 l m n++qvu l m n)<=_
  rw [qw8]
  omega
theorem q9v (l m:List Event):ln (kb l m).1<=8:=by
 unfold kb
 split
 .show (0:Int)<=8;decide
 .split
  .show (0:Int)<=8;decide
  .exact qnq l m 8
theorem qzc (re mi:Bool) {n:Int} (h:0<=n):0<=nOf re mi n:=by unfold nOf;split<;>split<;>omega
theorem qui (re mi:Bool) (n:Int):nOf re mi (n+1)=nOf re mi n+1:=by unfold nOf;omega
theorem qn8 {m:List Event} (h:qiz m=true):qbn m=[Time.mk 0 1,Time.mk (ix m 0).DurN (ix m 0).DurD]:=by unfold qbn;rw [zT h];rfl
theorem qky {m:List Event} (h:¬qiz m=true):qbn m=[Time.mk 0 1]:=by unfold qbn;rw [zF h];rfl
theorem zg1 {l m:List Event} {re mi:Bool} {n:Int} (h0:0<=n) (h1:n<ln (qbn m)) :
  qvu l m (nOf re mi n)=if qde l m (ix (qbn m) n).N (ix (qbn m) n).D mi re=true then [qs6 l m (ix (qbn m) n).N (ix (qbn m) n).D mi re] else []:=by
 have e0:nOf re mi 0=((nTr re mi 0:Nat):Int):=by cases re<;>cases mi<;>rfl
 have e1:nOf re mi 1=((nTr re mi 1:Nat):Int):=by cases re<;>cases mi<;>rfl
 by_cases hr:qiz m=true
 .rw [qn8 hr] at h1 ⊢
  have h1:n<2:=h1
  rcases (show n=0∨n=1 by omega) with rfl | rfl
  .rw [e0,qow];rfl
  .rw [e1,qsc]
   show _=if qde l m (ix m 0).DurN (ix m 0).DurD mi re=true then [qs6 l m (ix m 0).DurN (ix m 0).DurD mi re] else []
   by_cases ht:qde l m (ix m 0).DurN (ix m 0).DurD mi re=true
   .rw [zT ht,zT ⟨hr,ht⟩]
   .rw [zF ht,zF (fun h=>ht h.2)]
 .rw [qky hr] at h1 ⊢
  have h1:n<1:=h1
  have:n=0:=by omega
  subst this
  rw [e0,qow];rfl
theorem q2k {a0 a1:List Event} {o:List Canon} {n:Int} {re mi:Bool} (hi:zj a0 a1 o n re mi) (h:ln (qbn a1)<=n):o=qc0 a0 a1 (nOf re mi 2).toNat:=by
 obtain ⟨n0,n1,ho⟩:=hi
 by_cases hr:qiz a1=true
 .rw [qn8 hr] at h n1
  have h:2<=n:=h
  have n1:n<=2:=n1
  rw [ho,show n=2 by omega]
 .rw [qky hr] at h n1
  have h:1<=n:=h
  have n1:n<=1:=n1
  have e:n=1:=by omega
  subst e
  have e1:nOf re mi 1=((nTr re mi 1:Nat):Int):=by cases re<;>cases mi<;>rfl
  have z:qvu a0 a1 (nOf re mi 1)=[]:=by
   rw [e1,qsc,zF (fun h=>hr h.1)]
  rw [show (2:Int)=1+1 by decide,qui,qlr a0 a1 (qzc re mi (by decide)),z,zJ]
  exact ho
theorem qn1 {a0 a1:List Event} (h0:(qm a0).1=0) (h1:(qm a1).1=0) {y:List Time} (hy:y=qbn a1) {o:List Canon} {n:Int} {re mi:Bool} (hi:zj a0 a1 o n re mi) (hlt:n<ln y):qwl a0 a1 y o n re mi:=by
 have b0:=(qgg h0).2
 have b1:=(qgg h1).2
 obtain ⟨n0,n1,ho⟩:=hi
 have hod:=zg1 (l:=a0) (re:=re) (mi:=mi) n0 (by rw [<-hy];exact hlt)
 rw [<-hy] at n1 hod
 have y2:ln y<=2:=by
  by_cases hr:qiz a1=true
  .rw [hy,qn8 hr];exact zK _
  .rw [hy,qky hr];exact by decide
 have h64:I64 (n+1):=⟨by omega,by omega⟩
 have hmi:∀ o':List Canon,ze a0 a1 o' (n+1) re mi<ze a0 a1 o n re mi:=fun o'=>by
  simp only [ze,<-hy];omega
 have skip:qde a0 a1 (ix y n).N (ix y n).D mi re=false->I64 (n+1)/\zj a0 a1 o (n+1) re mi/\ze a0 a1 o (n+1) re mi<ze a0 a1 o n re mi:=fun ht=>by
  refine ⟨h64,⟨by omega,by rw [<-hy];omega,?_⟩,hmi _⟩
  rw [qui,qlr a0 a1 (qzc re mi n0),hod,zF (by rw [ht];decide),zJ]
  exact ho
 have add:qde a0 a1 (ix y n).N (ix y n).D mi re=true->I64 (n+1)/\zj a0 a1 (o++[qs6 a0 a1 (ix y n).N (ix y n).D mi re]) (n+1) re mi/\ze a0 a1 (o++[qs6 a0 a1 (ix y n).N (ix y n).D mi re]) (n+1) re mi<ze a0 a1 o n re mi:=fun ht=>by
  refine ⟨h64,⟨by omega,by rw [<-hy];omega,?_⟩,hmi _⟩
  rw [qui,qlr a0 a1 (qzc re mi n0),hod,zT ht,ho]
 have hsh:ln o<=100:=by
  have:=qnq a0 a1 (nOf re mi n).toNat
  have h2:nOf re mi n<=6+n:=by unfold nOf;split<;>split<;>omega
  have h4:=qzc re mi n0
  rw [ho];omega
 have tr:qde a0 a1 (ix y n).N (ix y n).D mi re=((zh a0 a1 mi re).2&&((qi a0 a1 (ix y n).N (ix y n).D).2.2&&(decide ((kf a0 (ix y n).N (ix y n).D ((zh a0 a1 mi re).1) mi re ((qi a0 a1 (ix y n).N (ix y n).D).1) ((qi a0 a1 (ix y n).N (ix y n).D).2.1) 0 0 0 0).2=0)&&qcq (kf a0 (ix y n).N (ix y n).D ((zh a0 a1 mi re).1) mi re ((qi a0 a1 (ix y n).N (ix y n).D).1) ((qi a0 a1 (ix y n).N (ix y n).D).2.1) 0 0 0 0).1 a1))):=rfl
 unfold qwl
 revert tr
 generalize kf a0 (ix y n).N (ix y n).D ((zh a0 a1 mi re).1) mi re ((qi a0 a1 (ix y n).N (ix y n).D).1) ((qi a0 a1 (ix y n).N (ix y n).D).2.1) 0 0 0 0=V
 intro tr
 have no:(qcq V.1 a1=true->False)->qde a0 a1 (ix y n).N (ix y n).D mi re=false:=fun h=>by
  rw [tr]
  cases hb:qcq V.1 a1 with
  | true=>exact absurd hb h
  | false=>simp
 refine ⟨⟨n0,hlt⟩,⟨h0,h1⟩,fun hs=>skip (by rw [tr,hs];rfl),fun hs=>⟨⟨by omega,by omega⟩,fun hf=>skip (by rw [tr,hf];simp),fun hf=>⟨by omega,fun hm=>skip (by rw [tr,decide_eq_false hm];simp),
  fun hm=>⟨fun hl=>skip (no fun h=>hl (qpj h)),fun hl=>⟨⟨zK _,zm _,fun j j0 j1=>by omega⟩,fun k ⟨k0,k1,kk⟩=>⟨fun hk=>⟨⟨k0,hk⟩,⟨k0,by omega⟩,fun hd=>⟨fun hr=>⟨fun hp=>skip (no fun h=>?_),fun hp=>⟨⟨by omega,by omega⟩,rfl,rfl,rfl,rfl,rfl,rfl,rfl,⟨by omega,by omega,fun j j0 j1=>?_⟩,?_⟩⟩,
   fun hr=>skip (no fun h=>?_)⟩,fun hd=>skip (no fun h=>?_)⟩,fun hk=>⟨trivial,qno (by omega),add ?_⟩⟩⟩⟩⟩⟩⟩
 .have a:=of_decide_eq_true (qkq h k0 hk)
  rcases hp with d | d | d
  .exact d a.2.2.2.1
  .exact d a.2.2.2.2.1
  .exact d a.2.2.2.2.2
 .by_cases hj:j=k
  .subst hj
   exact decide_eq_true ⟨hd.1,hd.2,hr,hp.1,hp.2.1,hp.2.2⟩
  .exact kk j j0 (by omega)
 .simp only [qf8];omega
 .exact hr (of_decide_eq_true (qkq h k0 hk)).2.2.1
 .have a:=of_decide_eq_true (qkq h k0 hk)
  rcases hd with d | d
  .exact d a.1
  .exact d a.2.1
 .have ha:qcq V.1 a1=true:=qwj.2 ⟨hl,fun j j0 j1=>kk j j0 (by omega)⟩
  rw [tr,hs,hf,ha,decide_eq_true hm]
  rfl
theorem q9u {a0 a1:List Event} (h:(qm a0).1≠0):kb a0 a1=([],(qm a0).1):=by unfold kb;rw [zT h]
theorem q45 {a0 a1:List Event} (h:(qm a0).1=0) (h1:(qm a1).1≠0):kb a0 a1=([],(qm a1).1):=by unfold kb;rw [zF (by omega),zT h1]
theorem q46 {a0 a1:List Event} (h:(qm a0).1=0) (h1:(qm a1).1=0):kb a0 a1=(qc0 a0 a1 8,0):=by unfold kb;rw [zF (by omega),zF (by omega)]
theorem q8h (a0 a1:List Event) (hp:ln a0<=1000000000/\ln a1<=1000000000):qwb a0 a1:=by
 obtain ⟨b0,b1⟩:=hp
 have st:∀ {o:List Canon} {n:Int} {re mi:Bool},zj a0 a1 o n re mi->ln (qbn a1)<=n->∀ re' mi',nOf re mi 2=nOf re' mi' 0->zj a0 a1 o 0 re' mi':=fun hi hge re' mi' e=>⟨zK _,zm _,by rw [<-e];exact q2k hi hge⟩
 refine ⟨b0,fun h0=>by rw [q9u h0];exact ⟨rfl,rfl,trivial⟩,fun h0=>⟨b1,fun h1=>by rw [q45 h0 h1];exact ⟨rfl,rfl,trivial⟩,fun h1=>⟨trivial,⟨fun hn=>⟨⟨zK _,hn⟩,fun hr=>⟨⟨zK _,hn⟩,trivial,by simp [qgd],?_,trivial⟩,fun hr=>⟨?_,trivial⟩⟩,fun hn=>⟨?_,trivial⟩⟩,fun y hy=>?_⟩⟩⟩
 .exact (qn8 (by unfold qiz;rw [hr,Bool.and_true];exact decide_eq_true hn)).symm
 .exact (qky (by unfold qiz;rw [hr,Bool.and_false];decide)).symm
 .exact (qky (by unfold qiz;rw [decide_eq_false (by omega)];simp)).symm
 .have hy:y=qbn a1:=hy
  refine ⟨⟨zK _,zm _,rfl⟩,fun o n hi=>⟨fun hlt=>qn1 h0 h1 hy hi hlt,fun hge=>⟨st hi (by rw [<-hy];exact hge) false true rfl,fun o n hi=>⟨fun hlt=>qn1 h0 h1 hy hi hlt,fun hge=>⟨st hi (by rw [<-hy];exact hge) true false rfl,
   fun o n hi=>⟨fun hlt=>qn1 h0 h1 hy hi hlt,fun hge=>⟨st hi (by rw [<-hy];exact hge) true true rfl,fun o n hi=>⟨fun hlt=>qn1 h0 h1 hy hi hlt,fun hge=>?_⟩⟩⟩⟩⟩⟩⟩⟩
  rw [q46 h0 h1]
  exact ⟨q2k hi (by rw [<-hy];exact hge),rfl,trivial⟩
theorem zez (a0 a1:Int) (hp:(1:Int)<=a1/\(a1:Int)<=10000000/\(-9223372036854775808:Int)<=a0/\(a0:Int)<=9223372036854775807):q50 a0 a1:=by
 obtain ⟨h1,h2,_,_⟩:=hp
 have b1:=Int.tmod_lt_of_pos a0 (show 0<a1 by omega)
 have b2:=Int.lt_tmod_of_pos a0 (show 0<a1 by omega)
 have e:qdu a0 a1=if Int.tmod a0 a1<0 then Int.tmod a0 a1+a1 else Int.tmod a0 a1:=by unfold qdu;rw [zF (by omega)]
 refine ⟨fun h=>by omega,fun _=>⟨by omega,fun h=>⟨⟨by omega,by omega⟩,by rw [e,zT h],trivial⟩,fun h=>⟨by rw [e,zF (by omega)],trivial⟩⟩⟩
theorem zkq (a0 a1:Int) (hp:(0:Int)<=a0/\(a0:Int)<=1000000000000/\(1:Int)<=a1/\(a1:Int)<=1000000000000):zhy a0 a1:=by
 obtain ⟨h0,h1,h2,h3⟩:=hp
 refine ⟨⟨h0,by omega,rfl⟩,fun x y ⟨i0,i1,i2⟩=>⟨fun h=>?_,fun h=>?_⟩⟩
 .have t:=qff i0 h
  refine ⟨by omega,⟨i1,t.1,by rw [qw2 i0 i1];exact i2⟩,?_⟩
  simp only [ql2];omega
 .have hy:y=0:=by omega
  subst hy
  rw [qw3 i0] at i2
  have g:=qe1 (a:=a0) h2
  have q1:=kr h0 (show 0<=x by omega)
  have q2:=kr (show 0<=a1 by omega) (show 0<=x by omega)
  refine ⟨fun hx=>by omega,fun hx=>⟨⟨by omega,by omega,by omega⟩,⟨by omega,by omega,by omega⟩,?_,?_,trivial⟩⟩
  .unfold tT;rw [<-i2]
  .unfold tT;rw [<-i2]
theorem zbb (a0 a1 a2 a3:Int) (hp:(0:Int)<=a0/\(a0:Int)<=100000/\(1:Int)<=a1/\(a1:Int)<=100000/\(0:Int)<=a2/\(a2:Int)<=100000/\(1:Int)<=a3/\(a3:Int)<=100000):q0m a0 a1 a2 a3:=by
 obtain ⟨h0,h1,h2,h3,h4,h5,h6,h7⟩:=hp
 have m1:=qfx h0 h1 (show 0<=a3 by omega) h7
 have m2:=qfx h4 h5 (show 0<=a1 by omega) h3
 have m3:=qfx (show 0<=a1 by omega) h3 (show 0<=a3 by omega) h7
 have m4:=qqc h2 h6
 exact ⟨⟨by omega,by omega⟩,⟨by omega,by omega⟩,⟨by omega,by omega⟩,⟨by omega,by omega⟩,⟨by omega,by omega,by omega,by omega⟩,rfl,rfl,trivial⟩
theorem q8q (a0:List Int) (a1:Int) (hp:ln a0<=9223372036854775807/\(0:Int)<=a1/\(a1:Int)<=20/\∀ x ∈ a0,I64 x):qwh a0 a1:=by
 obtain ⟨h0,h1,h2,h3⟩:=hp
 have n0:=zm a0
 refine ⟨trivial,trivial,trivial,trivial,trivial,trivial,trivial,trivial,trivial,⟨zK _,n0,h1,rfl,qu2,rfl⟩,fun o i n d ⟨i0,i1,i2,i3,i4,i5⟩=>⟨fun hlt=>⟨fun hm=>?_,fun hm=>⟨?_,trivial⟩⟩,fun hge=>⟨?_,trivial⟩⟩⟩
 .have hb:=h3 _ (q42 i0 hlt)
  obtain ⟨k0,k1⟩:=qot (ix a0 i) (show 1<=(3969:Int) by decide)
  obtain ⟨b1,b2,b3,b4,b5⟩:=q27 i4 (by omega)
  obtain ⟨c,_,_,_,_,_,_,_,d1,d2,d3,d4⟩:=qr7 k0
  have hnx:=(qu1 i4 (by omega) k0).1
  have v1:=kr k0 (show (0:Int)<=63 by decide)
  have v2:=kr k0 (show (0:Int)<=567 by decide)
  have v3:=kr k0 (show (0:Int)<=7 by decide)
  have v4:=kr k0 (show (0:Int)<=21 by decide)
  have t1:=qff v1.1 (show (0:Int)<9 by decide)
  have t2:=qff v3.1 (show (0:Int)<3 by decide)
  have t3:=qff v4.1 (show (0:Int)<3 by decide)
  have hL:ln zh1=9:=rfl
  have step:∀ x:Event,x=evK (qdu (ix a0 i) 3969) i n d->qdk a0 a1 (o++[x]) (i+1) (qb4 n d (qa3 (qdu (ix a0 i) 3969)).N (qa3 (qdu (ix a0 i) 3969)).D).1 (qb4 n d (qa3 (qdu (ix a0 i) 3969)).N (qa3 (qdu (ix a0 i) 3969)).D).2:=by
   intro x hx
   refine ⟨by omega,by omega,by omega,by rw [zgm];omega,hnx,?_⟩
   rw [<-i5,qf4 i0 hlt,qf2,zT hm,hx]
   simp
  refine ⟨⟨i0,hlt⟩,⟨by decide,by decide,hb.1,hb.2⟩,⟨by decide,by omega,by omega⟩,by decide,⟨by omega,by show _<(9:Int);omega⟩,⟨by decide,by omega,by omega⟩,by decide,⟨by decide,by omega,by omega⟩,fun hr=>?_,fun hr=>?_⟩
  .refine ⟨trivial,qno (by omega),⟨b2,by omega,b4,by omega,by show 0<=(qa3 _).N;omega,by show (qa3 _).N<=100000;omega,by show 1<=(qa3 _).D;omega,by show (qa3 _).D<=100000;omega⟩,⟨by omega,by omega⟩,step _ ?_,by simp only [qbg];omega⟩
   unfold evK;rw [zT hr]
   rfl
  .refine ⟨by decide,⟨by decide,by omega,by omega⟩,by decide,⟨by omega,by omega⟩,⟨by decide,by omega,by omega⟩,by decide,⟨by omega,by omega⟩,trivial,qno (by omega),⟨b2,by omega,b4,by omega,by show 0<=(qa3 _).N;omega,by show (qa3 _).N<=100000;omega,by show 1<=(qa3 _).D;omega,by show (qa3 _).D<=100000;omega⟩,⟨by omega,by omega⟩,step _ ?_,by simp only [qbg];omega⟩
   unfold evK;rw [zF hr]
   rfl
 .rw [<-i5,qf4 i0 hlt,qf2,zF (by omega),zJ]
 .rw [<-i5,qpy hge,qf2,zJ]
theorem zct (a0:Int) (hp:I64 a0):qug a0:=by
 obtain ⟨k0,k1⟩:=qot a0 (show 1<=(1048576:Int) by decide)
 have ek:zd a0=quh (qdu a0 1048576):=rfl
 unfold qug
 dsimp only
 rw [ek]
 refine ⟨⟨by decide,by decide,hp.1,hp.2⟩,?_⟩
 revert k0 k1
 generalize qdu a0 1048576=k
 intro k0 k1
 have t15:=qff k0 (show (0:Int)<15 by decide)
 have d15:=kr k0 (show (0:Int)<=15 by decide)
 have d30:=kr k0 (show (0:Int)<=30 by decide)
 have d60:=kr k0 (show (0:Int)<=60 by decide)
 have d300:=kr k0 (show (0:Int)<=300 by decide)
 have d600:=kr k0 (show (0:Int)<=600 by decide)
 have t5:=qff d60.1 (show (0:Int)<5 by decide)
 have t9:=qff d600.1 (show (0:Int)<9 by decide)
 have hx:0<=ix ([1,2,1,3,3]:List Int) (Int.tmod (Int.tdiv k 60) 5)/\ix ([1,2,1,3,3]:List Int) (Int.tmod (Int.tdiv k 60) 5)<=3/\1<=ix ([1,1,2,2,1]:List Int) (Int.tmod (Int.tdiv k 60) 5)/\ix ([1,1,2,2,1]:List Int) (Int.tmod (Int.tdiv k 60) 5)<=2:=by
  revert t5
  generalize Int.tmod (Int.tdiv k 60) 5=j
  intro t5
  rcases (show j=0∨j=1∨j=2∨j=3∨j=4 by omega) with rfl | rfl | rfl | rfl | rfl<;>decide
 refine ⟨by decide,⟨by omega,by omega⟩,⟨by decide,by omega,by omega⟩,by decide,⟨by decide,by omega,by omega⟩,by decide,trivial,trivial,trivial,trivial,trivial,⟨by decide,by omega,by omega⟩,by decide,⟨by omega,by show _<(5:Int);omega⟩,
  trivial,trivial,trivial,trivial,trivial,⟨by decide,by omega,by omega⟩,by decide,⟨by omega,by show _<(5:Int);omega⟩,⟨by omega,by omega,by omega,by omega⟩,⟨by decide,by omega,by omega⟩,by decide,fun h=>?_,fun h=>?_⟩
 .have e:qk0 k=tT (1+Int.tmod (Int.tdiv k 600) 9) 2:=by unfold qk0;rw [zT h]
  unfold quh
  rw [e]
  exact ⟨⟨by decide,by omega,by omega⟩,by decide,⟨by omega,by omega⟩,⟨by omega,by omega,by decide,by decide⟩,rfl,rfl,rfl,rfl,rfl,rfl,rfl,rfl,rfl,rfl,rfl,trivial⟩
 .have e:qk0 k=(0,1):=by unfold qk0;rw [zF h]
  unfold quh
  rw [e]
  exact ⟨rfl,rfl,rfl,rfl,rfl,rfl,rfl,rfl,rfl,rfl,rfl,trivial⟩
theorem q44 {k:Int} (k0:0<=k):∃ f ∈ qmi,∃ v,zb6 k=(f.1,f.2.1)/\Tw (qk0 k).1 (qk0 k).2 v/\0<=v/\v<=54/\((qk0 k).1=0->(qk0 k).2=1)/\0<=(qk0 k).1:=by
 have hf:∃ f ∈ qmi,zb6 k=(f.1,f.2.1):=by
  have t5:=qff (kr k0 (show (0:Int)<=60 by decide)).1 (show (0:Int)<5 by decide)
  unfold zb6
  revert t5
  generalize Int.tmod (Int.tdiv k 60) 5=j
  intro t5
  rcases (show j=0∨j=1∨j=2∨j=3∨j=4 by omega) with rfl | rfl | rfl | rfl | rfl<;>decide
 obtain ⟨f,hf,e⟩:=hf
 refine ⟨f,hf,?_⟩
 rw [e]
 by_cases h:Int.tmod (Int.tdiv k 300) 2=1
 .have t9:=qff (kr k0 (show (0:Int)<=600 by decide)).1 (show (0:Int)<9 by decide)
  have e:qk0 k=tT (1+Int.tmod (Int.tdiv k 600) 9) 2:=by unfold qk0;rw [zT h]
  rw [e]
  revert t9
  generalize Int.tmod (Int.tdiv k 600) 9=j
  intro t9
  refine ⟨6 * (1+j),rfl,?_,by omega,by omega,?_⟩
  .rcases (show j=0∨j=1∨j=2∨j=3∨j=4∨j=5∨j=6∨j=7∨j=8 by omega) with rfl | rfl | rfl | rfl | rfl | rfl | rfl | rfl | rfl<;>exact ⟨by decide,by decide⟩
  .rcases (show j=0∨j=1∨j=2∨j=3∨j=4∨j=5∨j=6∨j=7∨j=8 by omega) with rfl | rfl | rfl | rfl | rfl | rfl | rfl | rfl | rfl<;>exact ⟨by decide,by decide⟩
 .have e:qk0 k=(0,1):=by unfold qk0;rw [zF h]
  rw [e]
  exact ⟨0,rfl,qz1,by decide,by decide,fun _=>rfl,by decide⟩
theorem q43 {l:List Event} (hc:qcw l 0 1) (hs:Six l) (hl:ln l<=10) (h1:0<ln l) (hr:(ix l 0).Rest=false) {n:Int} (hm:(mkC l (zd n)).2=0) :
  (kb l (mkC l (zd n)).1).2=0/\zd n ∈ (kb l (mkC l (zd n)).1).1/\ln (mkC l (zd n)).1<=11:=by
 obtain ⟨k0,_⟩:=qot n (show 1<=(1048576:Int) by decide)
 have ek:zd n=quh (qdu n 1048576):=rfl
 rw [ek] at hm ⊢
 revert k0 hm
 generalize qdu n 1048576=k
 intro hm k0
 obtain ⟨f,hf,v,e,d1,d2,d3,d4,d5⟩:=q44 k0
 obtain ⟨s,s1,s2,s3⟩:=zd6 hs
 have em:quh k=Canon.mk (qk0 k).1 (qk0 k).2 (Int.tmod k 15-7) (decide (Int.tmod (Int.tdiv k 30) 2=1)) (decide (Int.tmod (Int.tdiv k 15) 2=1)) f.1 f.2.1 0 0 0 0:=by
  unfold quh
  rw [e]
 rw [em] at hm ⊢
 exact q2e hc s1 hl (by omega) (by omega) (qm6 ⟨_,q42 (zK _) h1,hr⟩) hf d1 d2 d3 d4 d5 hm
theorem zj6 {x:Int} (h0:0<=x) (h:x≠0):0<x:=by omega
theorem zcx {α:Type} [Inhabited α] {l:List α} {x:α} (h:x ∈ l):∃ j,0<=j/\j<ln l/\ix l j=x:=by
 obtain ⟨i,hi,e⟩:=List.getElem_of_mem h
 exact ⟨i,Int.natCast_nonneg _,by simp only [ln];omega,by rw [qk6 hi,e]⟩
theorem qvq (a0:List Int) (a1:Int) (hp:ln a0<=9223372036854775807/\(∀ x ∈ a0,I64 x)/\I64 a1):qmk a0 a1:=by
 obtain ⟨h0,h1,h2⟩:=hp
 have hch:qcw (zz a0 10) 0 1:=qru (most:=10) (by decide) a0 0 0 1 (zK _) qu2
 have hl:ln (zz a0 10)<=10:=qx6 a0 0 0 1 (zK _) (by decide)
 have n0:=zm (zz a0 10)
 have T:True/\(true:Bool)=true/\True:=⟨trivial,rfl,trivial⟩
 have hfind:=fun hn hr he=>q43 hch (zal a0 10) hl hn hr (n:=a1) he
 refine ⟨⟨h0,by decide,by decide,h1⟩,h2,by omega,⟨fun _=>T,fun he=>⟨fun _=>T,fun hn=>⟨⟨zK _,by omega⟩,fun _=>T,fun hr=>⟨fun _=>T,fun hm=>⟨⟨zK _,zj6 (zm _) hm⟩,fun _=>⟨fun _=>T,fun _=>⟨rfl,rfl,rfl,rfl,rfl,rfl,rfl,rfl,rfl,rfl,rfl,⟨rfl,he,by omega,hr⟩,trivial⟩⟩,
  fun _=>⟨rfl,rfl,rfl,rfl,rfl,rfl,rfl,rfl,rfl,rfl,rfl,⟨rfl,he,by omega,hr⟩,trivial⟩⟩⟩⟩⟩⟩,fun y ⟨ey,he,hn,hr⟩=>?_⟩
 obtain ⟨f1,f2,f3⟩:=hfind hn hr he
 rw [<-ey] at f1 f2 f3
 have i1:∀ b i,qax a0 a1 b i↔(0<=i/\i<=ln (kb (zz a0 10) y).1/\∀ j,0<=j->j<i->ix (kb (zz a0 10) y).1 j=zd a1->b=true):=fun b i=>by rw [ey];exact Iff.rfl
 have m1:∀ b c i,0<=i->i<ln (kb (zz a0 10) y).1->ky a0 a1 b (i+1)<ky a0 a1 c i:=fun b c i i0 hi=>by rw [ey] at hi;simp only [ky];omega
 have hln:=q9v (zz a0 10) y
 refine ⟨⟨by omega,by omega⟩,(i1 _ _).2 ⟨zK _,zm _,fun j j0 j1=>by omega⟩,fun b i hi=>⟨fun hlt=>?_,fun hge=>?_⟩⟩
 .obtain ⟨i0,_,ib⟩:=(i1 _ _).1 hi
  obtain ⟨g1,g2⟩:=q2d (q42 i0 hlt)
  have gl:=qpj g2
  refine ⟨⟨i0,hlt⟩,by omega,fun h=>absurd g1 h,fun _=>⟨fun h=>absurd gl h,fun _=>⟨⟨zK _,zm _⟩,fun k ⟨k0,k1⟩=>⟨fun hk=>?_,fun hk=>?_⟩⟩⟩⟩
  .rw [<-ey] at k1
   have hk':=hk
   rw [<-gl] at hk'
   have a:=of_decide_eq_true (qkq g2 k0 hk')
   refine ⟨⟨k0,hk'⟩,⟨k0,hk⟩,fun h=>?_,fun _=>⟨⟨k0,hk'⟩,⟨k0,hk⟩,fun h=>absurd a.2.2.1 h,fun _=>⟨⟨k0,hk'⟩,⟨k0,hk⟩,fun h=>?_,fun _=>⟨⟨by omega,by omega⟩,rfl,rfl,rfl,rfl,rfl,rfl,rfl,rfl,rfl,rfl,rfl,⟨by omega,by rw [<-ey];omega⟩,?_⟩⟩⟩⟩
   .rcases h with h | h
    .exact absurd a.1 h
    .exact absurd a.2.1 h
   .rcases h with h | h | h
    .exact absurd a.2.2.2.1 h
    .exact absurd a.2.2.2.2.1 h
    .exact absurd a.2.2.2.2.2 h
   .simp only [qcy,<-ey];omega
  .refine ⟨fun hb=>⟨⟨by omega,by omega⟩,rfl,rfl,rfl,rfl,rfl,rfl,rfl,rfl,rfl,rfl,rfl,(i1 _ _).2 ⟨by omega,by omega,fun _ _ _ _=>rfl⟩,m1 _ _ _ i0 hlt⟩,fun hb=>⟨⟨i0,hlt⟩,⟨by omega,by omega⟩,rfl,rfl,rfl,rfl,rfl,rfl,rfl,rfl,rfl,rfl,rfl,(i1 _ _).2 ⟨by omega,by omega,fun j j0 j1 hj=>?_⟩,m1 _ _ _ i0 hlt⟩⟩
   by_cases hji:j=i
   .subst hji
    rw [hj]
    simp
   .have:=ib j j0 (by omega) hj
    rw [hb] at this
    cases this
 .obtain ⟨i0,_,ib⟩:=(i1 _ _).1 hi
  obtain ⟨j,j0,j1,hj⟩:=zcx f2
  have hb:=ib j j0 (by omega) hj
  exact ⟨fun _=>⟨fun _=>T,fun h=>by rw [hb] at h;cases h⟩,fun h=>absurd f1 h⟩
end Go.Proofs.YtcnoipglgpkpeaaGreatDoor
