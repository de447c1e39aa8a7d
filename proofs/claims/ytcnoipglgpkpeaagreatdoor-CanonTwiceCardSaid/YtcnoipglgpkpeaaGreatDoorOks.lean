import Derived.Test.YtcnoipglgpkpeaaGreatDoorVcs
import Derived.Test.YtcnoipglgpkpeaaGreatDoorDall
namespace Go.Proofs.YtcnoipglgpkpeaaGreatDoor
open Go Go.E2 Go.E3
set_option maxRecDepth 100000
theorem q1p (a0 a1:Int) (hp:0<=a0/\0<=a1/\a0<=4611686018427387904/\a1<=4611686018427387904):qrp a0 a1:=by
 obtain ⟨h0,h1,h2,h3⟩:=hp
 refine ⟨fun h=>⟨?_,trivial⟩,fun h=>?_⟩
 .rw [h,quw h0]
 .have t:=qnw h0 (show 0<a1 by omega)
  have q:=qa3 h0 h1
  exact ⟨⟨h,by omega,by omega⟩,h,⟨⟨h1,t.1,h3,by omega⟩,by omega⟩,quv h0 h1,trivial⟩
theorem q4n (a0 a1:Int):qn5 a0 a1:=by
 unfold qn5 ql
 unhygienic (repeat' (first | exact trivial | apply And.intro | intro))
 all_goals (try split)
 all_goals (try split)
 all_goals omega
theorem q5m (a0:List Time) (hp:ln a0<=1000000000):qum a0:=by
 refine ⟨⟨by omega,k7 _,rfl⟩,fun x ⟨i0,i1,i2⟩=>⟨fun h=>?_,fun h=>⟨?_,trivial⟩⟩⟩
 .rw [qfb i0 h] at i2
  simp only [qc2] at i2
  refine ⟨⟨i0,h⟩,trivial,fun hc=>⟨?_,trivial⟩,fun hc=>⟨by omega,⟨by omega,by omega,?_⟩,?_⟩⟩
  .rw [zT hc] at i2;exact i2
  .rw [zF (by omega)] at i2;exact i2
  .simp only [qfg];omega
 .rw [qok h] at i2;exact i2
theorem q68 (a0 a1:Int) (hp:0<=a0/\1<=a1/\a0<=4611686018427387904/\a1<=4611686018427387904):qxu a0 a1:=by
 refine ⟨fun h=>absurd h (by omega),fun _=>⟨fun h=>absurd h (by omega),fun _=>⟨fun h=>absurd h (by omega),fun _=>?_⟩⟩⟩
 obtain ⟨h0,h1,h2,h3⟩:=hp
 have g:=qjt (a:=a0) h1
 have q1:=qa3 h0 (qd0 a0 a1)
 have q2:=qa3 (show 0<=a1 by omega) (qd0 a0 a1)
 refine ⟨⟨h0,by omega,h2,h3⟩,⟨by omega,by omega,by omega⟩,⟨by omega,by omega,by omega⟩,fun h=>?_,fun h=>⟨fun h'=>?_,fun h'=>?_⟩⟩
 .have e:ofT a0 a1=(0,0,4):=by unfold ofT;rw [zT (.inl h)]
  rw [e];exact ⟨rfl,rfl,rfl,trivial⟩
 .have e:ofT a0 a1=(0,0,4):=by unfold ofT;rw [zT (.inr h')]
  rw [e];exact ⟨rfl,rfl,rfl,trivial⟩
 .have e:ofT a0 a1=(a0.tdiv (qj a0 a1),a1.tdiv (qj a0 a1),0):=by unfold ofT;rw [zF (by omega)]
  rw [e];exact ⟨rfl,rfl,rfl,trivial⟩
theorem q1c {a0 a1 a2 a3:Int} (h1:ql a0 a1=0) (h2:ql a2 a3=0):I64 (a0 * a3)/\I64 (a2 * a1)/\I64 ((a0 * a3)+(a2 * a1))/\I64 (a1 * a3)/\
  (0<=((a0 * a3)+(a2 * a1))/\1<=(a1 * a3)/\((a0 * a3)+(a2 * a1))<=4611686018427387904/\(a1 * a3)<=4611686018427387904)/\I64 ((a0 * a3)-(a2 * a1)):=by
 have b1:=qcu h1
 have b2:=qcu h2
 have p1:=qiy b1.1 b1.2.1 (show 0<=a3 by omega) b2.2.2.2
 have p2:=qiy b2.1 b2.2.1 (show 0<=a1 by omega) b1.2.2.2
 have p3:=qww b1.2.2.1 b2.2.2.1
 have p4:=qiy (show 0<=a1 by omega) b1.2.2.2 (show 0<=a3 by omega) b2.2.2.2
 omega
theorem zaq (a0 a1 a2 a3:Int):q2x a0 a1 a2 a3:=by
 have hl:ln [Time.mk a0 a1,Time.mk a2 a3]=2:=rfl
 refine ⟨trivial,trivial,by omega,fun h=>?_,fun h=>?_⟩
 .rw [qko] at h ⊢
  by_cases h1:ql a0 a1≠0
  .have e:zh a0 a1 a2 a3=(0,0,ql a0 a1):=by unfold zh;rw [zT h1]
   rw [e,zT h1];exact ⟨rfl,rfl,rfl,trivial⟩
  .rw [zF h1] at h ⊢
   have e:zh a0 a1 a2 a3=(0,0,ql a2 a3):=by unfold zh;rw [zF h1,zT h]
   rw [e];exact ⟨rfl,rfl,rfl,trivial⟩
 .rw [qko] at h
  have h1:ql a0 a1=0:=by
   by_cases h1:ql a0 a1≠0
   .rw [zT h1] at h;exact h
   .omega
  rw [zF (by omega)] at h
  have e:zh a0 a1 a2 a3=ofT (a0 * a3+a2 * a1) (a1 * a3):=by unfold zh;rw [zF (by omega),zF (by omega)]
  obtain ⟨b1,b2,b3,b4,b5,_⟩:=q1c h1 h
  rw [e];exact ⟨b1,b2,b3,b4,b5,rfl,rfl,rfl,trivial⟩
theorem q4k (a0 a1 a2:Int):qn4 a0 a1 a2:=by
 unfold qn4 qy
 unhygienic (repeat' (first | exact trivial | apply And.intro | intro))
 all_goals (try split)
 all_goals omega
section
variable {a0 a1 a2 a3 a4 a5 a6:Int} {a7:Bool} {a8 a9:Int}
theorem zgc (h:ql a0 a1≠0):qab ⟨a0,a1,a2,a3,a4,a5,a6,a7,a8,a9⟩=ql a0 a1:=by simp [qab,h]
theorem zgd (h:ql a0 a1=0) (h2:ql a2 a3≠0):qab ⟨a0,a1,a2,a3,a4,a5,a6,a7,a8,a9⟩=ql a2 a3:=by simp [qab,h,h2]
theorem zge (h:ql a0 a1=0) (h2:ql a2 a3=0) (h3:a2=0):qab ⟨a0,a1,a2,a3,a4,a5,a6,a7,a8,a9⟩=2:=by subst h3;simp [qab,h,h2]
theorem zgf (h:ql a0 a1=0) (h2:ql a2 a3=0) (h3:a2≠0) (h4:a7=true) (h5:a4≠0∨(a5≠0∨a6≠0)):qab ⟨a0,a1,a2,a3,a4,a5,a6,a7,a8,a9⟩=3:=by
 unfold qab
 dsimp only
 rw [zF (by omega),zF (by omega),zF h3,zT ⟨h4,h5⟩]
theorem zgg (h:ql a0 a1=0) (h2:ql a2 a3=0) (h3:a2≠0) (h4:a7=true) (h5:a4=0/\(a5=0/\a6=0)):qab ⟨a0,a1,a2,a3,a4,a5,a6,a7,a8,a9⟩=if a8<0∨a9<0 then 2 else 0:=by
 unfold qab
 dsimp only
 rw [zF (by omega),zF (by omega),zF h3,zF (fun hh=>by have:=hh.2;omega),zF (fun hh=>by rw [h4] at hh;cases hh.1)]
theorem zgh (h:ql a0 a1=0) (h2:ql a2 a3=0) (h3:a2≠0) (h4:a7=false) (h5:qy a4 a5 a6≠0):qab ⟨a0,a1,a2,a3,a4,a5,a6,a7,a8,a9⟩=qy a4 a5 a6:=by
 unfold qab
 dsimp only
 rw [zF (by omega),zF (by omega),zF h3,zF (fun hh=>by rw [h4] at hh;cases hh.1),zT ⟨h4,h5⟩]
theorem zgi (h:ql a0 a1=0) (h2:ql a2 a3=0) (h3:a2≠0) (h4:a7=false) (h5:qy a4 a5 a6=0):qab ⟨a0,a1,a2,a3,a4,a5,a6,a7,a8,a9⟩=if a8<0∨a9<0 then 2 else 0:=by
 unfold qab
 dsimp only
 rw [zF (by omega),zF (by omega),zF h3,zF (fun hh=>by rw [h4] at hh;cases hh.1),zF (fun hh=>hh.2 h5)]
end
theorem q9h {x:Event} {n d e:Int} (h:qab x=e) (he:e≠0):qh6 x n d=e:=by unfold qh6;rw [h,zT he]
theorem q9i {x:Event} {n d:Int} (h:qab x=0) (h2:x.AtN≠n∨x.AtD≠d):qh6 x n d=6:=by unfold qh6;rw [zF (by omega),zT h2]
theorem qzt {x:Event} {n d:Int} (h:qab x=0) (h2:x.AtN=n/\x.AtD=d):qh6 x n d=(zh x.AtN x.AtD x.DurN x.DurD).2.2:=by unfold qh6;rw [zF (by omega),zF (by omega)]
theorem zb9 (a0 a1 a2 a3 a4 a5 a6:Int) (a7:Bool) (a8 a9:Int):q3x a0 a1 a2 a3 a4 a5 a6 a7 a8 a9:=by
 have hl:ln [Time.mk a0 a1,Time.mk a2 a3]=2:=rfl
 refine ⟨trivial,trivial,⟨by omega,by omega,fun h=>by omega,fun h=>by omega⟩,fun x ⟨i0,i1,i2,i3⟩=>⟨fun h=>?_,fun h=>?_⟩⟩
 .rcases (show x=0∨x=1 by omega) with rfl | rfl
  .refine ⟨⟨by omega,by omega⟩,trivial,fun hc=>⟨(zgc hc).symm,trivial⟩,fun hc=>⟨by omega,rfl,rfl,rfl,rfl,rfl,rfl,rfl,rfl,rfl,rfl,⟨by omega,by omega,fun _=>hc,fun h=>by omega⟩,?_⟩⟩
   simp only [qfl];omega
  .refine ⟨⟨by omega,by omega⟩,trivial,fun hc=>⟨(zgd (i2 (by omega)) hc).symm,trivial⟩,fun hc=>⟨by omega,rfl,rfl,rfl,rfl,rfl,rfl,rfl,rfl,rfl,rfl,⟨by omega,by omega,fun _=>i2 (by omega),fun _=>hc⟩,?_⟩⟩
   simp only [qfl];omega
 .have c1:=i2 (by omega)
  have c2:=i3 (by omega)
  refine ⟨fun h3=>⟨(zge c1 c2 h3).symm,trivial⟩,fun h3=>⟨fun h4=>⟨fun h5=>⟨(zgf c1 c2 h3 h4 h5).symm,trivial⟩,fun h5=>?_⟩,fun h4=>⟨trivial,fun h5=>⟨(zgh c1 c2 h3 h4 h5).symm,trivial⟩,fun h5=>?_⟩⟩⟩
  .rw [zgg c1 c2 h3 h4 h5]
   refine ⟨fun h6=>⟨?_,trivial⟩,fun h6=>⟨fun h7=>⟨?_,trivial⟩,fun h7=>⟨?_,trivial⟩⟩⟩
   .rw [zT (.inl h6)]
   .rw [zT (.inr h7)]
   .rw [zF (by omega)]
  .rw [zgi c1 c2 h3 h4 h5]
   refine ⟨fun h6=>⟨?_,trivial⟩,fun h6=>⟨fun h7=>⟨?_,trivial⟩,fun h7=>⟨?_,trivial⟩⟩⟩
   .rw [zT (.inl h6)]
   .rw [zT (.inr h7)]
   .rw [zF (by omega)]
theorem q1l {a0:List Event} {x n d:Int} (hl:ln a0<=2000) (h0:0<=x) (h1:x<ln a0) (hi:qbs (fr a0 x) x n d=qbs a0 0 0 1) :
  (qh6 (ix a0 x) n d≠0->qz a0=(qh6 (ix a0 x) n d,x))/\(qh6 (ix a0 x) n d=0->qbs (fr a0 (x+1)) (x+1) (zh (ix a0 x).AtN (ix a0 x).AtD (ix a0 x).DurN (ix a0 x).DurD).1 (zh (ix a0 x).AtN (ix a0 x).AtD (ix a0 x).DurN (ix a0 x).DurD).2.1=qbs a0 0 0 1):=by
 rw [qfb h0 h1] at hi
 simp only [qbs] at hi
 refine ⟨fun h=>?_,fun h=>?_⟩
 .rw [zT h] at hi
  unfold qz
  rw [zF (by omega)]
  exact hi.symm
 .rw [zF (by omega)] at hi
  exact hi
theorem q5c {a0:List Event} {x n d:Int} (hl:ln a0<=2000) (h1:ln a0<=x) (hi:qbs (fr a0 x) x n d=qbs a0 0 0 1):qz a0=(0,0):=by
 rw [qok h1] at hi
 unfold qz
 rw [zF (by omega)]
 exact hi.symm
theorem q1k {a0:List Event} (h:2000<ln a0):qz a0=(11,0):=by unfold qz;rw [zT h]
theorem q4e (a0:List Event) (hp:ln a0<=1000000000):qt2 a0:=by
 refine ⟨fun h=>?_,fun hl=>⟨⟨by omega,k7 _,rfl⟩,fun x n d ⟨i0,i1,i2⟩=>⟨fun h=>?_,fun h=>?_⟩⟩⟩
 .rw [q1k h];exact ⟨rfl,rfl,trivial⟩
 .obtain ⟨s1,s2⟩:=q1l hl i0 h i2
  refine ⟨⟨i0,h⟩,trivial,fun hc=>?_,fun hc=>⟨fun ho=>?_,fun ho=>⟨trivial,fun ha=>?_,fun ha=>⟨by omega,⟨by omega,by omega,?_⟩,?_⟩⟩⟩⟩
  .have e:qh6 (ix a0 x) n d=qab (ix a0 x):=q9h rfl hc
   rw [s1 (by rw [e];exact hc),e]
   exact ⟨rfl,rfl,trivial⟩
  .have e:qh6 (ix a0 x) n d=6:=q9i hc ho
   rw [s1 (by rw [e];omega),e]
   exact ⟨rfl,rfl,trivial⟩
  .have e:qh6 (ix a0 x) n d=_:=qzt hc ho
   rw [s1 (by rw [e];exact ha),e]
   exact ⟨rfl,rfl,trivial⟩
  .have e:qh6 (ix a0 x) n d=_:=qzt hc ho
   exact s2 (by rw [e];exact ha)
  .simp only [qfd];omega
 .rw [q5c hl h i2];exact ⟨rfl,rfl,trivial⟩
theorem zb2 {n:Int} (h:0<=n):∃ m:Nat,n=m:=⟨n.toNat,by omega⟩
theorem q5d {a b c d:Int} (hp:qta a b c d):qj (a.tdiv (qj a d) * c.tdiv (qj c b)) (b.tdiv (qj c b) * d.tdiv (qj a d))=1:=by
 obtain ⟨h0,_,h2,_,h4,_,h6,_,h8,h9⟩:=hp
 obtain ⟨A,rfl⟩:=zb2 h0
 obtain ⟨B,rfl⟩:=zb2 (show 0<=b by omega)
 obtain ⟨C,rfl⟩:=zb2 h4
 obtain ⟨D,rfl⟩:=zb2 (show 0<=d by omega)
 have hB:0<B:=by omega
 have hD:0<D:=by omega
 have e:∀ x y:Nat,qj (x:Int) (y:Int)=((Nat.gcd x y:Nat):Int):=fun x y=>by simp [qj]
 rw [e] at h8 h9
 have c1 : Nat.Coprime A B := by have : Nat.gcd A B = 1 := by omega
                                 exact this
 have c2 : Nat.Coprime C D := by have : Nat.gcd C D = 1 := by omega
                                 exact this
 rw [e A D,e C B]
 simp only [<-Int.ofNat_tdiv,<-Int.natCast_mul]
 rw [e]
 have g1:0<Nat.gcd A D:=Nat.gcd_pos_of_pos_right _ hD
 have g2:0<Nat.gcd C B:=Nat.gcd_pos_of_pos_right _ hB
 have dA:A / Nat.gcd A D ∣ A:=Nat.div_dvd_of_dvd (Nat.gcd_dvd_left A D)
 have dD:D / Nat.gcd A D ∣ D:=Nat.div_dvd_of_dvd (Nat.gcd_dvd_right A D)
 have dC:C / Nat.gcd C B ∣ C:=Nat.div_dvd_of_dvd (Nat.gcd_dvd_left C B)
 have dB:B / Nat.gcd C B ∣ B:=Nat.div_dvd_of_dvd (Nat.gcd_dvd_right C B)
 have k1:Nat.Coprime (A / Nat.gcd A D) (B / Nat.gcd C B):=Nat.Coprime.coprime_dvd_left dA (Nat.Coprime.coprime_dvd_right dB c1)
 have k2:Nat.Coprime (A / Nat.gcd A D) (D / Nat.gcd A D):=Nat.coprime_div_gcd_div_gcd g1
 have k3:Nat.Coprime (C / Nat.gcd C B) (B / Nat.gcd C B):=Nat.coprime_div_gcd_div_gcd g2
 have k4:Nat.Coprime (C / Nat.gcd C B) (D / Nat.gcd A D):=Nat.Coprime.coprime_dvd_left dC (Nat.Coprime.coprime_dvd_right dD c2)
 have k:Nat.Coprime (A / Nat.gcd A D * (C / Nat.gcd C B)) (B / Nat.gcd C B * (D / Nat.gcd A D)):=Nat.Coprime.mul_left (Nat.Coprime.mul_right k1 k2) (Nat.Coprime.mul_right k3 k4)
 have:Nat.gcd (A / Nat.gcd A D * (C / Nat.gcd C B)) (B / Nat.gcd C B * (D / Nat.gcd A D))=1:=k
 omega
theorem q30 {n g:Int} (h:1<=n) (e:g * n.tdiv g=n) (h0:0<=n.tdiv g):1<=n.tdiv g:=by
 by_cases hz:n.tdiv g=0
 .rw [hz,Int.mul_zero] at e;omega
 .omega
theorem q94 {a b m:Int} (ha:0<a) (hm:0<=m):m.tdiv a<b↔m<b * a:=by
 rw [Int.tdiv_eq_ediv_of_nonneg hm]
 exact Int.ediv_lt_iff_lt_mul ha
theorem q6p (a0 a1 a2 a3:Int) (hp:qta a0 a1 a2 a3):qo7 a0 a1 a2 a3:=by
 have hcop:=q5d hp
 obtain ⟨h0,h1,h2,h3,h4,h5,h6,h7,h8,h9⟩:=hp
 have g1:=qjt (a:=a0) h6
 have g2:=qjt (a:=a2) h2
 have q0:=qa3 h0 (qd0 a0 a3)
 have q3:=qa3 (show 0<=a3 by omega) (qd0 a0 a3)
 have q2:=qa3 h4 (qd0 a2 a1)
 have q1:=qa3 (show 0<=a1 by omega) (qd0 a2 a1)
 have p3:=q30 h6 (qr7 (a:=a0) (show 0<=a3 by omega)) q3.1
 have p1:=q30 h2 (qr7 (a:=a2) (show 0<=a1 by omega)) q1.1
 have eT:kj a0 a1 a2 a3=if (0<a0.tdiv (qj a0 a3)/\Int.tdiv 1099511627776 (a0.tdiv (qj a0 a3))<a2.tdiv (qj a2 a1))∨1048576<a1.tdiv (qj a2 a1) * a3.tdiv (qj a0 a3) then (0,0,4)
  else (a0.tdiv (qj a0 a3) * a2.tdiv (qj a2 a1),a1.tdiv (qj a2 a1) * a3.tdiv (qj a0 a3),0):=rfl
 have eO:∀ n d:Int,qj n d=1->n<=1099511627776->d<=1048576->ofT n d=(n,d,0):=fun n d hg hn hd=>by
  unfold ofT
  rw [hg,Int.tdiv_one,Int.tdiv_one,zF (by omega)]
 have b0:∀ z:Int,0<=z->0<=Int.tdiv 1099511627776 z/\Int.tdiv 1099511627776 z<=1099511627776:=fun z hz=>qa3 (by decide) hz
 have b1:∀ z:Int,0<=z->0<=Int.tdiv 1048576 z/\Int.tdiv 1048576 z<=1048576:=fun z hz=>qa3 (by decide) hz
 unfold qo7
 rw [eT]
 have z0:qj a0 a3≠0:=by omega
 have z2:qj a2 a1≠0:=by omega
 revert hcop q0 q1 q2 q3 p1 p3 z0 z2 g1 g2
 generalize a0.tdiv (qj a0 a3)=x0
 generalize a1.tdiv (qj a2 a1)=x1
 generalize a2.tdiv (qj a2 a1)=x2
 generalize a3.tdiv (qj a0 a3)=x3
 intro hcop g1 g2 q0 q3 q2 q1 p3 p1 z0 z2
 have bx0:=b0 x0 q0.1
 have bx3:=b1 x3 q3.1
 have e1:0<x0->(Int.tdiv 1099511627776 x0<x2↔1099511627776<x2 * x0):=fun h=>q94 h (by decide)
 have e2:Int.tdiv 1048576 x3<x1↔1048576<x1 * x3:=q94 (by omega) (by decide)
 have pn:0<=x0 * x2:=Int.mul_nonneg q0.1 q2.1
 have pd:1<=x1 * x3:=qww p1 p3
 have fin:x0 * x2<=1099511627776->x1 * x3<=1048576->ofT (x0 * x2) (x1 * x3)=(x0 * x2,x1 * x3,0):=eO _ _ hcop
 have zero:x0<=0->x0 * x2=0:=fun h=>by
  have:x0=0:=by omega
  rw [this,Int.zero_mul]
 have cm:=Int.mul_comm x2 x0
 refine ⟨⟨h0,by omega,by omega,by omega⟩,⟨h4,by omega,by omega,by omega⟩,⟨z0,by omega,by omega⟩,⟨z0,by omega,by omega⟩,⟨z2,by omega,by omega⟩,⟨z2,by omega,by omega⟩,fun hz=>⟨⟨by omega,by omega,by omega⟩,fun hc=>?_,fun hc=>⟨fun hd=>⟨⟨by omega,by omega,by omega⟩,fun he=>?_,fun he=>?_⟩,fun hd=>absurd hd (by omega)⟩⟩,fun hz=>⟨fun hd=>⟨⟨by omega,by omega,by omega⟩,fun he=>?_,fun he=>?_⟩,fun hd=>absurd hd (by omega)⟩⟩
 .rw [zT (.inl ⟨hz,hc⟩)];exact ⟨rfl,rfl,rfl,trivial⟩
 .rw [zT (.inr (e2.1 he))];exact ⟨rfl,rfl,rfl,trivial⟩
 .have n1:x0 * x2<=1099511627776:=by have:=e1 hz;omega
  have n2:x1 * x3<=1048576:=by omega
  rw [zF (by omega),fin n1 n2];exact ⟨⟨by omega,by omega⟩,⟨by omega,by omega⟩,⟨pn,pd,by omega,by omega⟩,rfl,rfl,rfl,trivial⟩
 .rw [zT (.inr (e2.1 he))];exact ⟨rfl,rfl,rfl,trivial⟩
 .have n1:x0 * x2<=1099511627776:=by have:=zero hz;omega
  have n2:x1 * x3<=1048576:=by omega
  rw [zF (by omega),fin n1 n2];exact ⟨⟨by omega,by omega⟩,⟨by omega,by omega⟩,⟨pn,pd,by omega,by omega⟩,rfl,rfl,rfl,trivial⟩
theorem q7x {n d:Int} (h:ql n d=0):qj n d=1:=by
 have hb:=qcu h
 have hg:=qjt (a:=n) hb.2.2.1
 unfold ql at h
 rw [zF (by omega)] at h
 split at h<;>omega
theorem zax (a0 a1 a2 a3:Int):q2z a0 a1 a2 a3:=by
 have hl:ln [Time.mk a0 a1,Time.mk a2 a3]=2:=rfl
 refine ⟨trivial,trivial,by omega,fun h=>?_,fun h=>?_⟩
 .rw [qko] at h ⊢
  unfold qcf
  by_cases h1:ql a0 a1≠0
  .rw [zT h1,zT h1];exact ⟨rfl,rfl,rfl,trivial⟩
  .rw [zF h1] at h
   rw [zF h1,zF h1,zT h];exact ⟨rfl,rfl,rfl,trivial⟩
 .rw [qko] at h
  have h1:ql a0 a1=0:=by
   by_cases h1:ql a0 a1≠0
   .rw [zT h1] at h;exact h
   .omega
  rw [zF (by omega)] at h
  have k1:=qcu h1
  have k2:=qcu h
  have e:qcf a0 a1 a2 a3=kj a0 a1 a2 a3:=by unfold qcf;rw [zF (by omega),zF (by omega)]
  rw [e]
  exact ⟨⟨k1.1,k1.2.1,k1.2.2.1,by omega,k2.1,k2.2.1,k2.2.2.1,by omega,q7x h1,q7x h⟩,rfl,rfl,rfl,trivial⟩
theorem q7c (a0 a1 a2 a3:Int):qqy a0 a1 a2 a3:=by
 have q:=@qh7 a0 a1 a2
 have t:0<=7 * a1+a0+a3->0<=Int.tdiv (7 * a1+a0+a3) 7/\Int.tdiv (7 * a1+a0+a3) 7<=7 * a1+a0+a3:=fun h=>qa3 h (by decide)
 unfold qqy kf qjc
 unhygienic (repeat' (first | exact trivial | apply And.intro | intro))
 all_goals (try split)
 all_goals (try split)
 all_goals (try split)
 all_goals first | omega | rfl
theorem q04 (a0 a1 a2 a3 a4 a5:Int):qlm a0 a1 a2 a3 a4 a5:=by
 have q:=@qh7 a0 a1 a2
 have q2:=@qh7 a3 a4 a5
 have t:0<=2 * (7 * a4+a3)-(7 * a1+a0)->0<=Int.tdiv (2 * (7 * a4+a3)-(7 * a1+a0)) 7/\Int.tdiv (2 * (7 * a4+a3)-(7 * a1+a0)) 7<=2 * (7 * a4+a3)-(7 * a1+a0):=fun h=>qa3 h (by decide)
 unfold qlm zj qjc
 unhygienic (repeat' (first | exact trivial | apply And.intro | intro))
 all_goals (try split)
 all_goals (try split)
 all_goals (try split)
 all_goals first | omega | rfl
theorem q4h (a0 a1 a2 a3:Int):qn3 a0 a1 a2 a3:=by
 unfold qn3 jr
 unhygienic (repeat' (first | exact trivial | apply And.intro | intro))
 all_goals (try split)
 all_goals omega
theorem q4b (a0 a1 a2:Int) (a3 a4:Bool) (a5 a6 a7 a8 a9 a10:Int):qn2 a0 a1 a2 a3 a4 a5 a6 a7 a8 a9 a10:=by
 unfold qn2 qja
 unhygienic (repeat' (first | exact trivial | apply And.intro | intro))
 all_goals (try split)
 all_goals (try split)
 all_goals (try split)
 all_goals (try split)
 all_goals (try split)
 all_goals omega
theorem q45 (a0 a1:Int):qn8 a0 a1:=by
 unfold qn8 qhd
 unhygienic (repeat' (first | exact trivial | apply And.intro | intro))
 all_goals (try split)
 all_goals (try split)
 all_goals omega
theorem q61 (a0:List Event) (hp:ln a0<=1000000000):qxr a0:=
 fun _ hx=>⟨fun h=>⟨(hx h).symm,trivial⟩,fun _=>⟨qgj (l:=([]:List Event)) (by rw [qsl];omega),rfl,trivial⟩⟩
theorem q5j (a0:List Event) (hp:ln a0<=1000000000):qul a0:=by
 refine ⟨⟨zK _,k7 _,rfl⟩,fun i ⟨i0,i1,i2⟩=>⟨fun hi=>⟨⟨i0,hi⟩,fun hr=>?_,fun hr=>?_⟩,fun hi=>?_⟩⟩
 .rw [qfb i0 hi] at i2
  rw [<-i2]
  unfold qt
  rw [zF (by rw [hr];simp)]
  exact ⟨rfl,rfl,rfl,rfl,trivial⟩
 .rw [qfb i0 hi] at i2
  unfold qt at i2
  rw [zT hr] at i2
  refine ⟨⟨by omega,by omega⟩,⟨by omega,by omega,?_⟩,?_⟩
  .rw [i2]
   cases a0 with
   | nil=>rfl
   | cons x l=>rfl
  .simp only [qff];omega
 .rw [qok hi] at i2
  rw [<-i2]
  exact ⟨rfl,rfl,rfl,rfl,trivial⟩
theorem all_nil (f:Event->Event) (g:Event->Int):qgp f g []=qap (([]:List Event).map f):=by unfold qgp qh5;rw [zF (by simp)]
theorem qfm {M c:List Event} {i n d:Int} {r:List Event×Int} (hL:ln M=0) (hr:r=qap M) (h:ChInv M c i n d):c=r.1/\(0:Int)=r.2/\True:=by
 obtain ⟨_,k1,k2⟩:=qls hL hr h h.i0
 exact ⟨k1,k2,trivial⟩
theorem zdh {f:Int->Int->Int->Int×Int×Int×Int} {x:Event} (h:x.Rest=true):ke f x=x/\qe4 f x=0:=by
 unfold ke qe4
 rw [zT h,zT h]
 exact ⟨rfl,rfl⟩
theorem zdg {f:Int->Int->Int->Int×Int×Int×Int} {x:Event} (h:x.Rest=false):ke f x = {x with PitchStep:=(f x.PitchStep x.PitchOctave x.PitchAlter).1,PitchOctave:=(f x.PitchStep x.PitchOctave x.PitchAlter).2.1,PitchAlter:=(f x.PitchStep x.PitchOctave x.PitchAlter).2.2.1}/\
  qe4 f x=(f x.PitchStep x.PitchOctave x.PitchAlter).2.2.2:=by
 unfold ke qe4
 rw [zF (by simp [h]),zF (by simp [h])]
 exact ⟨rfl,rfl⟩
theorem q07 (a0:List Event) (a1:Int) (a2:Int) (a3:Int) (hp:ln a0<=1000000000):qqx a0 a1 a2 a3:=by
 have hz:ln ([]:List Event)=0:=rfl
 have hb0:(qz a0).1≠0->qa2 a0 a1 a2 a3=([],(qz a0).1):=fun h0=>by unfold qa2;rw [zT h0]
 have hb1:(qz a0).1=0->qy a1 a2 a3≠0->qa2 a0 a1 a2 a3=([],qy a1 a2 a3):=fun h0 h1=>by unfold qa2;rw [zF (by omega),zT h1]
 have hr:(qz a0).1=0->qy a1 a2 a3=0->qa2 a0 a1 a2 a3=qgp (ke fun x y z=>zj x y z a1 a2 a3) (qe4 fun x y z=>zj x y z a1 a2 a3) a0:=fun h0 h1=>by unfold qa2;rw [zF (by omega),zF (by omega)]
 refine ⟨hp,fun h0=>?_,fun h0=>⟨trivial,fun h1=>?_,fun h1=>fun x hx=>⟨fun ht=>?_,fun _=>⟨qgj (l:=([]:List Event)) (by omega),fun hn=>?_,fun hn=>?_⟩⟩⟩⟩
 .rw [hb0 h0];exact ⟨rfl,rfl,trivial⟩
 .rw [hb1 h0 h1];exact ⟨rfl,rfl,trivial⟩
 .obtain rfl:=hx ht
  have hR:=(hr h0 h1).trans (all_nil _ _)
  exact ⟨qej _ _ _,fun i c h=>⟨fun hi=>absurd hi (by have:=MpInv.i0 h;omega),fun hi=>⟨qav _,fun i c n d h=>⟨fun hi=>absurd hi (by have:=ChInv.i0 h;omega),fun hi=>qfm (M:=([]:List Event).map (ke fun x y z=>zj x y z a1 a2 a3)) rfl hR h⟩⟩⟩⟩
 .have hR:=hr h0 h1
  refine ⟨qej _ _ _,fun i c h=>⟨fun hi=>?_,fun hi=>?_⟩⟩
  .obtain ⟨k0,k1,k2,k3⟩:=q16 hR h hi
   refine ⟨⟨k0,hi⟩,k1,fun ht=>?_,fun ht=>?_⟩
   .obtain ⟨e1,e2⟩:=zdh (f:=fun x y z=>zj x y z a1 a2 a3) ht
    rw [e1] at k3
    exact ⟨⟨k0,hi⟩,k1,trivial,⟨by omega,by omega⟩,rfl,rfl,rfl,(k3 e2).1,(k3 e2).2⟩
   .obtain ⟨e1,e2⟩:=zdg (f:=fun x y z=>zj x y z a1 a2 a3) ht
    rw [e1,e2] at k3
    rw [e2] at k2
    exact ⟨trivial,fun he=>⟨(k2 he).1,(k2 he).2,trivial⟩,fun he=>⟨⟨k0,hi⟩,k1,trivial,⟨by omega,by omega⟩,rfl,rfl,rfl,(k3 he).1,(k3 he).2⟩⟩
  .obtain ⟨e1,e2⟩:=q17 hR h hi
   subst e1
   refine ⟨qav _,fun i c n d h=>⟨fun hi=>?_,fun hi=>?_⟩⟩
   .obtain ⟨k0,k1,k2,k3,k4⟩:=qoc (qj2 _ _) e2 h hi
    exact ⟨⟨k0,hi⟩,k1,trivial,⟨k0,hi⟩,k2,trivial,fun he=>⟨(k3 he).1,(k3 he).2,trivial⟩,fun he=>⟨⟨by omega,by omega⟩,rfl,rfl,rfl,(k4 he).1,(k4 he).2⟩⟩
   .obtain ⟨k0,k1,k2⟩:=qls (qj2 _ _) e2 h hi
    exact ⟨k0,k1,k2,trivial⟩
 .obtain rfl:=qnh hn
  have hR:=(hr h0 h1).trans (all_nil _ _)
  exact ⟨qej _ _ _,fun i c h=>⟨fun hi=>absurd hi (by have:=MpInv.i0 h;omega),fun hi=>⟨qav _,fun i c n d h=>⟨fun hi=>absurd hi (by have:=ChInv.i0 h;omega),fun hi=>qfm (M:=([]:List Event).map (ke fun x y z=>zj x y z a1 a2 a3)) rfl hR h⟩⟩⟩⟩
theorem q7f (a0:List Event) (a1:Int) (hp:ln a0<=1000000000):qxy a0 a1:=by
 have hz:ln ([]:List Event)=0:=rfl
 have hb0:(qz a0).1≠0->qbc a0 a1=([],(qz a0).1):=fun h0=>by unfold qbc;rw [zT h0]
 have hr:(qz a0).1=0->qbc a0 a1=qgp (ke fun x y z=>kf x y z a1) (qe4 fun x y z=>kf x y z a1) a0:=fun h0=>by unfold qbc;rw [zF (by omega)]
 refine ⟨hp,fun h0=>?_,fun h0=>fun x hx=>⟨fun ht=>?_,fun _=>⟨qgj (l:=([]:List Event)) (by omega),fun hn=>?_,fun hn=>?_⟩⟩⟩
 .rw [hb0 h0];exact ⟨rfl,rfl,trivial⟩
 .obtain rfl:=hx ht
  have hR:=(hr h0).trans (all_nil _ _)
  exact ⟨qej _ _ _,fun i c h=>⟨fun hi=>absurd hi (by have:=MpInv.i0 h;omega),fun hi=>⟨qav _,fun i c n d h=>⟨fun hi=>absurd hi (by have:=ChInv.i0 h;omega),fun hi=>qfm (M:=([]:List Event).map (ke fun x y z=>kf x y z a1)) rfl hR h⟩⟩⟩⟩
 .have hR:=hr h0
  refine ⟨qej _ _ _,fun i c h=>⟨fun hi=>?_,fun hi=>?_⟩⟩
  .obtain ⟨k0,k1,k2,k3⟩:=q16 hR h hi
   refine ⟨⟨k0,hi⟩,k1,fun ht=>?_,fun ht=>?_⟩
   .obtain ⟨e1,e2⟩:=zdh (f:=fun x y z=>kf x y z a1) ht
    rw [e1] at k3
    exact ⟨⟨k0,hi⟩,k1,trivial,⟨by omega,by omega⟩,rfl,(k3 e2).1,(k3 e2).2⟩
   .obtain ⟨e1,e2⟩:=zdg (f:=fun x y z=>kf x y z a1) ht
    rw [e1,e2] at k3
    rw [e2] at k2
    exact ⟨trivial,fun he=>⟨(k2 he).1,(k2 he).2,trivial⟩,fun he=>⟨⟨k0,hi⟩,k1,trivial,⟨by omega,by omega⟩,rfl,(k3 he).1,(k3 he).2⟩⟩
  .obtain ⟨e1,e2⟩:=q17 hR h hi
   subst e1
   refine ⟨qav _,fun i c n d h=>⟨fun hi=>?_,fun hi=>?_⟩⟩
   .obtain ⟨k0,k1,k2,k3,k4⟩:=qoc (qj2 _ _) e2 h hi
    exact ⟨⟨k0,hi⟩,k1,trivial,⟨k0,hi⟩,k2,trivial,fun he=>⟨(k3 he).1,(k3 he).2,trivial⟩,fun he=>⟨⟨by omega,by omega⟩,rfl,(k4 he).1,(k4 he).2⟩⟩
   .obtain ⟨k0,k1,k2⟩:=qls (qj2 _ _) e2 h hi
    exact ⟨k0,k1,k2,trivial⟩
 .obtain rfl:=qnh hn
  have hR:=(hr h0).trans (all_nil _ _)
  exact ⟨qej _ _ _,fun i c h=>⟨fun hi=>absurd hi (by have:=MpInv.i0 h;omega),fun hi=>⟨qav _,fun i c n d h=>⟨fun hi=>absurd hi (by have:=ChInv.i0 h;omega),fun hi=>qfm (M:=([]:List Event).map (ke fun x y z=>kf x y z a1)) rfl hR h⟩⟩⟩⟩
theorem qx4 (a0:List Event) (a1:Int) (a2:Int) (hp:ln a0<=1000000000):qpd a0 a1 a2:=by
 have hz:ln ([]:List Event)=0:=rfl
 have hb0:(qz a0).1≠0->qat a0 a1 a2=([],(qz a0).1):=fun h0=>by unfold qat;rw [zT h0]
 have hb1:(qz a0).1=0->qhd a1 a2≠0->qat a0 a1 a2=([],qhd a1 a2):=fun h0 h1=>by unfold qat;rw [zF (by omega),zT h1]
 have hr:(qz a0).1=0->qhd a1 a2=0->qat a0 a1 a2=qgp (q0m a1 a2) (fun x=>(qcf x.DurN x.DurD a1 a2).2.2) a0:=fun h0 h1=>by unfold qat;rw [zF (by omega),zF (by omega)]
 refine ⟨hp,fun h0=>?_,fun h0=>⟨trivial,fun h1=>?_,fun h1=>fun x hx=>⟨fun ht=>?_,fun _=>⟨qgj (l:=([]:List Event)) (by omega),fun hn=>?_,fun hn=>?_⟩⟩⟩⟩
 .rw [hb0 h0];exact ⟨rfl,rfl,trivial⟩
 .rw [hb1 h0 h1];exact ⟨rfl,rfl,trivial⟩
 .obtain rfl:=hx ht
  have hR:=(hr h0 h1).trans (all_nil _ _)
  exact ⟨qej _ _ _,fun i c h=>⟨fun hi=>absurd hi (by have:=MpInv.i0 h;omega),fun hi=>⟨qav _,fun i c n d h=>⟨fun hi=>absurd hi (by have:=ChInv.i0 h;omega),fun hi=>qfm (M:=([]:List Event).map (q0m a1 a2)) rfl hR h⟩⟩⟩⟩
 .have hR:=hr h0 h1
  refine ⟨qej _ _ _,fun i c h=>⟨fun hi=>?_,fun hi=>?_⟩⟩
  .obtain ⟨k0,k1,k2,k3⟩:=q16 hR h hi
   exact ⟨⟨k0,hi⟩,k1,trivial,fun he=>⟨(k2 he).1,(k2 he).2,trivial⟩,fun he=>⟨⟨k0,hi⟩,k1,trivial,⟨by omega,by omega⟩,rfl,rfl,(k3 he).1,(k3 he).2⟩⟩
  .obtain ⟨e1,e2⟩:=q17 hR h hi
   subst e1
   refine ⟨qav _,fun i c n d h=>⟨fun hi=>?_,fun hi=>?_⟩⟩
   .obtain ⟨k0,k1,k2,k3,k4⟩:=qoc (qj2 _ _) e2 h hi
    exact ⟨⟨k0,hi⟩,k1,trivial,⟨k0,hi⟩,k2,trivial,fun he=>⟨(k3 he).1,(k3 he).2,trivial⟩,fun he=>⟨⟨by omega,by omega⟩,rfl,rfl,(k4 he).1,(k4 he).2⟩⟩
   .obtain ⟨k0,k1,k2⟩:=qls (qj2 _ _) e2 h hi
    exact ⟨k0,k1,k2,trivial⟩
 .obtain rfl:=qnh hn
  have hR:=(hr h0 h1).trans (all_nil _ _)
  exact ⟨qej _ _ _,fun i c h=>⟨fun hi=>absurd hi (by have:=MpInv.i0 h;omega),fun hi=>⟨qav _,fun i c n d h=>⟨fun hi=>absurd hi (by have:=ChInv.i0 h;omega),fun hi=>qfm (M:=([]:List Event).map (q0m a1 a2)) rfl hR h⟩⟩⟩⟩
theorem q4z (a0:List Event) (hp:ln a0<=1000000000):qub a0:=by
 have hz:ln ([]:List Event)=0:=rfl
 have hb:(qz a0).1≠0->kh a0=([],(qz a0).1):=fun h=>by unfold kh;rw [zT h]
 have hr:(qz a0).1=0->kh a0=qap a0.reverse:=fun h=>by unfold kh;rw [zF (by omega)]
 refine ⟨hp,fun h0=>?_,fun h0=>fun x hx=>⟨fun ht=>?_,fun _=>⟨qgj (l:=([]:List Event)) (by omega),fun hn=>?_,fun hn=>?_⟩⟩⟩
 .rw [hb h0];exact ⟨rfl,rfl,trivial⟩
 .obtain rfl:=hx ht
  have hR:=hr h0
  exact ⟨qsz [],fun i j c h=>⟨fun hi=>absurd hi (by have:=RvInv.i0 h;have:=RvInv.sum h;omega),fun hi=>⟨qav [],fun i c n d h=>⟨fun hi=>absurd hi (by have:=ChInv.i0 h;omega),fun hi=>qfm (M:=[]) rfl hR h⟩⟩⟩⟩
 .have hR:=hr h0
  refine ⟨⟨by omega,by omega⟩,qsz a0,fun i j c h=>⟨fun hi=>?_,fun hi=>?_⟩⟩
  .have q0:=RvInv.i0 h
   have q1:=RvInv.sum h
   have q2:=RvInv.len h
   exact ⟨⟨by omega,by omega⟩,by omega,⟨q0,by omega⟩,by omega,⟨q0,by omega⟩,by omega,trivial,⟨by omega,by omega⟩,by rw [qos];omega,trivial,⟨by omega,by omega⟩,⟨by omega,by omega⟩,zcp h hi,by simp only [qfe];omega⟩
  .have e1:=zfa h hi
   subst e1
   refine ⟨qav _,fun i c n d h=>⟨fun hi=>?_,fun hi=>?_⟩⟩
   .obtain ⟨k0,k1,k2,k3,k4⟩:=qoc (qg1 _) hR h hi
    exact ⟨⟨k0,hi⟩,k1,trivial,⟨k0,hi⟩,k2,trivial,fun he=>⟨(k3 he).1,(k3 he).2,trivial⟩,fun he=>⟨⟨by omega,by omega⟩,(k4 he).1,(k4 he).2⟩⟩
   .obtain ⟨k0,k1,k2⟩:=qls (qg1 _) hR h hi
    exact ⟨k0,k1,k2,trivial⟩
 .obtain rfl:=qnh hn
  have hR:=hr h0
  exact ⟨⟨by omega,by omega⟩,qsz [],fun i j c h=>⟨fun hi=>absurd hi (by have:=RvInv.i0 h;have:=RvInv.sum h;omega),fun hi=>⟨qav [],fun i c n d h=>⟨fun hi=>absurd hi (by have:=ChInv.i0 h;omega),fun hi=>qfm (M:=[]) rfl hR h⟩⟩⟩⟩
theorem q4r (a0:List Event) (a1 a2:Int) (hp:ln a0<=1000000000):qt4 a0 a1 a2:=by
 have hl:ln [Event.mk 0 0 a1 a2 0 0 0 true 0 0]=1:=rfl
 have hr:(qz a0).1=0->qhd a1 a2=0->ln a0<2000->qbj a0 a1 a2=qap (⟨0,0,a1,a2,0,0,0,true,0,0⟩::a0):=fun h0 h1 h2=>by unfold qbj;rw [zF (by omega),zF (by omega),zF (by omega)]
 refine ⟨hp,fun h0=>?_,fun h0=>⟨trivial,fun h1=>?_,fun h1=>⟨fun h2=>?_,fun h2=>⟨trivial,rfl,rfl,rfl,qgj (by omega),fun hn=>?_,fun hn=>?_⟩⟩⟩⟩
 .have e:qbj a0 a1 a2=([],(qz a0).1):=by unfold qbj;rw [zT h0]
  rw [e];exact ⟨rfl,rfl,trivial⟩
 .have e:qbj a0 a1 a2=([],qhd a1 a2):=by unfold qbj;rw [zF (by omega),zT h1]
  rw [e];exact ⟨rfl,rfl,trivial⟩
 .have e:qbj a0 a1 a2=([],11):=by unfold qbj;rw [zF (by omega),zF (by omega),zT h2]
  rw [e];exact ⟨rfl,rfl,trivial⟩
 .have hR:=hr h0 h1 h2
  have hL:ln ([Event.mk 0 0 a1 a2 0 0 0 true 0 0]++a0)=ln a0+1:=by rw [q52,hl];omega
  refine ⟨qav _,fun i c n d h=>⟨fun hi=>?_,fun hi=>?_⟩⟩
  .obtain ⟨k0,k1,k2,k3,k4⟩:=qoc (rfl) hR h hi
   exact ⟨⟨k0,hi⟩,k1,trivial,⟨k0,hi⟩,k2,trivial,fun he=>⟨(k3 he).1,(k3 he).2,trivial⟩,fun he=>⟨⟨by omega,by omega⟩,rfl,rfl,(k4 he).1,(k4 he).2⟩⟩
  .obtain ⟨k0,k1,k2⟩:=qls (rfl) hR h hi
   exact ⟨k0,k1,k2,trivial⟩
 .obtain rfl:=qnh hn
  have hR:=hr h0 h1 h2
  refine ⟨qav _,fun i c n d h=>⟨fun hi=>?_,fun hi=>?_⟩⟩
  .obtain ⟨k0,k1,k2,k3,k4⟩:=qoc (rfl) hR h hi
   exact ⟨⟨k0,hi⟩,k1,trivial,⟨k0,hi⟩,k2,trivial,fun he=>⟨(k3 he).1,(k3 he).2,trivial⟩,fun he=>⟨⟨by omega,by omega⟩,rfl,rfl,(k4 he).1,(k4 he).2⟩⟩
  .obtain ⟨k0,k1,k2⟩:=qls (rfl) hR h hi
   exact ⟨k0,k1,k2,trivial⟩
def fJ (dn dd k:Int) (mi re:Bool) (fn fd j:Int) (a:List Event):List Event×Int:=
 if j=0 then (if re=true then kh a else (a,0)) else if j=1 then (if mi=true/\(qt a).2.2.2=true then qa2 a (qt a).1 (qt a).2.1 (qt a).2.2.1 else (a,0))
 else if j=2 then qbc a k else if j=3 then qat a fn fd else if 0<dn then qbj a dn dd else (a,0)
theorem q6x (l:List Event) (dn dd k:Int) (mi re:Bool) (fn fd:Int) {j:Int} (h0:0<=j) (h1:j<5):q0t l dn dd k mi re fn fd (j+1)=qdw (q0t l dn dd k mi re fn fd j) (fJ dn dd k mi re fn fd j):=by
 rcases (show j=0∨j=1∨j=2∨j=3∨j=4 by omega) with rfl | rfl | rfl | rfl | rfl
 .show (if re=true then kh l else (l,0))=qdw (l,0) _
  rw [qc9];rfl
 .rfl
 .rfl
 .rfl
 .rfl
theorem bind_assoc (r:List Event×Int) (f g:List Event->List Event×Int):qdw (qdw r f) g=qdw r fun a=>qdw (f a) g:=by
 by_cases h:r.2≠0
 .have h2:(([],r.2):List Event×Int).2≠0:=h
  rw [qh1 h,qh1 h,qh1 h2]
 .obtain ⟨a,e⟩:=r
  have h2:e=0:=by simpa using h
  subst h2
  rw [qc9,qc9]
theorem qlt (l:List Event):ln (qap l).1<=ln l/\((qap l).2≠0->(qap l).1=[]):=by
 have n0:=k7 l
 unfold qap
 split
 .exact ⟨n0,fun _=>rfl⟩
 .exact ⟨by show ln (qeu l 0 1)<=ln l;rw [qsm];omega,fun h=>absurd rfl h⟩
theorem qq6 (f:Event->Event) (g:Event->Int) (l:List Event):ln (qgp f g l).1<=ln l/\((qgp f g l).2≠0->(qgp f g l).1=[]):=by
 have n0:=k7 l
 unfold qgp
 split
 .exact ⟨n0,fun _=>rfl⟩
 .have:=qlt (l.map f)
  rw [qj2] at this
  exact this
theorem q2j (l:List Event):ln (kh l).1<=ln l/\((kh l).2≠0->(kh l).1=[]):=by
 have n0:=k7 l
 unfold kh
 split
 .exact ⟨n0,fun _=>rfl⟩
 .have:=qlt l.reverse
  rw [qg1] at this
  exact this
theorem q85 (l:List Event) (s o a:Int):ln (qa2 l s o a).1<=ln l/\((qa2 l s o a).2≠0->(qa2 l s o a).1=[]):=by
 have n0:=k7 l
 unfold qa2
 split
 .exact ⟨n0,fun _=>rfl⟩
 .split
  .exact ⟨n0,fun _=>rfl⟩
  .exact qq6 _ _ l
theorem q86 (l:List Event) (k:Int):ln (qbc l k).1<=ln l/\((qbc l k).2≠0->(qbc l k).1=[]):=by
 have n0:=k7 l
 unfold qbc
 split
 .exact ⟨n0,fun _=>rfl⟩
 .exact qq6 _ _ l
theorem zaa (l:List Event) (n d:Int):ln (qat l n d).1<=ln l/\((qat l n d).2≠0->(qat l n d).1=[]):=by
 have n0:=k7 l
 unfold qat
 split
 .exact ⟨n0,fun _=>rfl⟩
 .split
  .exact ⟨n0,fun _=>rfl⟩
  .exact qq6 _ _ l
theorem q78 (l:List Event) (n d:Int):ln (qbj l n d).1<=ln l+1/\((qbj l n d).2≠0->(qbj l n d).1=[]):=by
 have n0:=k7 l
 have n1:ln ([]:List Event)<=ln l+1:=by rw [qsl];omega
 unfold qbj
 split
 .exact ⟨n1,fun _=>rfl⟩
 .split
  .exact ⟨n1,fun _=>rfl⟩
  .split
   .exact ⟨n1,fun _=>rfl⟩
   .have:=qlt (⟨0,0,n,d,0,0,0,true,0,0⟩::l)
    rw [qng] at this
    exact this
theorem q65 (a0:List Event) (a1 a2 a3:Int) (a4 a5:Bool) (a6 a7 a8 a9 a10 a11:Int) (hp:ln a0<=1000000000):qxt a0 a1 a2 a3 a4 a5 a6 a7 a8 a9 a10 a11:=by
 have n0:=k7 a0
 refine ⟨hp,fun h0=>?_,fun h0=>⟨trivial,fun h1=>?_,fun h1=>⟨hp,⟨zK _,by decide,rfl,by have:=(qyl h0).2;omega,fun h=>absurd rfl h⟩,fun i l e h=>?_⟩⟩⟩
 .have q:qb a0 a1 a2 a3 a4 a5 a6 a7 a8 a9 a10 a11=([],(qz a0).1):=by unfold qb;rw [zT h0]
  rw [q];exact ⟨rfl,rfl,trivial⟩
 .have q:qb a0 a1 a2 a3 a4 a5 a6 a7 a8 a9 a10 a11=([],qja a1 a2 a3 a6 a7 a8 a9 a10 a11):=by unfold qb;rw [zF (by omega),zT h1]
  rw [q];exact ⟨rfl,rfl,trivial⟩
 .obtain ⟨i0,i5,hw,hl,hn⟩:=h
  refine ⟨fun hi=>?_,fun hi=>?_⟩
  .have m0:(5-(i+1)).toNat<(5-i).toNat:=by omega
   have lb:ln l<=1000000000:=by omega
   have w:=q6x a0 a1 a2 a3 a4 a5 a6 a7 i0 hi
   rw [<-hw] at w
   have nb:e≠0->zb a0 a1 a2 a3 a4 a5 a6 a7 a8 a9 a10 a11 (i+1) l e:=fun he=>by
    refine ⟨by omega,by omega,?_,by omega,hn⟩
    rw [w,qh1 (show (l,e).2≠0 from he),hn he]
   have nx:∀ P:List Event×Int,fJ a1 a2 a3 a4 a5 a6 a7 i l=P->ln P.1<=ln l+1/\(P.2≠0->P.1=[])->e=0->(P.2≠0->zb a0 a1 a2 a3 a4 a5 a6 a7 a8 a9 a10 a11 (i+1) [] P.2)/\(P.2=0->zb a0 a1 a2 a3 a4 a5 a6 a7 a8 a9 a10 a11 (i+1) P.1 e):=fun P hP hf he=>by
    subst he
    rw [qc9,hP] at w
    refine ⟨fun hq=>⟨by omega,by omega,?_,by rw [qsl];omega,fun _=>rfl⟩,fun hq=>⟨by omega,by omega,?_,by omega,fun h=>absurd rfl h⟩⟩
    .rw [w,<-hf.2 hq]
    .rw [w,<-hq]
   have sm:fJ a1 a2 a3 a4 a5 a6 a7 i l=(l,0)->e=0->zb a0 a1 a2 a3 a4 a5 a6 a7 a8 a9 a10 a11 (i+1) l e:=fun hP he=>(nx (l,0) hP ⟨by show ln l<=ln l+1;omega,fun h=>absurd rfl h⟩ he).2 rfl
   have up:∀ {P:List Event×Int},ln P.1<=ln l/\(P.2≠0->P.1=[])->ln P.1<=ln l+1/\(P.2≠0->P.1=[]):=fun h=>⟨by have:=h.1;omega,h.2⟩
   refine ⟨⟨i0,hi⟩,fun hj=>⟨fun he=>⟨fun hr=>⟨lb,fun h'=>absurd he h',fun _=>?_⟩,fun hr=>⟨⟨by omega,by omega⟩,rfl,rfl,rfl,rfl,rfl,rfl,rfl,rfl,rfl,rfl,rfl,rfl,rfl,rfl,rfl,rfl,rfl,rfl,rfl,rfl,rfl,rfl,sm (by subst hj;unfold fJ;rw [zT rfl,zF (by simp [hr])]) he,m0⟩⟩,fun he=>⟨⟨by omega,by omega⟩,rfl,rfl,rfl,rfl,rfl,rfl,rfl,rfl,rfl,rfl,rfl,rfl,rfl,rfl,rfl,rfl,rfl,rfl,rfl,rfl,rfl,rfl,nb he,m0⟩⟩,
    fun hj=>⟨fun he=>⟨lb,fun hf=>⟨fun hr=>⟨lb,fun h'=>absurd he h',fun _=>?_⟩,fun hr=>⟨⟨by omega,by omega⟩,rfl,rfl,rfl,rfl,rfl,rfl,rfl,rfl,rfl,rfl,rfl,rfl,rfl,rfl,rfl,rfl,rfl,rfl,rfl,rfl,rfl,rfl,sm (by subst hj;unfold fJ;rw [zF (by decide),zT rfl,zF (by simp [hr])]) he,m0⟩⟩,fun hf=>⟨⟨by omega,by omega⟩,rfl,rfl,rfl,rfl,rfl,rfl,rfl,rfl,rfl,rfl,rfl,rfl,rfl,rfl,rfl,rfl,rfl,rfl,rfl,rfl,rfl,rfl,sm (by subst hj;unfold fJ;rw [zF (by decide),zT rfl,zF (by simp [hf])]) he,m0⟩⟩,fun he=>⟨⟨by omega,by omega⟩,rfl,rfl,rfl,rfl,rfl,rfl,rfl,rfl,rfl,rfl,rfl,rfl,rfl,rfl,rfl,rfl,rfl,rfl,rfl,rfl,rfl,rfl,nb he,m0⟩⟩,
    fun hj=>⟨fun he=>⟨lb,fun h'=>absurd he h',fun _=>?_⟩,fun he=>⟨⟨by omega,by omega⟩,rfl,rfl,rfl,rfl,rfl,rfl,rfl,rfl,rfl,rfl,rfl,rfl,rfl,rfl,rfl,rfl,rfl,rfl,rfl,rfl,rfl,rfl,nb he,m0⟩⟩,
    fun hj=>⟨fun he=>⟨lb,fun h'=>absurd he h',fun _=>?_⟩,fun he=>⟨⟨by omega,by omega⟩,rfl,rfl,rfl,rfl,rfl,rfl,rfl,rfl,rfl,rfl,rfl,rfl,rfl,rfl,rfl,rfl,rfl,rfl,rfl,rfl,rfl,rfl,nb he,m0⟩⟩,
    fun hj=>⟨fun he=>⟨fun hr=>⟨lb,fun h'=>absurd he h',fun _=>?_⟩,fun hr=>⟨⟨by omega,by omega⟩,rfl,rfl,rfl,rfl,rfl,rfl,rfl,rfl,rfl,rfl,rfl,rfl,rfl,rfl,rfl,rfl,rfl,rfl,rfl,rfl,rfl,rfl,sm (by subst hj;unfold fJ;rw [zF (by decide),zF (by decide),zF (by decide),zF (by decide),zF (by omega)]) he,m0⟩⟩,fun he=>⟨⟨by omega,by omega⟩,rfl,rfl,rfl,rfl,rfl,rfl,rfl,rfl,rfl,rfl,rfl,rfl,rfl,rfl,rfl,rfl,rfl,rfl,rfl,rfl,rfl,rfl,nb he,m0⟩⟩,trivial⟩
   .have q:=nx (kh l) (by subst hj;unfold fJ;rw [zT rfl,zT hr]) (up (q2j l)) he
    exact ⟨fun hq=>⟨⟨by omega,by omega⟩,rfl,rfl,rfl,rfl,rfl,rfl,rfl,rfl,rfl,rfl,rfl,rfl,rfl,rfl,rfl,rfl,rfl,rfl,rfl,rfl,rfl,rfl,q.1 hq,m0⟩,fun hq=>⟨⟨by omega,by omega⟩,rfl,rfl,rfl,rfl,rfl,rfl,rfl,rfl,rfl,rfl,rfl,rfl,rfl,rfl,rfl,rfl,rfl,rfl,rfl,rfl,rfl,rfl,q.2 hq,m0⟩⟩
   .have q:=nx (qa2 l (qt l).1 (qt l).2.1 (qt l).2.2.1) (by subst hj;unfold fJ;rw [zF (by decide),zT rfl,zT ⟨hr,hf⟩]) (up (q85 l _ _ _)) he
    exact ⟨fun hq=>⟨⟨by omega,by omega⟩,rfl,rfl,rfl,rfl,rfl,rfl,rfl,rfl,rfl,rfl,rfl,rfl,rfl,rfl,rfl,rfl,rfl,rfl,rfl,rfl,rfl,rfl,q.1 hq,m0⟩,fun hq=>⟨⟨by omega,by omega⟩,rfl,rfl,rfl,rfl,rfl,rfl,rfl,rfl,rfl,rfl,rfl,rfl,rfl,rfl,rfl,rfl,rfl,rfl,rfl,rfl,rfl,rfl,q.2 hq,m0⟩⟩
   .have q:=nx (qbc l a3) (by subst hj;unfold fJ;rw [zF (by decide),zF (by decide),zT rfl]) (up (q86 l _)) he
    exact ⟨fun hq=>⟨⟨by omega,by omega⟩,rfl,rfl,rfl,rfl,rfl,rfl,rfl,rfl,rfl,rfl,rfl,rfl,rfl,rfl,rfl,rfl,rfl,rfl,rfl,rfl,rfl,rfl,q.1 hq,m0⟩,fun hq=>⟨⟨by omega,by omega⟩,rfl,rfl,rfl,rfl,rfl,rfl,rfl,rfl,rfl,rfl,rfl,rfl,rfl,rfl,rfl,rfl,rfl,rfl,rfl,rfl,rfl,rfl,q.2 hq,m0⟩⟩
   .have q:=nx (qat l a6 a7) (by subst hj;unfold fJ;rw [zF (by decide),zF (by decide),zF (by decide),zT rfl]) (up (zaa l _ _)) he
    exact ⟨fun hq=>⟨⟨by omega,by omega⟩,rfl,rfl,rfl,rfl,rfl,rfl,rfl,rfl,rfl,rfl,rfl,rfl,rfl,rfl,rfl,rfl,rfl,rfl,rfl,rfl,rfl,rfl,q.1 hq,m0⟩,fun hq=>⟨⟨by omega,by omega⟩,rfl,rfl,rfl,rfl,rfl,rfl,rfl,rfl,rfl,rfl,rfl,rfl,rfl,rfl,rfl,rfl,rfl,rfl,rfl,rfl,rfl,rfl,q.2 hq,m0⟩⟩
   .have q:=nx (qbj l a1 a2) (by subst hj;unfold fJ;rw [zF (by decide),zF (by decide),zF (by decide),zF (by decide),zT hr]) (q78 l _ _) he
    exact ⟨fun hq=>⟨⟨by omega,by omega⟩,rfl,rfl,rfl,rfl,rfl,rfl,rfl,rfl,rfl,rfl,rfl,rfl,rfl,rfl,rfl,rfl,rfl,rfl,rfl,rfl,rfl,rfl,q.1 hq,m0⟩,fun hq=>⟨⟨by omega,by omega⟩,rfl,rfl,rfl,rfl,rfl,rfl,rfl,rfl,rfl,rfl,rfl,rfl,rfl,rfl,rfl,rfl,rfl,rfl,rfl,rfl,rfl,rfl,q.2 hq,m0⟩⟩
  .have h5:i=5:=by omega
   have q:qb a0 a1 a2 a3 a4 a5 a6 a7 a8 a9 a10 a11=q0t a0 a1 a2 a3 a4 a5 a6 a7 5:=by
    unfold qb q0t
    rw [zF (by omega),zF (by omega),zF (by decide),zF (by decide),zF (by decide),zF (by decide),zF (by decide),bind_assoc,bind_assoc]
   rw [q,<-h5,<-hw]
   exact ⟨rfl,rfl,trivial⟩
theorem zau (a0 a1:Int) (hp:(1:Int)<=a1/\(a1:Int)<=1000000/\(-9223372036854775808:Int)<=a0/\(a0:Int)<=9223372036854775807):q2y a0 a1:=by
 obtain ⟨h1,h2,_,_⟩:=hp
 have b1:=Int.tmod_lt_of_pos a0 (show 0<a1 by omega)
 have b2:=Int.lt_tmod_of_pos a0 (show 0<a1 by omega)
 have e:zu a0 a1=if Int.tmod a0 a1<0 then Int.tmod a0 a1+a1 else Int.tmod a0 a1:=by unfold zu;rw [zF (by omega)]
 refine ⟨fun h=>by omega,fun _=>⟨by omega,fun h=>⟨⟨by omega,by omega⟩,by rw [e,zT h],trivial⟩,fun h=>⟨by rw [e,zF (by omega)],trivial⟩⟩⟩
theorem zfn (a0 a1:Int) (hp:(0:Int)<=a0/\(a0:Int)<=1000000000000/\(1:Int)<=a1/\(a1:Int)<=1000000000000):zc6 a0 a1:=by
 obtain ⟨h0,h1,h2,h3⟩:=hp
 refine ⟨⟨h0,by omega,rfl⟩,fun x y ⟨i0,i1,i2⟩=>⟨fun h=>?_,fun h=>?_⟩⟩
 .have t:=qnw i0 h
  refine ⟨by omega,⟨i1,t.1,by rw [quv i0 i1];exact i2⟩,?_⟩
  simp only [qku];omega
 .have hy:y=0:=by omega
  subst hy
  rw [quw i0] at i2
  have g:=qjt (a:=a0) h2
  have q1:=qa3 h0 (show 0<=x by omega)
  have q2:=qa3 (show 0<=a1 by omega) (show 0<=x by omega)
  refine ⟨fun hx=>by omega,fun hx=>⟨⟨by omega,by omega,by omega⟩,⟨by omega,by omega,by omega⟩,?_,?_,trivial⟩⟩
  .unfold tT;rw [<-i2]
  .unfold tT;rw [<-i2]
theorem q7j (a0 a1 a2 a3:Int) (hp:(0:Int)<=a0/\(a0:Int)<=100000/\(1:Int)<=a1/\(a1:Int)<=100000/\(0:Int)<=a2/\(a2:Int)<=100000/\(1:Int)<=a3/\(a3:Int)<=100000):qx0 a0 a1 a2 a3:=by
 obtain ⟨h0,h1,h2,h3,h4,h5,h6,h7⟩:=hp
 have m1:=qiy h0 h1 (show 0<=a3 by omega) h7
 have m2:=qiy h4 h5 (show 0<=a1 by omega) h3
 have m3:=qiy (show 0<=a1 by omega) h3 (show 0<=a3 by omega) h7
 have m4:=qww h2 h6
 exact ⟨⟨by omega,by omega⟩,⟨by omega,by omega⟩,⟨by omega,by omega⟩,⟨by omega,by omega⟩,⟨by omega,by omega,by omega,by omega⟩,rfl,rfl,trivial⟩
theorem q42 (a0:List Int) (a1:Int) (hp:ln a0<=9223372036854775807/\(0:Int)<=a1/\(a1:Int)<=20/\∀ x ∈ a0,I64 x):quc a0 a1:=by
 obtain ⟨h0,h1,h2,h3⟩:=hp
 have n0:=k7 a0
 refine ⟨trivial,trivial,trivial,trivial,trivial,trivial,trivial,trivial,trivial,⟨zK _,n0,h1,rfl,qmi,rfl⟩,fun o i n d ⟨i0,i1,i2,i3,i4,i5⟩=>⟨fun hlt=>⟨fun hm=>?_,fun hm=>⟨?_,trivial⟩⟩,fun hge=>⟨?_,trivial⟩⟩⟩
 .have hb:=h3 _ (q15 i0 hlt)
  obtain ⟨k0,k1⟩:=qwv (ix a0 i) (show 1<=(3969:Int) by decide)
  obtain ⟨b1,b2,b3,b4,b5⟩:=q0i i4 (by omega)
  obtain ⟨c,_,_,_,_,_,_,_,d1,d2,d3,d4⟩:=qql k0
  have hnx:=(qs5 i4 (by omega) k0).1
  have v1:=qa3 k0 (show (0:Int)<=63 by decide)
  have v2:=qa3 k0 (show (0:Int)<=567 by decide)
  have v3:=qa3 k0 (show (0:Int)<=7 by decide)
  have v4:=qa3 k0 (show (0:Int)<=21 by decide)
  have t1:=qnw v1.1 (show (0:Int)<9 by decide)
  have t2:=qnw v3.1 (show (0:Int)<3 by decide)
  have t3:=qnw v4.1 (show (0:Int)<3 by decide)
  have hL:ln zc8=9:=rfl
  have step:∀ x:Event,x=evK (zu (ix a0 i) 3969) i n d->qcw a0 a1 (o++[x]) (i+1) (qbq n d (qao (zu (ix a0 i) 3969)).N (qao (zu (ix a0 i) 3969)).D).1 (qbq n d (qao (zu (ix a0 i) 3969)).N (qao (zu (ix a0 i) 3969)).D).2:=by
   intro x hx
   refine ⟨by omega,by omega,by omega,by rw [zbz];omega,hnx,?_⟩
   rw [<-i5,qfb i0 hlt,qe9,zT hm,hx]
   simp
  refine ⟨⟨i0,hlt⟩,⟨by decide,by decide,hb.1,hb.2⟩,⟨by decide,by omega,by omega⟩,by decide,⟨by omega,by show _<(9:Int);omega⟩,⟨by decide,by omega,by omega⟩,by decide,⟨by decide,by omega,by omega⟩,fun hr=>?_,fun hr=>?_⟩
  .refine ⟨trivial,qs2 (by omega),⟨b2,by omega,b4,by omega,by show 0<=(qao _).N;omega,by show (qao _).N<=100000;omega,by show 1<=(qao _).D;omega,by show (qao _).D<=100000;omega⟩,⟨by omega,by omega⟩,step _ ?_,by simp only [qa4];omega⟩
   unfold evK;rw [zT hr]
   rfl
  .refine ⟨by decide,⟨by decide,by omega,by omega⟩,by decide,⟨by omega,by omega⟩,⟨by decide,by omega,by omega⟩,by decide,⟨by omega,by omega⟩,trivial,qs2 (by omega),⟨b2,by omega,b4,by omega,by show 0<=(qao _).N;omega,by show (qao _).N<=100000;omega,by show 1<=(qao _).D;omega,by show (qao _).D<=100000;omega⟩,⟨by omega,by omega⟩,step _ ?_,by simp only [qa4];omega⟩
   unfold evK;rw [zF hr]
   rfl
 .rw [<-i5,qfb i0 hlt,qe9,zF (by omega),zJ]
 .rw [<-i5,qok hge,qe9,zJ]
theorem qzi (a0:List Int) (hp:ln a0<=9223372036854775807/\∀ x ∈ a0,I64 x):qjz a0:=by
 obtain ⟨h0,h1⟩:=hp
 have hch:qbx (qa a0 10) 0 1:=qqb (most:=10) (by decide) a0 0 0 1 (zK _) qmi
 have hl:ln (qa a0 10)<=10:=qvr a0 0 0 1 (zK _) (by decide)
 have n0:=k7 (qa a0 10)
 have leaf:∀ i,0<=i->i<ln (qa a0 10)->I64 (i+1)/\zd a0 (i+1)/\qx a0 (i+1)<qx a0 i:=fun i i0 i1=>
  ⟨⟨by omega,by omega⟩,⟨by omega,by omega⟩,by simp only [qx];omega⟩
 have start:zd a0 0:=⟨zK _,n0⟩
 obtain ⟨a,r1,r2,r3⟩:=q0p hch (by omega) (q6u a0 10)
 have hm:=qxl hch (by omega)
 unfold qjz
 revert hm leaf start
 unfold zd
 generalize qa a0 10=l at *
 intro leaf start hm
 rw [r1]
 dsimp only
 rw [r2]
 dsimp only
 refine ⟨⟨h0,by decide,by decide,h1⟩,by omega,fun h=>absurd h (by decide),fun _=>⟨by omega,fun h=>absurd rfl h,fun _=>⟨fun h=>absurd rfl h,fun _=>⟨fun h=>absurd r3 h,fun _=>⟨fun h=>absurd rfl h,fun _=>⟨start,fun i ⟨i0,i1⟩=>⟨fun hi=>?_,fun hi=>?_⟩⟩⟩⟩⟩⟩⟩
 .exact ⟨⟨i0,hi⟩,⟨i0,hi⟩,fun h=>by rcases h with h | h<;>exact absurd rfl h,fun _=>⟨⟨i0,hi⟩,⟨i0,hi⟩,fun h=>absurd rfl h,fun _=>⟨⟨i0,hi⟩,⟨i0,hi⟩,fun h=>by rcases h with h | h | h<;>exact absurd rfl h,
   fun _=>⟨⟨i0,hi⟩,fun _=>⟨⟨i0,by omega⟩,trivial,fun _=>leaf i i0 hi,fun _=>leaf i i0 hi⟩,fun _=>leaf i i0 hi⟩⟩⟩⟩
 .rcases hm with m1 | ⟨b,m1,m2,m3,m4⟩
  .rw [m1]
   exact ⟨by omega,fun _=>⟨trivial,rfl,trivial⟩,fun h=>absurd rfl h⟩
  .rw [m1]
   dsimp only
   rw [m2]
   dsimp only
   refine ⟨by omega,fun h=>absurd h (by decide),fun _=>⟨by omega,fun h=>absurd rfl h,fun _=>⟨fun h=>absurd rfl h,fun _=>⟨fun h=>absurd m3 h,fun _=>⟨fun h=>absurd rfl h,fun _=>⟨start,fun i ⟨i0,i1⟩=>⟨fun hi=>?_,fun hi=>⟨trivial,rfl,trivial⟩⟩⟩⟩⟩⟩⟩⟩
   exact ⟨⟨i0,hi⟩,⟨i0,hi⟩,fun h=>by rcases h with h | h<;>exact absurd rfl h,fun _=>⟨⟨i0,hi⟩,⟨i0,hi⟩,fun h=>absurd rfl h,fun _=>⟨⟨i0,hi⟩,⟨i0,hi⟩,fun h=>by rcases h with h | h | h<;>exact absurd rfl h,
    fun _=>⟨⟨i0,hi⟩,fun hr=>⟨⟨i0,by omega⟩,trivial,fun h=>absurd (m4 i i0 hi hr) h,fun _=>leaf i i0 hi⟩,fun _=>leaf i i0 hi⟩⟩⟩⟩
end Go.Proofs.YtcnoipglgpkpeaaGreatDoor
