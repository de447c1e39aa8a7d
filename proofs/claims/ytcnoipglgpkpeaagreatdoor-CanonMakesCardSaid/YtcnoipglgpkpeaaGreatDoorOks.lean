import Derived.Test.YtcnoipglgpkpeaaGreatDoorVcs
import Derived.Test.YtcnoipglgpkpeaaGreatDoorDall
namespace Go.Proofs.YtcnoipglgpkpeaaGreatDoor
open Go Go.E2 Go.E3
set_option maxRecDepth 100000
theorem q78 (a0 a1:Int) (hp:0<=a0/\0<=a1/\a0<=4611686018427387904/\a1<=4611686018427387904):qu4 a0 a1:=by
 obtain ⟨h0,h1,h2,h3⟩:=hp
 refine ⟨fun h=>⟨?_,trivial⟩,fun h=>?_⟩
 .rw [h,qzc h0]
 .have t:=q2n h0 (show 0<a1 by omega)
  have q:=j4 h0 h1
  exact ⟨⟨h,by omega,by omega⟩,h,⟨⟨h1,t.1,h3,by omega⟩,by omega⟩,qzb h0 h1,trivial⟩
theorem zlw (a0 a1:Int) (hp:0<=a0/\0<=a1/\a0<=4611686018427387904/\a1<=4611686018427387904):zau a0 a1:=by
 obtain ⟨h0,h1,h2,h3⟩:=hp
 refine ⟨⟨h0,h1,rfl⟩,fun x y ⟨i0,i1,i2⟩=>⟨fun h=>?_,fun h=>⟨?_,trivial⟩⟩⟩
 .have t:=q2n i0 h
  refine ⟨by omega,⟨i1,t.1,by rw [qzb i0 i1];exact i2⟩,?_⟩
  simp only [qjg];omega
 .have:y=0:=by omega
  subst this
  rw [<-i2,qzc i0]
theorem zb9 (a0 a1:Int):qqc a0 a1:=by
 unfold qqc qd
 unhygienic (repeat' (first | exact trivial | apply And.intro | intro))
 all_goals (try split)
 all_goals (try split)
 all_goals omega
theorem zb6 (a0 a1:Int):qqb a0 a1:=by
 have hg:1<=a1->1<=zd a0 a1:=fun h=>qgy h
 unfold qqb qd
 unhygienic (repeat' (first | exact trivial | apply And.intro | intro))
 all_goals (try split)
 all_goals (try split)
 all_goals omega
theorem zd2 (a0:List Time) (hp:ln a0<=1000000000):qy3 a0:=by
 refine ⟨⟨by omega,zn _,rfl⟩,fun x ⟨i0,i1,i2⟩=>⟨fun h=>?_,fun h=>⟨?_,trivial⟩⟩⟩
 .rw [qem i0 h] at i2
  simp only [qaf] at i2
  refine ⟨⟨i0,h⟩,trivial,fun hc=>⟨?_,trivial⟩,fun hc=>⟨by omega,⟨by omega,by omega,?_⟩,?_⟩⟩
  .rw [zT hc] at i2;exact i2
  .rw [zF (by omega)] at i2;exact i2
  .simp only [qgr];omega
 .rw [qn1 h] at i2;exact i2
theorem zib (a0 a1:Int) (hp:0<=a0/\1<=a1/\a0<=4611686018427387904/\a1<=4611686018427387904):zia a0 a1:=by
 obtain ⟨h0,h1,h2,h3⟩:=hp
 have g:=qgy (a:=a0) h1
 have q1:=j4 h0 (j9 a0 a1)
 have q2:=j4 (show 0<=a1 by omega) (j9 a0 a1)
 refine ⟨⟨h0,by omega,h2,h3⟩,⟨by omega,by omega,by omega⟩,⟨by omega,by omega,by omega⟩,fun h=>?_,fun h=>⟨fun h'=>?_,fun h'=>?_⟩⟩
 .have e:ofT a0 a1=(0,0,4):=by unfold ofT;rw [zT (.inl h)]
  rw [e];exact ⟨rfl,rfl,rfl,trivial⟩
 .have e:ofT a0 a1=(0,0,4):=by unfold ofT;rw [zT (.inr h')]
  rw [e];exact ⟨rfl,rfl,rfl,trivial⟩
 .have e:ofT a0 a1=(a0.tdiv (zd a0 a1),a1.tdiv (zd a0 a1),0):=by unfold ofT;rw [zF (by omega)]
  rw [e];exact ⟨rfl,rfl,rfl,trivial⟩
theorem zf0 (a0 a1:Int) (hp:0<=a0/\1<=a1/\a0<=4611686018427387904/\a1<=4611686018427387904):q29 a0 a1:=
 ⟨fun h=>absurd h (by omega),fun _=>⟨fun h=>absurd h (by omega),fun _=>⟨fun h=>absurd h (by omega),fun _=>zib a0 a1 hp⟩⟩⟩
theorem qud {a0 a1 a2 a3:Int} (h1:qd a0 a1=0) (h2:qd a2 a3=0):I64 (a0 * a3)/\I64 (a2 * a1)/\I64 ((a0 * a3)+(a2 * a1))/\I64 (a1 * a3)/\
  (0<=((a0 * a3)+(a2 * a1))/\1<=(a1 * a3)/\((a0 * a3)+(a2 * a1))<=4611686018427387904/\(a1 * a3)<=4611686018427387904)/\I64 ((a0 * a3)-(a2 * a1)):=by
 have b1:=j6 h1
 have b2:=j6 h2
 have p1:=qf9 b1.1 b1.2.1 (show 0<=a3 by omega) b2.2.2.2
 have p2:=qf9 b2.1 b2.2.1 (show 0<=a1 by omega) b1.2.2.2
 have p3:=qwb b1.2.2.1 b2.2.2.1
 have p4:=qf9 (show 0<=a1 by omega) b1.2.2.2 (show 0<=a3 by omega) b2.2.2.2
 omega
theorem zjl (a0 a1 a2 a3:Int):q9n a0 a1 a2 a3:=by
 refine ⟨trivial,fun h=>⟨fun _=>?_,fun h'=>absurd h' h⟩,fun h=>⟨trivial,fun h'=>?_,fun h'=>?_⟩⟩
 .have e:zs a0 a1 a2 a3=(0,0,qd a0 a1):=by unfold zs;rw [zT h]
  rw [e];exact ⟨rfl,rfl,rfl,trivial⟩
 .have e:zs a0 a1 a2 a3=(0,0,qd a2 a3):=by unfold zs;rw [zF (by omega),zT h']
  rw [e];exact ⟨rfl,rfl,rfl,trivial⟩
 .have e:zs a0 a1 a2 a3=ofT (a0 * a3+a2 * a1) (a1 * a3):=by unfold zs;rw [zF (by omega),zF (by omega)]
  obtain ⟨b1,b2,b3,b4,b5,_⟩:=qud h h'
  rw [e];exact ⟨b1,b2,b3,b4,b5,rfl,rfl,rfl,trivial⟩
theorem zjo (a0 a1 a2 a3:Int):q9o a0 a1 a2 a3:=by
 have hl:ln [Time.mk a0 a1,Time.mk a2 a3]=2:=rfl
 refine ⟨trivial,trivial,by omega,fun h=>?_,fun h=>?_⟩
 .rw [qf4] at h ⊢
  by_cases h1:qd a0 a1≠0
  .have e:zs a0 a1 a2 a3=(0,0,qd a0 a1):=by unfold zs;rw [zT h1]
   rw [e,zT h1];exact ⟨rfl,rfl,rfl,trivial⟩
  .rw [zF h1] at h ⊢
   have e:zs a0 a1 a2 a3=(0,0,qd a2 a3):=by unfold zs;rw [zF h1,zT h]
   rw [e];exact ⟨rfl,rfl,rfl,trivial⟩
 .rw [qf4] at h
  have h1:qd a0 a1=0:=by
   by_cases h1:qd a0 a1≠0
   .rw [zT h1] at h;exact h
   .omega
  rw [zF (by omega)] at h
  have e:zs a0 a1 a2 a3=ofT (a0 * a3+a2 * a1) (a1 * a3):=by unfold zs;rw [zF (by omega),zF (by omega)]
  obtain ⟨b1,b2,b3,b4,b5,_⟩:=qud h1 h
  rw [e];exact ⟨b1,b2,b3,b4,b5,rfl,rfl,rfl,trivial⟩
theorem zb3 (a0 a1 a2:Int):qqa a0 a1 a2:=by
 unfold qqa qi
 unhygienic (repeat' (first | exact trivial | apply And.intro | intro))
 all_goals (try split)
 all_goals omega
theorem q65 (a0 a1 a2:Int):qnn a0 a1 a2:=by
 unfold qnn qi
 unhygienic (repeat' (first | exact trivial | apply And.intro | intro))
 all_goals (try split)
 all_goals omega
section
variable {a0 a1 a2 a3 a4 a5 a6:Int} {a7:Bool} {a8 a9:Int}
theorem zno (h:qd a0 a1≠0):qcu ⟨a0,a1,a2,a3,a4,a5,a6,a7,a8,a9⟩=qd a0 a1:=by simp [qcu,h]
theorem znp (h:qd a0 a1=0) (h2:qd a2 a3≠0):qcu ⟨a0,a1,a2,a3,a4,a5,a6,a7,a8,a9⟩=qd a2 a3:=by simp [qcu,h,h2]
theorem znq (h:qd a0 a1=0) (h2:qd a2 a3=0) (h3:a2=0):qcu ⟨a0,a1,a2,a3,a4,a5,a6,a7,a8,a9⟩=2:=by subst h3;simp [qcu,h,h2]
theorem znr (h:qd a0 a1=0) (h2:qd a2 a3=0) (h3:a2≠0) (h4:a7=true) (h5:a4≠0∨(a5≠0∨a6≠0)):qcu ⟨a0,a1,a2,a3,a4,a5,a6,a7,a8,a9⟩=3:=by
 unfold qcu
 dsimp only
 rw [zF (by omega),zF (by omega),zF h3,zT ⟨h4,h5⟩]
theorem zns (h:qd a0 a1=0) (h2:qd a2 a3=0) (h3:a2≠0) (h4:a7=true) (h5:a4=0/\(a5=0/\a6=0)):qcu ⟨a0,a1,a2,a3,a4,a5,a6,a7,a8,a9⟩=if a8<0∨a9<0 then 2 else 0:=by
 unfold qcu
 dsimp only
 rw [zF (by omega),zF (by omega),zF h3,zF (fun hh=>by have:=hh.2;omega),zF (fun hh=>by rw [h4] at hh;cases hh.1)]
theorem znt (h:qd a0 a1=0) (h2:qd a2 a3=0) (h3:a2≠0) (h4:a7=false) (h5:qi a4 a5 a6≠0):qcu ⟨a0,a1,a2,a3,a4,a5,a6,a7,a8,a9⟩=qi a4 a5 a6:=by
 unfold qcu
 dsimp only
 rw [zF (by omega),zF (by omega),zF h3,zF (fun hh=>by rw [h4] at hh;cases hh.1),zT ⟨h4,h5⟩]
theorem znu (h:qd a0 a1=0) (h2:qd a2 a3=0) (h3:a2≠0) (h4:a7=false) (h5:qi a4 a5 a6=0):qcu ⟨a0,a1,a2,a3,a4,a5,a6,a7,a8,a9⟩=if a8<0∨a9<0 then 2 else 0:=by
 unfold qcu
 dsimp only
 rw [zF (by omega),zF (by omega),zF h3,zF (fun hh=>by rw [h4] at hh;cases hh.1),zF (fun hh=>hh.2 h5)]
end
theorem qeg {x:Event} {n d e:Int} (h:qcu x=e) (he:e≠0):qg4 x n d=e:=by unfold qg4;rw [h,zT he]
theorem qwf {x:Event} {n d:Int} (h:qcu x=0) (h2:x.AtN≠n∨x.AtD≠d):qg4 x n d=6:=by unfold qg4;rw [zF (by omega),zT h2]
theorem qpr {x:Event} {n d:Int} (h:qcu x=0) (h2:x.AtN=n/\x.AtD=d):qg4 x n d=(zs x.AtN x.AtD x.DurN x.DurD).2.2:=by unfold qg4;rw [zF (by omega),zF (by omega)]
theorem zmi (a0 a1 a2 a3 a4 a5 a6:Int) (a7:Bool) (a8 a9:Int):zba a0 a1 a2 a3 a4 a5 a6 a7 a8 a9:=by
 have hl:ln [Time.mk a0 a1,Time.mk a2 a3]=2:=rfl
 refine ⟨trivial,trivial,⟨by omega,by omega,fun h=>by omega,fun h=>by omega⟩,fun x ⟨i0,i1,i2,i3⟩=>⟨fun h=>?_,fun h=>?_⟩⟩
 .rcases (show x=0∨x=1 by omega) with rfl | rfl
  .refine ⟨⟨by omega,by omega⟩,trivial,fun hc=>⟨(zno hc).symm,trivial⟩,fun hc=>⟨by omega,rfl,rfl,rfl,rfl,rfl,rfl,rfl,rfl,rfl,rfl,⟨by omega,by omega,fun _=>hc,fun h=>by omega⟩,?_⟩⟩
   simp only [qg1];omega
  .refine ⟨⟨by omega,by omega⟩,trivial,fun hc=>⟨(znp (i2 (by omega)) hc).symm,trivial⟩,fun hc=>⟨by omega,rfl,rfl,rfl,rfl,rfl,rfl,rfl,rfl,rfl,rfl,⟨by omega,by omega,fun _=>i2 (by omega),fun _=>hc⟩,?_⟩⟩
   simp only [qg1];omega
 .have c1:=i2 (by omega)
  have c2:=i3 (by omega)
  refine ⟨fun h3=>⟨(znq c1 c2 h3).symm,trivial⟩,fun h3=>⟨fun h4=>⟨fun h5=>⟨(znr c1 c2 h3 h4 h5).symm,trivial⟩,fun h5=>?_⟩,fun h4=>⟨trivial,fun h5=>⟨(znt c1 c2 h3 h4 h5).symm,trivial⟩,fun h5=>?_⟩⟩⟩
  .rw [zns c1 c2 h3 h4 h5]
   refine ⟨fun h6=>⟨?_,trivial⟩,fun h6=>⟨fun h7=>⟨?_,trivial⟩,fun h7=>⟨?_,trivial⟩⟩⟩
   .rw [zT (.inl h6)]
   .rw [zT (.inr h7)]
   .rw [zF (by omega)]
  .rw [znu c1 c2 h3 h4 h5]
   refine ⟨fun h6=>⟨?_,trivial⟩,fun h6=>⟨fun h7=>⟨?_,trivial⟩,fun h7=>⟨?_,trivial⟩⟩⟩
   .rw [zT (.inl h6)]
   .rw [zT (.inr h7)]
   .rw [zF (by omega)]
theorem zid (a0 a1 a2 a3 a4 a5 a6:Int) (a7:Bool) (a8 a9 a10 a11:Int):q5q a0 a1 a2 a3 a4 a5 a6 a7 a8 a9 a10 a11:=by
 refine ⟨trivial,fun c1=>⟨(qeg (zno c1) c1).symm,trivial⟩,fun c1=>⟨trivial,fun c2=>⟨(qeg (znp c1 c2) c2).symm,trivial⟩,fun c2=>⟨fun h3=>⟨(qeg (znq c1 c2 h3) (by omega)).symm,trivial⟩,fun h3=>⟨fun h4=>⟨fun h5=>⟨(qeg (znr c1 c2 h3 h4 h5) (by omega)).symm,trivial⟩,fun h5=>?_⟩,fun h4=>⟨trivial,fun h5=>⟨(qeg (znt c1 c2 h3 h4 h5) h5).symm,trivial⟩,fun h5=>?_⟩⟩⟩⟩⟩
 .have e:=zns (a8:=a8) (a9:=a9) c1 c2 h3 h4 h5
  refine ⟨fun h6=>⟨?_,trivial⟩,fun h6=>⟨fun h7=>⟨?_,trivial⟩,fun h7=>⟨fun h8=>⟨?_,trivial⟩,fun h8=>⟨trivial,?_,trivial⟩⟩⟩⟩
  .rw [zT (.inl h6)] at e;exact (qeg e (by omega)).symm
  .rw [zT (.inr h7)] at e;exact (qeg e (by omega)).symm
  .rw [zF (by omega)] at e;exact (qwf e h8).symm
  .rw [zF (by omega)] at e;exact (qpr e h8).symm
 .have e:=znu (a8:=a8) (a9:=a9) c1 c2 h3 h4 h5
  refine ⟨fun h6=>⟨?_,trivial⟩,fun h6=>⟨fun h7=>⟨?_,trivial⟩,fun h7=>⟨fun h8=>⟨?_,trivial⟩,fun h8=>⟨trivial,?_,trivial⟩⟩⟩⟩
  .rw [zT (.inl h6)] at e;exact (qeg e (by omega)).symm
  .rw [zT (.inr h7)] at e;exact (qeg e (by omega)).symm
  .rw [zF (by omega)] at e;exact (qwf e h8).symm
  .rw [zF (by omega)] at e;exact (qpr e h8).symm
theorem quz {a0:List Event} {x n d:Int} (hl:ln a0<=2000) (h0:0<=x) (h1:x<ln a0) (hi:qbp (fr a0 x) x n d=qbp a0 0 0 1) :
  (qg4 (ix a0 x) n d≠0->qe a0=(qg4 (ix a0 x) n d,x))/\(qg4 (ix a0 x) n d=0->qbp (fr a0 (x+1)) (x+1) (zs (ix a0 x).AtN (ix a0 x).AtD (ix a0 x).DurN (ix a0 x).DurD).1 (zs (ix a0 x).AtN (ix a0 x).AtD (ix a0 x).DurN (ix a0 x).DurD).2.1=qbp a0 0 0 1):=by
 rw [qem h0 h1] at hi
 simp only [qbp] at hi
 refine ⟨fun h=>?_,fun h=>?_⟩
 .rw [zT h] at hi
  unfold qe
  rw [zF (by omega)]
  exact hi.symm
 .rw [zF (by omega)] at hi
  exact hi
theorem qyv {a0:List Event} {x n d:Int} (hl:ln a0<=2000) (h1:ln a0<=x) (hi:qbp (fr a0 x) x n d=qbp a0 0 0 1):qe a0=(0,0):=by
 rw [qn1 h1] at hi
 unfold qe
 rw [zF (by omega)]
 exact hi.symm
theorem quy {a0:List Event} (h:2000<ln a0):qe a0=(11,0):=by unfold qe;rw [zT h]
theorem zbx (a0:List Event) (hp:ln a0<=1000000000):qx7 a0:=by
 refine ⟨fun h=>?_,fun hl=>⟨⟨by omega,zn _,rfl⟩,fun x n d ⟨i0,i1,i2⟩=>⟨fun h=>?_,fun h=>?_⟩⟩⟩
 .rw [quy h];exact ⟨rfl,rfl,trivial⟩
 .obtain ⟨s1,s2⟩:=quz hl i0 h i2
  refine ⟨⟨i0,h⟩,trivial,fun hc=>?_,fun hc=>⟨fun ho=>?_,fun ho=>⟨trivial,fun ha=>?_,fun ha=>⟨by omega,⟨by omega,by omega,?_⟩,?_⟩⟩⟩⟩
  .have e:qg4 (ix a0 x) n d=qcu (ix a0 x):=qeg rfl hc
   rw [s1 (by rw [e];exact hc),e]
   exact ⟨rfl,rfl,trivial⟩
  .have e:qg4 (ix a0 x) n d=6:=qwf hc ho
   rw [s1 (by rw [e];omega),e]
   exact ⟨rfl,rfl,trivial⟩
  .have e:qg4 (ix a0 x) n d=_:=qpr hc ho
   rw [s1 (by rw [e];exact ha),e]
   exact ⟨rfl,rfl,trivial⟩
  .have e:qg4 (ix a0 x) n d=_:=qpr hc ho
   exact s2 (by rw [e];exact ha)
  .simp only [qgj];omega
 .rw [qyv hl h i2];exact ⟨rfl,rfl,trivial⟩
theorem q6x (a0:List Event) (hp:ln a0<=1000000000):qtq a0:=by
 refine ⟨fun h=>?_,fun hl=>⟨⟨by omega,zn _,rfl⟩,fun x n d ⟨i0,i1,i2⟩=>⟨fun h=>?_,fun h=>?_⟩⟩⟩
 .rw [quy h];exact ⟨rfl,rfl,trivial⟩
 .obtain ⟨s1,s2⟩:=quz hl i0 h i2
  refine ⟨⟨i0,h⟩,trivial,fun hc=>?_,fun hc=>⟨⟨i0,h⟩,⟨i0,h⟩,trivial,by omega,⟨by omega,by omega,s2 hc⟩,?_⟩⟩
  .rw [s1 hc]
   exact ⟨rfl,rfl,trivial⟩
  .simp only [qfj];omega
 .rw [qyv hl h i2];exact ⟨rfl,rfl,trivial⟩
theorem q9s (a0:List Event) (hp:ln a0<=1000000000):q9r a0:=by
 have h0:=zn a0
 refine ⟨hp,fun h=>?_,fun h=>⟨fun h2=>?_,fun h2=>⟨by omega,⟨by omega,by omega⟩,trivial,?_⟩⟩⟩
 .have e:ze a0=(0,0,(qe a0).1):=by unfold ze;rw [zT h]
  rw [e];exact ⟨rfl,rfl,rfl,trivial⟩
 .have e:ze a0=(0,1,0):=by unfold ze;rw [zF (by omega),zT h2]
  rw [e];exact ⟨rfl,rfl,rfl,trivial⟩
 .have e:ze a0=zs (ix a0 (ln a0-1)).AtN (ix a0 (ln a0-1)).AtD (ix a0 (ln a0-1)).DurN (ix a0 (ln a0-1)).DurD:=by unfold ze;rw [zF (by omega),zF h2]
  rw [e];exact ⟨rfl,rfl,rfl,trivial⟩
theorem zfp (a0:List Event) (hp:ln a0<=1000000000):q25 a0:=q9s a0 hp
theorem qxi (a0 a1:List Event) (hp:ln a0<=1000000000):qm7 a0 a1:=by
 refine ⟨fun h=>⟨(qz8 fun he=>h (by rw [he])).symm,trivial⟩,fun hl=>⟨⟨by omega,zn _,fun j j0 j1=>by omega⟩,fun x ⟨i0,i1,i2⟩=>⟨fun h=>⟨⟨i0,h⟩,⟨i0,by omega⟩,fun hc=>⟨(qz8 fun he=>?_).symm,trivial⟩,fun hc=>⟨by omega,⟨by omega,by omega,fun j j0 j1=>?_⟩,?_⟩⟩,fun h=>⟨(qwt (qly hl fun j j0 j1=>i2 j j0 (by omega))).symm,trivial⟩⟩⟩⟩
 .subst he
  simp at hc
 .obtain ⟨c1,c2,c3,c4,c5,c6,c7,c8,c9,c10⟩:=hc
  by_cases hj:j=x
  .subst hj
   exact q4u c1 c2 c3 c4 c5 c6 c7 c8 c9 c10
  .exact i2 j j0 (by omega)
 .simp only [qdd];omega
theorem q0n (a0:List Event) (hp:ln a0<=100000000):qon a0:=⟨by simp only [ln,qb8,List.length_nil] at *;omega,rfl,trivial⟩
theorem zma {n:Int} (h:0<=n):∃ m:Nat,n=m:=⟨n.toNat,by omega⟩
theorem zdn {a b c d:Int} (hp:qfs a b c d):zd (a.tdiv (zd a d) * c.tdiv (zd c b)) (b.tdiv (zd c b) * d.tdiv (zd a d))=1:=by
 obtain ⟨h0,_,h2,_,h4,_,h6,_,h8,h9⟩:=hp
 obtain ⟨A,rfl⟩:=zma h0
 obtain ⟨B,rfl⟩:=zma (show 0<=b by omega)
 obtain ⟨C,rfl⟩:=zma h4
 obtain ⟨D,rfl⟩:=zma (show 0<=d by omega)
 have hB:0<B:=by omega
 have hD:0<D:=by omega
 have e:∀ x y:Nat,zd (x:Int) (y:Int)=((Nat.gcd x y:Nat):Int):=fun x y=>by simp [zd]
 rw [e] at h8 h9
 have c1 : Nat.Coprime A B := by have : Nat.gcd A B = 1 := by omega
                                 exact this
 have c2 : Nat.Coprime C D := by have : Nat.gcd C D = 1 := by omega
                                 exact this
 rw [e A D,e C B]
 simp only [<-Int.ofNat_tdiv,<-Int.natCast_mul]
 rw [e]
 have g1:0<Nat.gcd A D:=Nat.gcd_pos_of_pos_right _ hD
 have g2:0<Nat.gcd C B:=Nat.gcd_pos_of_pos_right _ hB
 have dA:A / Nat.gcd A D ∣ A:=Nat.div_dvd_of_dvd (Nat.gcd_dvd_left A D)
 have dD:D / Nat.gcd A D ∣ D:=Nat.div_dvd_of_dvd (Nat.gcd_dvd_right A D)
 have dC:C / Nat.gcd C B ∣ C:=Nat.div_dvd_of_dvd (Nat.gcd_dvd_left C B)
 have dB:B / Nat.gcd C B ∣ B:=Nat.div_dvd_of_dvd (Nat.gcd_dvd_right C B)
 have k1:Nat.Coprime (A / Nat.gcd A D) (B / Nat.gcd C B):=Nat.Coprime.coprime_dvd_left dA (Nat.Coprime.coprime_dvd_right dB c1)
 have k2:Nat.Coprime (A / Nat.gcd A D) (D / Nat.gcd A D):=Nat.coprime_div_gcd_div_gcd g1
 have k3:Nat.Coprime (C / Nat.gcd C B) (B / Nat.gcd C B):=Nat.coprime_div_gcd_div_gcd g2
 have k4:Nat.Coprime (C / Nat.gcd C B) (D / Nat.gcd A D):=Nat.Coprime.coprime_dvd_left dC (Nat.Coprime.coprime_dvd_right dD c2)
 have k:Nat.Coprime (A / Nat.gcd A D * (C / Nat.gcd C B)) (B / Nat.gcd C B * (D / Nat.gcd A D)):=Nat.Coprime.mul_left (Nat.Coprime.mul_right k1 k2) (Nat.Coprime.mul_right k3 k4)
 have:Nat.gcd (A / Nat.gcd A D * (C / Nat.gcd C B)) (B / Nat.gcd C B * (D / Nat.gcd A D))=1:=k
 omega
theorem zbh {n g:Int} (h:1<=n) (e:g * n.tdiv g=n) (h0:0<=n.tdiv g):1<=n.tdiv g:=by
 by_cases hz:n.tdiv g=0
 .rw [hz,Int.mul_zero] at e;omega
 .omega
theorem q85 {a b m:Int} (ha:0<a) (hm:0<=m):m.tdiv a<b↔m<b * a:=by
 rw [Int.tdiv_eq_ediv_of_nonneg hm]
 exact Int.ediv_lt_iff_lt_mul ha
theorem ze8 (a0 a1 a2 a3:Int) (hp:qfs a0 a1 a2 a3):qro a0 a1 a2 a3:=by
 have hcop:=zdn hp
 obtain ⟨h0,h1,h2,h3,h4,h5,h6,h7,h8,h9⟩:=hp
 have g1:=qgy (a:=a0) h6
 have g2:=qgy (a:=a2) h2
 have q0:=j4 h0 (j9 a0 a3)
 have q3:=j4 (show 0<=a3 by omega) (j9 a0 a3)
 have q2:=j4 h4 (j9 a2 a1)
 have q1:=j4 (show 0<=a1 by omega) (j9 a2 a1)
 have p3:=zbh h6 (qvq (a:=a0) (show 0<=a3 by omega)) q3.1
 have p1:=zbh h2 (qvq (a:=a2) (show 0<=a1 by omega)) q1.1
 have eT:ku a0 a1 a2 a3=if (0<a0.tdiv (zd a0 a3)/\Int.tdiv 1099511627776 (a0.tdiv (zd a0 a3))<a2.tdiv (zd a2 a1))∨1048576<a1.tdiv (zd a2 a1) * a3.tdiv (zd a0 a3) then (0,0,4)
  else (a0.tdiv (zd a0 a3) * a2.tdiv (zd a2 a1),a1.tdiv (zd a2 a1) * a3.tdiv (zd a0 a3),0):=rfl
 have eO:∀ n d:Int,zd n d=1->n<=1099511627776->d<=1048576->ofT n d=(n,d,0):=fun n d hg hn hd=>by
  unfold ofT
  rw [hg,Int.tdiv_one,Int.tdiv_one,zF (by omega)]
 have b0:∀ z:Int,0<=z->0<=Int.tdiv 1099511627776 z/\Int.tdiv 1099511627776 z<=1099511627776:=fun z hz=>j4 (by decide) hz
 have b1:∀ z:Int,0<=z->0<=Int.tdiv 1048576 z/\Int.tdiv 1048576 z<=1048576:=fun z hz=>j4 (by decide) hz
 unfold qro
 dsimp only
 rw [eT]
 have z0:zd a0 a3≠0:=by omega
 have z2:zd a2 a1≠0:=by omega
 revert hcop q0 q1 q2 q3 p1 p3 z0 z2 g1 g2
 generalize a0.tdiv (zd a0 a3)=x0
 generalize a1.tdiv (zd a2 a1)=x1
 generalize a2.tdiv (zd a2 a1)=x2
 generalize a3.tdiv (zd a0 a3)=x3
 intro hcop g1 g2 q0 q3 q2 q1 p3 p1 z0 z2
 have bx0:=b0 x0 q0.1
 have bx3:=b1 x3 q3.1
 have e1:0<x0->(Int.tdiv 1099511627776 x0<x2↔1099511627776<x2 * x0):=fun h=>q85 h (by decide)
 have e2:Int.tdiv 1048576 x3<x1↔1048576<x1 * x3:=q85 (by omega) (by decide)
 have pn:0<=x0 * x2:=Int.mul_nonneg q0.1 q2.1
 have pd:1<=x1 * x3:=qwb p1 p3
 have fin:x0 * x2<=1099511627776->x1 * x3<=1048576->ofT (x0 * x2) (x1 * x3)=(x0 * x2,x1 * x3,0):=eO _ _ hcop
 have zero:x0<=0->x0 * x2=0:=fun h=>by
  have:x0=0:=by omega
  rw [this,Int.zero_mul]
 have cm:=Int.mul_comm x2 x0
 refine ⟨⟨h0,by omega,by omega,by omega⟩,⟨h4,by omega,by omega,by omega⟩,⟨z0,by omega,by omega⟩,⟨z0,by omega,by omega⟩,⟨z2,by omega,by omega⟩,⟨z2,by omega,by omega⟩,fun hz=>⟨⟨by omega,by omega,by omega⟩,fun hc=>?_,fun hc=>⟨fun hd=>⟨⟨by omega,by omega,by omega⟩,fun he=>?_,fun he=>?_⟩,fun hd=>absurd hd (by omega)⟩⟩,fun hz=>⟨fun hd=>⟨⟨by omega,by omega,by omega⟩,fun he=>?_,fun he=>?_⟩,fun hd=>absurd hd (by omega)⟩⟩
 .rw [zT (.inl ⟨hz,hc⟩)];exact ⟨rfl,rfl,rfl,trivial⟩
 .rw [zT (.inr (e2.1 he))];exact ⟨rfl,rfl,rfl,trivial⟩
 .have n1:x0 * x2<=1099511627776:=by have:=e1 hz;omega
  have n2:x1 * x3<=1048576:=by omega
  rw [zF (by omega),fin n1 n2];exact ⟨⟨by omega,by omega⟩,⟨by omega,by omega⟩,⟨pn,pd,by omega,by omega⟩,rfl,rfl,rfl,trivial⟩
 .rw [zT (.inr (e2.1 he))];exact ⟨rfl,rfl,rfl,trivial⟩
 .have n1:x0 * x2<=1099511627776:=by have:=zero hz;omega
  have n2:x1 * x3<=1048576:=by omega
  rw [zF (by omega),fin n1 n2];exact ⟨⟨by omega,by omega⟩,⟨by omega,by omega⟩,⟨pn,pd,by omega,by omega⟩,rfl,rfl,rfl,trivial⟩
theorem qqp {n d:Int} (h:qd n d=0):zd n d=1:=by
 have hb:=j6 h
 have hg:=qgy (a:=n) hb.2.2.1
 unfold qd at h
 rw [zF (by omega)] at h
 split at h<;>omega
theorem zj3 (a0 a1 a2 a3:Int):q9u a0 a1 a2 a3:=by
 have hl:ln [Time.mk a0 a1,Time.mk a2 a3]=2:=rfl
 refine ⟨trivial,trivial,by omega,fun h=>?_,fun h=>?_⟩
 .rw [qf4] at h ⊢
  unfold qal
  by_cases h1:qd a0 a1≠0
  .rw [zT h1,zT h1];exact ⟨rfl,rfl,rfl,trivial⟩
  .rw [zF h1] at h
   rw [zF h1,zF h1,zT h];exact ⟨rfl,rfl,rfl,trivial⟩
 .rw [qf4] at h
  have h1:qd a0 a1=0:=by
   by_cases h1:qd a0 a1≠0
   .rw [zT h1] at h;exact h
   .omega
  rw [zF (by omega)] at h
  have k1:=j6 h1
  have k2:=j6 h
  have e:qal a0 a1 a2 a3=ku a0 a1 a2 a3:=by unfold qal;rw [zF (by omega),zF (by omega)]
  rw [e]
  exact ⟨⟨k1.1,k1.2.1,k1.2.2.1,by omega,k2.1,k2.2.1,k2.2.2.1,by omega,qqp h1,qqp h⟩,rfl,rfl,rfl,trivial⟩
theorem zf3 (a0 a1 a2 a3:Int):qt4 a0 a1 a2 a3:=by
 have q:=@qbd a0 a1 a2
 have t:0<=7 * a1+a0+a3->0<=Int.tdiv (7 * a1+a0+a3) 7/\Int.tdiv (7 * a1+a0+a3) 7<=7 * a1+a0+a3:=fun h=>j4 h (by decide)
 unfold qt4 qbl qla
 dsimp only
 unhygienic (repeat' (first | exact trivial | apply And.intro | intro))
 all_goals (try split)
 all_goals (try split)
 all_goals (try split)
 all_goals first | omega | rfl
theorem q7h (a0 a1 a2 a3 a4 a5:Int):qno a0 a1 a2 a3 a4 a5:=by
 have q:=@qbd a0 a1 a2
 have q2:=@qbd a3 a4 a5
 have t:0<=2 * (7 * a4+a3)-(7 * a1+a0)->0<=Int.tdiv (2 * (7 * a4+a3)-(7 * a1+a0)) 7/\Int.tdiv (2 * (7 * a4+a3)-(7 * a1+a0)) 7<=2 * (7 * a4+a3)-(7 * a1+a0):=fun h=>j4 h (by decide)
 unfold qno qa2 qla
 dsimp only
 unhygienic (repeat' (first | exact trivial | apply And.intro | intro))
 all_goals (try split)
 all_goals (try split)
 all_goals (try split)
 all_goals first | omega | rfl
theorem zb0 (a0 a1 a2 a3:Int):qp9 a0 a1 a2 a3:=by
 unfold qp9 qg0
 dsimp only
 unhygienic (repeat' (first | exact trivial | apply And.intro | intro))
 all_goals (try split)
 all_goals omega
theorem zbu (a0 a1 a2:Int) (a3 a4:Bool) (a5 a6 a7 a8 a9 a10:Int):qp8 a0 a1 a2 a3 a4 a5 a6 a7 a8 a9 a10:=by
 unfold qp8 qjl
 dsimp only
 unhygienic (repeat' (first | exact trivial | apply And.intro | intro))
 all_goals (try split)
 all_goals (try split)
 all_goals (try split)
 all_goals (try split)
 all_goals (try split)
 all_goals omega
theorem zc8 (a0 a1:Int):qqh a0 a1:=by
 unfold qqh qhf
 unhygienic (repeat' (first | exact trivial | apply And.intro | intro))
 all_goals (try split)
 all_goals (try split)
 all_goals omega
theorem zfk (a0:List Event) (hp:ln a0<=1000000000):q21 a0:=
 fun _ hx=>⟨fun h=>⟨(hx h).symm,trivial⟩,fun _=>⟨qc5 (l:=([]:List Event)) (by rw [qkp];omega),rfl,trivial⟩⟩
theorem zdw (a0:List Event) (hp:ln a0<=1000000000):qy1 a0:=by
 refine ⟨⟨zK _,zn _,rfl⟩,fun i ⟨i0,i1,i2⟩=>⟨fun hi=>⟨⟨i0,hi⟩,fun hr=>?_,fun hr=>?_⟩,fun hi=>?_⟩⟩
 .rw [qem i0 hi] at i2
  rw [<-i2]
  unfold qc
  rw [zF (by rw [hr];simp)]
  exact ⟨rfl,rfl,rfl,rfl,trivial⟩
 .rw [qem i0 hi] at i2
  unfold qc at i2
  rw [zT hr] at i2
  refine ⟨⟨by omega,by omega⟩,⟨by omega,by omega,?_⟩,?_⟩
  .rw [i2]
   cases a0 with
   | nil=>rfl
   | cons x l=>rfl
  .simp only [qgp];omega
 .rw [qn1 hi] at i2
  rw [<-i2]
  exact ⟨rfl,rfl,rfl,rfl,trivial⟩
theorem all_nil (f:Event->Event) (g:Event->Int):qfa f g []=zy (([]:List Event).map f):=by unfold qfa qny;rw [zF (by simp)]
theorem qg2 {M c:List Event} {i n d:Int} {r:List Event×Int} (hL:ln M=0) (hr:r=zy M) (h:ChInv M c i n d):c=r.1/\(0:Int)=r.2/\True:=by
 obtain ⟨_,k1,k2⟩:=qnt hL hr h h.i0
 exact ⟨k1,k2,trivial⟩
theorem zbg {f:Int->Int->Int->Int×Int×Int×Int} {x:Event} (h:x.Rest=true):jz f x=x/\qiu f x=0:=by
 unfold jz qiu
 rw [zT h,zT h]
 exact ⟨rfl,rfl⟩
theorem zbf {f:Int->Int->Int->Int×Int×Int×Int} {x:Event} (h:x.Rest=false):jz f x = {x with PitchStep:=(f x.PitchStep x.PitchOctave x.PitchAlter).1,PitchOctave:=(f x.PitchStep x.PitchOctave x.PitchAlter).2.1,PitchAlter:=(f x.PitchStep x.PitchOctave x.PitchAlter).2.2.1}/\
  qiu f x=(f x.PitchStep x.PitchOctave x.PitchAlter).2.2.2:=by
 unfold jz qiu
 rw [zF (by simp [h]),zF (by simp [h])]
 exact ⟨rfl,rfl⟩
theorem q7n (a0:List Event) (a1:Int) (a2:Int) (a3:Int) (hp:ln a0<=1000000000):qt2 a0 a1 a2 a3:=by
 have hz:ln ([]:List Event)=0:=rfl
 have hb0:(qe a0).1≠0->qaz a0 a1 a2 a3=([],(qe a0).1):=fun h0=>by unfold qaz;rw [zT h0]
 have hb1:(qe a0).1=0->qi a1 a2 a3≠0->qaz a0 a1 a2 a3=([],qi a1 a2 a3):=fun h0 h1=>by unfold qaz;rw [zF (by omega),zT h1]
 have hr:(qe a0).1=0->qi a1 a2 a3=0->qaz a0 a1 a2 a3=qfa (jz fun x y z=>qa2 x y z a1 a2 a3) (qiu fun x y z=>qa2 x y z a1 a2 a3) a0:=fun h0 h1=>by unfold qaz;rw [zF (by omega),zF (by omega)]
 refine ⟨hp,fun h0=>?_,fun h0=>⟨trivial,fun h1=>?_,fun h1=>fun x hx=>⟨fun ht=>?_,fun _=>⟨qc5 (l:=([]:List Event)) (by omega),fun hn=>?_,fun hn=>?_⟩⟩⟩⟩
 .rw [hb0 h0];exact ⟨rfl,rfl,trivial⟩
 .rw [hb1 h0 h1];exact ⟨rfl,rfl,trivial⟩
 .obtain rfl:=hx ht
  have hR:=(hr h0 h1).trans (all_nil _ _)
  exact ⟨qbi _ _ _,fun i c h=>⟨fun hi=>absurd hi (by have:=MpInv.i0 h;omega),fun hi=>⟨qbo _,fun i c n d h=>⟨fun hi=>absurd hi (by have:=ChInv.i0 h;omega),fun hi=>qg2 (M:=([]:List Event).map (jz fun x y z=>qa2 x y z a1 a2 a3)) rfl hR h⟩⟩⟩⟩
 .have hR:=hr h0 h1
  refine ⟨qbi _ _ _,fun i c h=>⟨fun hi=>?_,fun hi=>?_⟩⟩
  .obtain ⟨k0,k1,k2,k3⟩:=qrc hR h hi
   refine ⟨⟨k0,hi⟩,k1,fun ht=>?_,fun ht=>?_⟩
   .obtain ⟨e1,e2⟩:=zbg (f:=fun x y z=>qa2 x y z a1 a2 a3) ht
    rw [e1] at k3
    exact ⟨⟨k0,hi⟩,k1,trivial,⟨by omega,by omega⟩,rfl,rfl,rfl,(k3 e2).1,(k3 e2).2⟩
   .obtain ⟨e1,e2⟩:=zbf (f:=fun x y z=>qa2 x y z a1 a2 a3) ht
    rw [e1,e2] at k3
    rw [e2] at k2
    exact ⟨trivial,fun he=>⟨(k2 he).1,(k2 he).2,trivial⟩,fun he=>⟨⟨k0,hi⟩,k1,trivial,⟨by omega,by omega⟩,rfl,rfl,rfl,(k3 he).1,(k3 he).2⟩⟩
  .obtain ⟨e1,e2⟩:=qwa hR h hi
   subst e1
   refine ⟨qbo _,fun i c n d h=>⟨fun hi=>?_,fun hi=>?_⟩⟩
   .obtain ⟨k0,k1,k2,k3,k4⟩:=qqn (qko _ _) e2 h hi
    exact ⟨⟨k0,hi⟩,k1,trivial,⟨k0,hi⟩,k2,trivial,fun he=>⟨(k3 he).1,(k3 he).2,trivial⟩,fun he=>⟨⟨by omega,by omega⟩,rfl,rfl,rfl,(k4 he).1,(k4 he).2⟩⟩
   .obtain ⟨k0,k1,k2⟩:=qnt (qko _ _) e2 h hi
    exact ⟨k0,k1,k2,trivial⟩
 .obtain rfl:=qje hn
  have hR:=(hr h0 h1).trans (all_nil _ _)
  exact ⟨qbi _ _ _,fun i c h=>⟨fun hi=>absurd hi (by have:=MpInv.i0 h;omega),fun hi=>⟨qbo _,fun i c n d h=>⟨fun hi=>absurd hi (by have:=ChInv.i0 h;omega),fun hi=>qg2 (M:=([]:List Event).map (jz fun x y z=>qa2 x y z a1 a2 a3)) rfl hR h⟩⟩⟩⟩
theorem zf9 (a0:List Event) (a1:Int) (hp:ln a0<=1000000000):q3h a0 a1:=by
 have hz:ln ([]:List Event)=0:=rfl
 have hb0:(qe a0).1≠0->jr a0 a1=([],(qe a0).1):=fun h0=>by unfold jr;rw [zT h0]
 have hr:(qe a0).1=0->jr a0 a1=qfa (jz fun x y z=>qbl x y z a1) (qiu fun x y z=>qbl x y z a1) a0:=fun h0=>by unfold jr;rw [zF (by omega)]
 refine ⟨hp,fun h0=>?_,fun h0=>fun x hx=>⟨fun ht=>?_,fun _=>⟨qc5 (l:=([]:List Event)) (by omega),fun hn=>?_,fun hn=>?_⟩⟩⟩
 .rw [hb0 h0];exact ⟨rfl,rfl,trivial⟩
 .obtain rfl:=hx ht
  have hR:=(hr h0).trans (all_nil _ _)
  exact ⟨qbi _ _ _,fun i c h=>⟨fun hi=>absurd hi (by have:=MpInv.i0 h;omega),fun hi=>⟨qbo _,fun i c n d h=>⟨fun hi=>absurd hi (by have:=ChInv.i0 h;omega),fun hi=>qg2 (M:=([]:List Event).map (jz fun x y z=>qbl x y z a1)) rfl hR h⟩⟩⟩⟩
 .have hR:=hr h0
  refine ⟨qbi _ _ _,fun i c h=>⟨fun hi=>?_,fun hi=>?_⟩⟩
  .obtain ⟨k0,k1,k2,k3⟩:=qrc hR h hi
   refine ⟨⟨k0,hi⟩,k1,fun ht=>?_,fun ht=>?_⟩
   .obtain ⟨e1,e2⟩:=zbg (f:=fun x y z=>qbl x y z a1) ht
    rw [e1] at k3
    exact ⟨⟨k0,hi⟩,k1,trivial,⟨by omega,by omega⟩,rfl,(k3 e2).1,(k3 e2).2⟩
   .obtain ⟨e1,e2⟩:=zbf (f:=fun x y z=>qbl x y z a1) ht
    rw [e1,e2] at k3
    rw [e2] at k2
    exact ⟨trivial,fun he=>⟨(k2 he).1,(k2 he).2,trivial⟩,fun he=>⟨⟨k0,hi⟩,k1,trivial,⟨by omega,by omega⟩,rfl,(k3 he).1,(k3 he).2⟩⟩
  .obtain ⟨e1,e2⟩:=qwa hR h hi
   subst e1
   refine ⟨qbo _,fun i c n d h=>⟨fun hi=>?_,fun hi=>?_⟩⟩
   .obtain ⟨k0,k1,k2,k3,k4⟩:=qqn (qko _ _) e2 h hi
    exact ⟨⟨k0,hi⟩,k1,trivial,⟨k0,hi⟩,k2,trivial,fun he=>⟨(k3 he).1,(k3 he).2,trivial⟩,fun he=>⟨⟨by omega,by omega⟩,rfl,(k4 he).1,(k4 he).2⟩⟩
   .obtain ⟨k0,k1,k2⟩:=qnt (qko _ _) e2 h hi
    exact ⟨k0,k1,k2,trivial⟩
 .obtain rfl:=qje hn
  have hR:=(hr h0).trans (all_nil _ _)
  exact ⟨qbi _ _ _,fun i c h=>⟨fun hi=>absurd hi (by have:=MpInv.i0 h;omega),fun hi=>⟨qbo _,fun i c n d h=>⟨fun hi=>absurd hi (by have:=ChInv.i0 h;omega),fun hi=>qg2 (M:=([]:List Event).map (jz fun x y z=>qbl x y z a1)) rfl hR h⟩⟩⟩⟩
theorem q3q (a0:List Event) (a1:Int) (a2:Int) (hp:ln a0<=1000000000):qr3 a0 a1 a2:=by
 have hz:ln ([]:List Event)=0:=rfl
 have hb0:(qe a0).1≠0->qbn a0 a1 a2=([],(qe a0).1):=fun h0=>by unfold qbn;rw [zT h0]
 have hb1:(qe a0).1=0->qhf a1 a2≠0->qbn a0 a1 a2=([],qhf a1 a2):=fun h0 h1=>by unfold qbn;rw [zF (by omega),zT h1]
 have hr:(qe a0).1=0->qhf a1 a2=0->qbn a0 a1 a2=qfa (q6g a1 a2) (fun x=>(qal x.DurN x.DurD a1 a2).2.2) a0:=fun h0 h1=>by unfold qbn;rw [zF (by omega),zF (by omega)]
 refine ⟨hp,fun h0=>?_,fun h0=>⟨trivial,fun h1=>?_,fun h1=>fun x hx=>⟨fun ht=>?_,fun _=>⟨qc5 (l:=([]:List Event)) (by omega),fun hn=>?_,fun hn=>?_⟩⟩⟩⟩
 .rw [hb0 h0];exact ⟨rfl,rfl,trivial⟩
 .rw [hb1 h0 h1];exact ⟨rfl,rfl,trivial⟩
 .obtain rfl:=hx ht
  have hR:=(hr h0 h1).trans (all_nil _ _)
  exact ⟨qbi _ _ _,fun i c h=>⟨fun hi=>absurd hi (by have:=MpInv.i0 h;omega),fun hi=>⟨qbo _,fun i c n d h=>⟨fun hi=>absurd hi (by have:=ChInv.i0 h;omega),fun hi=>qg2 (M:=([]:List Event).map (q6g a1 a2)) rfl hR h⟩⟩⟩⟩
 .have hR:=hr h0 h1
  refine ⟨qbi _ _ _,fun i c h=>⟨fun hi=>?_,fun hi=>?_⟩⟩
  .obtain ⟨k0,k1,k2,k3⟩:=qrc hR h hi
   exact ⟨⟨k0,hi⟩,k1,trivial,fun he=>⟨(k2 he).1,(k2 he).2,trivial⟩,fun he=>⟨⟨k0,hi⟩,k1,trivial,⟨by omega,by omega⟩,rfl,rfl,(k3 he).1,(k3 he).2⟩⟩
  .obtain ⟨e1,e2⟩:=qwa hR h hi
   subst e1
   refine ⟨qbo _,fun i c n d h=>⟨fun hi=>?_,fun hi=>?_⟩⟩
   .obtain ⟨k0,k1,k2,k3,k4⟩:=qqn (qko _ _) e2 h hi
    exact ⟨⟨k0,hi⟩,k1,trivial,⟨k0,hi⟩,k2,trivial,fun he=>⟨(k3 he).1,(k3 he).2,trivial⟩,fun he=>⟨⟨by omega,by omega⟩,rfl,rfl,(k4 he).1,(k4 he).2⟩⟩
   .obtain ⟨k0,k1,k2⟩:=qnt (qko _ _) e2 h hi
    exact ⟨k0,k1,k2,trivial⟩
 .obtain rfl:=qje hn
  have hR:=(hr h0 h1).trans (all_nil _ _)
  exact ⟨qbi _ _ _,fun i c h=>⟨fun hi=>absurd hi (by have:=MpInv.i0 h;omega),fun hi=>⟨qbo _,fun i c n d h=>⟨fun hi=>absurd hi (by have:=ChInv.i0 h;omega),fun hi=>qg2 (M:=([]:List Event).map (q6g a1 a2)) rfl hR h⟩⟩⟩⟩
theorem zc2 (a0:List Event) (hp:ln a0<=1000000000):qym a0:=by
 have hz:ln ([]:List Event)=0:=rfl
 have hb:(qe a0).1≠0->za a0=([],(qe a0).1):=fun h=>by unfold za;rw [zT h]
 have hr:(qe a0).1=0->za a0=zy a0.reverse:=fun h=>by unfold za;rw [zF (by omega)]
 refine ⟨hp,fun h0=>?_,fun h0=>fun x hx=>⟨fun ht=>?_,fun _=>⟨qc5 (l:=([]:List Event)) (by omega),fun hn=>?_,fun hn=>?_⟩⟩⟩
 .rw [hb h0];exact ⟨rfl,rfl,trivial⟩
 .obtain rfl:=hx ht
  have hR:=hr h0
  exact ⟨qwr [],fun i j c h=>⟨fun hi=>absurd hi (by have:=RvInv.i0 h;have:=RvInv.sum h;omega),fun hi=>⟨qbo [],fun i c n d h=>⟨fun hi=>absurd hi (by have:=ChInv.i0 h;omega),fun hi=>qg2 (M:=[]) rfl hR h⟩⟩⟩⟩
 .have hR:=hr h0
  refine ⟨⟨by omega,by omega⟩,qwr a0,fun i j c h=>⟨fun hi=>?_,fun hi=>?_⟩⟩
  .have q0:=RvInv.i0 h
   have q1:=RvInv.sum h
   have q2:=RvInv.len h
   exact ⟨⟨by omega,by omega⟩,by omega,⟨q0,by omega⟩,by omega,⟨q0,by omega⟩,by omega,trivial,⟨by omega,by omega⟩,by rw [qq6];omega,trivial,⟨by omega,by omega⟩,⟨by omega,by omega⟩,zmz h hi,by simp only [qgm];omega⟩
  .have e1:=zp7 h hi
   subst e1
   refine ⟨qbo _,fun i c n d h=>⟨fun hi=>?_,fun hi=>?_⟩⟩
   .obtain ⟨k0,k1,k2,k3,k4⟩:=qqn (qin _) hR h hi
    exact ⟨⟨k0,hi⟩,k1,trivial,⟨k0,hi⟩,k2,trivial,fun he=>⟨(k3 he).1,(k3 he).2,trivial⟩,fun he=>⟨⟨by omega,by omega⟩,(k4 he).1,(k4 he).2⟩⟩
   .obtain ⟨k0,k1,k2⟩:=qnt (qin _) hR h hi
    exact ⟨k0,k1,k2,trivial⟩
 .obtain rfl:=qje hn
  have hR:=hr h0
  exact ⟨⟨by omega,by omega⟩,qwr [],fun i j c h=>⟨fun hi=>absurd hi (by have:=RvInv.i0 h;have:=RvInv.sum h;omega),fun hi=>⟨qbo [],fun i c n d h=>⟨fun hi=>absurd hi (by have:=ChInv.i0 h;omega),fun hi=>qg2 (M:=[]) rfl hR h⟩⟩⟩⟩
theorem zcg (a0:List Event) (a1 a2:Int) (hp:ln a0<=1000000000):qya a0 a1 a2:=by
 have hl:ln [Event.mk 0 0 a1 a2 0 0 0 true 0 0]=1:=rfl
 have hr:(qe a0).1=0->qhf a1 a2=0->ln a0<2000->jq a0 a1 a2=zy (⟨0,0,a1,a2,0,0,0,true,0,0⟩::a0):=fun h0 h1 h2=>by unfold jq;rw [zF (by omega),zF (by omega),zF (by omega)]
 refine ⟨hp,fun h0=>?_,fun h0=>⟨trivial,fun h1=>?_,fun h1=>⟨fun h2=>?_,fun h2=>⟨trivial,rfl,rfl,rfl,qc5 (by omega),fun hn=>?_,fun hn=>?_⟩⟩⟩⟩
 .have e:jq a0 a1 a2=([],(qe a0).1):=by unfold jq;rw [zT h0]
  rw [e];exact ⟨rfl,rfl,trivial⟩
 .have e:jq a0 a1 a2=([],qhf a1 a2):=by unfold jq;rw [zF (by omega),zT h1]
  rw [e];exact ⟨rfl,rfl,trivial⟩
 .have e:jq a0 a1 a2=([],11):=by unfold jq;rw [zF (by omega),zF (by omega),zT h2]
  rw [e];exact ⟨rfl,rfl,trivial⟩
 .have hR:=hr h0 h1 h2
  have hL:ln ([Event.mk 0 0 a1 a2 0 0 0 true 0 0]++a0)=ln a0+1:=by rw [qq5,hl];omega
  refine ⟨qbo _,fun i c n d h=>⟨fun hi=>?_,fun hi=>?_⟩⟩
  .obtain ⟨k0,k1,k2,k3,k4⟩:=qqn (rfl) hR h hi
   exact ⟨⟨k0,hi⟩,k1,trivial,⟨k0,hi⟩,k2,trivial,fun he=>⟨(k3 he).1,(k3 he).2,trivial⟩,fun he=>⟨⟨by omega,by omega⟩,rfl,rfl,(k4 he).1,(k4 he).2⟩⟩
  .obtain ⟨k0,k1,k2⟩:=qnt (rfl) hR h hi
   exact ⟨k0,k1,k2,trivial⟩
 .obtain rfl:=qje hn
  have hR:=hr h0 h1 h2
  refine ⟨qbo _,fun i c n d h=>⟨fun hi=>?_,fun hi=>?_⟩⟩
  .obtain ⟨k0,k1,k2,k3,k4⟩:=qqn (rfl) hR h hi
   exact ⟨⟨k0,hi⟩,k1,trivial,⟨k0,hi⟩,k2,trivial,fun he=>⟨(k3 he).1,(k3 he).2,trivial⟩,fun he=>⟨⟨by omega,by omega⟩,rfl,rfl,(k4 he).1,(k4 he).2⟩⟩
  .obtain ⟨k0,k1,k2⟩:=qnt (rfl) hR h hi
   exact ⟨k0,k1,k2,trivial⟩
def fJ (dn dd k:Int) (mi re:Bool) (fn fd j:Int) (a:List Event):List Event×Int:=
 if j=0 then (if re=true then za a else (a,0)) else if j=1 then (if mi=true/\(qc a).2.2.2=true then qaz a (qc a).1 (qc a).2.1 (qc a).2.2.1 else (a,0))
 else if j=2 then jr a k else if j=3 then qbn a fn fd else if 0<dn then jq a dn dd else (a,0)
theorem q0g (l:List Event) (dn dd k:Int) (mi re:Bool) (fn fd:Int) {j:Int} (h0:0<=j) (h1:j<5):q0f l dn dd k mi re fn fd (j+1)=qbf (q0f l dn dd k mi re fn fd j) (fJ dn dd k mi re fn fd j):=by
 rcases (show j=0∨j=1∨j=2∨j=3∨j=4 by omega) with rfl | rfl | rfl | rfl | rfl
 .show (if re=true then za l else (l,0))=qbf (l,0) _
  rw [qb9];rfl
 .rfl
 .rfl
 .rfl
 .rfl
theorem bind_assoc (r:List Event×Int) (f g:List Event->List Event×Int):qbf (qbf r f) g=qbf r fun a=>qbf (f a) g:=by
 by_cases h:r.2≠0
 .have h2:(([],r.2):List Event×Int).2≠0:=h
  rw [qcz h,qcz h,qcz h2]
 .obtain ⟨a,e⟩:=r
  have h2:e=0:=by simpa using h
  subst h2
  rw [qb9,qb9]
theorem qnu (l:List Event):ln (zy l).1<=ln l/\((zy l).2≠0->(zy l).1=[]):=by
 have n0:=zn l
 unfold zy
 split
 .exact ⟨n0,fun _=>rfl⟩
 .exact ⟨by show ln (qg3 l 0 1)<=ln l;rw [qwe];omega,fun h=>absurd rfl h⟩
theorem qug (f:Event->Event) (g:Event->Int) (l:List Event):ln (qfa f g l).1<=ln l/\((qfa f g l).2≠0->(qfa f g l).1=[]):=by
 have n0:=zn l
 unfold qfa
 split
 .exact ⟨n0,fun _=>rfl⟩
 .have:=qnu (l.map f)
  rw [qko] at this
  exact this
theorem qkz (l:List Event):ln (za l).1<=ln l/\((za l).2≠0->(za l).1=[]):=by
 have n0:=zn l
 unfold za
 split
 .exact ⟨n0,fun _=>rfl⟩
 .have:=qnu l.reverse
  rw [qin] at this
  exact this
theorem qv8 (l:List Event) (s o a:Int):ln (qaz l s o a).1<=ln l/\((qaz l s o a).2≠0->(qaz l s o a).1=[]):=by
 have n0:=zn l
 unfold qaz
 split
 .exact ⟨n0,fun _=>rfl⟩
 .split
  .exact ⟨n0,fun _=>rfl⟩
  .exact qug _ _ l
theorem qv9 (l:List Event) (k:Int):ln (jr l k).1<=ln l/\((jr l k).2≠0->(jr l k).1=[]):=by
 have n0:=zn l
 unfold jr
 split
 .exact ⟨n0,fun _=>rfl⟩
 .exact qug _ _ l
theorem qw0 (l:List Event) (n d:Int):ln (qbn l n d).1<=ln l/\((qbn l n d).2≠0->(qbn l n d).1=[]):=by
 have n0:=zn l
 unfold qbn
 split
 .exact ⟨n0,fun _=>rfl⟩
 .split
  .exact ⟨n0,fun _=>rfl⟩
  .exact qug _ _ l
theorem q4k (l:List Event) (n d:Int):ln (jq l n d).1<=ln l+1/\((jq l n d).2≠0->(jq l n d).1=[]):=by
 have n0:=zn l
 have n1:ln ([]:List Event)<=ln l+1:=by rw [qkp];omega
 unfold jq
 split
 .exact ⟨n1,fun _=>rfl⟩
 .split
  .exact ⟨n1,fun _=>rfl⟩
  .split
   .exact ⟨n1,fun _=>rfl⟩
   .have:=qnu (⟨0,0,n,d,0,0,0,true,0,0⟩::l)
    rw [qeo] at this
    exact this
theorem zfu (a0:List Event) (a1 a2 a3:Int) (a4 a5:Bool) (a6 a7 a8 a9 a10 a11:Int) (hp:ln a0<=1000000000):q27 a0 a1 a2 a3 a4 a5 a6 a7 a8 a9 a10 a11:=by
 have n0:=zn a0
 refine ⟨hp,fun h0=>?_,fun h0=>⟨trivial,fun h1=>?_,fun h1=>⟨hp,⟨zK _,by decide,rfl,by have:=(qao h0).2;omega,fun h=>absurd rfl h⟩,fun i l e h=>?_⟩⟩⟩
 .have q:zr a0 a1 a2 a3 a4 a5 a6 a7 a8 a9 a10 a11=([],(qe a0).1):=by unfold zr;rw [zT h0]
  rw [q];exact ⟨rfl,rfl,trivial⟩
 .have q:zr a0 a1 a2 a3 a4 a5 a6 a7 a8 a9 a10 a11=([],qjl a1 a2 a3 a6 a7 a8 a9 a10 a11):=by unfold zr;rw [zF (by omega),zT h1]
  rw [q];exact ⟨rfl,rfl,trivial⟩
 .obtain ⟨i0,i5,hw,hl,hn⟩:=h
  refine ⟨fun hi=>?_,fun hi=>?_⟩
  .have m0:(5-(i+1)).toNat<(5-i).toNat:=by omega
   have lb:ln l<=1000000000:=by omega
   have w:=q0g a0 a1 a2 a3 a4 a5 a6 a7 i0 hi
   rw [<-hw] at w
   have nb:e≠0->zg a0 a1 a2 a3 a4 a5 a6 a7 a8 a9 a10 a11 (i+1) l e:=fun he=>by
    refine ⟨by omega,by omega,?_,by omega,hn⟩
    rw [w,qcz (show (l,e).2≠0 from he),hn he]
   have nx:∀ P:List Event×Int,fJ a1 a2 a3 a4 a5 a6 a7 i l=P->ln P.1<=ln l+1/\(P.2≠0->P.1=[])->e=0->(P.2≠0->zg a0 a1 a2 a3 a4 a5 a6 a7 a8 a9 a10 a11 (i+1) [] P.2)/\(P.2=0->zg a0 a1 a2 a3 a4 a5 a6 a7 a8 a9 a10 a11 (i+1) P.1 e):=fun P hP hf he=>by
    subst he
    rw [qb9,hP] at w
    refine ⟨fun hq=>⟨by omega,by omega,?_,by rw [qkp];omega,fun _=>rfl⟩,fun hq=>⟨by omega,by omega,?_,by omega,fun h=>absurd rfl h⟩⟩
    .rw [w,<-hf.2 hq]
    .rw [w,<-hq]
   have sm:fJ a1 a2 a3 a4 a5 a6 a7 i l=(l,0)->e=0->zg a0 a1 a2 a3 a4 a5 a6 a7 a8 a9 a10 a11 (i+1) l e:=fun hP he=>(nx (l,0) hP ⟨by show ln l<=ln l+1;omega,fun h=>absurd rfl h⟩ he).2 rfl
   have up:∀ {P:List Event×Int},ln P.1<=ln l/\(P.2≠0->P.1=[])->ln P.1<=ln l+1/\(P.2≠0->P.1=[]):=fun h=>⟨by have:=h.1;omega,h.2⟩
   refine ⟨⟨i0,hi⟩,fun hj=>⟨fun he=>⟨fun hr=>⟨lb,fun h'=>absurd he h',fun _=>?_⟩,fun hr=>⟨⟨by omega,by omega⟩,rfl,rfl,rfl,rfl,rfl,rfl,rfl,rfl,rfl,rfl,rfl,rfl,rfl,rfl,rfl,rfl,rfl,rfl,rfl,rfl,rfl,rfl,sm (by subst hj;unfold fJ;rw [zT rfl,zF (by simp [hr])]) he,m0⟩⟩,fun he=>⟨⟨by omega,by omega⟩,rfl,rfl,rfl,rfl,rfl,rfl,rfl,rfl,rfl,rfl,rfl,rfl,rfl,rfl,rfl,rfl,rfl,rfl,rfl,rfl,rfl,rfl,nb he,m0⟩⟩,
    fun hj=>⟨fun he=>⟨lb,fun hf=>⟨fun hr=>⟨lb,fun h'=>absurd he h',fun _=>?_⟩,fun hr=>⟨⟨by omega,by omega⟩,rfl,rfl,rfl,rfl,rfl,rfl,rfl,rfl,rfl,rfl,rfl,rfl,rfl,rfl,rfl,rfl,rfl,rfl,rfl,rfl,rfl,rfl,sm (by subst hj;unfold fJ;rw [zF (by decide),zT rfl,zF (by simp [hr])]) he,m0⟩⟩,fun hf=>⟨⟨by omega,by omega⟩,rfl,rfl,rfl,rfl,rfl,rfl,rfl,rfl,rfl,rfl,rfl,rfl,rfl,rfl,rfl,rfl,rfl,rfl,rfl,rfl,rfl,rfl,sm (by subst hj;unfold fJ;rw [zF (by decide),zT rfl,zF (by simp [hf])]) he,m0⟩⟩,fun he=>⟨⟨by omega,by omega⟩,rfl,rfl,rfl,rfl,rfl,rfl,rfl,rfl,rfl,rfl,rfl,rfl,rfl,rfl,rfl,rfl,rfl,rfl,rfl,rfl,rfl,rfl,nb he,m0⟩⟩,
    fun hj=>⟨fun he=>⟨lb,fun h'=>absurd he h',fun _=>?_⟩,fun he=>⟨⟨by omega,by omega⟩,rfl,rfl,rfl,rfl,rfl,rfl,rfl,rfl,rfl,rfl,rfl,rfl,rfl,rfl,rfl,rfl,rfl,rfl,rfl,rfl,rfl,rfl,nb he,m0⟩⟩,
    fun hj=>⟨fun he=>⟨lb,fun h'=>absurd he h',fun _=>?_⟩,fun he=>⟨⟨by omega,by omega⟩,rfl,rfl,rfl,rfl,rfl,rfl,rfl,rfl,rfl,rfl,rfl,rfl,rfl,rfl,rfl,rfl,rfl,rfl,rfl,rfl,rfl,rfl,nb he,m0⟩⟩,
    fun hj=>⟨fun he=>⟨fun hr=>⟨lb,fun h'=>absurd he h',fun _=>?_⟩,fun hr=>⟨⟨by omega,by omega⟩,rfl,rfl,rfl,rfl,rfl,rfl,rfl,rfl,rfl,rfl,rfl,rfl,rfl,rfl,rfl,rfl,rfl,rfl,rfl,rfl,rfl,rfl,sm (by subst hj;unfold fJ;rw [zF (by decide),zF (by decide),zF (by decide),zF (by decide),zF (by omega)]) he,m0⟩⟩,fun he=>⟨⟨by omega,by omega⟩,rfl,rfl,rfl,rfl,rfl,rfl,rfl,rfl,rfl,rfl,rfl,rfl,rfl,rfl,rfl,rfl,rfl,rfl,rfl,rfl,rfl,rfl,nb he,m0⟩⟩,trivial⟩
   .have q:=nx (za l) (by subst hj;unfold fJ;rw [zT rfl,zT hr]) (up (qkz l)) he
    exact ⟨fun hq=>⟨⟨by omega,by omega⟩,rfl,rfl,rfl,rfl,rfl,rfl,rfl,rfl,rfl,rfl,rfl,rfl,rfl,rfl,rfl,rfl,rfl,rfl,rfl,rfl,rfl,rfl,q.1 hq,m0⟩,fun hq=>⟨⟨by omega,by omega⟩,rfl,rfl,rfl,rfl,rfl,rfl,rfl,rfl,rfl,rfl,rfl,rfl,rfl,rfl,rfl,rfl,rfl,rfl,rfl,rfl,rfl,rfl,q.2 hq,m0⟩⟩
   .have q:=nx (qaz l (qc l).1 (qc l).2.1 (qc l).2.2.1) (by subst hj;unfold fJ;rw [zF (by decide),zT rfl,zT ⟨hr,hf⟩]) (up (qv8 l _ _ _)) he
    exact ⟨fun hq=>⟨⟨by omega,by omega⟩,rfl,rfl,rfl,rfl,rfl,rfl,rfl,rfl,rfl,rfl,rfl,rfl,rfl,rfl,rfl,rfl,rfl,rfl,rfl,rfl,rfl,rfl,q.1 hq,m0⟩,fun hq=>⟨⟨by omega,by omega⟩,rfl,rfl,rfl,rfl,rfl,rfl,rfl,rfl,rfl,rfl,rfl,rfl,rfl,rfl,rfl,rfl,rfl,rfl,rfl,rfl,rfl,rfl,q.2 hq,m0⟩⟩
   .have q:=nx (jr l a3) (by subst hj;unfold fJ;rw [zF (by decide),zF (by decide),zT rfl]) (up (qv9 l _)) he
    exact ⟨fun hq=>⟨⟨by omega,by omega⟩,rfl,rfl,rfl,rfl,rfl,rfl,rfl,rfl,rfl,rfl,rfl,rfl,rfl,rfl,rfl,rfl,rfl,rfl,rfl,rfl,rfl,rfl,q.1 hq,m0⟩,fun hq=>⟨⟨by omega,by omega⟩,rfl,rfl,rfl,rfl,rfl,rfl,rfl,rfl,rfl,rfl,rfl,rfl,rfl,rfl,rfl,rfl,rfl,rfl,rfl,rfl,rfl,rfl,q.2 hq,m0⟩⟩
   .have q:=nx (qbn l a6 a7) (by subst hj;unfold fJ;rw [zF (by decide),zF (by decide),zF (by decide),zT rfl]) (up (qw0 l _ _)) he
    exact ⟨fun hq=>⟨⟨by omega,by omega⟩,rfl,rfl,rfl,rfl,rfl,rfl,rfl,rfl,rfl,rfl,rfl,rfl,rfl,rfl,rfl,rfl,rfl,rfl,rfl,rfl,rfl,rfl,q.1 hq,m0⟩,fun hq=>⟨⟨by omega,by omega⟩,rfl,rfl,rfl,rfl,rfl,rfl,rfl,rfl,rfl,rfl,rfl,rfl,rfl,rfl,rfl,rfl,rfl,rfl,rfl,rfl,rfl,rfl,q.2 hq,m0⟩⟩
   .have q:=nx (jq l a1 a2) (by subst hj;unfold fJ;rw [zF (by decide),zF (by decide),zF (by decide),zF (by decide),zT hr]) (q4k l _ _) he
    exact ⟨fun hq=>⟨⟨by omega,by omega⟩,rfl,rfl,rfl,rfl,rfl,rfl,rfl,rfl,rfl,rfl,rfl,rfl,rfl,rfl,rfl,rfl,rfl,rfl,rfl,rfl,rfl,rfl,q.1 hq,m0⟩,fun hq=>⟨⟨by omega,by omega⟩,rfl,rfl,rfl,rfl,rfl,rfl,rfl,rfl,rfl,rfl,rfl,rfl,rfl,rfl,rfl,rfl,rfl,rfl,rfl,rfl,rfl,rfl,q.2 hq,m0⟩⟩
  .have h5:i=5:=by omega
   have q:zr a0 a1 a2 a3 a4 a5 a6 a7 a8 a9 a10 a11=q0f a0 a1 a2 a3 a4 a5 a6 a7 5:=by
    unfold zr q0f
    rw [zF (by omega),zF (by omega),zF (by decide),zF (by decide),zF (by decide),zF (by decide),zF (by decide),bind_assoc,bind_assoc]
   rw [q,<-h5,<-hw]
   exact ⟨rfl,rfl,trivial⟩
theorem zi8 {a b c d:Int} (h:qaf [Time.mk a b,Time.mk c d]=0):qd a b=0/\qd c d=0:=by
 rw [qf4] at h
 by_cases h1:qd a b≠0
 .rw [zT h1] at h;exact absurd h h1
 .rw [zF h1] at h;exact ⟨by omega,h⟩
theorem zm1 {a b c d:Int} (h:qaf [Time.mk a b,Time.mk c d]≠0):qam a b c d=(0,0,qaf [Time.mk a b,Time.mk c d]):=by
 rw [qf4] at h ⊢
 unfold qam
 by_cases h1:qd a b≠0
 .rw [zT h1,zT h1]
 .rw [zF h1] at h
  rw [zF h1,zF h1,zT h]
theorem zlo {a b c d:Int} (h:qaf [Time.mk a b,Time.mk c d]≠0):qbb a b c d=(0,0,qaf [Time.mk a b,Time.mk c d]):=by
 rw [qf4] at h ⊢
 unfold qbb
 by_cases h1:qd a b≠0
 .rw [zT h1,zT h1]
 .rw [zF h1] at h
  rw [zF h1,zF h1,zT h]
theorem q4h {a b c d:Int} (h1:qd a b=0) (h2:qd c d=0):qbb a b c d=if c=0 then (0,0,5) else ku a b d c:=by
 unfold qbb
 rw [zF (by omega),zF (by omega)]
theorem zgt {n d:Int} (h:qd n d=0) (h0:n≠0):zd d n=1:=by
 have:=qqp h
 unfold zd at this ⊢
 rw [Nat.gcd_comm]
 exact this
theorem zaf {a b c d:Int} (h1:qd a b=0) (h2:qd c d=0) (h:c≠0):qfs a b d c:=by
 have k1:=j6 h1
 have k2:=j6 h2
 exact ⟨k1.1,k1.2.1,k1.2.2.1,by omega,by omega,by omega,by omega,k2.2.1,qqp h1,zgt h2 h⟩
theorem zju (a0 a1 a2 a3:Int):q9q a0 a1 a2 a3:=by
 have hl:ln [Time.mk a0 a1,Time.mk a2 a3]=2:=rfl
 refine ⟨trivial,trivial,by omega,fun h=>?_,fun h=>?_⟩
 .rw [zlo h];exact ⟨rfl,rfl,rfl,trivial⟩
 .obtain ⟨h1,h2⟩:=zi8 h
  rw [q4h h1 h2]
  refine ⟨fun hz=>?_,fun hz=>?_⟩
  .rw [zT hz];exact ⟨rfl,rfl,rfl,trivial⟩
  .rw [zF hz];exact ⟨zaf h1 h2 hz,rfl,rfl,rfl,trivial⟩
theorem q8e (a0 a1:List Event) (a2 a3:Int) (hp:ln a0<=1000000000/\ln a1<=1000000000):qvf a0 a1 a2 a3:=by
 refine ⟨hp.1,fun h=>?_,fun h=>⟨hp.2,fun h1=>?_,fun h1=>⟨trivial,fun h2=>?_,fun h2=>⟨trivial,?_⟩⟩⟩⟩
 .have e:qm a0 a1 a2 a3=(0,0,false):=by unfold qm;rw [zT h]
  rw [e];exact ⟨rfl,rfl,rfl,trivial⟩
 .have e:qm a0 a1 a2 a3=(0,0,false):=by unfold qm;rw [zF (by omega),zT h1]
  rw [e];exact ⟨rfl,rfl,rfl,trivial⟩
 .have e:qm a0 a1 a2 a3=(0,0,false):=by unfold qm;rw [zF (by omega),zF (by omega),zT h2]
  rw [e];exact ⟨rfl,rfl,rfl,trivial⟩
 .unfold qm
  rw [zF (by omega),zF (by omega),zF (by omega)]
  exact ⟨rfl,rfl,rfl,trivial⟩
theorem zc5 (a0:List Event) (a1 a2:Int) (hp:ln a0<=1000000000):qqg a0 a1 a2:=by
 unfold qqg qjj qhf
 unhygienic (repeat' (first | exact trivial | apply And.intro | intro))
 all_goals (try split)
 all_goals (try split)
 all_goals (try split)
 all_goals omega
theorem zdz (a0:List Event) (hp:ln a0<=1000000000):qy2 a0:=by
 refine ⟨⟨zK _,zn _,rfl⟩,fun i ⟨i0,i1,i2⟩=>⟨fun hi=>⟨⟨i0,hi⟩,fun hr=>?_,fun hr=>?_⟩,fun hi=>?_⟩⟩
 .rw [qem i0 hi] at i2
  rw [<-i2]
  unfold qc
  rw [zF (by rw [hr];simp)]
  exact ⟨⟨i0,hi⟩,rfl,rfl,rfl,rfl,trivial⟩
 .rw [qem i0 hi] at i2
  unfold qc at i2
  rw [zT hr] at i2
  refine ⟨⟨by omega,by omega⟩,⟨by omega,by omega,?_⟩,?_⟩
  .rw [i2]
   cases a0 with
   | nil=>rfl
   | cons x l=>rfl
  .simp only [qgq];omega
 .rw [qn1 hi] at i2
  rw [<-i2]
  exact ⟨rfl,rfl,rfl,rfl,trivial⟩
theorem zdk (a0:List Event) (hp:ln a0<=1000000000):qys a0:=by
 have n0:=zn a0
 refine ⟨⟨zK _,n0,rfl,rfl,rfl⟩,fun o i n d ⟨i0,i1,i2,i3,i4⟩=>⟨fun hi=>?_,fun hi=>?_⟩⟩
 .rw [qem i0 hi,qms] at i3
  rw [qem i0 hi,qre] at i4
  refine ⟨⟨i0,hi⟩,trivial,qk2 (by omega),trivial,fun he=>?_,fun he=>⟨⟨by omega,by omega⟩,⟨by omega,by omega,by rw [za0];omega,?_,?_⟩,?_⟩⟩
  .rw [zT he] at i4
   have e:zy a0=([],(zs n d (ix a0 i).DurN (ix a0 i).DurD).2.2):=by unfold zy;rw [<-i4,zT he]
   rw [e];exact ⟨rfl,rfl,trivial⟩
  .rw [List.append_assoc];exact i3
  .rw [zF (by omega)] at i4;exact i4
  .simp only [qgo];omega
 .rw [qn1 hi] at i3 i4
  have e:zy a0=(o,0):=by
   have e1:qg3 a0 0 1=o:=by rw [<-i3];exact zJ o
   have e2:qjq a0 0 1=0:=i4.symm
   unfold zy
   rw [e2,e1,zF (by simp)]
  rw [e];exact ⟨rfl,rfl,trivial⟩
theorem zcz (a0:List Event) (hp:ln a0<=1000000000):qyl a0:=by
 have n0:=zn a0
 refine ⟨hp,fun h=>?_,fun h=>⟨⟨by omega,by omega⟩,⟨by omega,by omega,by rw [qkp];omega,?_⟩,fun o i ⟨i0,i1,i2,i3⟩=>⟨fun hi=>?_,fun hi=>?_⟩⟩⟩
 .have e:za a0=([],(qe a0).1):=by unfold za;rw [zT h]
  rw [e];exact ⟨rfl,rfl,trivial⟩
 .rw [qw9 (by omega)];rfl
 .refine ⟨⟨hi,i1⟩,trivial,qk2 (by omega),⟨by omega,by omega⟩,⟨by omega,by omega,by rw [za0];omega,?_⟩,?_⟩
  .rw [zfc hi i1,List.reverse_append] at i3
   rw [show i-1+1=i by omega,List.append_assoc]
   exact i3
  .simp only [qgl];omega
 .have e0:i+1=0:=by omega
  rw [e0,zfd] at i3
  have e1:o=a0.reverse:=by rw [<-i3];exact (zJ o).symm
  have e:za a0=zy o:=by unfold za;rw [zF (by omega),e1]
  rw [e]
  exact ⟨by rw [e1,qin];exact hp,rfl,rfl,trivial⟩
theorem zcd (a0:List Event) (a1 a2:Int) (hp:ln a0<=1000000000):qx9 a0 a1 a2:=by
 have hl:ln [Event.mk 0 0 a1 a2 0 0 0 true 0 0]=1:=rfl
 have hL:ln ([Event.mk 0 0 a1 a2 0 0 0 true 0 0]++a0)=ln a0+1:=by rw [qq5,hl];omega
 refine ⟨hp,fun h=>?_,fun h=>⟨fun h2=>?_,fun h2=>?_⟩⟩
 .have e:jq a0 a1 a2=([],qjj a0 a1 a2):=by
   unfold qjj at h ⊢
   unfold jq
   by_cases h1:(qe a0).1≠0
   .rw [zT h1,zT h1]
   .rw [zF h1] at h
    rw [zF h1,zF h1,zT h]
  rw [e];exact ⟨rfl,rfl,trivial⟩
 all_goals
  have h1:(qe a0).1=0/\qhf a1 a2=0:=by
   unfold qjj at h
   by_cases h1:(qe a0).1≠0
   .rw [zT h1] at h;exact absurd h h1
   .rw [zF h1] at h;exact ⟨by omega,h⟩
  have hv:=(qao h1.1).2
 .have e:jq a0 a1 a2=([],11):=by unfold jq;rw [zF (by omega),zF (by omega),zT (by omega)]
  rw [e];exact ⟨rfl,rfl,trivial⟩
 .have e:jq a0 a1 a2=zy ([Event.mk 0 0 a1 a2 0 0 0 true 0 0]++a0):=by unfold jq;rw [zF (by omega),zF (by omega),zF (by omega)];rfl
  rw [e]
  exact ⟨trivial,qc5 (by omega),by omega,rfl,rfl,trivial⟩
theorem q9j (a0:List Event) (a1 a2:Bool) (hp:ln a0<=1000000000):qw8 a0 a1 a2:=by
 have hr:=(qkz a0).1
 refine ⟨fun h=>⟨hp,fun he=>?_,fun he=>⟨by omega,fun h2=>⟨fun hf=>?_,fun hf=>?_⟩,fun h2=>?_⟩⟩,fun h=>⟨hp,fun h2=>⟨fun hf=>?_,fun hf=>?_⟩,fun h2=>?_⟩⟩
 .have e:z5 a0 a2 a1=([],(za a0).2):=by unfold z5;rw [zT h,qcz he]
  rw [e];exact ⟨rfl,rfl,trivial⟩
 all_goals
  have e0:z5 a0 a2 a1=qbf (if a1=true then za a0 else (a0,0)) fun m=>if a2=true/\(qc m).2.2.2=true then qaz m (qc m).1 (qc m).2.1 (qc m).2.2.1 else (m,0):=rfl
 .have er:za a0=((za a0).1,0):=by rw [<-he]
  rw [e0,zT h,er,qb9,zT ⟨h2,hf⟩]
  exact ⟨by show ln (za a0).1<=_;omega,rfl,rfl,trivial⟩
 .have er:za a0=((za a0).1,0):=by rw [<-he]
  rw [e0,zT h,er,qb9,zF (by simp [hf])]
  exact ⟨rfl,rfl,trivial⟩
 .have er:za a0=((za a0).1,0):=by rw [<-he]
  rw [e0,zT h,er,qb9,zF (by simp [h2])]
  exact ⟨rfl,rfl,trivial⟩
 .rw [e0,zF (by simp [h]),qb9,zT ⟨h2,hf⟩]
  exact ⟨hp,rfl,rfl,trivial⟩
 .rw [e0,zF (by simp [h]),qb9,zF (by simp [hf])]
  exact ⟨rfl,rfl,trivial⟩
 .rw [e0,zF (by simp [h]),qb9,zF (by simp [h2])]
  exact ⟨rfl,rfl,trivial⟩
theorem qmk:∀ {l m:List Event},jd l m=true↔ln l=ln m/\∀ j,0<=j->j<ln l->qc7 (ix l j) (ix m j)=true
 | [],[]=>⟨fun _=>⟨rfl,fun j h0 h1=>by rw [qkp] at h1;omega⟩,fun _=>rfl⟩
 | [],y::m=>⟨fun h=>(by cases h),fun h=>(by have h1:=h.1;have:=zn m;rw [qkp,qeo] at h1;omega)⟩
 | x::l,[]=>⟨fun h=>(by cases h),fun h=>(by have h1:=h.1;have:=zn l;rw [qkp,qeo] at h1;omega)⟩
 | x::l,y::m=>by
  unfold jd
  rw [zA,qmk (l:=l) (m:=m),qeo,qeo]
  constructor
  .rintro ⟨h1,h2,h3⟩
   refine ⟨by omega,fun j j0 j1=>?_⟩
   by_cases hj:j=0
   .subst hj;exact h1
   .obtain ⟨k,rfl⟩:∃ k,j=k+1:=⟨j-1,by omega⟩
    rw [qco (by omega),qco (by omega)]
    exact h3 k (by omega) (by omega)
  .rintro ⟨h1,h2⟩
   refine ⟨h2 0 (zK _) (by have:=zn l;omega),by omega,fun j j0 j1=>?_⟩
   have:=h2 (j+1) (by omega) (by omega)
   rwa [qco (by omega),qco (by omega)] at this
theorem qou {l m:List Event} (h:¬(ln l=ln m/\∀ j,0<=j->j<ln l->qc7 (ix l j) (ix m j)=true)):false=jd l m:=by
 cases e:jd l m with
 | false=>rfl
 | true=>exact absurd (qmk.1 e) h
theorem qj2 {a b:Event}:qc7 a b=true↔a.DurN=b.DurN/\a.DurD=b.DurD/\a.Rest=b.Rest/\a.PitchStep=b.PitchStep/\a.PitchOctave=b.PitchOctave/\a.PitchAlter=b.PitchAlter:=by
 unfold qc7;exact decide_eq_true_iff
theorem zdd (a0 a1:List Event) (hp:ln a0<=1000000000/\ln a1<=1000000000):qyo a0 a1:=by
 have n0:=zn a0
 refine ⟨fun h=>⟨qou fun hc=>h hc.1,trivial⟩,fun h=>⟨⟨zK _,n0,fun j j0 j1=>by omega⟩,fun i ⟨i0,i1,i2⟩=>⟨fun hi=>⟨⟨i0,hi⟩,⟨i0,by omega⟩,fun hd=>⟨?_,trivial⟩,fun hd=>⟨⟨i0,hi⟩,⟨i0,by omega⟩,fun hr=>⟨?_,trivial⟩,fun hr=>⟨⟨i0,hi⟩,⟨i0,by omega⟩,fun ht=>⟨?_,trivial⟩,fun ht=>⟨⟨by omega,by omega⟩,⟨by omega,by omega,fun j j0 j1=>?_⟩,?_⟩⟩⟩⟩,fun hi=>⟨?_,trivial⟩⟩⟩⟩
 .refine qou fun hc=>?_
  have:=qj2.1 (hc.2 i i0 hi)
  rcases hd with hd | hd
  .exact hd this.1
  .exact hd this.2.1
 .refine qou fun hc=>?_
  have:=qj2.1 (hc.2 i i0 hi)
  exact hr this.2.2.1
 .refine qou fun hc=>?_
  have:=qj2.1 (hc.2 i i0 hi)
  rcases ht with ht | ht | ht
  .exact ht this.2.2.2.1
  .exact ht this.2.2.2.2.1
  .exact ht this.2.2.2.2.2
 .by_cases hj:j=i
  .subst hj;exact qj2.2 ⟨hd.1,hd.2,hr,ht.1,ht.2.1,ht.2.2⟩
  .exact i2 j j0 (by omega)
 .simp only [qgn];omega
 .exact (qmk.2 ⟨h,fun j j0 j1=>i2 j j0 (by omega)⟩).symm
theorem zdm {f:Int->Int->Int->Int×Int×Int×Int} {l:List Event} (h:qgt l 0 1):zy (l.map (jz f))=(l.map (jz f),0):=by
 obtain ⟨c1,c2⟩:=qqo h
 obtain ⟨m1,m2⟩:=qtk (qpv f) (zbe f) l 0 1
 unfold zy
 rw [m1,m2,c1,c2,zF (by simp)]
theorem zh1 {f:Int->Int->Int->Int×Int×Int×Int} {l c:List Event} {i:Int} {r:List Event×Int} (hv:qgt l 0 1) (hr:r=qfa (jz f) (qiu f) l) (h:MpInv (jz f) (qiu f) l c i) (hi:ln l<=i):ln l=ln c/\c=r.1/\(0:Int)=r.2:=by
 obtain ⟨h1,h2⟩:=qwa hr h hi
 rw [h2,zdm hv,h1]
 exact ⟨(qko _ _).symm,rfl,rfl⟩
theorem za4 {f:Event->Event} {g:Event->Int} {l c:List Event} {i:Int} (h:MpInv f g l c i) (hi:i<ln l) (hx:f (ix c i)=ix c i) (he:g (ix c i)=0):MpInv f g l c (i+1):=by
 have hc:i<ln c:=by have:=h.len;omega
 have q:=za5 h hc he
 rw [hx] at q
 have e:c.set i.toNat (ix c i)=c:=by
  obtain ⟨n,rfl⟩:=Int.eq_ofNat_of_zero_le h.i0
  have hn:n<c.length:=by simp only [ln] at hc;omega
  rw [Int.toNat_natCast,qn9 hn,List.set_getElem_self]
 rwa [e] at q
theorem q7k (a0:List Event) (a1 a2 a3:Int) (hp:ln a0<=1000000000):qt1 a0 a1 a2 a3:=by
 have hz:ln ([]:List Event)=0:=rfl
 refine ⟨hp,fun h0=>?_,fun h0=>⟨trivial,fun h1=>?_,fun h1=>⟨qc5 (l:=([]:List Event)) (by omega),fun hn=>?_,fun hn=>?_⟩⟩⟩
 .have e:qaz a0 a1 a2 a3=([],(qe a0).1):=by unfold qaz;rw [zT h0]
  rw [e];exact ⟨rfl,rfl,trivial⟩
 .have e:qaz a0 a1 a2 a3=([],qi a1 a2 a3):=by unfold qaz;rw [zF (by omega),zT h1]
  rw [e];exact ⟨rfl,rfl,trivial⟩
 .have hv:=(qao h0).1
  have hR:qaz a0 a1 a2 a3=qfa (jz fun x y z=>qa2 x y z a1 a2 a3) (qiu fun x y z=>qa2 x y z a1 a2 a3) a0:=by unfold qaz;rw [zF (by omega),zF (by omega)]
  refine ⟨qbi _ _ _,fun i c h=>⟨fun hi=>?_,fun hi=>?_⟩⟩
  .obtain ⟨k0,k1,k2,k3⟩:=qrc hR h hi
   refine ⟨⟨k0,hi⟩,k1,fun ht=>?_,fun ht=>?_⟩
   .obtain ⟨e1,e2⟩:=zbf (f:=fun x y z=>qa2 x y z a1 a2 a3) ht
    rw [e1,e2] at k3
    rw [e2] at k2
    exact ⟨⟨k0,hi⟩,k1,trivial,⟨k0,hi⟩,k1,trivial,fun he=>⟨(k2 he).1,(k2 he).2,trivial⟩,fun he=>⟨⟨by omega,by omega⟩,rfl,rfl,rfl,(k3 he).1,(k3 he).2⟩⟩
   .obtain ⟨e1,e2⟩:=zbg (f:=fun x y z=>qa2 x y z a1 a2 a3) ht
    exact ⟨⟨by omega,by omega⟩,rfl,rfl,rfl,za4 h hi e1 e2,by simp only [qau];omega⟩
  .obtain ⟨k0,k1,k2⟩:=zh1 hv hR h hi
   exact ⟨k0,k1,k2,trivial⟩
 .obtain rfl:=qje hn
  have hR:qaz [] a1 a2 a3=([],0):=by
   unfold qaz
   rw [zF (by omega),zF (by omega),all_nil]
   rfl
  rw [hR]
  exact ⟨qbi _ _ _,fun i c h=>⟨fun hi=>absurd hi (by have:=MpInv.i0 h;omega),fun hi=>⟨rfl,rfl,trivial⟩⟩⟩
theorem q3b (a0 a1 a2 a3 a4 a5:Int):qld a0 a1 a2 a3 a4 a5:=by
 have q:=@qbd a0 a1 a2
 have q2:=@qbd a3 a4 a5
 have t:0<=2 * (7 * a4+a3)-(7 * a1+a0)->0<=Int.tdiv (2 * (7 * a4+a3)-(7 * a1+a0)) 7/\Int.tdiv (2 * (7 * a4+a3)-(7 * a1+a0)) 7<=2 * (7 * a4+a3)-(7 * a1+a0):=fun h=>j4 h (by decide)
 unfold qld qa2 qla
 dsimp only
 unhygienic (repeat' (first | exact trivial | apply And.intro | intro))
 all_goals (try split)
 all_goals (try split)
 all_goals (try split)
 all_goals first | omega | rfl
theorem zct (a0 a1 a2 a3:Int) (hp:I64 a3):qqf a0 a1 a2 a3:=by
 obtain ⟨hp1,hp2⟩:=hp
 have q:=@qbd a0 a1 a2
 have t:0<=7 * a1+a0+a3->0<=Int.tdiv (7 * a1+a0+a3) 7/\Int.tdiv (7 * a1+a0+a3) 7<=7 * a1+a0+a3:=fun h=>j4 h (by decide)
 unfold qqf qbl qla
 dsimp only
 unhygienic (repeat' (first | exact trivial | apply And.intro | intro))
 all_goals (try split)
 all_goals (try split)
 all_goals (try split)
 all_goals first | omega | rfl
theorem zj7 (a0 a1 a2 a3:Int):q0s a0 a1 a2 a3:=by
 have c1:=@j6 a0 a1
 have c2:=@j6 a2 a3
 have b:qd a0 a1=0->qd a2 a3=0->0<=a0 * a3/\a0 * a3<=1152921504606846976/\0<=a2 * a1/\a2 * a1<=1152921504606846976/\1<=a1 * a3/\a1 * a3<=1099511627776:=fun h1 h2=>by
  have b1:=c1 h1
  have b2:=c2 h2
  have p1:=qf9 b1.1 b1.2.1 (show 0<=a3 by omega) b2.2.2.2
  have p2:=qf9 b2.1 b2.2.1 (show 0<=a1 by omega) b1.2.2.2
  have p3:=qwb b1.2.2.1 b2.2.2.1
  have p4:=qf9 (show 0<=a1 by omega) b1.2.2.2 (show 0<=a3 by omega) b2.2.2.2
  omega
 clear c1 c2
 unfold q0s qam
 dsimp only
 unhygienic (repeat' (first | exact trivial | apply And.intro | intro))
 all_goals (try split)
 all_goals (try split)
 all_goals (try split)
 all_goals first | omega | rfl
theorem q61 (a0 a1 a2 a3:Int):qts a0 a1 a2 a3:=by
 have hl:ln ([a0,a1,a2,a3]:List Int)=4:=rfl
 have e0:ix ([a0,a1,a2,a3]:List Int) 0=a0:=rfl
 have e1:ix ([a0,a1,a2,a3]:List Int) 1=a1:=rfl
 have e2:ix ([a0,a1,a2,a3]:List Int) 2=a2:=rfl
 have e3:ix ([a0,a1,a2,a3]:List Int) 3=a3:=rfl
 have step:∀ i,0<=i->i<4->(∀ j,0<=j->j<i->ix [a0,a1,a2,a3] j=2∨ix [a0,a1,a2,a3] j=3)->(ix [a0,a1,a2,a3] i=2∨ix [a0,a1,a2,a3] i=3)->qc1 a0 a1 a2 a3 (i+1)/\qat a0 a1 a2 a3 (i+1)<qat a0 a1 a2 a3 i:=fun i i0 i1 h hi=>by
  refine ⟨⟨by omega,by omega,fun j j0 j1=>?_⟩,by simp only [qat];omega⟩
  by_cases hj:j=i
  .rw [hj];exact hi
  .exact h j j0 (by omega)
 refine ⟨trivial,trivial,trivial,trivial,⟨zK _,by decide,fun j j0 j1=>by omega⟩,fun i ⟨i0,i1,i2⟩=>⟨fun hi=>?_,fun hi=>?_⟩⟩
 .refine ⟨⟨i0,hi⟩,fun h2=>⟨⟨i0,hi⟩,fun h3=>⟨?_,trivial⟩,fun h3=>?_⟩,fun h2=>?_⟩
  .unfold qg0
   rw [zF]
   rintro ⟨q0,q1,q2,q3⟩
   rcases (show i=0∨i=1∨i=2∨i=3 by omega) with rfl | rfl | rfl | rfl
   .rw [e0] at h2 h3;omega
   .rw [e1] at h2 h3;omega
   .rw [e2] at h2 h3;omega
   .rw [e3] at h2 h3;omega
  .exact ⟨⟨by omega,by omega⟩,rfl,rfl,rfl,rfl,step i i0 (by omega) i2 (.inr h3)⟩
  .exact ⟨⟨by omega,by omega⟩,rfl,rfl,rfl,rfl,step i i0 (by omega) i2 (.inl h2)⟩
 .have q0:=i2 0 (by omega) (by omega)
  have q1:=i2 1 (by omega) (by omega)
  have q2:=i2 2 (by omega) (by omega)
  have q3:=i2 3 (by omega) (by omega)
  rw [e0] at q0;rw [e1] at q1;rw [e2] at q2;rw [e3] at q3
  unfold qg0
  rw [zT ⟨q0,q1,q2,q3⟩]
  exact ⟨rfl,trivial⟩
theorem zj0 (a0 a1 a2 a3:Int):q9t a0 a1 a2 a3:=by
 refine ⟨trivial,fun h=>⟨fun _=>?_,fun h'=>absurd h' h⟩,fun h=>⟨trivial,fun h'=>?_,fun h'=>?_⟩⟩
 .have e:qal a0 a1 a2 a3=(0,0,qd a0 a1):=by unfold qal;rw [zT h]
  rw [e];exact ⟨rfl,rfl,rfl,trivial⟩
 .have e:qal a0 a1 a2 a3=(0,0,qd a2 a3):=by unfold qal;rw [zF (by omega),zT h']
  rw [e];exact ⟨rfl,rfl,rfl,trivial⟩
 .have e:qal a0 a1 a2 a3=ku a0 a1 a2 a3:=by unfold qal;rw [zF (by omega),zF (by omega)]
  have k1:=j6 h
  have k2:=j6 h'
  rw [e]
  exact ⟨⟨k1.1,k1.2.1,k1.2.2.1,by omega,k2.1,k2.2.1,k2.2.2.1,by omega,qqp h,qqp h'⟩,rfl,rfl,rfl,trivial⟩
theorem zjr (a0 a1 a2 a3:Int):q9p a0 a1 a2 a3:=by
 refine ⟨trivial,fun h=>⟨fun _=>?_,fun h'=>absurd h' h⟩,fun h=>⟨trivial,fun h'=>?_,fun h'=>?_⟩⟩
 .have e:qbb a0 a1 a2 a3=(0,0,qd a0 a1):=by unfold qbb;rw [zT h]
  rw [e];exact ⟨rfl,rfl,rfl,trivial⟩
 .have e:qbb a0 a1 a2 a3=(0,0,qd a2 a3):=by unfold qbb;rw [zF (by omega),zT h']
  rw [e];exact ⟨rfl,rfl,rfl,trivial⟩
 .rw [q4h h h']
  refine ⟨fun hz=>?_,fun hz=>?_⟩
  .rw [zT hz];exact ⟨rfl,rfl,rfl,trivial⟩
  .rw [zF hz];exact ⟨zaf h h' hz,rfl,rfl,rfl,trivial⟩
theorem zf6 (a0:List Event) (a1:Int) (hp:ln a0<=1000000000/\I64 a1):q3g a0 a1:=by
 obtain ⟨hp,h64⟩:=hp
 have hz:ln ([]:List Event)=0:=rfl
 refine ⟨hp,fun h0=>?_,fun h0=>⟨qc5 (l:=([]:List Event)) (by omega),fun hn=>?_,fun hn=>?_⟩⟩
 .have e:jr a0 a1=([],(qe a0).1):=by unfold jr;rw [zT h0]
  rw [e];exact ⟨rfl,rfl,trivial⟩
 .have hv:=(qao h0).1
  have hR:jr a0 a1=qfa (jz fun x y z=>qbl x y z a1) (qiu fun x y z=>qbl x y z a1) a0:=by unfold jr;rw [zF (by omega)]
  refine ⟨qbi _ _ _,fun i c h=>⟨fun hi=>?_,fun hi=>?_⟩⟩
  .obtain ⟨k0,k1,k2,k3⟩:=qrc hR h hi
   refine ⟨⟨k0,hi⟩,k1,fun ht=>?_,fun ht=>?_⟩
   .obtain ⟨e1,e2⟩:=zbf (f:=fun x y z=>qbl x y z a1) ht
    rw [e1,e2] at k3
    rw [e2] at k2
    exact ⟨⟨k0,hi⟩,k1,h64,⟨k0,hi⟩,k1,trivial,fun he=>⟨(k2 he).1,(k2 he).2,trivial⟩,fun he=>⟨⟨by omega,by omega⟩,(k3 he).1,(k3 he).2⟩⟩
   .obtain ⟨e1,e2⟩:=zbg (f:=fun x y z=>qbl x y z a1) ht
    exact ⟨⟨by omega,by omega⟩,za4 h hi e1 e2,by simp only [qbx];omega⟩
  .obtain ⟨k0,k1,k2⟩:=zh1 hv hR h hi
   exact ⟨k0,k1,k2,trivial⟩
 .obtain rfl:=qje hn
  have hR:jr [] a1=([],0):=by
   unfold jr
   rw [zF (by omega),all_nil]
   rfl
  rw [hR]
  exact ⟨qbi _ _ _,fun i c h=>⟨fun hi=>absurd hi (by have:=MpInv.i0 h;omega),fun hi=>⟨rfl,rfl,trivial⟩⟩⟩
theorem ze5 (a0 a1 a2 a3:Int) (hp:qfs a0 a1 a2 a3):qrn a0 a1 a2 a3:=by
 obtain ⟨h0,h1,h2,h3,h4,h5,h6,h7,h8,h9⟩:=hp
 have g1:=qgy (a:=a0) h6
 have g2:=qgy (a:=a2) h2
 have q0:=j4 h0 (j9 a0 a3)
 have q3:=j4 (show 0<=a3 by omega) (j9 a0 a3)
 have q2:=j4 h4 (j9 a2 a1)
 have q1:=j4 (show 0<=a1 by omega) (j9 a2 a1)
 have eT:ku a0 a1 a2 a3=if (0<a0.tdiv (zd a0 a3)/\Int.tdiv 1099511627776 (a0.tdiv (zd a0 a3))<a2.tdiv (zd a2 a1))∨1048576<a1.tdiv (zd a2 a1) * a3.tdiv (zd a0 a3) then (0,0,4)
  else (a0.tdiv (zd a0 a3) * a2.tdiv (zd a2 a1),a1.tdiv (zd a2 a1) * a3.tdiv (zd a0 a3),0):=rfl
 have b0:∀ z:Int,0<=z->0<=Int.tdiv 1099511627776 z/\Int.tdiv 1099511627776 z<=1099511627776:=fun z hz=>j4 (by decide) hz
 unfold qrn
 dsimp only
 rw [eT]
 have z0:zd a0 a3≠0:=by omega
 have z2:zd a2 a1≠0:=by omega
 revert q0 q1 q2 q3 z0 z2 g1 g2
 generalize a0.tdiv (zd a0 a3)=x0
 generalize a1.tdiv (zd a2 a1)=x1
 generalize a2.tdiv (zd a2 a1)=x2
 generalize a3.tdiv (zd a0 a3)=x3
 intro g1 g2 q0 q3 q2 q1 z0 z2
 have bx0:=b0 x0 q0.1
 have e1:0<x0->(Int.tdiv 1099511627776 x0<x2↔1099511627776<x2 * x0):=fun h=>q85 h (by decide)
 have pn:0<=x0 * x2:=Int.mul_nonneg q0.1 q2.1
 have pd:=qf9 q1.1 (show x1<=1048576 by omega) q3.1 (show x3<=1099511627776 by omega)
 have cm:=Int.mul_comm x2 x0
 have zero:x0<=0->x0 * x2=0:=fun h=>by
  have:x0=0:=by omega
  rw [this,Int.zero_mul]
 refine ⟨⟨h0,by omega,by omega,by omega⟩,⟨h4,by omega,by omega,by omega⟩,⟨z0,by omega,by omega⟩,⟨z0,by omega,by omega⟩,⟨z2,by omega,by omega⟩,⟨z2,by omega,by omega⟩,fun hz=>⟨⟨by omega,by omega,by omega⟩,fun hc=>?_,fun hc=>⟨⟨by omega,by omega⟩,fun hd=>?_,fun hd=>?_⟩⟩,fun hz=>⟨⟨by omega,by omega⟩,fun hd=>?_,fun hd=>?_⟩⟩
 .rw [zT (.inl ⟨hz,hc⟩)];exact ⟨rfl,rfl,rfl,trivial⟩
 .rw [zT (.inr hd)];exact ⟨rfl,rfl,rfl,trivial⟩
 .have n1:x0 * x2<=1099511627776:=by have:=e1 hz;omega
  rw [zF (by omega)];exact ⟨⟨by omega,by omega⟩,⟨by omega,by omega⟩,rfl,rfl,rfl,trivial⟩
 .rw [zT (.inr hd)];exact ⟨rfl,rfl,rfl,trivial⟩
 .have n1:x0 * x2<=1099511627776:=by have:=zero hz;omega
  rw [zF (by omega)];exact ⟨⟨by omega,by omega⟩,⟨by omega,by omega⟩,rfl,rfl,rfl,trivial⟩
theorem q3n (a0:List Event) (a1 a2:Int) (hp:ln a0<=1000000000):qr2 a0 a1 a2:=by
 have hz:ln ([]:List Event)=0:=rfl
 have hb:qjj a0 a1 a2≠0->qbn a0 a1 a2=([],qjj a0 a1 a2):=fun h=>by
  unfold qjj at h ⊢
  unfold qbn
  by_cases h1:(qe a0).1≠0
  .rw [zT h1,zT h1]
  .rw [zF h1] at h
   rw [zF h1,zF h1,zT h]
 have hr:qjj a0 a1 a2=0->qbn a0 a1 a2=qfa (q6g a1 a2) (fun x=>(qal x.DurN x.DurD a1 a2).2.2) a0:=fun h=>by
  unfold qjj at h
  unfold qbn
  by_cases h1:(qe a0).1≠0
  .rw [zT h1] at h;exact absurd h h1
  .rw [zF h1] at h
   rw [zF h1,zF (by omega)]
 refine ⟨hp,fun h0=>?_,fun h0=>⟨qc5 (l:=([]:List Event)) (by omega),fun hn=>?_,fun hn=>?_⟩⟩
 .rw [hb h0];exact ⟨rfl,rfl,trivial⟩
 .have hR:=hr h0
  refine ⟨qbi _ _ _,fun i c h=>⟨fun hi=>?_,fun hi=>?_⟩⟩
  .obtain ⟨k0,k1,k2,k3⟩:=qrc hR h hi
   exact ⟨⟨k0,hi⟩,k1,trivial,⟨k0,hi⟩,k1,trivial,fun he=>⟨(k2 he).1,(k2 he).2,trivial⟩,fun he=>⟨⟨by omega,by omega⟩,rfl,rfl,(k3 he).1,(k3 he).2⟩⟩
  .obtain ⟨e1,e2⟩:=qwa hR h hi
   have hl:ln c=ln a0:=h.len
   rw [<-e1] at e2
   rw [e2]
   first
    | exact ⟨by omega,by omega,rfl,rfl,trivial⟩
    | exact ⟨by omega,rfl,rfl,trivial⟩
 .obtain rfl:=qje hn
  have hR:qbn [] a1 a2=zy []:=(hr h0).trans (all_nil _ _)
  rw [hR]
  exact ⟨qbi _ _ _,fun i c h=>⟨fun hi=>absurd hi (by have:=MpInv.i0 h;omega),fun hi=>⟨by omega,rfl,rfl,trivial⟩⟩⟩
theorem q6t (a0 a1 a2:Int) (a3 a4:Bool) (a5 a6 a7 a8 a9 a10:Int):qnm a0 a1 a2 a3 a4 a5 a6 a7 a8 a9 a10:=by
 have hm:qg0 a7 a8 a9 a10=0∨qg0 a7 a8 a9 a10=12:=by unfold qg0;split<;>simp
 unfold qnm qjl
 dsimp only
 unhygienic (repeat' (first | exact trivial | apply And.intro | intro))
 all_goals (try split)
 all_goals (try split)
 all_goals (try split)
 all_goals (try split)
 all_goals (try split)
 all_goals omega
theorem qsy {a b:Canon}:q2g a b=true↔a=b:=by
 constructor
 .intro h
  have:=of_decide_eq_true h
  cases a;cases b
  simp only at this
  obtain ⟨h1,h2,h3,h4,h5,h6,h7,h8,h9,h10,h11⟩:=this
  subst h1 h2 h3 h4 h5 h6 h7 h8 h9 h10 h11
  rfl
 .rintro rfl
  simp [q2g]
theorem qk1:∀ {a b:List Canon},qcd a b=true↔a=b
 | [],[]=>by simp [qcd]
 | [],_::_=>by simp [qcd]
 | _::_,[]=>by simp [qcd]
 | x::l,y::m=>by simp only [qcd,zA,qsy,qk1 (a:=l) (b:=m),List.cons.injEq]
theorem qz7 {a b:List Canon} (h:a≠b):false=qcd a b:=by
 cases e:qcd a b with
 | false=>rfl
 | true=>exact absurd (qk1.1 e) h
theorem qx1 (a0 a1:List Canon) (hp:ln a0<=1000000000):qnj a0 a1:=by
 have n0:=zn a0
 refine ⟨fun h=>⟨qz7 fun hc=>h (by rw [hc]),trivial⟩,fun h=>⟨⟨zK _,n0,fun j j0 j1=>by omega⟩,fun i ⟨i0,i1,i2⟩=>⟨fun hi=>⟨⟨i0,hi⟩,⟨i0,by omega⟩,fun hd=>⟨qz7 fun hc=>?_,trivial⟩,fun hd=>⟨⟨by omega,by omega⟩,⟨by omega,by omega,fun j j0 j1=>?_⟩,?_⟩⟩,fun hi=>⟨(qk1.2 (qly h fun j j0 j1=>i2 j j0 (by omega))).symm,trivial⟩⟩⟩⟩
 .subst hc
  simp at hd
 .by_cases hj:j=i
  .subst hj
   exact qsy.1 (decide_eq_true hd)
  .exact i2 j j0 (by omega)
 .simp only [qde];omega
theorem zka (a0 a1 a2 a3:Int):q9w a0 a1 a2 a3:=by
 have hl:ln [Time.mk a0 a1,Time.mk a2 a3]=2:=rfl
 refine ⟨trivial,trivial,by omega,fun h=>?_,fun h=>?_⟩
 .rw [zm1 h];exact ⟨rfl,rfl,rfl,trivial⟩
 .obtain ⟨h1,h2⟩:=zi8 h
  have b1:=j6 h1
  have b2:=j6 h2
  have p1:=qf9 b1.1 b1.2.1 (show 0<=a3 by omega) b2.2.2.2
  have p2:=qf9 b2.1 b2.2.1 (show 0<=a1 by omega) b1.2.2.2
  have p3:=qwb b1.2.2.1 b2.2.2.1
  have p4:=qf9 (show 0<=a1 by omega) b1.2.2.2 (show 0<=a3 by omega) b2.2.2.2
  have e:qam a0 a1 a2 a3=if a0 * a3<a2 * a1 then (0,0,2) else ofT (a0 * a3-a2 * a1) (a1 * a3):=by unfold qam;rw [zF (by omega),zF (by omega)]
  refine ⟨⟨by omega,by omega⟩,⟨by omega,by omega⟩,⟨by omega,by omega⟩,⟨by omega,by omega⟩,fun hc=>?_,fun hc=>⟨fun hd=>absurd hd (by omega),fun _=>⟨fun hd=>absurd hd (by omega),fun _=>?_⟩⟩⟩
  .rw [e,zT (by omega)];exact ⟨rfl,rfl,rfl,trivial⟩
  .rw [e,zF (by omega)]
   have g:=qgy (a:=a0 * a3-a2 * a1) p3
   have q1:=j4 hc (j9 (a0 * a3-a2 * a1) (a1 * a3))
   have q2:=j4 (show 0<=a1 * a3 by omega) (j9 (a0 * a3-a2 * a1) (a1 * a3))
   refine ⟨⟨by omega,by omega,by omega,by omega⟩,⟨by omega,by omega,by omega⟩,⟨by omega,by omega,by omega⟩,fun h=>?_,fun h=>⟨fun h'=>?_,fun h'=>?_⟩⟩
   .unfold ofT;rw [zT (.inl h)];exact ⟨rfl,rfl,rfl,trivial⟩
   .unfold ofT;rw [zT (.inr h')];exact ⟨rfl,rfl,rfl,trivial⟩
   .unfold ofT;rw [zF (by omega)];exact ⟨rfl,rfl,rfl,trivial⟩
theorem zdh {r:List Event×Int} {f:List Event->List Event×Int} {n:Int} (h:ln r.1<=n) (hf:∀ l,ln (f l).1<=ln l) (h0:0<=n):ln (qbf r f).1<=n:=by
 unfold qbf
 split
 .exact h0
 .have:=hf r.1;omega
theorem qrq (l:List Event) (mi re:Bool):ln (z5 l mi re).1<=ln l:=by
 have n0:=zn l
 unfold z5
 refine zdh ?_ (fun m=>?_) n0
 .split
  .exact (qkz l).1
  .exact zK _
 .split
  .exact (qv8 m _ _ _).1
  .exact zK _
theorem qhh {r:List Event×Int} (h:r.2=0) (f:List Event->List Event×Int):qbf r f=f r.1:=by
 obtain ⟨a,e⟩:=r
 have h:e=0:=h
 subst h
 exact qb9 a f
theorem zfx (a0:List Event) (a1 a2 a3:Int) (a4 a5:Bool) (a6 a7 a8 a9 a10 a11:Int) (hp:ln a0<=1000000000/\I64 a3):q28 a0 a1 a2 a3 a4 a5 a6 a7 a8 a9 a10 a11:=by
 obtain ⟨hp,h64⟩:=hp
 have l1:=qrq a0 a4 a5
 have l2:=(qv9 (z5 a0 a4 a5).1 a3).1
 have l3:=qw0 (jr (z5 a0 a4 a5).1 a3).1 a6 a7
 have mk:(qe a0).1=0->qjl a1 a2 a3 a6 a7 a8 a9 a10 a11=0->zr a0 a1 a2 a3 a4 a5 a6 a7 a8 a9 a10 a11=qbf (z5 a0 a4 a5) fun a=>qbf (jr a a3) fun b=>qbf (qbn b a6 a7) fun c=>if 0<a1 then jq c a1 a2 else (c,0):=fun h h'=>by
  unfold zr
  rw [zF (by omega),zF (by omega)]
 have c0:qjl a1 a2 a3 a6 a7 a8 a9 a10 a11=0->0<=a1:=fun h=>by
  unfold qjl at h
  by_cases hc:qd a1 a2≠0
  .rw [zT hc] at h;exact absurd h hc
  .exact (j6 (by omega:qd a1 a2=0)).1
 refine ⟨hp,fun h0=>⟨trivial,fun h1=>?_,fun h1=>⟨hp,fun h2=>?_,fun h2=>⟨⟨by omega,h64⟩,fun h3=>?_,fun h3=>⟨by omega,fun h4=>?_,fun h4=>⟨fun h5=>?_,fun h5=>?_⟩⟩⟩⟩⟩,fun h0=>⟨fun _=>?_,fun h=>absurd h h0⟩⟩
 .have e:zr a0 a1 a2 a3 a4 a5 a6 a7 a8 a9 a10 a11=([],qjl a1 a2 a3 a6 a7 a8 a9 a10 a11):=by unfold zr;rw [zF (by omega),zT h1]
  rw [e];exact ⟨rfl,rfl,trivial⟩
 .rw [mk h0 h1,qcz h2];exact ⟨rfl,rfl,trivial⟩
 .rw [mk h0 h1,qhh h2,qcz h3];exact ⟨rfl,rfl,trivial⟩
 .rw [mk h0 h1,qhh h2,qhh h3,qcz h4];exact ⟨l3.2 h4,rfl,trivial⟩
 .have:=c0 h1
  rw [mk h0 h1,qhh h2,qhh h3,qhh h4,zF (by omega)];exact ⟨rfl,h4,trivial⟩
 .have:=c0 h1
  rw [mk h0 h1,qhh h2,qhh h3,qhh h4,zT (by omega)];exact ⟨by have:=l3.1;omega,rfl,rfl,trivial⟩
 .have e:zr a0 a1 a2 a3 a4 a5 a6 a7 a8 a9 a10 a11=([],(qe a0).1):=by unfold zr;rw [zT h0]
  rw [e];exact ⟨rfl,rfl,trivial⟩
theorem qqy:∀ k:Int,0<=k->k<=6->0<=ix qpf k/\ix qpf k<=11:=fun k h0 h1=>by
 rcases (show k=0∨k=1∨k=2∨k=3∨k=4∨k=5∨k=6 by omega) with rfl | rfl | rfl | rfl | rfl | rfl | rfl<;>decide
theorem qzg {s o a:Int} (h:qi s o a=0):qbt (7 * o+s) a=qgh s o a/\-1<=qgh s o a/\qgh s o a<=200:=by
 obtain ⟨h0,h1,h2,h3,h4,h5⟩:=qbd h
 obtain ⟨e1,e2⟩:=zfa h0 h1 h2
 have b:=qqy s h0 h1
 unfold qbt qgh
 rw [e1,e2]
 exact ⟨rfl,by omega,by omega⟩
theorem q2v (a0 a1 a2 a3 a4 a5:Int):qrt a0 a1 a2 a3 a4 a5:=by
 refine ⟨trivial,fun h=>?_,fun h=>⟨trivial,fun h'=>?_,fun h'=>?_⟩⟩
 .have e:qa1 a0 a1 a2 a3 a4 a5=(0,0,qi a0 a1 a2):=by unfold qa1;rw [zT h]
  rw [e];exact ⟨rfl,rfl,rfl,trivial⟩
 .have e:qa1 a0 a1 a2 a3 a4 a5=(0,0,qi a3 a4 a5):=by unfold qa1;rw [zF (by omega),zT h']
  rw [e];exact ⟨rfl,rfl,rfl,trivial⟩
 .have e:qa1 a0 a1 a2 a3 a4 a5=(qir a3 a4-qir a0 a1,qgh a3 a4 a5-qgh a0 a1 a2,0):=by unfold qa1;rw [zF (by omega),zF (by omega)]
  have b1:=qbd h
  have b2:=qbd h'
  obtain ⟨e1,c1,c2⟩:=qzg h
  obtain ⟨e2,d1,d2⟩:=qzg h'
  rw [e,e1,e2]
  exact ⟨⟨by omega,by omega⟩,⟨by omega,by omega⟩,⟨by omega,by omega⟩,⟨by omega,by omega⟩,⟨by omega,by omega⟩,⟨by omega,by omega,by omega,by omega⟩,⟨by omega,by omega,by omega,by omega⟩,⟨by omega,by omega⟩,rfl,rfl,rfl,trivial⟩
theorem q8q (a0 a1:Int) (hp:(0:Int)<=a0/\(a0:Int)<=62/\(-1:Int)<=a1/\(a1:Int)<=1):qvy a0 a1:=by
 obtain ⟨h0,h1,h2,h3⟩:=hp
 have hd:=j4 h0 (show (0:Int)<=7 by decide)
 have hm:=q2n h0 (show (0:Int)<7 by decide)
 have key:∀ k v:Int,ix qpf k=v->Int.tmod a0 7=k->12 * Int.tdiv a0 7+v+a1=qbt a0 a1:=fun k v hv hk=>by unfold qbt;rw [hk,hv]
 exact ⟨⟨by decide,by omega,by omega⟩,⟨by omega,by omega⟩,by decide,⟨hm.1,by show _<(7:Int);omega⟩,
  fun h=>⟨⟨by omega,by omega⟩,⟨by omega,by omega⟩,key 0 0 rfl h,trivial⟩,fun h=>⟨⟨by omega,by omega⟩,⟨by omega,by omega⟩,key 1 2 rfl h,trivial⟩,
  fun h=>⟨⟨by omega,by omega⟩,⟨by omega,by omega⟩,key 2 4 rfl h,trivial⟩,fun h=>⟨⟨by omega,by omega⟩,⟨by omega,by omega⟩,key 3 5 rfl h,trivial⟩,
  fun h=>⟨⟨by omega,by omega⟩,⟨by omega,by omega⟩,key 4 7 rfl h,trivial⟩,fun h=>⟨⟨by omega,by omega⟩,⟨by omega,by omega⟩,key 5 9 rfl h,trivial⟩,
  fun h=>⟨⟨by omega,by omega⟩,⟨by omega,by omega⟩,key 6 11 rfl h,trivial⟩,trivial⟩
theorem q0i (a0 a1 a2 a3 a4 a5:Int):qj0 a0 a1 a2 a3 a4 a5:=by
 have hL:ln ([0,2,4,5,7,9,11]:List Int)=7:=rfl
 have f1:qi a0 a1 a2≠0->(qa1 a0 a1 a2 a3 a4 a5).1=0/\(qa1 a0 a1 a2 a3 a4 a5).2.1=0/\(qa1 a0 a1 a2 a3 a4 a5).2.2=qi a0 a1 a2:=fun h=>by unfold qa1;rw [zT h];exact ⟨rfl,rfl,rfl⟩
 have f2:qi a0 a1 a2=0->qi a3 a4 a5≠0->(qa1 a0 a1 a2 a3 a4 a5).1=0/\(qa1 a0 a1 a2 a3 a4 a5).2.1=0/\(qa1 a0 a1 a2 a3 a4 a5).2.2=qi a3 a4 a5:=fun h h'=>by unfold qa1;rw [zF (by omega),zT h'];exact ⟨rfl,rfl,rfl⟩
 have f3:qi a0 a1 a2=0->qi a3 a4 a5=0->(qa1 a0 a1 a2 a3 a4 a5).1=7 * a4+a3-(7 * a1+a0)/\(qa1 a0 a1 a2 a3 a4 a5).2.1=12 * a4+ix ([0,2,4,5,7,9,11]:List Int) a3+a5-(12 * a1+ix ([0,2,4,5,7,9,11]:List Int) a0+a2)/\(qa1 a0 a1 a2 a3 a4 a5).2.2=0:=fun h h'=>by unfold qa1;rw [zF (by omega),zF (by omega)];exact ⟨rfl,rfl,rfl⟩
 have b1:qi a0 a1 a2=0->0<=a0/\a0<=6/\0<=a1/\a1<=8/\-1<=a2/\a2<=1/\0<=ix ([0,2,4,5,7,9,11]:List Int) a0/\ix ([0,2,4,5,7,9,11]:List Int) a0<=11:=fun h=>by
  have b:=qbd h
  have:=qqy a0 b.1 b.2.1
  exact ⟨b.1,b.2.1,b.2.2.1,b.2.2.2.1,b.2.2.2.2.1,b.2.2.2.2.2,this.1,this.2⟩
 have b2:qi a3 a4 a5=0->0<=a3/\a3<=6/\0<=a4/\a4<=8/\-1<=a5/\a5<=1/\0<=ix ([0,2,4,5,7,9,11]:List Int) a3/\ix ([0,2,4,5,7,9,11]:List Int) a3<=11:=fun h=>by
  have b:=qbd h
  have:=qqy a3 b.1 b.2.1
  exact ⟨b.1,b.2.1,b.2.2.1,b.2.2.2.1,b.2.2.2.2.1,b.2.2.2.2.2,this.1,this.2⟩
 unfold qj0
 dsimp only
 revert hL f1 f2 f3 b1 b2
 generalize (qa1 a0 a1 a2 a3 a4 a5).1=r1
 generalize (qa1 a0 a1 a2 a3 a4 a5).2.1=r2
 generalize (qa1 a0 a1 a2 a3 a4 a5).2.2=r3
 generalize ln ([0,2,4,5,7,9,11]:List Int)=n
 generalize ix ([0,2,4,5,7,9,11]:List Int) a0=v0
 generalize ix ([0,2,4,5,7,9,11]:List Int) a3=v3
 generalize qi a0 a1 a2=p
 generalize qi a3 a4 a5=q
 intro hL f1 f2 f3 b1 b2
 by_cases hp:p=0
 .subst hp
  have b1:=b1 rfl
  have f2:=f2 rfl
  have f3:=f3 rfl
  clear f1
  by_cases hq:q=0
  .subst hq
   have b2:=b2 rfl
   have f3:=f3 rfl
   clear f2
   obtain ⟨e1,e2,e3⟩:=f3
   subst e1 e2 e3
   repeat' (first | exact trivial | apply And.intro | intro)
   all_goals first | omega | contradiction
  .have f2:=f2 hq
   obtain ⟨e1,e2,e3⟩:=f2
   clear f3 b2
   subst e1 e2 e3
   repeat' (first | exact trivial | apply And.intro | intro)
   all_goals first | omega | contradiction
 .have f1:=f1 hp
  obtain ⟨e1,e2,e3⟩:=f1
  clear f2 f3 b1
  subst e1 e2 e3
  by_cases hq:q=0
  .have b2:=b2 hq
   repeat' (first | exact trivial | apply And.intro | intro)
   all_goals first | omega | contradiction
  .clear b2
   repeat' (first | exact trivial | apply And.intro | intro)
   all_goals first | omega | contradiction
theorem ze1 (a0:List Event) (a1 a2 a3:Int) (a4 a5:Bool) (a6 a7 a8 a9 a10 a11:Int) (a12:List Event) (hp:(qe a0).1=0/\(qe a12).1=0):q0a a0 a1 a2 a3 a4 a5 a6 a7 a8 a9 a10 a11 a12:=by
 obtain ⟨h0,h12⟩:=hp
 have n0:=zn a0
 have v0:=qao h0
 have v12:=qao h12
 refine ⟨by omega,⟨zK _,by decide,rfl,by omega,fun h=>absurd rfl h⟩,fun i l e h=>?_⟩
 obtain ⟨i0,i2,hw,hl,hn⟩:=h
 refine ⟨fun hi=>?_,fun hi=>?_⟩
 .have m0:(2-(i+1)).toNat<(2-i).toNat:=by omega
  have lb:ln l<=1000000000:=by omega
  have w:=q0g a0 a1 a2 a3 a4 a5 a6 a7 i0 (show i<5 by omega)
  rw [<-hw] at w
  have nb:e≠0->z8 a0 a1 a2 a3 a4 a5 a6 a7 a8 a9 a10 a11 a12 (i+1) l e:=fun he=>by
   refine ⟨by omega,by omega,?_,by omega,hn⟩
   rw [w,qcz (show (l,e).2≠0 from he),hn he]
  have nx:∀ P:List Event×Int,fJ a1 a2 a3 a4 a5 a6 a7 i l=P->ln P.1<=ln l+1/\(P.2≠0->P.1=[])->e=0->(P.2≠0->z8 a0 a1 a2 a3 a4 a5 a6 a7 a8 a9 a10 a11 a12 (i+1) [] P.2)/\(P.2=0->z8 a0 a1 a2 a3 a4 a5 a6 a7 a8 a9 a10 a11 a12 (i+1) P.1 e):=fun P hP hf he=>by
   subst he
   rw [qb9,hP] at w
   refine ⟨fun hq=>⟨by omega,by omega,?_,by rw [qkp];omega,fun _=>rfl⟩,fun hq=>⟨by omega,by omega,?_,by omega,fun h=>absurd rfl h⟩⟩
   .rw [w,<-hf.2 hq]
   .rw [w,<-hq]
  have sm:fJ a1 a2 a3 a4 a5 a6 a7 i l=(l,0)->e=0->z8 a0 a1 a2 a3 a4 a5 a6 a7 a8 a9 a10 a11 a12 (i+1) l e:=fun hP he=>(nx (l,0) hP ⟨by show ln l<=ln l+1;omega,fun h=>absurd rfl h⟩ he).2 rfl
  have up:∀ {P:List Event×Int},ln P.1<=ln l/\(P.2≠0->P.1=[])->ln P.1<=ln l+1/\(P.2≠0->P.1=[]):=fun h=>⟨by have:=h.1;omega,h.2⟩
  refine ⟨⟨i0,hi⟩,fun hj=>⟨fun he=>⟨fun hr=>⟨lb,fun h'=>absurd he h',fun _=>?_⟩,fun hr=>⟨⟨by omega,by omega⟩,rfl,rfl,rfl,rfl,rfl,rfl,rfl,rfl,rfl,rfl,rfl,rfl,rfl,rfl,rfl,rfl,rfl,rfl,rfl,rfl,rfl,rfl,sm (by subst hj;unfold fJ;rw [zT rfl,zF (by simp [hr])]) he,m0⟩⟩,fun he=>⟨⟨by omega,by omega⟩,rfl,rfl,rfl,rfl,rfl,rfl,rfl,rfl,rfl,rfl,rfl,rfl,rfl,rfl,rfl,rfl,rfl,rfl,rfl,rfl,rfl,rfl,nb he,m0⟩⟩,
   fun hj=>⟨fun he=>⟨lb,fun hf=>⟨fun hr=>⟨lb,fun h'=>absurd he h',fun _=>?_⟩,fun hr=>⟨⟨by omega,by omega⟩,rfl,rfl,rfl,rfl,rfl,rfl,rfl,rfl,rfl,rfl,rfl,rfl,rfl,rfl,rfl,rfl,rfl,rfl,rfl,rfl,rfl,rfl,sm (by subst hj;unfold fJ;rw [zF (by decide),zT rfl,zF (by simp [hr])]) he,m0⟩⟩,fun hf=>⟨⟨by omega,by omega⟩,rfl,rfl,rfl,rfl,rfl,rfl,rfl,rfl,rfl,rfl,rfl,rfl,rfl,rfl,rfl,rfl,rfl,rfl,rfl,rfl,rfl,rfl,sm (by subst hj;unfold fJ;rw [zF (by decide),zT rfl,zF (by simp [hf])]) he,m0⟩⟩,fun he=>⟨⟨by omega,by omega⟩,rfl,rfl,rfl,rfl,rfl,rfl,rfl,rfl,rfl,rfl,rfl,rfl,rfl,rfl,rfl,rfl,rfl,rfl,rfl,rfl,rfl,rfl,nb he,m0⟩⟩,trivial⟩
  .have q:=nx (za l) (by subst hj;unfold fJ;rw [zT rfl,zT hr]) (up (qkz l)) he
   exact ⟨fun hq=>⟨⟨by omega,by omega⟩,rfl,rfl,rfl,rfl,rfl,rfl,rfl,rfl,rfl,rfl,rfl,rfl,rfl,rfl,rfl,rfl,rfl,rfl,rfl,rfl,rfl,rfl,q.1 hq,m0⟩,fun hq=>⟨⟨by omega,by omega⟩,rfl,rfl,rfl,rfl,rfl,rfl,rfl,rfl,rfl,rfl,rfl,rfl,rfl,rfl,rfl,rfl,rfl,rfl,rfl,rfl,rfl,rfl,q.2 hq,m0⟩⟩
  .have q:=nx (qaz l (qc l).1 (qc l).2.1 (qc l).2.2.1) (by subst hj;unfold fJ;rw [zF (by decide),zT rfl,zT ⟨hr,hf⟩]) (up (qv8 l _ _ _)) he
   exact ⟨fun hq=>⟨⟨by omega,by omega⟩,rfl,rfl,rfl,rfl,rfl,rfl,rfl,rfl,rfl,rfl,rfl,rfl,rfl,rfl,rfl,rfl,rfl,rfl,rfl,rfl,rfl,rfl,q.1 hq,m0⟩,fun hq=>⟨⟨by omega,by omega⟩,rfl,rfl,rfl,rfl,rfl,rfl,rfl,rfl,rfl,rfl,rfl,rfl,rfl,rfl,rfl,rfl,rfl,rfl,rfl,rfl,rfl,rfl,q.2 hq,m0⟩⟩
 .have h2:i=2:=by omega
  subst h2
  have ht:z5 a0 a4 a5=(l,e):=hw.symm
  refine ⟨fun he=>?_,fun he=>⟨by omega,by omega,fun hf=>?_,fun hf=>⟨fun hg=>?_,fun hg=>⟨trivial,?_⟩⟩⟩⟩
  .have q:zh a0 a12 a4 a5=(0,false):=by unfold zh;rw [ht,zT he]
   rw [q];exact ⟨rfl,rfl,trivial⟩
  .have q:zh a0 a12 a4 a5=(0,true):=by unfold zh;rw [ht,zF (by simp [he]),zF (fun h=>by rw [hf] at h;exact absurd h.1 (by decide))]
   rw [q];exact ⟨rfl,rfl,trivial⟩
  .have q:zh a0 a12 a4 a5=(0,true):=by unfold zh;rw [ht,zF (by simp [he]),zF (fun h=>by rw [hg] at h;exact absurd h.2 (by decide))]
   rw [q];exact ⟨rfl,rfl,trivial⟩
  .have q:zh a0 a12 a4 a5=(qir (qc a12).1 (qc a12).2.1-qir (qc l).1 (qc l).2.1,true):=by unfold zh;rw [ht,zF (by simp [he]),zT ⟨hf,hg⟩]
   have hc:=(q6n (mi:=a4) (re:=a5) v0.1 v0.2 (by rw [ht];exact he)).1.ch
   rw [ht] at hc
   have p1:=qlt (qf1 hc) hf
   have p2:=qlt (qf1 v12.1) hg
   have b:qa1 (qc l).1 (qc l).2.1 (qc l).2.2.1 (qc a12).1 (qc a12).2.1 (qc a12).2.2.1=(qir (qc a12).1 (qc a12).2.1-qir (qc l).1 (qc l).2.1,qgh (qc a12).1 (qc a12).2.1 (qc a12).2.2.1-qgh (qc l).1 (qc l).2.1 (qc l).2.2.1,0):=by
    unfold qa1;rw [zF (fun h=>h p1),zF (fun h=>h p2)]
   rw [q,b]
   exact ⟨rfl,rfl,trivial⟩
theorem qg6 (l m:List Event) {n:Int} (h:0<=n):qgs l m (n+1).toNat=qgs l m n.toNat++ql9 l m n:=by
 obtain ⟨k,rfl⟩:=Int.eq_ofNat_of_zero_le h
 rw [show ((k:Int)+1).toNat=k+1 by omega,Int.toNat_natCast]
 rfl
theorem zml (l m:List Event) (n:Int):ln (ql9 l m n)<=1:=by
 unfold ql9
 split
 .split
  .exact zK _
  .exact by decide
 .split
  .exact zK _
  .exact by decide
theorem qk4 (l m:List Event):∀ n:Nat,ln (qgs l m n)<=n
 | 0=>zK _
 | n+1=>by
  have h1:=qk4 l m n
  have h2:=zml l m n
  show ln (qgs l m n++ql9 l m n)<=_
  rw [qq5]
  omega
theorem zeh (l m:List Event):ln (ky l m).1<=8:=by
 unfold ky
 split
 .show (0:Int)<=8;decide
 .split
  .show (0:Int)<=8;decide
  .exact qk4 l m 8
theorem q1y (re mi:Bool) {n:Int} (h:0<=n):0<=nOf re mi n:=by unfold nOf;split<;>split<;>omega
theorem qwc (re mi:Bool) (n:Int):nOf re mi (n+1)=nOf re mi n+1:=by unfold nOf;omega
theorem qo5 {m:List Event} (h:qiw m=true):qb6 m=[Time.mk 0 1,Time.mk (ix m 0).DurN (ix m 0).DurD]:=by unfold qb6;rw [zT h];rfl
theorem qlo {m:List Event} (h:¬qiw m=true):qb6 m=[Time.mk 0 1]:=by unfold qb6;rw [zF h];rfl
theorem zmk {l m:List Event} {re mi:Bool} {n:Int} (h0:0<=n) (h1:n<ln (qb6 m)) :
  ql9 l m (nOf re mi n)=if qdb l m (ix (qb6 m) n).N (ix (qb6 m) n).D mi re=true then [qql l m (ix (qb6 m) n).N (ix (qb6 m) n).D mi re] else []:=by
 have e0:nOf re mi 0=((nTr re mi 0:Nat):Int):=by cases re<;>cases mi<;>rfl
 have e1:nOf re mi 1=((nTr re mi 1:Nat):Int):=by cases re<;>cases mi<;>rfl
 by_cases hr:qiw m=true
 .rw [qo5 hr] at h1 ⊢
  have h1:n<2:=h1
  rcases (show n=0∨n=1 by omega) with rfl | rfl
  .rw [e0,q5s];rfl
  .rw [e1,zbb]
   show _=if qdb l m (ix m 0).DurN (ix m 0).DurD mi re=true then [qql l m (ix m 0).DurN (ix m 0).DurD mi re] else []
   by_cases ht:qdb l m (ix m 0).DurN (ix m 0).DurD mi re=true
   .rw [zT ht,zT ⟨hr,ht⟩]
   .rw [zF ht,zF (fun h=>ht h.2)]
 .rw [qlo hr] at h1 ⊢
  have h1:n<1:=h1
  have:n=0:=by omega
  subst this
  rw [e0,q5s];rfl
theorem q5o {a0 a1:List Event} {o:List Canon} {n:Int} {re mi:Bool} (hi:zo a0 a1 o n re mi) (h:ln (qb6 a1)<=n):o=qgs a0 a1 (nOf re mi 2).toNat:=by
 obtain ⟨n0,n1,ho⟩:=hi
 by_cases hr:qiw a1=true
 .rw [qo5 hr] at h n1
  have h:2<=n:=h
  have n1:n<=2:=n1
  rw [ho,show n=2 by omega]
 .rw [qlo hr] at h n1
  have h:1<=n:=h
  have n1:n<=1:=n1
  have e:n=1:=by omega
  subst e
  have e1:nOf re mi 1=((nTr re mi 1:Nat):Int):=by cases re<;>cases mi<;>rfl
  have z:ql9 a0 a1 (nOf re mi 1)=[]:=by
   rw [e1,zbb,zF (fun h=>hr h.1)]
  rw [show (2:Int)=1+1 by decide,qwc,qg6 a0 a1 (q1y re mi (by decide)),z,zJ]
  exact ho
theorem qox {a0 a1:List Event} (h0:(qe a0).1=0) (h1:(qe a1).1=0) {y:List Time} (hy:y=qb6 a1) {o:List Canon} {n:Int} {re mi:Bool} (hi:zo a0 a1 o n re mi) (hlt:n<ln y):qyr a0 a1 y o n re mi:=by
 have b0:=(qao h0).2
 have b1:=(qao h1).2
 obtain ⟨n0,n1,ho⟩:=hi
 have hod:=zmk (l:=a0) (re:=re) (mi:=mi) n0 (by rw [<-hy];exact hlt)
 rw [<-hy] at n1 hod
 have y2:ln y<=2:=by
  by_cases hr:qiw a1=true
  .rw [hy,qo5 hr];exact zK _
  .rw [hy,qlo hr];exact by decide
 have h64:I64 (n+1):=⟨by omega,by omega⟩
 have hmi:∀ o':List Canon,zj a0 a1 o' (n+1) re mi<zj a0 a1 o n re mi:=fun o'=>by
  simp only [zj,<-hy];omega
 have skip:qdb a0 a1 (ix y n).N (ix y n).D mi re=false->I64 (n+1)/\zo a0 a1 o (n+1) re mi/\zj a0 a1 o (n+1) re mi<zj a0 a1 o n re mi:=fun ht=>by
  refine ⟨h64,⟨by omega,by rw [<-hy];omega,?_⟩,hmi _⟩
  rw [qwc,qg6 a0 a1 (q1y re mi n0),hod,zF (by rw [ht];decide),zJ]
  exact ho
 have add:qdb a0 a1 (ix y n).N (ix y n).D mi re=true->I64 (n+1)/\zo a0 a1 (o++[qql a0 a1 (ix y n).N (ix y n).D mi re]) (n+1) re mi/\zj a0 a1 (o++[qql a0 a1 (ix y n).N (ix y n).D mi re]) (n+1) re mi<zj a0 a1 o n re mi:=fun ht=>by
  refine ⟨h64,⟨by omega,by rw [<-hy];omega,?_⟩,hmi _⟩
  rw [qwc,qg6 a0 a1 (q1y re mi n0),hod,zT ht,ho]
 have hsh:ln o<=100:=by
  have:=qk4 a0 a1 (nOf re mi n).toNat
  have h2:nOf re mi n<=6+n:=by unfold nOf;split<;>split<;>omega
  have h4:=q1y re mi n0
  rw [ho];omega
 have tr:qdb a0 a1 (ix y n).N (ix y n).D mi re=((zh a0 a1 mi re).2&&((qm a0 a1 (ix y n).N (ix y n).D).2.2&&(decide ((zr a0 (ix y n).N (ix y n).D ((zh a0 a1 mi re).1) mi re ((qm a0 a1 (ix y n).N (ix y n).D).1) ((qm a0 a1 (ix y n).N (ix y n).D).2.1) 0 0 0 0).2=0)&&jd (zr a0 (ix y n).N (ix y n).D ((zh a0 a1 mi re).1) mi re ((qm a0 a1 (ix y n).N (ix y n).D).1) ((qm a0 a1 (ix y n).N (ix y n).D).2.1) 0 0 0 0).1 a1))):=rfl
 unfold qyr
 revert tr
 generalize zr a0 (ix y n).N (ix y n).D ((zh a0 a1 mi re).1) mi re ((qm a0 a1 (ix y n).N (ix y n).D).1) ((qm a0 a1 (ix y n).N (ix y n).D).2.1) 0 0 0 0=V
 intro tr
 have no:(jd V.1 a1=true->False)->qdb a0 a1 (ix y n).N (ix y n).D mi re=false:=fun h=>by
  rw [tr]
  cases hb:jd V.1 a1 with
  | true=>exact absurd hb h
  | false=>simp
 refine ⟨⟨n0,hlt⟩,⟨h0,h1⟩,fun hs=>skip (by rw [tr,hs];rfl),fun hs=>⟨⟨by omega,by omega⟩,fun hf=>skip (by rw [tr,hf];simp),fun hf=>⟨by omega,fun hm=>skip (by rw [tr,decide_eq_false hm];simp),
  fun hm=>⟨fun hl=>skip (no fun h=>hl (qyp h)),fun hl=>⟨⟨zK _,zn _,fun j j0 j1=>by omega⟩,fun k ⟨k0,k1,kk⟩=>⟨fun hk=>⟨⟨k0,hk⟩,⟨k0,by omega⟩,fun hd=>⟨fun hr=>⟨fun hp=>skip (no fun h=>?_),fun hp=>⟨⟨by omega,by omega⟩,rfl,rfl,rfl,rfl,rfl,rfl,rfl,⟨by omega,by omega,fun j j0 j1=>?_⟩,?_⟩⟩,
   fun hr=>skip (no fun h=>?_)⟩,fun hd=>skip (no fun h=>?_)⟩,fun hk=>⟨trivial,qk2 (by omega),add ?_⟩⟩⟩⟩⟩⟩⟩
 .have a:=of_decide_eq_true (qot h k0 hk)
  rcases hp with d | d | d
  .exact d a.2.2.2.1
  .exact d a.2.2.2.2.1
  .exact d a.2.2.2.2.2
 .by_cases hj:j=k
  .subst hj
   exact decide_eq_true ⟨hd.1,hd.2,hr,hp.1,hp.2.1,hp.2.2⟩
  .exact kk j j0 (by omega)
 .simp only [qgk];omega
 .exact hr (of_decide_eq_true (qot h k0 hk)).2.2.1
 .have a:=of_decide_eq_true (qot h k0 hk)
  rcases hd with d | d
  .exact d a.1
  .exact d a.2.1
 .have ha:jd V.1 a1=true:=qmk.2 ⟨hl,fun j j0 j1=>kk j j0 (by omega)⟩
  rw [tr,hs,hf,ha,decide_eq_true hm]
  rfl
theorem qzl {a0 a1:List Event} (h:(qe a0).1≠0):ky a0 a1=([],(qe a0).1):=by unfold ky;rw [zT h]
theorem qv6 {a0 a1:List Event} (h:(qe a0).1=0) (h1:(qe a1).1≠0):ky a0 a1=([],(qe a1).1):=by unfold ky;rw [zF (by omega),zT h1]
theorem qv7 {a0 a1:List Event} (h:(qe a0).1=0) (h1:(qe a1).1=0):ky a0 a1=(qgs a0 a1 8,0):=by unfold ky;rw [zF (by omega),zF (by omega)]
theorem zcn (a0 a1:List Event) (hp:ln a0<=1000000000/\ln a1<=1000000000):qyf a0 a1:=by
 obtain ⟨b0,b1⟩:=hp
 have st:∀ {o:List Canon} {n:Int} {re mi:Bool},zo a0 a1 o n re mi->ln (qb6 a1)<=n->∀ re' mi',nOf re mi 2=nOf re' mi' 0->zo a0 a1 o 0 re' mi':=fun hi hge re' mi' e=>⟨zK _,zn _,by rw [<-e];exact q5o hi hge⟩
 refine ⟨b0,fun h0=>by rw [qzl h0];exact ⟨rfl,rfl,trivial⟩,fun h0=>⟨b1,fun h1=>by rw [qv6 h0 h1];exact ⟨rfl,rfl,trivial⟩,fun h1=>⟨trivial,⟨fun hn=>⟨⟨zK _,hn⟩,fun hr=>⟨⟨zK _,hn⟩,trivial,by simp [qb8],?_,trivial⟩,fun hr=>⟨?_,trivial⟩⟩,fun hn=>⟨?_,trivial⟩⟩,fun y hy=>?_⟩⟩⟩
 .exact (qo5 (by unfold qiw;rw [hr,Bool.and_true];exact decide_eq_true hn)).symm
 .exact (qlo (by unfold qiw;rw [hr,Bool.and_false];decide)).symm
 .exact (qlo (by unfold qiw;rw [decide_eq_false (by omega)];simp)).symm
 .have hy:y=qb6 a1:=hy
  refine ⟨⟨zK _,zn _,rfl⟩,fun o n hi=>⟨fun hlt=>qox h0 h1 hy hi hlt,fun hge=>⟨st hi (by rw [<-hy];exact hge) false true rfl,fun o n hi=>⟨fun hlt=>qox h0 h1 hy hi hlt,fun hge=>⟨st hi (by rw [<-hy];exact hge) true false rfl,
   fun o n hi=>⟨fun hlt=>qox h0 h1 hy hi hlt,fun hge=>⟨st hi (by rw [<-hy];exact hge) true true rfl,fun o n hi=>⟨fun hlt=>qox h0 h1 hy hi hlt,fun hge=>?_⟩⟩⟩⟩⟩⟩⟩⟩
  rw [qv7 h0 h1]
  exact ⟨q5o hi (by rw [<-hy];exact hge),rfl,trivial⟩
theorem q0v {r:List Event×Int} {f:List Event->List Event×Int} {n m:Int} (h:ln r.1<=n) (hf:∀ l,ln l<=n->ln (f l).1<=m) (h0:0<=m):ln (qbf r f).1<=m:=by
 unfold qbf
 split
 .exact h0
 .exact hf _ h
theorem q5h (l:List Event) (dn dd k:Int) (mi re:Bool) (fn fd m1 m2 m3 m4:Int):ln (zr l dn dd k mi re fn fd m1 m2 m3 m4).1<=ln l+1:=by
 have n0:=zn l
 unfold zr
 split
 .show (0:Int)<=_;omega
 .split
  .show (0:Int)<=_;omega
  .refine q0v (qrq l mi re) (fun a ha=>q0v (Int.le_trans (qv9 a k).1 ha) (fun b hb=>q0v (Int.le_trans (qw0 b fn fd).1 hb) (fun c hc=>?_) (by omega)) (by omega)) (by omega)
   split
   .have:=(q4k c dn dd).1;omega
   .show ln c<=_;omega
theorem qux:∀ {l:List Event} {n d:Int},l≠[]->qgt l n d->(zs (ix l (ln l-1)).AtN (ix l (ln l-1)).AtD (ix l (ln l-1)).DurN (ix l (ln l-1)).DurD).2.2=0
 | [],_,_,h,_=>absurd rfl h
 | [x],n,d,_,⟨h1,h2,_,h4,_⟩=>by
  have e:ix [x] (ln [x]-1)=x:=rfl
  rw [e,h1,h2]
  exact h4
 | x::y::l,n,d,_,⟨_,_,_,_,h5⟩=>by
  rw [zl1]
  exact qux (by simp) h5
theorem zg5 {l:List Event} (h:(qe l).1=0):(ze l).2.2=0:=by
 unfold ze
 rw [zF (by omega)]
 split
 .rfl
 .rename_i hn
  exact qux (fun hz=>hn (by rw [hz];rfl)) (qao h).1
theorem zi5 {a0 a1:List Event} {o:List Canon} {n dn dd k:Int} {mi re:Bool} {fn fd:Int} (b0:ln a0<=2000) (b1:ln a1<=2000) (hk:I64 k)
  (skip:(decide ((zr a0 dn dd k mi re fn fd 0 0 0 0).2=0)&&jd (zr a0 dn dd k mi re fn fd 0 0 0 0).1 a1)=false->I64 (n+1)/\z7 a0 a1 o (n+1)/\qz a0 a1 o (n+1)<qz a0 a1 o n)
  (add:(decide ((zr a0 dn dd k mi re fn fd 0 0 0 0).2=0)&&jd (zr a0 dn dd k mi re fn fd 0 0 0 0).1 a1)=true->qb8 (List.length o+List.length [(Canon.mk dn dd k mi re fn fd 0 0 0 0)])/\I64 (n+1)/\z7 a0 a1 (o++[Canon.mk dn dd k mi re fn fd 0 0 0 0]) (n+1)/\qz a0 a1 (o++[Canon.mk dn dd k mi re fn fd 0 0 0 0]) (n+1)<qz a0 a1 o n) :
  q6j a0 a1 o n dn dd k mi re fn fd:=by
 have hl:=q5h a0 dn dd k mi re fn fd 0 0 0 0
 exact ⟨⟨by omega,hk⟩,fun h=>⟨⟨by omega,by omega⟩,fun ha=>⟨trivial,add (by rw [decide_eq_true h,ha];rfl)⟩,fun ha=>skip (by rw [ha];simp)⟩,fun h=>skip (by rw [decide_eq_false h];rfl)⟩
theorem q32 {a0 a1:List Event} (h0:(qe a0).1=0) (h1:(qe a1).1=0) {o:List Canon} {n dn dd:Int} {mi re:Bool}
  (skip:qdb a0 a1 dn dd mi re=false->I64 (n+1)/\z7 a0 a1 o (n+1)/\qz a0 a1 o (n+1)<qz a0 a1 o n)
  (add:qdb a0 a1 dn dd mi re=true->qb8 (List.length o+List.length [qql a0 a1 dn dd mi re])/\I64 (n+1)/\z7 a0 a1 (o++[qql a0 a1 dn dd mi re]) (n+1)/\qz a0 a1 (o++[qql a0 a1 dn dd mi re]) (n+1)<qz a0 a1 o n) :
  zgq a0 a1 o n dn dd mi re:=by
 have v0:=qao h0
 have v1:=qao h1
 have e0:=zg5 h0
 have e1:=zg5 h1
 have hlt:=qrq a0 mi re
 have fbad:(qm a0 a1 dn dd).2.2=false->qdb a0 a1 dn dd mi re=false:=fun h=>by unfold qdb;rw [h];simp
 have fsub:(qam (ze a1).1 (ze a1).2.1 dn dd).2.2≠0->(qm a0 a1 dn dd).2.2=false:=fun h=>by unfold qm;rw [zF (by omega),zF (by omega),zT h]
 have fdiv:(qam (ze a1).1 (ze a1).2.1 dn dd).2.2=0->qm a0 a1 dn dd=((qbb (qam (ze a1).1 (ze a1).2.1 dn dd).1 (qam (ze a1).1 (ze a1).2.1 dn dd).2.1 (ze a0).1 (ze a0).2.1).1,(qbb (qam (ze a1).1 (ze a1).2.1 dn dd).1 (qam (ze a1).1 (ze a1).2.1 dn dd).2.1 (ze a0).1 (ze a0).2.1).2.1,decide ((qbb (qam (ze a1).1 (ze a1).2.1 dn dd).1 (qam (ze a1).1 (ze a1).2.1 dn dd).2.1 (ze a0).1 (ze a0).2.1).2.2=0)):=fun h=>by
  unfold qm;rw [zF (by omega),zF (by omega),zF (by omega)]
 have tail:∀ k,zh a0 a1 mi re=(k,true)->I64 k->∀ fn fd,qm a0 a1 dn dd=(fn,fd,true)->q6j a0 a1 o n dn dd k mi re fn fd:=fun k hs hk fn fd hf=>by
  have ht:qdb a0 a1 dn dd mi re=(decide ((zr a0 dn dd k mi re fn fd 0 0 0 0).2=0)&&jd (zr a0 dn dd k mi re fn fd 0 0 0 0).1 a1):=by
   unfold qdb zhw
   rw [hs,hf]
   rfl
  have hc:qql a0 a1 dn dd mi re=Canon.mk dn dd k mi re fn fd 0 0 0 0:=by
   unfold qql
   rw [hs,hf]
  rw [ht] at skip add
  rw [hc] at add
  exact zi5 v0.2 v1.2 hk skip add
 refine ⟨by omega,fun ht=>skip ?_,fun ht=>⟨fun hz=>skip (fbad ?_),fun hz=>⟨by omega,by omega,trivial,fun hs=>skip (fbad (fsub hs)),fun hs=>⟨trivial,fun hd=>skip (fbad ?_),fun hd=>⟨by omega,by omega,fun hf=>⟨fun hg=>⟨trivial,?_⟩,fun hg=>?_⟩,fun hf=>?_⟩⟩⟩⟩⟩
 .have:zh a0 a1 mi re=(0,false):=by unfold zh;rw [zT ht]
  unfold qdb
  rw [this]
  rfl
 .have e:ze a0=(0,1,0):=by unfold ze;rw [zF (by omega),zT hz]
  by_cases hs:(qam (ze a1).1 (ze a1).2.1 dn dd).2.2≠0
  .exact fsub hs
  .rw [fdiv (by omega),e]
   show decide (_=_)=false
   refine decide_eq_false fun hd=>?_
   unfold qbb at hd
   split at hd
   .rename_i h;exact h hd
   .rw [zF (by decide),zT rfl] at hd
    exact absurd hd (by decide)
 .rw [fdiv hs];exact decide_eq_false hd
 .have hst:zh a0 a1 mi re=(qir (qc a1).1 (qc a1).2.1-qir (qc (z5 a0 mi re).1).1 (qc (z5 a0 mi re).1).2.1,true):=by unfold zh;rw [zF (by omega),zT ⟨hf,hg⟩]
  have p1:=qlt (qf1 (q6n (mi:=mi) (re:=re) v0.1 v0.2 ht).1.ch) hf
  have p2:=qlt (qf1 v1.1) hg
  have b:(qa1 (qc (z5 a0 mi re).1).1 (qc (z5 a0 mi re).1).2.1 (qc (z5 a0 mi re).1).2.2.1 (qc a1).1 (qc a1).2.1 (qc a1).2.2.1).1=qir (qc a1).1 (qc a1).2.1-qir (qc (z5 a0 mi re).1).1 (qc (z5 a0 mi re).1).2.1:=by
   unfold qa1;rw [zF (fun h=>h p1),zF (fun h=>h p2)]
  have c1:=qbd p1
  have c2:=qbd p2
  rw [b]
  refine tail _ hst ?_ _ _ (by rw [fdiv hs,decide_eq_true hd])
  unfold qir
  exact ⟨by omega,by omega⟩
 .have hst:zh a0 a1 mi re=(0,true):=by unfold zh;rw [zF (by omega),zF (fun h=>by rw [hg] at h;exact absurd h.2 (by decide))]
  exact tail _ hst (by decide) _ _ (by rw [fdiv hs,decide_eq_true hd])
 .have hst:zh a0 a1 mi re=(0,true):=by unfold zh;rw [zF (by omega),zF (fun h=>by rw [hf] at h;exact absurd h.1 (by decide))]
  exact tail _ hst (by decide) _ _ (by rw [fdiv hs,decide_eq_true hd])
theorem zhv {a0 a1:List Event} (h0:(qe a0).1=0) (h1:(qe a1).1=0):zhu a0 a1:=by
 refine ⟨⟨zK _,by decide,rfl⟩,fun o n ⟨n0,n8,ho⟩=>⟨fun hlt=>?_,fun hge=>?_⟩⟩
 .have d4:=j4 n0 (show (0:Int)<=4 by decide)
  have d2:=j4 n0 (show (0:Int)<=2 by decide)
  have hln:ln o<=8:=by
   have:=qk4 a0 a1 n.toNat
   rw [ho];omega
  have skip:ql9 a0 a1 n=[]->I64 (n+1)/\z7 a0 a1 o (n+1)/\qz a0 a1 o (n+1)<qz a0 a1 o n:=fun h=>by
   refine ⟨⟨by omega,by omega⟩,⟨by omega,by omega,?_⟩,by simp only [qz];omega⟩
   rw [qg6 a0 a1 n0,h,zJ]
   exact ho
  have add:∀ c,ql9 a0 a1 n=[c]->qb8 (List.length o+List.length [c])/\I64 (n+1)/\z7 a0 a1 (o++[c]) (n+1)/\qz a0 a1 (o++[c]) (n+1)<qz a0 a1 o n:=fun c h=>by
   refine ⟨qk2 (by omega),⟨by omega,by omega⟩,⟨by omega,by omega,?_⟩,by simp only [qz];omega⟩
   rw [qg6 a0 a1 n0,h,ho]
  refine ⟨⟨by decide,by omega,by omega⟩,⟨by decide,by omega,by omega⟩,by decide,by decide,fun hm=>⟨fun hz=>skip ?_,fun hz=>⟨⟨zK _,by have:=zn a1;omega⟩,fun hr=>skip ?_,fun hr=>⟨⟨zK _,by have:=zn a1;omega⟩,?_⟩⟩⟩,fun hm=>?_⟩
  .unfold ql9
   rw [zT hm,zF]
   rintro ⟨h,_⟩
   unfold qiw at h
   rw [decide_eq_false (by omega)] at h
   exact absurd h (by simp)
  .unfold ql9
   rw [zT hm,zF]
   rintro ⟨h,_⟩
   unfold qiw at h
   rw [hr,Bool.and_false] at h
   exact absurd h (by decide)
  .have hrest:qiw a1=true:=by
    unfold qiw
    rw [hr,Bool.and_true]
    have:=zn a1
    exact decide_eq_true (by omega)
   refine q32 h0 h1 (fun ht=>skip ?_) (fun ht=>add _ ?_)
   .unfold ql9
    rw [zT hm,zF (fun h=>by rw [ht] at h;exact absurd h.2 (by decide))]
   .unfold ql9
    rw [zT hm,zT ⟨hrest,ht⟩]
  .refine q32 h0 h1 (fun ht=>skip ?_) (fun ht=>add _ ?_)
   .unfold ql9
    rw [zF hm,zF (by rw [ht];decide)]
   .unfold ql9
    rw [zF hm,zT ht]
 .have e:n=8:=by omega
  subst e
  rw [qv7 h0 h1]
  exact ⟨ho,rfl,trivial⟩
theorem zcq (a0 a1:List Event) (hp:ln a0<=1000000000/\ln a1<=1000000000):qyg a0 a1:=by
 obtain ⟨b0,b1⟩:=hp
 exact ⟨b0,fun h0=>⟨b1,fun h1=>by rw [qv6 h0 h1];exact ⟨rfl,rfl,trivial⟩,fun h1=>zhv h0 h1⟩,fun h0=>⟨fun _=>by rw [qzl h0];exact ⟨rfl,rfl,trivial⟩,fun h=>absurd h h0⟩⟩
theorem qp2 {a0 a1:List Event} {a2 a3 a4:Int} {a5 a6:Bool} {a7 a8 a9 a10 a11 a12:Int} (b0:ln a0<=2010) (b1:ln a1<=2010) (h:I64 a4):q6i a0 a1 a2 a3 a4 a5 a6 a7 a8 a9 a10 a11 a12:=by
 have hl:=q5h a0 a2 a3 a4 a5 a6 a7 a8 a9 a10 a11 a12
 have hm:=zeh a0 a1
 have s:∀ x:List Event,qa5 x x≠false:=fun x=>by rw [qwt rfl];decide
 have c:∀ x:List Canon,qcd x x≠false:=fun x=>by rw [qk1.2 rfl];decide
 exact ⟨by omega,by omega,by omega,⟨by omega,h⟩,⟨by omega,by omega⟩,⟨by omega,by omega⟩,by omega,fun _=>⟨fun _=>⟨by omega,fun _=>⟨fun _=>⟨by omega,fun _=>⟨by omega,fun _=>⟨trivial,rfl,trivial⟩,fun h=>absurd h (s _)⟩,fun h=>absurd h (s _)⟩,fun h=>absurd rfl h⟩,fun h=>absurd h (c _)⟩,fun h=>absurd rfl h⟩,fun h=>absurd h (s _)⟩
theorem q5f (a0 a1:List Event) (a2 a3 a4:Int) (a5 a6:Bool) (a7 a8 a9 a10 a11 a12:Int) (hp:ln a0<=9223372036854775807/\ln a1<=9223372036854775807/\I64 a4):qsl a0 a1 a2 a3 a4 a5 a6 a7 a8 a9 a10 a11 a12:=by
 obtain ⟨_,_,h⟩:=hp
 have T:True/\(true:Bool)=true/\True:=⟨trivial,rfl,trivial⟩
 exact ⟨fun _=>⟨fun _=>T,fun _=>⟨fun _=>T,fun h0=>⟨fun _=>⟨fun _=>T,fun _=>⟨fun _=>T,fun h1=>qp2 h0 h1 h⟩⟩,fun _=>⟨fun _=>T,fun h1=>qp2 h0 h1 h⟩⟩⟩⟩,
  fun _=>⟨fun _=>T,fun h0=>⟨fun _=>⟨fun _=>T,fun _=>⟨fun _=>T,fun h1=>qp2 h0 h1 h⟩⟩,fun _=>⟨fun _=>T,fun h1=>qp2 h0 h1 h⟩⟩⟩⟩
end Go.Proofs.YtcnoipglgpkpeaaGreatDoor
namespace Go.Proofs.YtcnoipglgpkpeaaGreatDoor
open Go Go.E2 Go.E3
set_option maxRecDepth 100000
end Go.Proofs.YtcnoipglgpkpeaaGreatDoor
