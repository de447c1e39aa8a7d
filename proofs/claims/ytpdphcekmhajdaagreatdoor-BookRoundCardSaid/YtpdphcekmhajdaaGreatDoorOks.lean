import Derived.Test.YtpdphcekmhajdaaGreatDoorVcs
import Derived.Test.YtpdphcekmhajdaaGreatDoorDall
import Derived.Test.YtpdphcekmhajdaaGreatDoorOka
import Derived.Test.YtpdphcekmhajdaaGreatDoorVct
namespace Go.Proofs.YtpdphcekmhajdaaGreatDoor
open Go Go.E2 Go.E3
set_option maxRecDepth 100000
theorem zuu (a0 c:Int) (d:I64 a0/\(1:Int)<=c/\(c:Int)<=1048576):zkf a0 c:=by
 obtain ⟨e,f,g⟩:=d;have:=zax (a:=a0) (b:=c) (by omega);refine ⟨λh=>by omega,λ_=>⟨by omega,λh=>⟨⟨by omega,by omega⟩,?_,trivial⟩,λh=>⟨?_,trivial⟩⟩⟩
 .unfold qn;rw [zF (by omega),zT h]
 .unfold qn;rw [zF (by omega),zF (by omega)]
theorem zun (a0:List Int) (b:Int) (c:ln a0<=1000000000):za4 a0 b:=by
 unfold za4;refine ⟨λh=>⟨?_,trivial⟩,λh=>⟨λa=>⟨?_,trivial⟩,λa=>⟨⟨h,a⟩,?_,trivial⟩⟩⟩
 .unfold atI;rw [zT (.inl h)]
 .unfold atI;rw [zT (.inr a)]
 .unfold atI;rw [zF (by omega)]
theorem zjw (a0 d a2 a3 a4:Int) (i:(0:Int)<=a4/\(a4:Int)<=100):qxj a0 d a2 a3 a4:=by
 unfold qxj;refine ⟨⟨by omega,by omega⟩,⟨by omega,by omega,by omega,by omega,by omega,by omega⟩,λx ⟨j,l,m,n,o,p⟩=>⟨λh=>?_,λh=>?_⟩⟩
 .have st:x-1>=-1:=by omega
  have c:jm a0 d a2 a3 a4 (x-1)<jm a0 d a2 a3 a4 x:=by simp only [jm];omega
  refine ⟨λe=>⟨λb=>⟨?_,trivial⟩,λb=>⟨⟨by omega,by omega⟩,rfl,rfl,rfl,rfl,⟨by omega,by omega,by omega,by omega,by omega,by omega⟩,c⟩⟩,λe=>⟨λf=>⟨λb=>⟨?_,trivial⟩,λb=>⟨⟨by omega,by omega⟩,rfl,rfl,rfl,rfl,⟨by omega,by omega,by omega,by omega,by omega,by omega⟩,c⟩⟩,
   λf=>⟨λg=>⟨λb=>⟨?_,trivial⟩,λb=>⟨⟨by omega,by omega⟩,rfl,rfl,rfl,rfl,⟨by omega,by omega,by omega,by omega,by omega,by omega⟩,c⟩⟩,λg=>⟨λk=>⟨λb=>⟨?_,trivial⟩,λb=>⟨⟨by omega,by omega⟩,rfl,rfl,rfl,rfl,⟨by omega,by omega,by omega,by omega,by omega,by omega⟩,c⟩⟩,
    λk=>⟨⟨by omega,by omega⟩,rfl,rfl,rfl,rfl,⟨by omega,by omega,by omega,by omega,by omega,by omega⟩,c⟩⟩⟩⟩⟩
  all_goals (simp only [qer,Bool.or_eq_true,zA,decide_eq_true_eq,eq_comm (a:=true)];omega)
 .refine ⟨?_,trivial⟩;simp only [qer,eq_comm (a:=false),Bool.or_eq_false_iff,Bool.and_eq_false_iff,decide_eq_false_iff_not];omega
theorem nbm (M:Int) (a:0<=M) (h:M<16):0<=Int.tdiv M 8/\Int.tdiv M 8<=M/\0<=Int.tdiv M 4/\Int.tdiv M 4<=M/\0<=Int.tdiv M 2/\Int.tdiv M 2<=M/\0<=Int.tmod (Int.tdiv M 4) 2/\Int.tmod (Int.tdiv M 4) 2<2/\0<=Int.tmod (Int.tdiv M 2) 2/\Int.tmod (Int.tdiv M 2) 2<2/\0<=Int.tmod M 2/\Int.tmod M 2<2:=by
 have d:=qco a (show (0:Int)<8 by decide);have b:=qco a (show (0:Int)<4 by decide);have c:=qco a (show (0:Int)<2 by decide);have e:=qak b.1 (show (0:Int)<2 by decide);have f:=qak c.1 (show (0:Int)<2 by decide);have g:=qak a (show (0:Int)<2 by decide);exact ⟨d.1,d.2,b.1,b.2,c.1,c.2,e.1,e.2,f.1,f.2,g.1,g.2⟩
theorem nbq (Q:Int) (a:0<=Q):(0<=Int.tmod Q 6/\Int.tmod Q 6<6)/\(0<=Int.tdiv Q 6/\Int.tdiv Q 6<=Q)/\(0<=Int.tdiv Q 24/\Int.tdiv Q 24<=Q)/\(0<=Int.tdiv Q 18/\Int.tdiv Q 18<=Q)/\(0<=Int.tdiv Q 96/\Int.tdiv Q 96<=Q)/\(0<=Int.tdiv Q 2/\Int.tdiv Q 2<=Q)/\(0<=Int.tdiv Q 16/\Int.tdiv Q 16<=Q)/\
  (0<=Int.tdiv Q 32/\Int.tdiv Q 32<=Q)/\(0<=Int.tdiv Q 128/\Int.tdiv Q 128<=Q)/\(0<=Int.tmod (Int.tdiv Q 6) 4/\Int.tmod (Int.tdiv Q 6) 4<4)/\(0<=Int.tmod (Int.tdiv Q 6) 3/\Int.tmod (Int.tdiv Q 6) 3<3)/\(0<=Int.tmod (Int.tdiv Q 6) 2/\Int.tmod (Int.tdiv Q 6) 2<2)/\
  (0<=Int.tmod (Int.tdiv Q 24) 4/\Int.tmod (Int.tdiv Q 24) 4<4)/\(0<=Int.tmod (Int.tdiv Q 18) 5/\Int.tmod (Int.tdiv Q 18) 5<5)/\(0<=Int.tmod Q 2/\Int.tmod Q 2<2)/\(0<=Int.tmod (Int.tdiv Q 2) 5/\Int.tmod (Int.tdiv Q 2) 5<5)/\(0<=Int.tmod (Int.tdiv Q 32) 3/\Int.tmod (Int.tdiv Q 32) 3<3)/\(0<=Int.tmod (Int.tdiv Q 128) 2/\Int.tmod (Int.tdiv Q 128) 2<2):=by
 have d:∀ b:Int,0<b->0<=Int.tdiv Q b/\Int.tdiv Q b<=Q:=λb e=>qco a e;have m:∀ b c:Int,0<b->0<c->0<=Int.tmod (Int.tdiv Q b) c/\Int.tmod (Int.tdiv Q b) c<c:=λb c e f=>qak (d b e).1 f;exact ⟨qak a (by decide),d _ (by decide),d _ (by decide),d _ (by decide),d _ (by decide),d _ (by decide),d _ (by decide),d _ (by decide),d _ (by decide),m _ _ (by decide) (by decide),m _ _ (by decide) (by decide),m _ _ (by decide) (by decide),m _ _ (by decide) (by decide),m _ _ (by decide) (by decide),qak a (by decide),m _ _ (by decide) (by decide),m _ _ (by decide) (by decide),m _ _ (by decide) (by decide)⟩
theorem nb (N:Int) (c:0<=N) (f:N<1048576):(0<=N/\N<1048576)/\(0<=Int.tmod N 16/\Int.tmod N 16<16)/\(0<=Int.tdiv N 16/\Int.tdiv N 16<=N)/\(0<=Int.tdiv N 96/\Int.tdiv N 96<=N)/\(0<=qn (Int.tdiv N 96) 5/\qn (Int.tdiv N 96) 5<5)/\(0<=Int.tdiv (Int.tdiv N 96) 5/\Int.tdiv (Int.tdiv N 96) 5<=N)/\(0<=Int.tdiv (Int.tdiv N 96) 35/\Int.tdiv (Int.tdiv N 96) 35<=N)/\
  (0<=Int.tmod (Int.tdiv (Int.tdiv N 96) 5) 7/\Int.tmod (Int.tdiv (Int.tdiv N 96) 5) 7<7)/\(0<=Int.tmod (Int.tdiv N 16) 20/\Int.tmod (Int.tdiv N 16) 20<20)/\(0<=Int.tdiv N 320/\Int.tdiv N 320<=N)/\(0<=Int.tmod (Int.tdiv N 320) 3/\Int.tmod (Int.tdiv N 320) 3<3)/\(0<=Int.tdiv N 960/\Int.tdiv N 960<=N)/\
  (ln ([0,3,4]:List Int)=3/\ln ([11,12]:List Int)=2/\ln ([0,4,3]:List Int)=3/\ln ([0,0,0,0,-1,1,2]:List Int)=7)/\(0<=qn N 16/\qn N 16<16)/\(0<=qn (Int.tdiv (Int.tdiv N 16) 6) 16/\qn (Int.tdiv (Int.tdiv N 16) 6) 16<16):=by
 have d:∀ b:Int,0<b->0<=Int.tdiv N b/\Int.tdiv N b<=N:=λb a=>qco c a;have e:∀ b:Int,0<b->0<=Int.tdiv (Int.tdiv N 96) b/\Int.tdiv (Int.tdiv N 96) b<=N:=λb a=>⟨(qco (d 96 (by decide)).1 a).1,Int.le_trans (qco (d 96 (by decide)).1 a).2 (d 96 (by decide)).2⟩;exact ⟨⟨c,f⟩,qak c (by decide),d _ (by decide),d _ (by decide),qhl (by decide),e _ (by decide),e _ (by decide),qak (e _ (by decide)).1 (by decide),qak (d _ (by decide)).1 (by decide),d _ (by decide),qak (d _ (by decide)).1 (by decide),d _ (by decide),⟨rfl,rfl,rfl,rfl⟩,qhl (by decide),qhl (by decide)⟩
theorem nb2 {l:List Int} {i:Int}:0<=qn (ix l i) 1048576/\qn (ix l i) 1048576<1048576:=qhl (by decide)
theorem nbA {l:List Int} {i:Int}:0<=qn (atI l i) 1048576/\qn (atI l i) 1048576<1048576:=qhl (by decide)
section
variable {a0:List Int} {i j:Int} {nm nm':ZB} {S S':List Sign} {m0 m1 m2 m3 p m0' m1' m2' m3' p':Int} {o d o' d':Bool} {n many:Int}
theorem zrm (h:qbz a0 i nm S m0 m1 m2 m3 p o d):1<=i/\-4<=p/\p<=12/\ln S<=57:=⟨h.get.1,h.get.2.2.1,h.get.2.2.2.1,h.get.2.2.2.2.1⟩
theorem zz4 (h:qb0 a0 j nm S m0 m1 m2 m3 p o d nm' S' m0' m1' m2' m3' p' o' d' n many):0<=j/\j<=3/\-4<=p/\p<=12/\ln S<=ln S'+3:=⟨h.get.1,h.get.2.1,h.get.2.2.1,h.get.2.2.2.1,h.get.2.2.2.2.1⟩
theorem lp1 {e:Int} (he:e=((p+1)+Int.tmod (Int.tdiv n 32) 3)-4 * Int.tmod (Int.tdiv n 128) 2) (h:e < -4):(7:Int)=qmx n p:=by subst he;unfold qmx;rw [zT h]
theorem lp2 {e:Int} (he:e=((p+1)+Int.tmod (Int.tdiv n 32) 3)-4 * Int.tmod (Int.tdiv n 128) 2) (h:12<e):(7:Int)=qmx n p:=by subst he;unfold qmx;rw [zF (by omega),zT h]
theorem lp3 {e:Int} (he:e=((p+1)+Int.tmod (Int.tdiv n 32) 3)-4 * Int.tmod (Int.tdiv n 128) 2) (a:-4<=e) (b:e<=12):e=qmx n p:=by subst he;unfold qmx;rw [zF (by omega),zF (by omega)]
theorem zz7 (a:-4<=p) (b:p<=12):qb0 a0 0 nm S m0 m1 m2 m3 p o d nm S m0 m1 m2 m3 p o d n many:=⟨zK _,by decide,a,b,by omega,by omega,rfl⟩
theorem zz8 {q:Int} (h:qb0 a0 j nm S m0 m1 m2 m3 p o d nm' S' m0' m1' m2' m3' p' o' d' n many) (a:j<many) (hm:many<=3) (b:q=qmx n p) :
  qb0 a0 (j+1) nm (S++[Sign.mk 4 0 p 0 (decide (Int.tmod (Int.tdiv n 16) 5=0)) 0 false (decide (j+1=many)) 0 0 0 0 false 0 0 0 0]) m0 m1 m2 m3 q o (decide (j+1=many)) nm' S' m0' m1' m2' m3' p' o' d' n many:=by
 obtain ⟨e,f,g,i,k,l,c⟩:=h;have:=qi3 (n:=n) (p:=p);refine ⟨by omega,by omega,by omega,by omega,by rw [qb5];omega,by rw [qb5];omega,?_⟩;rw [<-c,qi4 a,b];rfl
theorem zz9 (h:qb0 a0 j nm S m0 m1 m2 m3 p o d nm' S' m0' m1' m2' m3' (2+Int.tmod (Int.tdiv (Int.tdiv (qn (ix a0 i) 1048576) 16) 2) 5) o' d' (Int.tdiv (qn (ix a0 i) 1048576) 16) (2+Int.tmod (Int.tdiv (qn (ix a0 i) 1048576) 16) 2)) (c:2+Int.tmod (Int.tdiv (qn (ix a0 i) 1048576) 16) 2<=j) (a:Int.tmod (qn (ix a0 i) 1048576) 16=2) :
  qh a0 nm S m0 m1 m2 m3 p o d nm' S' m0' m1' m2' m3' p' o' d' i:=by
 obtain ⟨_,_,_,_,_,_,b⟩:=h;rw [qqd c] at b;unfold qh qa6;rw [zF (by omega),zT a,b];rfl
theorem z0a (h:qb0 a0 j nm S m0 m1 m2 m3 p o d nm' S' m0' m1' m2' m3' p' o' d' n many) (b:j<many) (hm:many<=3) {a:List Sign} {q:Int} {d2:Bool}:qcc a0 (j+1) nm a m0 m1 m2 m3 q o d2 nm' S' m0' m1' m2' m3' p' o' d' n many<qcc a0 j nm S m0 m1 m2 m3 p o d nm' S' m0' m1' m2' m3' p' o' d' n many:=by
 simp only [qcc];omega
theorem zx9 (h:qh a0 nm S m0 m1 m2 m3 p o d nm' S' m0' m1' m2' m3' p' o' d' i) (e:qbz a0 i nm' S' m0' m1' m2' m3' p' o' d') (hi:i<ln a0) (f:ln S'<55):qbz a0 (i+1) nm S m0 m1 m2 m3 p o d:=by
 obtain ⟨g1,q,g,j,r,a⟩:=e;have h:mkM nm S m0 m1 m2 m3 p o d=qa6 (mkM nm' S' m0' m1' m2' m3' p' o' d') (qn (ix a0 i) 1048576):=h;have c:0<=qn (ix a0 i) 1048576:=nb2.1;have a:qfo a0 (i+1) (qa6 (mkM nm' S' m0' m1' m2' m3' p' o' d') (qn (ix a0 i) 1048576))=qkv a0:=by
  rw [<-qui hi (show ln (mkM nm' S' m0' m1' m2' m3' p' o' d').S<55 from f)];exact a
 generalize qn (ix a0 i) 1048576=N at h c a;obtain ⟨b0,k,b⟩:=qo5 (x:=mkM nm' S' m0' m1' m2' m3' p' o' d') (n:=N) ⟨g,j⟩ c;rw [<-h] at b0 k b a;have l:-4<=p:=b0.p0;have m:p<=12:=b0.p1;have b:ln S<=ln S'+3:=b;exact ⟨by omega,.inl (by omega),l,m,by omega,a⟩
theorem zvr {a:ZB} {b:List Sign} {c e f g q:Int} {o2 d2:Bool} (hi:i<ln a0):qgv a0 (i+1) a b c e f g q o2 d2<qgv a0 i nm S m0 m1 m2 m3 p o d:=by simp only [qgv];omega
theorem zl2 (h:qbz a0 i nm S m0 m1 m2 m3 p o d) (he:ln a0<=i∨55<=ln S):qkv a0=mkM nm S m0 m1 m2 m3 p o d:=by
 obtain ⟨g1,b,c,e,f,a⟩:=h;rw [<-a];exact qy3 he
theorem zvs (h:qbz a0 i nm S m0 m1 m2 m3 p o d) (he:ln a0<=i∨55<=ln S):nm=(kp a0).1:=by
 unfold kp;rw [zl2 h he]
 split<;>rfl
theorem zvt (h:qbz a0 i nm S m0 m1 m2 m3 p o d) (he:ln a0<=i∨55<=ln S) (a:o=true):S++[Sign.mk 10 0 0 0 false 0 false false 0 0 0 0 false 2 0 0 0]=(kp a0).2:=by
 unfold kp;rw [zl2 h he,zT (show (mkM nm S m0 m1 m2 m3 p o d).opn=true from a)];rfl
theorem zvu (h:qbz a0 i nm S m0 m1 m2 m3 p o d) (he:ln a0<=i∨55<=ln S) (b:o=false):S=(kp a0).2:=by
 unfold kp;rw [zl2 h he,zF (show ¬ (mkM nm S m0 m1 m2 m3 p o d).opn=true from λa=>by have a:o=true:=a;rw [b] at a;cases a)];rfl
theorem zt3:qbz a0 1 [UInt8.ofNat (Int.toNat (97+Int.tmod (Int.tdiv (qn (atI a0 0) 1048576) 16) 20))] ((([]:List Sign)++[ztz (qn (atI a0 0) 1048576)])++[qtj (qn (atI a0 0) 1048576) (decide (Int.tmod (Int.tdiv (qn (atI a0 0) 1048576) 960) 3=0))])
  (2+Int.tdiv (qn (qn (atI a0 0) 1048576) 16) 8) (2+Int.tmod (Int.tdiv (qn (qn (atI a0 0) 1048576) 16) 4) 2) (2+Int.tmod (Int.tdiv (qn (qn (atI a0 0) 1048576) 16) 2) 2) (2+Int.tmod (qn (qn (atI a0 0) 1048576) 16) 2) 4 false false:=
 ⟨by decide,.inr rfl,by decide,by decide,by show (2:Int)<=57;decide,rfl⟩
theorem qny (h:Int.tmod (qn (ix a0 i) 1048576) 16=0∨Int.tmod (qn (ix a0 i) 1048576) 16=1) {y:Mk} (a:mkM nm S m0 m1 m2 m3 p o d=qgk (mkM nm' S' m0' m1' m2' m3' p' o' d') (Int.tdiv (qn (ix a0 i) 1048576) 16)):qh a0 nm S m0 m1 m2 m3 p o d nm' S' m0' m1' m2' m3' p' o' d' i:=by
 unfold qh qa6;rw [zT h];exact a
end
section
variable {a0:List Int} {i:Int} {nm:ZB} {S:List Sign} {m0 m1 m2 m3 p:Int} {o d:Bool}
theorem o0 (h:Int.tmod (qn (ix a0 i) 1048576) 16=0∨Int.tmod (qn (ix a0 i) 1048576) 16=1) (a:Int.tmod (Int.tdiv (qn (ix a0 i) 1048576) 16) 6=0) (b:o=false) :
  qh a0 nm (S++[qtj (Int.tdiv (Int.tdiv (qn (ix a0 i) 1048576) 16) 6) (decide (Int.tmod (Int.tdiv (Int.tdiv (qn (ix a0 i) 1048576) 16) 96) 2=0))]) (qzv (Int.tdiv (Int.tdiv (qn (ix a0 i) 1048576) 16) 6)) (qzw (Int.tdiv (Int.tdiv (qn (ix a0 i) 1048576) 16) 6)) (qrz (Int.tdiv (Int.tdiv (qn (ix a0 i) 1048576) 16) 6)) (qzx (Int.tdiv (Int.tdiv (qn (ix a0 i) 1048576) 16) 6)) p o false nm S m0 m1 m2 m3 p o d i:=by
 refine qny h (y:=mkM nm S m0 m1 m2 m3 p o d) ?_;unfold qgk;rw [zT a,zT (show (mkM nm S m0 m1 m2 m3 p o d).opn=false from b)];rfl
theorem o0n (h:Int.tmod (qn (ix a0 i) 1048576) 16=0∨Int.tmod (qn (ix a0 i) 1048576) 16=1) (b:Int.tmod (Int.tdiv (qn (ix a0 i) 1048576) 16) 6=0) (c:o=true):qh a0 nm S m0 m1 m2 m3 p o d nm S m0 m1 m2 m3 p o d i:=by
 refine qny h (y:=mkM nm S m0 m1 m2 m3 p o d) ?_;unfold qgk;rw [zT b,zF (show ¬ (mkM nm S m0 m1 m2 m3 p o d).opn=false from λa=>by have a:o=false:=a;rw [c] at a;cases a)]
theorem o1 (h:Int.tmod (qn (ix a0 i) 1048576) 16=0∨Int.tmod (qn (ix a0 i) 1048576) 16=1) (a:Int.tmod (Int.tdiv (qn (ix a0 i) 1048576) 16) 6≠0) (b:Int.tmod (Int.tdiv (qn (ix a0 i) 1048576) 16) 6=1) (c:o=false) :
  qh a0 nm (S++[Sign.mk 6 0 0 0 false 0 false false 0 0 0 0 false (1+Int.tmod (Int.tdiv (Int.tdiv (qn (ix a0 i) 1048576) 16) 6) 4) (1+Int.tmod (Int.tdiv (Int.tdiv (qn (ix a0 i) 1048576) 16) 24) 4) 0 0]) m0 m1 m2 m3 p o false nm S m0 m1 m2 m3 p o d i:=by
 refine qny h (y:=mkM nm S m0 m1 m2 m3 p o d) ?_;unfold qgk;rw [zF a,zT b,zT (show (mkM nm S m0 m1 m2 m3 p o d).opn=false from c)];rfl
theorem o1n (h:Int.tmod (qn (ix a0 i) 1048576) 16=0∨Int.tmod (qn (ix a0 i) 1048576) 16=1) (b:Int.tmod (Int.tdiv (qn (ix a0 i) 1048576) 16) 6≠0) (c:Int.tmod (Int.tdiv (qn (ix a0 i) 1048576) 16) 6=1) (e:o=true):qh a0 nm S m0 m1 m2 m3 p o d nm S m0 m1 m2 m3 p o d i:=by
 refine qny h (y:=mkM nm S m0 m1 m2 m3 p o d) ?_;unfold qgk;rw [zF b,zT c,zF (show ¬ (mkM nm S m0 m1 m2 m3 p o d).opn=false from λa=>by have a:o=false:=a;rw [e] at a;cases a)]
theorem o2 (h:Int.tmod (qn (ix a0 i) 1048576) 16=0∨Int.tmod (qn (ix a0 i) 1048576) 16=1) (a:Int.tmod (Int.tdiv (qn (ix a0 i) 1048576) 16) 6≠0) (b:Int.tmod (Int.tdiv (qn (ix a0 i) 1048576) 16) 6≠1) (c:Int.tmod (Int.tdiv (qn (ix a0 i) 1048576) 16) 6=2) :
  qh a0 nm (S++[Sign.mk 7 0 0 0 false 0 false false 0 0 0 0 false 0 0 (ix [0,3,4] (Int.tmod (Int.tdiv (Int.tdiv (qn (ix a0 i) 1048576) 16) 6) 3)) (1+Int.tmod (Int.tdiv (Int.tdiv (qn (ix a0 i) 1048576) 16) 18) 5)]) m0 m1 m2 m3 p o d nm S m0 m1 m2 m3 p o d i:=by
 refine qny h (y:=mkM nm S m0 m1 m2 m3 p o d) ?_;unfold qgk;rw [zF a,zF b,zT c];rfl
theorem o3 (h:Int.tmod (qn (ix a0 i) 1048576) 16=0∨Int.tmod (qn (ix a0 i) 1048576) 16=1) (a:Int.tmod (Int.tdiv (qn (ix a0 i) 1048576) 16) 6≠0) (b:Int.tmod (Int.tdiv (qn (ix a0 i) 1048576) 16) 6≠1) (c:Int.tmod (Int.tdiv (qn (ix a0 i) 1048576) 16) 6≠2) (e:Int.tmod (Int.tdiv (qn (ix a0 i) 1048576) 16) 6=3) :
  qh a0 nm (S++[Sign.mk 8 0 0 0 false 0 false false 0 0 0 0 false (Int.tmod (Int.tdiv (Int.tdiv (qn (ix a0 i) 1048576) 16) 6) 3) 0 0 0]) m0 m1 m2 m3 p o d nm S m0 m1 m2 m3 p o d i:=by
 refine qny h (y:=mkM nm S m0 m1 m2 m3 p o d) ?_;unfold qgk;rw [zF a,zF b,zF c,zT e];rfl
theorem o4 (h:Int.tmod (qn (ix a0 i) 1048576) 16=0∨Int.tmod (qn (ix a0 i) 1048576) 16=1) (a:Int.tmod (Int.tdiv (qn (ix a0 i) 1048576) 16) 6≠0) (b:Int.tmod (Int.tdiv (qn (ix a0 i) 1048576) 16) 6≠1) (c:Int.tmod (Int.tdiv (qn (ix a0 i) 1048576) 16) 6≠2) (e:Int.tmod (Int.tdiv (qn (ix a0 i) 1048576) 16) 6≠3) (f:Int.tmod (Int.tdiv (qn (ix a0 i) 1048576) 16) 6=4) :
  qh a0 nm (S++[Sign.mk (ix [11,12] (Int.tmod (Int.tdiv (Int.tdiv (qn (ix a0 i) 1048576) 16) 6) 2)) 0 0 0 false 0 false false 0 0 0 0 false 0 0 0 0]) m0 m1 m2 m3 p o d nm S m0 m1 m2 m3 p o d i:=by
 refine qny h (y:=mkM nm S m0 m1 m2 m3 p o d) ?_;unfold qgk;rw [zF a,zF b,zF c,zF e,zT f];rfl
theorem o5 (h:Int.tmod (qn (ix a0 i) 1048576) 16=0∨Int.tmod (qn (ix a0 i) 1048576) 16=1) (a:Int.tmod (Int.tdiv (qn (ix a0 i) 1048576) 16) 6≠0) (b:Int.tmod (Int.tdiv (qn (ix a0 i) 1048576) 16) 6≠1) (c:Int.tmod (Int.tdiv (qn (ix a0 i) 1048576) 16) 6≠2) (e:Int.tmod (Int.tdiv (qn (ix a0 i) 1048576) 16) 6≠3) (f:Int.tmod (Int.tdiv (qn (ix a0 i) 1048576) 16) 6≠4) (g:o=true) :
  qh a0 nm (S++[Sign.mk 10 0 0 0 false 0 false false 0 0 0 0 false (2+Int.tmod (Int.tdiv (Int.tdiv (qn (ix a0 i) 1048576) 16) 6) 3) 0 0 0]) m0 m1 m2 m3 p (!o) false nm S m0 m1 m2 m3 p o d i:=by
 refine qny h (y:=mkM nm S m0 m1 m2 m3 p o d) ?_;unfold qgk;rw [zF a,zF b,zF c,zF e,zF f,zT (show (mkM nm S m0 m1 m2 m3 p o d).opn=true from g)];rfl
theorem o6 (h:Int.tmod (qn (ix a0 i) 1048576) 16=0∨Int.tmod (qn (ix a0 i) 1048576) 16=1) (b:Int.tmod (Int.tdiv (qn (ix a0 i) 1048576) 16) 6≠0) (c:Int.tmod (Int.tdiv (qn (ix a0 i) 1048576) 16) 6≠1) (e:Int.tmod (Int.tdiv (qn (ix a0 i) 1048576) 16) 6≠2) (f:Int.tmod (Int.tdiv (qn (ix a0 i) 1048576) 16) 6≠3) (g:Int.tmod (Int.tdiv (qn (ix a0 i) 1048576) 16) 6≠4) (j:o=false) :
  qh a0 nm (S++[Sign.mk 9 0 0 0 false 0 false false 0 0 0 0 false 0 0 0 0]) m0 m1 m2 m3 p (!o) false nm S m0 m1 m2 m3 p o d i:=by
 refine qny h (y:=mkM nm S m0 m1 m2 m3 p o d) ?_;unfold qgk;rw [zF b,zF c,zF e,zF f,zF g,zF (show ¬ (mkM nm S m0 m1 m2 m3 p o d).opn=true from λa=>by have a:o=true:=a;rw [j] at a;cases a)];rfl
theorem r1 (h:Int.tmod (qn (ix a0 i) 1048576) 16=3∨Int.tmod (qn (ix a0 i) 1048576) 16=4):qh a0 nm (S++[Sign.mk 2 (2+Int.tmod (Int.tdiv (qn (ix a0 i) 1048576) 16) 6) 0 0 false 0 false false 0 0 0 0 false 0 0 0 0]) m0 m1 m2 m3 p o (qer m0 m1 m2 m3 (2+Int.tmod (Int.tdiv (qn (ix a0 i) 1048576) 16) 6)) nm S m0 m1 m2 m3 p o d i:=by
 unfold qh qa6;rw [zF (by omega),zF (by omega),zT h];rfl
theorem dq1 (h:Int.tmod (qn (ix a0 i) 1048576) 16=5∨Int.tmod (qn (ix a0 i) 1048576) 16=6∨Int.tmod (qn (ix a0 i) 1048576) 16=7) (a:d=true):qh a0 nm (S++[Sign.mk 3 0 0 0 false 0 false false 0 0 0 0 false 0 0 0 0]) m0 m1 m2 m3 p o false nm S m0 m1 m2 m3 p o d i:=by
 unfold qh qa6;rw [zF (by omega),zF (by omega),zF (by omega),zT h,zT (show (mkM nm S m0 m1 m2 m3 p o d).dots=true from a)];rfl
theorem d0 (h:Int.tmod (qn (ix a0 i) 1048576) 16=5∨Int.tmod (qn (ix a0 i) 1048576) 16=6∨Int.tmod (qn (ix a0 i) 1048576) 16=7) (b:d=false):qh a0 nm S m0 m1 m2 m3 p o d nm S m0 m1 m2 m3 p o d i:=by
 unfold qh qa6;rw [zF (by omega),zF (by omega),zF (by omega),zT h,zF (show ¬ (mkM nm S m0 m1 m2 m3 p o d).dots=true from λa=>by have a:d=true:=a;rw [b] at a;cases a)]
theorem st1 {n e:Int} (he:e=(p+qn n 5)-2) (h:e < -4):(4:Int)=qjf n p:=by subst he;unfold qjf;rw [zT h]
theorem st2 {n e:Int} (he:e=(p+qn n 5)-2) (h:12<e):(4:Int)=qjf n p:=by subst he;unfold qjf;rw [zF (by omega),zT h]
theorem st3 {n e:Int} (he:e=(p+qn n 5)-2) (a:-4<=e) (b:e<=12):e=qjf n p:=by subst he;unfold qjf;rw [zF (by omega),zF (by omega)]
theorem n1 {q:Int} (b:Int.tmod (qn (ix a0 i) 1048576) 16≠0) (c:Int.tmod (qn (ix a0 i) 1048576) 16≠1) (e:Int.tmod (qn (ix a0 i) 1048576) 16≠2) (f:Int.tmod (qn (ix a0 i) 1048576) 16≠3) (g:Int.tmod (qn (ix a0 i) 1048576) 16≠4) (h:Int.tmod (qn (ix a0 i) 1048576) 16≠5) (j:Int.tmod (qn (ix a0 i) 1048576) 16≠6) (k:Int.tmod (qn (ix a0 i) 1048576) 16≠7) (a:q=qjf (Int.tdiv (qn (ix a0 i) 1048576) 96) p) :
  qh a0 nm (S++[Sign.mk 1 (2+Int.tmod (Int.tdiv (qn (ix a0 i) 1048576) 16) 6) q (ix [0,0,0,0,(-1),1,2] (Int.tmod (Int.tdiv (Int.tdiv (qn (ix a0 i) 1048576) 96) 5) 7)) (decide (Int.tmod (Int.tdiv (Int.tdiv (qn (ix a0 i) 1048576) 96) 35) 6=0)) 0 false false 0 0 0 0 false 0 0 0 0]) m0 m1 m2 m3 q o true nm S m0 m1 m2 m3 p o d i:=by
 unfold qh qa6;rw [zF (by omega),zF (by omega),zF (by omega),zF (by omega),a];rfl
end
set_option maxHeartbeats 4000000 in
theorem zp5 (b:List Int) (e:ln b<=80/\∀ n ∈ b,I64 n):q4s b:=by
 have j:-9223372036854775808<=atI b 0/\atI b 0<=9223372036854775807:=by
  unfold atI;split
  .exact ⟨by decide,by decide⟩
  .exact e.2 _ (qci (by omega) (by omega))
 have d:∀ i,1<=i->i<ln b->I64 (ix b i):=λi h k=>e.2 _ (qci (by omega) k);have f:=e.1;unfold q4s;dsimp only
 unhygienic (repeat' (first | with_reducible exact trivial | with_reducible rfl | apply And.intro | intro))
 all_goals first
  | with_reducible exact zt3
  | with_reducible exact zx9 ‹_› ‹_› ‹_› ‹_›
  | with_reducible exact zvr ‹_›
  | with_reducible exact zvs ‹_› (by first | exact .inl ‹_› | exact .inr ‹_›)
  | with_reducible exact zvt ‹_› (by first | exact .inl ‹_› | exact .inr ‹_›) ‹_›
  | with_reducible exact zvu ‹_› (by first | exact .inl ‹_› | exact .inr ‹_›) ‹_›
  | with_reducible exact o0 (by first | exact .inl ‹_› | exact .inr ‹_›) ‹_› ‹_›
  | with_reducible exact o0n (by first | exact .inl ‹_› | exact .inr ‹_›) ‹_› ‹_›
  | with_reducible exact o1 (by first | exact .inl ‹_› | exact .inr ‹_›) ‹_› ‹_› ‹_›
  | with_reducible exact o1n (by first | exact .inl ‹_› | exact .inr ‹_›) ‹_› ‹_› ‹_›
  | with_reducible exact o2 (by first | exact .inl ‹_› | exact .inr ‹_›) ‹_› ‹_› ‹_›
  | with_reducible exact o3 (by first | exact .inl ‹_› | exact .inr ‹_›) ‹_› ‹_› ‹_› ‹_›
  | with_reducible exact o4 (by first | exact .inl ‹_› | exact .inr ‹_›) ‹_› ‹_› ‹_› ‹_› ‹_›
  | with_reducible exact o5 (by first | exact .inl ‹_› | exact .inr ‹_›) ‹_› ‹_› ‹_› ‹_› ‹_› ‹_›
  | with_reducible exact o6 (by first | exact .inl ‹_› | exact .inr ‹_›) ‹_› ‹_› ‹_› ‹_› ‹_› ‹_›
  | with_reducible exact r1 (by first | exact .inl ‹_› | exact .inr ‹_›)
  | with_reducible exact dq1 (by first | exact .inl ‹_› | exact .inr (.inl ‹_›) | exact .inr (.inr ‹_›)) ‹_›
  | with_reducible exact d0 (by first | exact .inl ‹_› | exact .inr (.inl ‹_›) | exact .inr (.inr ‹_›)) ‹_›
  | with_reducible exact n1 ‹_› ‹_› ‹_› ‹_› ‹_› ‹_› ‹_› ‹_› (by first | exact st1 rfl ‹_› | exact st2 rfl ‹_› | exact st3 rfl ‹_› ‹_›)
  | with_reducible exact zz8 ‹_› ‹_› (by have:=(nbq (Int.tdiv (qn (ix b x0) 1048576) 16) (nb (qn (ix b x0) 1048576) nb2.1 nb2.2).2.2.1.1).2.2.2.2.2.2.2.2.2.2.2.2.2.2.1;omega) (by first | exact lp1 rfl ‹_› | exact lp2 rfl ‹_› | exact lp3 rfl ‹_› ‹_›)
  | with_reducible exact z0a ‹_› ‹_› (by have:=(nbq (Int.tdiv (qn (ix b x0) 1048576) 16) (nb (qn (ix b x0) 1048576) nb2.1 nb2.2).2.2.1.1).2.2.2.2.2.2.2.2.2.2.2.2.2.2.1;omega)
  | with_reducible exact zz9 ‹_› ‹_› ‹_›
  | skip
 all_goals first
  | omega
  | (have:=zrm ‹_›;exact (d _ this.1 ‹_›).1)
  | (have:=zrm ‹_›;exact (d _ this.1 ‹_›).2)
  | (have g0:=zrm ‹_›;have c:=nb (qn (ix b x0) 1048576) nb2.1 nb2.2;have g:=nbq (Int.tdiv (qn (ix b x0) 1048576) 16) c.2.2.1.1;have l:=nbm (qn (Int.tdiv (Int.tdiv (qn (ix b x0) 1048576) 16) 6) 16) c.2.2.2.2.2.2.2.2.2.2.2.2.2.2.1 c.2.2.2.2.2.2.2.2.2.2.2.2.2.2.2;first | omega | exact qcj (by omega))
  | (have g0:=zrm ‹_›;have m:=zz4 ‹_›;have c:=nb (qn (ix b x0) 1048576) nb2.1 nb2.2;have g:=nbq (Int.tdiv (qn (ix b x0) 1048576) 16) c.2.2.1.1;first | omega | exact qcj (by omega))
  | (have c:=nb (qn (atI b 0) 1048576) nbA.1 nbA.2;have l:=nbm (qn (qn (atI b 0) 1048576) 16) c.2.2.2.2.2.2.2.2.2.2.2.2.2.1.1 c.2.2.2.2.2.2.2.2.2.2.2.2.2.1.2;first | omega | exact qcj (by decide))
  | (have c:=nb (qn (ix b x0) 1048576) nb2.1 nb2.2;have g:=nbq (Int.tdiv (qn (ix b x0) 1048576) 16) c.2.2.1.1;with_reducible exact zz7 (by omega) (by omega))
  | exact o0 (by first | exact .inl ‹_› | exact .inr ‹_›) ‹_› ‹_›
  | exact zt3
  | (simp only [qp,List.length_append,List.length_cons,List.length_nil];decide)
  | skip
theorem zhy (l:List Int):ln (kp l).2<=58/\(kp l).1=(qkv l).nm:=by
 have h:=quh (l:=l) (i:=1) (x:=q48 (qn (atI l 0) 1048576)) ⟨by show (-4:Int)<=4;decide,by show (4:Int)<=12;decide⟩ (by show (2:Int)<=57;decide);have a:ln (qkv l).S<=57:=h.2.1;unfold kp;split
 .exact ⟨by show ln (_++[_])<=58;rw [qb5];omega,rfl⟩
 .exact ⟨by show ln (qkv l).S<=58;omega,rfl⟩
theorem qwb (l:List Sign) (s:Sign):qa8 (l++[s])=if s.Kind=11 then qa8 l else qa8 l++[s]:=by
 unfold qa8;rw [List.filter_append];by_cases h:s.Kind=11
 .rw [zT h];simp [h]
 .rw [zF h];simp [h]
theorem zcj (l:List Sign):ln (qa8 l)<=ln l:=by
 have:=List.length_filter_le (λs:Sign=>!decide (s.Kind=11)) l;simp only [ln,qa8];omega
theorem zka (a:List Int) (e:ln a<=80/\∀ n ∈ a,I64 n):qxn a:=by
 have f:=(zhy a).1;unfold qxn;refine ⟨e,⟨zK 0,ln_nonneg _,by rw [qfm];rfl⟩,λg x1 ⟨b,i,c⟩=>⟨λh=>⟨⟨b,h⟩,λd=>?_,λd=>?_⟩,λh=>⟨rfl,?_,trivial⟩⟩⟩
 .have j:ln g<=58:=by
   rw [c];have:=zcj (upto (kp a).2 x1);rw [qhj b i] at this;omega
  refine ⟨⟨b,h⟩,trivial,qcj (by omega),⟨by omega,by omega⟩,rfl,rfl,rfl,⟨by omega,by omega,?_⟩,?_⟩
  .rw [qdg b h,qwb,zF d,<-c]
  .show (ln (kp a).2-(x1+1)).toNat<(ln (kp a).2-x1).toNat;omega
 .refine ⟨⟨by omega,by omega⟩,rfl,rfl,rfl,⟨by omega,by omega,?_⟩,?_⟩
  .rw [qdg b h,qwb,zT d,<-c]
  .show (ln (kp a).2-(x1+1)).toNat<(ln (kp a).2-x1).toNat;omega
 .rw [c,qea h];rfl
theorem qo4 {α β:Type} {f:α->List β} {c:Int} (d:0<=c):∀ {l:List α},(∀ a ∈ l,ln (f a)<=c)->ln (l.flatMap f)<=c * ln l
 | [],_=>by simp [ln]
 | a::l,h=>by
  have g:=h a zC;have i:=qo4 d (l:=l) λb e=>h b (zG _ e);rw [List.flatMap_cons,qm,kk,Int.mul_add,Int.mul_one];omega
theorem qki {g:List Page} (h:smB g):ln (qb g)<=250000/\∀ s ∈ qb g,ln s.Signs<=500:=by
 refine ⟨?_,λs a=>?_⟩
 .have:=qo4 (c:=500) (by decide) (l:=g) (f:=λp=>p.Staves) λp b=>(h.2 p b).1;have d:=h.1;have:ln (qb g)<=500 * ln g:=this;omega
 .obtain ⟨p,b,a⟩:=List.mem_flatMap.1 a;exact (h.2 p b).2 s a
theorem qz6 {s:Staff} (h:qof s):ln (qnv s)=ln s.Signs-s.Lead:=qel h.1 h.2
theorem q3y {l:List Staff} (h:∀ s ∈ l,ln s.Signs<=500/\qof s):ln (qdr l)<=500 * ln l:=qo4 (by decide) λs a=>by
 rw [qz6 (h s a).2];have:=(h s a).1;have:=(h s a).2.1;omega
theorem zs9 {g:List Page} (h:smB g) (b:qt g):ln (zd g)<=125000000:=by
 have c:=qki h;have:=q3y (l:=qb g) λs a=>⟨c.2 s a,b s a⟩;have:ln (zd g)<=500 * ln (qb g):=this;omega
theorem qwo (l:List Page) (p:Page):qb (l++[p])=qb l++p.Staves:=by simp [qb]
theorem qz8 (l:List Staff) (s:Staff):qdr (l++[s])=qdr l++qnv s:=by simp [qdr]
theorem ziw (l m:List Staff):qdr (l++m)=qdr l++qdr m:=by simp [qdr]
theorem qzu {α:Type} {l:List α} {i:Int} {a:α} (h:a ∈ upto l i):a ∈ l:=List.mem_of_mem_take h
theorem zxc {g:List Page} {i:Int} (h:smB g):smB (upto g i):=⟨by
  have:ln (upto g i)<=ln g:=by
   have:=List.length_take_le' i.toNat g;simp only [ln,upto];omega
  have:=h.1;omega,λp a=>h.2 p (qzu a)⟩
theorem zjj (a0:ZB) (a:List Page) (b:smB a):qve a0 a:=by
 unfold qve;refine ⟨⟨zK 0,ln_nonneg _,by rw [qfm];rfl⟩,λg x1 ⟨c,j,d⟩=>⟨λh=>?_,λh=>⟨by rw [d,qea h],trivial⟩⟩⟩;have f:=(qki (zxc (i:=x1) b)).1;rw [<-d] at f;have k:=(b.2 _ (qci c h)).1;have e:=b.1;refine ⟨⟨c,h⟩,qcg (by omega),⟨by omega,by omega⟩,rfl,rfl,⟨by omega,by omega,?_⟩,?_⟩
 .rw [qdg c h,qwo,d]
 .show (ln a-(x1+1)).toNat<(ln a-x1).toNat;omega
theorem zsy (a0:ZB) (a:List Page) (d:smB a/\qt a):q6k a0 a:=by
 obtain ⟨d,i⟩:=d;have b:=qki d;unfold q6k;refine ⟨d,⟨zK 0,ln_nonneg _,rfl,by rw [qfm];rfl⟩,λc x1 p ⟨e,n,j,f⟩=>⟨λh=>?_,λh=>⟨j,by rw [f,qea h];rfl,trivial⟩⟩⟩;have k:=qci e h;have g:=i _ k;have o:=q3y (l:=upto (qb a) c) λs m=>⟨b.2 s (qzu m),i s (qzu m)⟩;rw [<-f,qhj e n] at o;have q:ln (fr (ix (qb a) c).Signs (ix (qb a) c).Lead)=_:=qz6 g;have r:=b.2 _ k;have t:=b.1;have u:=g.1;refine ⟨⟨e,h⟩,g,qcg (by omega),⟨by omega,by omega⟩,rfl,rfl,rfl,⟨by omega,by omega,j,?_⟩,?_⟩
 .rw [qdg e h,qz8,f];rfl
 .show (ln (qb a)-(c+1)).toNat<(ln (qb a)-c).toNat;omega
theorem znt (a0:ZB) (a:List Page) (a2:Int) (d:smB a/\qt a/\(0:Int)<=a2/\(a2:Int)<=1000000000000):qz7 a0 a a2:=by
 obtain ⟨d,j,k,l⟩:=d;have b:=qki d;unfold qz7;dsimp only;refine ⟨d,⟨zK 0,ln_nonneg _,k,zK _,by rw [qfa];rfl⟩,λm x1 ⟨e,n,o,p,c⟩=>⟨λh=>?_,λh=>⟨by rw [<-c,qhb h];rfl,trivial⟩⟩⟩;have f:=qci e h;have g:=j _ f;have q:=b.2 _ f;have r:=g.1;have s:=g.2;have t:=b.1;rw [qat e h] at c;simp only [qz5] at c;refine ⟨⟨e,h⟩,⟨by omega,by omega⟩,⟨by omega,by omega⟩,λi=>⟨?_,trivial⟩,λi=>⟨⟨by omega,by omega⟩,rfl,rfl,⟨by omega,by omega,by omega,by omega,?_⟩,?_⟩⟩
 .rw [<-c,zT i]
 .rw [<-c,zF (by omega)]
 .show (ln (qb a)-(x1+1)).toNat<(ln (qb a)-x1).toNat;omega
theorem zcf {α:Type} [Inhabited α] {a b:List α} (c:ln a=ln b) (h:∀ j,0<=j->j<ln a->ix a j=ix b j):a=b:=by
 refine List.ext_getElem (by simp only [ln] at c;omega) λi d e=>?_;have:=h (i:Int) (by omega) (by simp only [ln];omega);rw [qzn d,qzn e] at this;exact this
set_option maxHeartbeats 4000000 in
theorem zje (a0:List Sign) (c:Int) (a2:Bool) (a3:Int) (a4 a5:List Sign) (l:ln a0<=500/\ln a4<=1/\ln a5<=1):qvc a0 c a2 a3 a4 a5:=by
 unfold qvc;dsimp only;refine ⟨λh=>⟨?_,trivial⟩,λh=>⟨λe=>⟨?_,trivial⟩,λe=>⟨λm=>⟨?_,trivial⟩,λm=>⟨⟨e,by omega⟩,⟨l.2.1,l.2.2⟩,λf=>⟨?_,trivial⟩,λf=>⟨⟨zK 0,ln_nonneg _,λj a b=>by omega⟩,λi ⟨g1,r,n⟩=>⟨λg=>?_,λg=>⟨?_,trivial⟩⟩⟩⟩⟩⟩⟩
 .unfold jf;rw [zT h]
 .unfold jf;rw [zF (show ¬ 60<ln a0 by omega),zT e]
 .unfold jf;rw [zF (show ¬ 60<ln a0 by omega),zF (show ¬ c<0 by omega),zT m]
 .unfold jf;rw [zF (show ¬ 60<ln a0 by omega),zF (show ¬ c<0 by omega),zF (show ¬ ln a0<=c by omega),zF];intro d;have d:upto a0 c=a4++a5:=d;exact f (by rw [d])
 .have s:=qhj e (show c<=ln a0 by omega);refine ⟨⟨g1,g⟩,⟨g1,by omega⟩,λo=>⟨?_,trivial⟩,λd=>⟨⟨by omega,by omega⟩,rfl,rfl,rfl,rfl,rfl,rfl,⟨by omega,by omega,λj k p=>?_⟩,?_⟩⟩
  .unfold jf;rw [zF (show ¬ 60<ln a0 by omega),zF (show ¬ c<0 by omega),zF (show ¬ ln a0<=c by omega),zF];intro d;have d:upto a0 c=a4++a5:=d;rw [d] at o;simp at o
  .by_cases q:j=i
   .subst q;exact (zaj _ _).1 d
   .exact n j k (by omega)
  .show (ln (upto a0 c)-(i+1)).toNat<(ln (upto a0 c)-i).toNat;omega
 .unfold jf;rw [zF (show ¬ 60<ln a0 by omega),zF (show ¬ c<0 by omega),zF (show ¬ ln a0<=c by omega),zT];show upto a0 c=a4++a5;exact zcf f λj k p=>n j k (by omega)
theorem q72 {l:List Sign} {i:Int} (h:0<=i):0<=(qjj l i).2/\(qjj l i).2<=ln l:=by
 by_cases a:i<ln l
 .by_cases b:qo2 l i=0
  .rw [qix a b];exact q72 (by omega)
  .rw [zd7 a b];exact ⟨h,by show i<=ln l;omega⟩
 .rw [q5c (by omega)];exact ⟨zK _,ln_nonneg _⟩
 termination_by (ln l-i).toNat
 decreasing_by omega
theorem zho (nm:ZB) (l:List Sign):0<=(zr nm l).2/\(zr nm l).2<=ln l:=by
 have:=ln_nonneg l;unfold zr;split
 .exact ⟨zK _,this⟩
 .split
  .exact ⟨zK _,this⟩
  .exact q72 (zK _)
section
variable {a0:ZB} {a1:List Page} {x1 x y n a e:Int} {l:List Sign}
theorem gw0 (h:qa5 a0 a1 x):0<=x/\x<=ln (zd a1):=⟨h.get.1,h.get.2.1⟩
theorem gw1 (h:zi a0 a1 x):0<=x/\x<=ln (zd a1):=⟨h.get.1,h.get.2.1⟩
theorem gw2 (h:qas a0 a1 y x):x+1<=y/\y<=ln (zd a1):=⟨h.get.1,h.get.2.1⟩
theorem gw3 (h:j6 a0 a1 a n):0<=n/\n<=ln (qb a1)/\a=ln (qdr (upto (qb a1) n)):=⟨h.get.1,h.get.2.1,h.get.2.2.1⟩
theorem w_e (a:(zr a0 (zd a1)).1≠0):qck a0 a1=((zr a0 (zd a1)).1,qai a1 (zr a0 (zd a1)).2):=by unfold qck;rw [zT a]
theorem w_t (c:(zr a0 (zd a1)).1=0) (h:qa5 a0 a1 x) (d:x<ln (zd a1)) (e:(ix (zd a1) x).Kind=11):qck a0 a1=(8,qai a1 x):=by
 obtain ⟨a,f,b⟩:=h;rw [ql9 a d,zT e] at b;unfold qck;rw [zF (by simp [c]),<-b,zT a]
theorem w_n (a:(zr a0 (zd a1)).1=0) (h:qa5 a0 a1 x) (b:ln (zd a1)<=x):qck a0 a1=if (qo7 a1 (zd a1) 0).1≠0 then qo7 a1 (zd a1) 0 else qss (zd a1) (qb a1) 0 0:=by
 obtain ⟨d,e,c⟩:=h;rw [q07 b] at c;unfold qck;rw [zF (by simp [a]),zF (by omega)]
theorem w0s (h:qa5 a0 a1 x) (b:x<ln (zd a1)) (c:(ix (zd a1) x).Kind≠11):qa5 a0 a1 (x+1):=by
 obtain ⟨d,e,a⟩:=h;rw [ql9 d b,zF c] at a;exact ⟨by omega,by omega,a⟩
theorem w00:qa5 a0 a1 0:=⟨zK 0,ln_nonneg _,by rw [qfa];rfl⟩
theorem z02:zi a0 a1 0:=⟨zK 0,ln_nonneg _,rfl⟩
theorem w20 (a:x<ln (zd a1)):qas a0 a1 (x+1) x:=⟨zK _,by omega,rfl⟩
theorem w2s (h:qas a0 a1 y x) (a:y<ln (zd a1)) (b:(ix (zd a1) (y-1)).Kind=4) (c:(ix (zd a1) (y-1)).Last=false):qas a0 a1 (y+1) x:=by
 obtain ⟨e,f,d⟩:=h;exact ⟨by omega,by omega,by rw [<-d,ql5 ⟨a,b,c⟩]⟩
theorem stA (h:ln l<=y):¬ (y<ln l/\(ix l (y-1)).Kind=4/\(ix l (y-1)).Last=false):=λa=>by omega
theorem stB (h:(ix l (y-1)).Last=true):¬ (y<ln l/\(ix l (y-1)).Kind=4/\(ix l (y-1)).Last=false):=λa=>by rw [h] at a;cases a.2.2
theorem stC (h:(ix l (y-1)).Kind≠4):¬ (y<ln l/\(ix l (y-1)).Kind=4/\(ix l (y-1)).Last=false):=λa=>h a.2.1
theorem q5r (h:qas a0 a1 y x) (b:¬ (y<ln (zd a1)/\(ix (zd a1) (y-1)).Kind=4/\(ix (zd a1) (y-1)).Last=false)) (c:y<ln (zd a1)) (d:(ix (zd a1) y).Kind=3):gE (zd a1) x=y+1:=by
 obtain ⟨e,f,a⟩:=h;rw [qiu b] at a;unfold gE;rw [<-a,zT ⟨c,d⟩]
theorem zex (h:qas a0 a1 y x) (c:¬ (y<ln (zd a1)/\(ix (zd a1) (y-1)).Kind=4/\(ix (zd a1) (y-1)).Last=false)) (a:ln (zd a1)<=y∨(ix (zd a1) y).Kind≠3):gE (zd a1) x=y:=by
 obtain ⟨e,f,b⟩:=h;rw [qiu c] at b;unfold gE;rw [<-b,zF];rintro ⟨g,d⟩;rcases a with a | a
 .omega
 .exact a d
theorem w1s (c:zi a0 a1 x) (b:x<ln (zd a1)) (a:gE (zd a1) x=e) (d:qai a1 x=qai a1 (e-1)):zi a0 a1 e:=by
 obtain ⟨g,h,f⟩:=c;have:=qmt b;rw [a] at this;exact ⟨by omega,by omega,by rw [<-f,q3a b (by rw [a];exact d),a]⟩
theorem w1m (c:zi a0 a1 x) (a:x<ln (zd a1)) (b:gE (zd a1) x=e):qk a0 a1 e<qk a0 a1 x:=by
 have:=qmt a;rw [b] at this;simp only [qk];omega
theorem w1b (b:(zr a0 (zd a1)).1=0) (c:qa5 a0 a1 x1) (a:ln (zd a1)<=x1) (d:zi a0 a1 x) (f:x<ln (zd a1)) (g:gE (zd a1) x=e) (i:qai a1 x≠qai a1 (e-1)):qck a0 a1=(6,qai a1 x):=by
 have h:qo7 a1 (zd a1) 0=(6,qai a1 x):=by rw [<-d.get.2.2,zma f (by rw [g];exact i)]
 rw [w_n b c a,h];exact zT (show (6:Int)≠0 by decide)
theorem w_c (b:(zr a0 (zd a1)).1=0) (c:qa5 a0 a1 x1) (a:ln (zd a1)<=x1) (d:zi a0 a1 x) (e:ln (zd a1)<=x):qck a0 a1=qss (zd a1) (qb a1) 0 0:=by
 have h:qo7 a1 (zd a1) 0=(0,0):=by rw [<-d.get.2.2,q80 e]
 rw [w_n b c a,h];exact zF (show ¬ ((0:Int)≠0) by decide)
theorem w30:j6 a0 a1 0 0:=⟨zK 0,ln_nonneg _,by rw [qfm];rfl,by rw [qfa]⟩
theorem w3n (e:qt a1) (h:j6 a0 a1 a n) (b:n<ln (qb a1)):a+(ln (ix (qb a1) n).Signs-(ix (qb a1) n).Lead)=ln (qdr (upto (qb a1) (n+1)))/\a+(ln (ix (qb a1) n).Signs-(ix (qb a1) n).Lead)<=ln (zd a1)/\0<=a/\0<=ln (ix (qb a1) n).Signs-(ix (qb a1) n).Lead:=by
 obtain ⟨c,j,f,k⟩:=h;have d:=e _ (qci c b);have g:ln (qdr (upto (qb a1) (n+1)))=a+(ln (ix (qb a1) n).Signs-(ix (qb a1) n).Lead):=by
  rw [qdg c b,qz8,qm,qz6 d,f]
 have i:zd a1=qdr (upto (qb a1) (n+1))++qdr (fr (qb a1) (n+1)):=by
  rw [<-ziw,zd];congr 1;simp [upto,fr]
 have l:=ln_nonneg (qdr (fr (qb a1) (n+1)));have m:=ln_nonneg (qdr (upto (qb a1) n));refine ⟨g.symm,?_,by omega,by have:=d.2;omega⟩;rw [i,qm];omega
theorem w3s (d:qt a1) (h:j6 a0 a1 a n) (c:n<ln (qb a1)) (e:(ix (qb a1) n).Catch=(zq (fr (zd a1) (a+(ln (ix (qb a1) n).Signs-(ix (qb a1) n).Lead)))).1) (f:(ix (qb a1) n).Custos=(zq (fr (zd a1) (a+(ln (ix (qb a1) n).Signs-(ix (qb a1) n).Lead)))).2) :
  j6 a0 a1 (a+(ln (ix (qb a1) n).Signs-(ix (qb a1) n).Lead)) (n+1):=by
 have g:=w3n d h c;obtain ⟨i,j,k,b⟩:=h;rw [qat i c] at b;simp only [qss] at b;rw [zT ⟨e,f⟩] at b;exact ⟨by omega,by omega,g.1,b⟩
theorem w3b (h:j6 a0 a1 a n) (d:n<ln (qb a1)) (hw:qck a0 a1=qss (zd a1) (qb a1) 0 0) (b:(ix (qb a1) n).Catch≠(zq (fr (zd a1) (a+(ln (ix (qb a1) n).Signs-(ix (qb a1) n).Lead)))).1∨(ix (qb a1) n).Custos≠(zq (fr (zd a1) (a+(ln (ix (qb a1) n).Signs-(ix (qb a1) n).Lead)))).2) :
  qck a0 a1=(3,n):=by
 obtain ⟨e,i,j,c⟩:=h;rw [qat e d] at c;simp only [qss] at c;rw [zF] at c
 .rw [hw,<-c]
 .rintro ⟨f,g⟩;rcases b with b | b
  .exact b f
  .exact b g
theorem w3e (h:j6 a0 a1 a n) (b:ln (qb a1)<=n) (hw:qck a0 a1=qss (zd a1) (qb a1) 0 0):qck a0 a1=(0,0):=by
 rw [hw,<-h.get.2.2.2,qhb b];rfl
theorem p1 {p:Int×Int} {u v:Int} (h:p=(u,v)):u=p.1:=by rw [h]
theorem p2 {p:Int×Int} {u v:Int} (h:p=(u,v)):v=p.2:=by rw [h]
end
set_option maxHeartbeats 8000000 in
theorem zpp (a0:ZB) (b:List Page) (l:ln a0<=1000000000/\smB b/\qt b):q1b a0 b:=by
 obtain ⟨q,e,c⟩:=l;have r:=zs9 e c;have m:=zho a0 (zd b);have n:=(qki e).1;have d:∀ i:Int,ln (fr (zd b) i)<=ln (zd b):=λi=>by simp only [ln,fr,List.length_drop];omega
 have f:∀ i,0<=i->i<ln (qb b)->ln (ix (qb b) i).Signs<=500/\0<=(ix (qb b) i).Lead:=λi h g=>⟨(qki e).2 _ (qci h g),(c _ (qci h g)).1⟩;have o:(zr a0 (zd b)).1=0∨(zr a0 (zd b)).1≠0:=by omega
 unfold q1b;dsimp only
 unhygienic (repeat' (first | with_reducible exact trivial | with_reducible rfl | with_reducible exact e | with_reducible exact c | apply And.intro | intro))
 all_goals first
  | with_reducible exact w00
  | with_reducible exact z02
  | with_reducible exact w30
  | omega
  | (have s:=gw0 ‹_›;omega)
  | (have p:=gw1 ‹_›;omega)
  | (have p:=gw1 ‹_›;have t:=gw2 ‹_›;omega)
  | (have j:=gw3 ‹_›;omega)
  | (have j:=gw3 ‹_›;have k:=w3n c ‹_› ‹_›;have u:=f _ j.1 ‹_›;omega)
  | (have k:=d (x9+(ln (ix (qb b) x10).Signs-(ix (qb b) x10).Lead));omega)
  | (have k:=d (x7+(ln (ix (qb b) x8).Signs-(ix (qb b) x8).Lead));omega)
  | with_reducible exact p1 (w_e ‹_›)
  | with_reducible exact p2 (w_e ‹_›)
  | with_reducible exact p1 (w_t ‹_› ‹_› ‹_› ‹_›)
  | with_reducible exact p2 (w_t ‹_› ‹_› ‹_› ‹_›)
  | with_reducible exact w0s ‹_› ‹_› ‹_›
  | with_reducible exact w20 ‹_›
  | with_reducible exact w2s ‹_› ‹_› ‹_› ‹_›
  | with_reducible exact w1s ‹_› ‹_› (by first
    | exact q5r ‹_› (by first | exact stB ‹_› | exact stC ‹_›) ‹_› ‹_›
    | exact zex ‹_› (by first | exact stA ‹_› | exact stB ‹_› | exact stC ‹_›) (by first | exact .inl ‹_› | exact .inr ‹_›)) ‹_›
  | with_reducible exact w1m ‹_› ‹_› (by first
    | exact q5r ‹_› (by first | exact stB ‹_› | exact stC ‹_›) ‹_› ‹_›
    | exact zex ‹_› (by first | exact stA ‹_› | exact stB ‹_› | exact stC ‹_›) (by first | exact .inl ‹_› | exact .inr ‹_›))
  | with_reducible exact p1 (w1b ‹_› ‹_› ‹_› ‹_› ‹_› (by first
    | exact q5r ‹_› (by first | exact stB ‹_› | exact stC ‹_›) ‹_› ‹_›
    | exact zex ‹_› (by first | exact stA ‹_› | exact stB ‹_› | exact stC ‹_›) (by first | exact .inl ‹_› | exact .inr ‹_›)) ‹_›)
  | with_reducible exact p2 (w1b ‹_› ‹_› ‹_› ‹_› ‹_› (by first
    | exact q5r ‹_› (by first | exact stB ‹_› | exact stC ‹_›) ‹_› ‹_›
    | exact zex ‹_› (by first | exact stA ‹_› | exact stB ‹_› | exact stC ‹_›) (by first | exact .inl ‹_› | exact .inr ‹_›)) ‹_›)
  | with_reducible exact w3s c ‹_› ‹_› ‹_› ‹_›
  | with_reducible exact p1 (w3b ‹_› ‹_› (w_c ‹_› ‹_› ‹_› ‹_› ‹_›) (by first | exact .inl ‹_› | exact .inr ‹_›))
  | with_reducible exact p2 (w3b ‹_› ‹_› (w_c ‹_› ‹_› ‹_› ‹_› ‹_›) (by first | exact .inl ‹_› | exact .inr ‹_›))
  | with_reducible exact p1 (w3e ‹_› ‹_› (w_c ‹_› ‹_› ‹_› ‹_› ‹_›))
  | with_reducible exact p2 (w3e ‹_› ‹_› (w_c ‹_› ‹_› ‹_› ‹_› ‹_›))
  | (simp only [qj5];omega)
  | (simp only [qff];omega)
  | (simp only [qfg];omega)
  | skip
theorem qpz {s:Staff} {c k:List Sign} (h:jf s c k=0):qof s:=by
 unfold jf at h;split at h
 .omega
 .split at h
  .omega
  .split at h
   .omega
   .exact ⟨by omega,by omega⟩
theorem zao (p:Page) (g:List Page):qb (p::g)=p.Staves++qb g:=rfl
section
variable {a0:ZB} {a1:List Page} {n m j i x e:Int} {c k c' k':List Sign} {em:Bool}
theorem gc0 (h:jk a0 a1 n em i c k):0<=i/\i<=ln a1/\0<=n/\n<=500 * i/\ln c<=1/\ln k<=1:=⟨h.get.1,h.get.2.1,h.get.2.2.1,h.get.2.2.2.1,h.get.2.2.2.2.1,h.get.2.2.2.2.2.1⟩
theorem gc1 (h:qag a0 a1 n j c k em i):0<=j/\j<=ln (ix a1 i).Staves/\0<=n/\n<=500 * i+j/\ln c<=1/\ln k<=1:=⟨h.get.1,h.get.2.1,h.get.2.2.1,h.get.2.2.2.1,h.get.2.2.2.2.1,h.get.2.2.2.2.2.1⟩
theorem gc2 (h:qbc a0 a1 x c k n em i j):0<=x/\x<=ln (qnv (ix (ix a1 i).Staves j))/\ln c<=1/\ln k<=1:=⟨h.get.1,h.get.2.1,h.get.2.2.1,h.get.2.2.2.1⟩
theorem zz3 (h:qbc a0 a1 x c k n em i j):x<=ln (fr (ix (ix a1 i).Staves j).Signs (ix (ix a1 i).Staves j).Lead):=h.get.2.1
theorem c00:jk a0 a1 0 false 0 ([]:List Sign) ([]:List Sign):=
 ⟨zK 0,ln_nonneg _,zK 0,by omega,by simp [ln],by simp [ln],(by rw [qfm];intro s h;cases h),by rw [qfa]⟩
theorem qzp (h:qt (upto a1 i)) (b:0<=i) (hi:i<ln a1) (c:∀ s ∈ (ix a1 i).Staves,qof s):qt (upto a1 (i+1)):=by
 rw [qdg b hi];intro s a;rw [qwo] at a;rcases List.mem_append.1 a with a | a
 .exact h s a
 .exact c s a
theorem ln0 {α:Type} {l:List α} (h:ln l=0):l=[]:=by
 cases l with
 | nil=>rfl
 | cons a l=>rw [kk] at h;have:=ln_nonneg l;omega
theorem c0e (h:jk a0 a1 n em i c k) (hi:i<ln a1) (a:ln (ix a1 i).Staves=0):jk a0 a1 n true (i+1) c k:=by
 obtain ⟨b,m,e,o,f,g,j,d⟩:=h;have a:=ln0 a;refine ⟨by omega,by omega,e,by omega,f,g,qzp j b hi (by rw [a];intro s l;cases l),?_⟩;rw [qat b hi] at d;rw [<-d];simp only [qbv];rw [zT a]
theorem c10 (h:jk a0 a1 n em i c k) (hi:i<ln a1) (he:ln (ix a1 i).Staves≠0):qag a0 a1 n 0 c k em i:=by
 obtain ⟨a,l,b,m,d,e,o,f⟩:=h;refine ⟨zK 0,ln_nonneg _,b,by omega,d,e,(by rw [qfm];intro s g;cases g),?_⟩;rw [qfa,<-f,qat a hi,qvv];intro j;rw [j] at he;exact he rfl
theorem c1x (h:qag a0 a1 n j c k em i) (b:j<ln (ix a1 i).Staves) (a:12<=j):qbv ([],[]) 0 false a1=(11,n,false):=by
 obtain ⟨d,f,g,l,m,o,p,e⟩:=h;rw [<-e,qat d b];simp only [qd0];rw [zT a];rfl
theorem c1s (h:qag a0 a1 n j c k em i) (b:j<ln (ix a1 i).Staves) (d:j<12) (a:jf (Staff.mk (ix (ix a1 i).Staves j).Signs (ix (ix a1 i).Staves j).Lead (ix (ix a1 i).Staves j).Catch (ix (ix a1 i).Staves j).Custos) c k≠0) :
  qbv ([],[]) 0 false a1=(jf (Staff.mk (ix (ix a1 i).Staves j).Signs (ix (ix a1 i).Staves j).Lead (ix (ix a1 i).Staves j).Catch (ix (ix a1 i).Staves j).Custos) c k,n,false):=by
 obtain ⟨e,g,l,m,o,p,q,f⟩:=h;rw [qvd] at a ⊢;rw [<-f,qat e b];simp only [qd0];rw [zF (by omega),zT a];unfold q2u;rw [zT a]
theorem c20 (h:qag a0 a1 n j c k em i) (b:j<ln (ix a1 i).Staves) (d:j<12) (a:jf (Staff.mk (ix (ix a1 i).Staves j).Signs (ix (ix a1 i).Staves j).Lead (ix (ix a1 i).Staves j).Catch (ix (ix a1 i).Staves j).Custos) c k=0) :
  qbc a0 a1 0 c k n em i j:=by
 obtain ⟨e,m,o,p,f,g,q,l⟩:=h;rw [qvd] at a;refine ⟨zK 0,ln_nonneg _,f,g,?_⟩;rw [<-l,qat e b,qfa];simp only [qd0];rw [zF (by omega),zF (by simp [a])]
theorem c2s (h:qbc a0 a1 x c k n em i j) (e:x<ln (fr (ix (ix a1 i).Staves j).Signs (ix (ix a1 i).Staves j).Lead)) {s:Sign} (f:s=ix (fr (ix (ix a1 i).Staves j).Signs (ix (ix a1 i).Staves j).Lead) x) :
  qbc a0 a1 (x+1) (jq c k s).1 (jq c k s).2 n em i j:=by
 obtain ⟨g,o,l,m,b⟩:=h;subst f;have a:x<ln (qnv (ix (ix a1 i).Staves j)):=e;have d:=qt8 (s:=ix (fr (ix (ix a1 i).Staves j).Signs (ix (ix a1 i).Staves j).Lead) x) l m;refine ⟨by omega,by omega,d.1,d.2,?_⟩;rw [qat g a] at b;exact b
theorem c21 (d:qag a0 a1 n j c' k' em i) (e:j<ln (ix a1 i).Staves) (f:jf (Staff.mk (ix (ix a1 i).Staves j).Signs (ix (ix a1 i).Staves j).Lead (ix (ix a1 i).Staves j).Catch (ix (ix a1 i).Staves j).Custos) c' k'=0)
  (h:qbc a0 a1 x c k n em i j) (g:ln (fr (ix (ix a1 i).Staves j).Signs (ix (ix a1 i).Staves j).Lead)<=x):qag a0 a1 (n+1) (j+1) c k em i:=by
 obtain ⟨l,q,r,t,u,v,m,w⟩:=d;obtain ⟨g1,y,o,p,b⟩:=h;refine ⟨by omega,by omega,by omega,by omega,o,p,?_,?_⟩
 .rw [qdg l e];intro s a;rcases List.mem_append.1 a with a | a
  .exact m s a
  .rw [List.mem_singleton.1 a];exact qpz f
 .rw [qhb (show ln (qnv (ix (ix a1 i).Staves j))<=x from g)] at b;exact b
theorem c1e (e:jk a0 a1 m em i c' k') (hi:i<ln a1) (f:ln (ix a1 i).Staves<=500) (h:qag a0 a1 n j c k em i) (a:ln (ix a1 i).Staves<=j):jk a0 a1 n em (i+1) c k:=by
 obtain ⟨p1,p2,q,r,s,t,g,u⟩:=e;obtain ⟨v,w,l,x,o,p,b,d⟩:=h;refine ⟨by omega,by omega,l,by omega,o,p,qzp g p1 hi (by rw [qea a] at b;exact b),?_⟩;rw [qhb a] at d;rw [<-d];rfl
theorem zd5 (h:jk a0 a1 n em i c k) (hi:ln a1<=i):qbv ([],[]) 0 false a1=(0,n,em):=by
 rw [<-h.get.2.2.2.2.2.2.2,qhb hi];rfl
theorem c0l (h:jk a0 a1 n em i c k) (hi:ln a1<=i):qt a1:=by
 have:=h.get.2.2.2.2.2.2.1;rw [qea hi] at this;exact this
theorem zqj (a:qau a0=true) (h:qbv ([],[]) 0 false a1=(e,n,em)) (he:e≠0):jr a0 a1=(e,n):=by
 unfold jr;rw [zF (by simp [a]),h,zT he]
theorem zx0 (a:qau a0=true) (h:qbv ([],[]) 0 false a1=(0,n,em)) (he:em=true):jr a0 a1=(2,n):=by
 unfold jr;rw [zF (by simp [a]),h,zF (show ¬ ((0:Int)≠0) by decide),zT he]
theorem zx2 (a:qau a0=true) (h:qbv ([],[]) 0 false a1=(0,n,em)) (he:em=false):jr a0 a1=qck a0 a1:=by
 unfold jr;rw [zF (by simp [a]),h,zF (show ¬ ((0:Int)≠0) by decide),zF (by simp [he])]
theorem zx1 (a:qau a0=false):jr a0 a1=(7,0):=by unfold jr;rw [zT a]
theorem pr1 {α β:Type} {p q:α×β} (h:p=q):q.1=p.1:=by rw [h]
theorem pr2 {α β:Type} {p q:α×β} (h:p=q):q.2=p.2:=by rw [h]
end
set_option maxHeartbeats 4000000 in
theorem zgs (a0:ZB) (b:List Page) (y:ln a0<=1000000000/\smB b):qt3 a0 b:=by
 obtain ⟨z,q⟩:=y;have o:∀ i,0<=i->i<ln b->ln (ix b i).Staves<=500:=λi h s=>(q.2 _ (qci h s)).1;have t:∀ i j,0<=i->i<ln b->0<=j->j<ln (ix b i).Staves->ln (ix (ix b i).Staves j).Signs<=500:=λi j h s g A=>(q.2 _ (qci h s)).2 _ (qci g A);have G:=q.1;unfold qt3;dsimp only;refine ⟨by omega,λd=>⟨p1 (zx1 d),p2 (zx1 d),trivial⟩,λd=>⟨c00,λx1 H e I J k=>⟨λhi=>?_,λhi=>?_⟩⟩⟩
 .have g0:=gc0 k;refine ⟨⟨by omega,hi⟩,λl=>⟨⟨by omega,by omega⟩,rfl,rfl,c0e k hi l,by simp only [qc1];omega⟩,λl=>⟨c10 k hi l,λK a B C n=>⟨λf=>?_,λf=>?_⟩⟩⟩
  .have g1:=gc1 n;have gs:=t e a g0.1 hi g1.1 f;have w:=o e g0.1 hi;refine ⟨⟨by omega,f⟩,λc=>⟨p1 (zqj d (c1x n f c) (by decide)),p2 (zqj d (c1x n f c) (by decide)),trivial⟩,λc=>⟨⟨gs,g1.2.2.2.2⟩,λm=>⟨p1 (zqj d (c1s n f c m) m),p2 (zqj d (c1s n f c m) m),trivial⟩,λm=>⟨qpz m,c20 n f c m,λu D E r=>⟨λp=>?_,λp=>?_⟩⟩⟩⟩
   .have L:=gc2 r;have F:=zz3 r;have x:ln (fr (ix (ix b e).Staves a).Signs (ix (ix b e).Staves a).Lead)<=500:=by
     have v:=qpz m;have:=qel v.1 v.2;have M:0<=(ix (ix b e).Staves a).Lead:=v.1;have N:ln (fr (ix (ix b e).Staves a).Signs (ix (ix b e).Staves a).Lead)=ln (ix (ix b e).Staves a).Signs-(ix (ix b e).Staves a).Lead:=this;omega
    exact ⟨⟨by omega,p⟩,trivial,⟨by omega,by omega⟩,rfl,rfl,rfl,rfl,rfl,rfl,rfl,c2s r p rfl,by
     have:u<ln (qnv (ix (ix b e).Staves a)):=p;simp only [qip];omega⟩
   .exact ⟨⟨by omega,by omega⟩,⟨by omega,by omega⟩,rfl,rfl,rfl,c21 n f m r p,by simp only [qio];omega⟩
  .have w:=o e g0.1 hi;exact ⟨⟨by omega,by omega⟩,rfl,rfl,c1e k hi w n f,by simp only [qc1];omega⟩
 .exact ⟨λl=>⟨p1 (zx0 d (zd5 k hi) l),p2 (zx0 d (zd5 k hi) l),trivial⟩,λl=>⟨⟨z,q,c0l k hi⟩,pr1 (zx2 d (zd5 k hi) l),pr2 (zx2 d (zd5 k hi) l),trivial⟩⟩
theorem zo7 {l:List Sign} {i j:Int} (a:0<=i) (b:i<j) (c:j<=ln l):sub l i j=ix l i::sub l (i+1) j:=by
 rw [qik a (by omega),qat a (by omega),qik (by omega) (by omega)];unfold upto;rw [show (j-i).toNat=(j-(i+1)).toNat+1 by omega];rfl
theorem zgc {l:List Sign} {i:Int} (a:0<=i):sub l i i=[]:=by
 rw [qik a (zK i),Int.sub_self];rfl
theorem ztf {l:List Sign} {i j:Int} (b:0<=i) (a:i<=j):sub l i j++fr l j=fr l i:=by
 have:fr l j=fr (fr l i) (j-i):=by rw [qy2 b (by omega)];congr 1;omega
 rw [qik b a,this];exact List.take_append_drop _ _
theorem zo8 {l:List Sign} {i j k:Int} (a:0<=i) (b:i<=j) (c:j<=k):sub l i j++sub l j k=sub l i k:=by
 rw [qik a b,qik (by omega) c,qik a (by omega)];have:fr l j=fr (fr l i) (j-i):=by rw [qy2 a (by omega)];congr 1;omega
 rw [this];unfold upto fr;rw [show (k-i).toNat=(j-i).toNat+(k-j).toNat by omega,List.take_add]
theorem qzs {l:List Sign} {i j:Int} (b:0<=i) (a:i<=j) (c:j<=ln l):ln (stf l i j).Signs=ln (qcb l i)+(j-i):=by
 show ln (qcb l i++sub l i j)=_;rw [qm,qzt b a c]
theorem zfy {l:List Sign} {i j:Int}:qnv (stf l i j)=sub l i j:=by
 show fr (qcb l i++sub l i j) (ln (qcb l i))=_;simp [fr,ln]
theorem zmv {l:List Sign} {i j:Int} (b:0<=i) (a:i<=j) (c:j<=ln l):qof (stf l i j):=by
 refine ⟨ln_nonneg _,?_⟩;rw [qzs b a c];show ln (qcb l i)<=_;omega
theorem q26 {l:List Sign} {i j:Int} (a:0<=i) (c:i<=j) (b:j<=ln l):qyz (qcr l i) (sub l i j)=qcr l j:=by
 by_cases d:i<j
 .rw [zo7 a d b];show qyz (jq (qcr l i).1 (qcr l i).2 (ix l i)) (sub l (i+1) j)=_;rw [<-qy0 a];exact q26 (by omega) (by omega) b
 .have:i=j:=by omega
  subst this;rw [zgc a];rfl
 termination_by (j-i).toNat
 decreasing_by omega
theorem zc9 {l:List Sign} {w i j:Int} (c:0<=i) (a:i<j) (d:j<=ln l) (hw:ln (qcb l i)+(j-i)<=w) (b:w<=60):jf (stf l i j) (qcr l i).1 (qcr l i).2=0:=by
 have e:=qzs c (Int.le_of_lt a) d;have f:=ln_nonneg (qcb l i);unfold jf;rw [zF (by omega),zF (show ¬ (stf l i j).Lead<0 by show ¬ ln (qcb l i)<0;omega),zF (show ¬ ln (stf l i j).Signs<=(stf l i j).Lead by rw [e];show ¬ _<=ln (qcb l i);omega),zT];show upto (qcb l i++sub l i j) (ln (qcb l i))=qcb l i;simp [upto,ln]
theorem Stw.part {l:List Sign} {w i j:Int} {r:List Staff} (h:Stw l w i j r) (f:0<=i):qdr r=sub l i j:=by
 induction h with
 | nil=>rw [zgc f];rfl
 | @cons i j k r a b c d e g m=>
  have:=g.le;have:=ln_nonneg r;show qnv (stf l i j)++qdr r=_;rw [zfy,m (by omega),zo8 a (by omega) (by omega)]
theorem Stw.leads {l:List Sign} {w i j:Int} {r:List Staff} (h:Stw l w i j r):∀ s ∈ r,qof s:=by
 induction h with
 | nil=>intro s f;cases f
 | cons a b c d e _ g=>
  intro s f;rcases zD.1 f with f | f
  .rw [f];exact zmv a (by omega) d
  .exact g s f
theorem Stw.wide {l:List Sign} {w i j:Int} {r:List Staff} (h:Stw l w i j r):∀ s ∈ r,ln s.Signs<=w:=by
 induction h with
 | nil=>intro s f;cases f
 | cons a b c d e _ g=>
  intro s f;rcases zD.1 f with f | f
  .rw [f,qzs a (by omega) d];exact e
  .exact g s f
theorem Stw.page {l:List Sign} {w i k:Int} {r:List Staff} (h:Stw l w i k r) (hw:w<=60) (n j:Int) (f:j+ln r<=12):qd0 (qcr l i) n j r=(0,qcr l k,n+ln r):=by
 induction h generalizing n j with
 | nil=>simp [qd0,ln]
 | @cons i m k r a b c d e _ g=>
  rw [kk] at f;have o:=ln_nonneg r;simp only [qd0];rw [zF (by omega),zF (by rw [zc9 a c d e hw];simp),zfy,q26 a (by omega) d,g _ _ (by omega),kk];simp only [zP,true_and];omega
theorem Stw.cat {l:List Sign} {w i k:Int} {r:List Staff} (h:Stw l w i k r) (n:Int):qss l r n i=(0,0):=by
 induction h generalizing n with
 | nil=>rfl
 | @cons i j k r a b c d e _ f=>
  have g:i+(ln (stf l i j).Signs-(stf l i j).Lead)=j:=by
   rw [qzs a (by omega) d];show i+(_-ln (qcb l i))=j;omega
  simp only [qss];rw [g,zT ⟨rfl,rfl⟩];exact f _
theorem Stw.own {l:List Sign} {w i k:Int} {r:List Staff} (h:Stw l w i k r) (n x y:Int) (f:Ch l i x) (m:x<ln l) (o:x<=y) (v:y<gE l x):qz5 r n (x-i)=qz5 r n (y-i):=by
 induction h generalizing n with
 | nil=>rfl
 | @cons i j k r a b c d e _ p=>
  have q:ln (stf l i j).Signs-(stf l i j).Lead=j-i:=by
   rw [qzs a (by omega) d];show _-ln (qcb l i)=_;omega
  have s:=f.le;simp only [qz5];rw [q];by_cases t:x<j
  .have u:=zlf f b (by omega);have g:gE l x<=j:=by
    cases u with
    | refl=>omega
    | step _ g=>exact g.le
   rw [zT (by omega),zT (by omega)]
  .rw [zF (by omega),zF (by omega),show x-i-(j-i)=x-j by omega,show y-i-(j-i)=y-j by omega];exact p _ (zlf b f (by omega))
theorem ze0 {l:List Sign} {w x:Int} {g:List Page} (h:Stw l w 0 (ln l) (qb g)) (b:Ch l 0 x):qo7 g l x=(0,0):=by
 by_cases a:x<ln l
 .have d:=qmt a;have:=b.le;have c:=h.own 0 x (gE l x-1) b a (by omega) (by omega);rw [q3a a (by unfold qai;simpa using c)];exact ze0 h (b.trans (.step a (.refl _)))
 .exact q80 (by omega)
 termination_by (ln l-x).toNat
 decreasing_by omega
theorem Pgs.book {l:List Sign} {w h i:Int} {g:List Page} (m:Pgs l w h i g) (hw:w<=60) (s:h<=12) (n:Int):qbv (qcr l i) n false g=(0,n+ln (qb g),false):=by
 induction m generalizing n with
 | nil=>simp [qbv,qb,ln]
 | @cons i j k r g a o b c d e f _ p=>
  rw [qvv (by simp),o.page hw n 0 (by omega)];unfold q2u;rw [zF (by simp),p,zao];have q:=qm (r++[stf l k j]) (qb g);simp only [zP,true_and,and_true];omega
theorem Pgs.len {l:List Sign} {w h i:Int} {g:List Page} (j:Pgs l w h i g):i+ln g<=ln l:=by
 induction j with
 | nil=>simp [ln]
 | cons a k b c d e f _ m=>rw [kk];omega
theorem Pgs.sm {l:List Sign} {w h i:Int} {g:List Page} (j:Pgs l w h i g) (hw:w<=60):∀ p ∈ g,p.Staves≠[]/\ln p.Staves<=h/\∀ s ∈ p.Staves,ln s.Signs<=w:=by
 induction j with
 | nil=>intro p j;cases j
 | cons a k b c d e f _ m=>
  intro p j;rcases zD.1 j with j | j
  .rw [j];exact ⟨by simp,d,k.wide⟩
  .exact m p j
structure BookOk (nm:ZB) (l:List Sign) (w h:Int) (g:List Page):Prop where
 pgs:Pgs l w h 0 g
 made:mkB nm l w h=(nm,g,0)
 part:zd g=l
 check:jr nm g=(0,0)
 sm:smB g
theorem zqi {nm:ZB} {l:List Sign} {w h:Int} (c:PartOk nm l) (hw:16<=w) (d:w<=60) (x:1<=h) (k:h<=12):∃ g,BookOk nm l w h g:=by
 obtain ⟨g,g1,e⟩:=zbv (l:=l) (w:=w) (h:=h) (i:=0) (i0:=0) (page:=[]) (pages:=[]) (zK 0) (ln_nonneg l) hw c.u (zK 0) (.nil 0) (by rw [qfp];omega) (.inr ⟨rfl,rfl⟩);rw [List.nil_append] at g1;have m:=zlg c;have o:qra l = -1:=zpe c.t 0;have b:=e.stw;have a:zd g=l:=by
  show qdr (qb g)=l;rw [b.part (zK 0),<-zJ (sub l 0 (ln l)),<-qhb (zK (ln l)),ztf (zK 0) (ln_nonneg l),qfa]
 have y:=c.n;have q:=e.len;have f:=e.sm d;refine ⟨g,e,?_,a,?_,⟨by omega,λp j=>⟨by have:=(f p j).2.1;omega,λs v=>by have:=(f p j).2.2 s v;omega⟩⟩⟩
 .unfold mkB;rw [m,zF (by simp),o,zF (by decide),zF (by omega),g1]
 .have r:=e.book d k 0;rw [zb4] at r;unfold jr;rw [zF (by simp [c.name]),r,zF (by simp),zF (by simp)];unfold qck;rw [a,m,zF (by simp),o,zF (by decide),ze0 b (.refl 0),zF (by simp)];exact b.cat 0
theorem q88 (a0:List Int) (e a2:Int) (f:zt6 a0/\I64 e/\I64 a2):qpe a0 e a2:=by
 obtain ⟨⟨_,o⟩,i,j⟩:=f;have m1:=qhl (a:=e) (show (0:Int)<20 by decide);have m2:=qhl (a:=a2) (show (0:Int)<4 by decide);have c:=zr8 a0;obtain ⟨g,b⟩:=zqi c (w:=16+qn e 20) (h:=1+qn a2 4) (by omega) (by omega) (by omega) (by omega);have y:=c.n;have k:(jr (qk6 a0).1 g).1=0:=by rw [b.check]
 have m:=zu0 k b.sm.1 (by rw [b.part];omega);obtain ⟨l,q⟩:=qxe c.name;obtain ⟨r,t⟩:=zhh k m l;have u:=zpc k m b.sm;have d:okB g:=λp f=>⟨Int.le_trans (b.sm.2 p f).1 (by decide),λs v=>Int.le_trans ((b.sm.2 p f).2 s v) (by decide)⟩;unfold qpe;dsimp only;rw [b.made];dsimp only;rw [r];dsimp only;rw [t];dsimp only;have x:qjm (qk6 a0).1 g (qk6 a0).1 g=true:=by simp [qjm]
 refine ⟨trivial,λ_=>⟨rfl,trivial⟩,λh=>⟨⟨h,o⟩,⟨i,by decide,by decide⟩,⟨by omega,by omega⟩,⟨j,by decide,by decide⟩,⟨by omega,by omega⟩,⟨by omega,by omega⟩,⟨by omega,b.sm⟩,u,?_⟩⟩;simp [x,d,b.sm.1]
section
theorem q3p (b:Int):qq2 b=true↔((97<=b/\b<=122)∨(48<=b/\b<=57)∨b=45):=by
 simp only [qq2,qtf,Bool.or_eq_true,zA,decide_eq_true_eq];omega
theorem q3o (s:ZB):qau s=true↔(1<=ln s/\ln s<=20/\97<=bx s 0/\bx s 0<=122/\∀ j,0<=j->j<ln s->qq2 (bx s j)=true):=by
 simp only [qau,qtf,zA,decide_eq_true_eq,List.all_eq_true];constructor
 .rintro ⟨⟨⟨a,c⟩,d,e⟩,f⟩;exact ⟨a,c,d,e,λj g h=>f _ (qci g h)⟩
 .rintro ⟨a,c,d,e,f⟩;refine ⟨⟨⟨a,c⟩,d,e⟩,λb k=>?_⟩;obtain ⟨i,i0,l,rfl⟩:=q56 k;exact f i i0 l
theorem zsh {s:ZB} (h:1<=ln s/\ln s<=20/\97<=bx s 0/\bx s 0<=122/\∀ j,0<=j->j<ln s->qq2 (bx s j)=true):true=qau s:=((q3o s).2 h).symm
theorem zfr {s:ZB} (h:¬ (1<=ln s/\ln s<=20/\97<=bx s 0/\bx s 0<=122/\∀ j,0<=j->j<ln s->qq2 (bx s j)=true)):false=qau s:=by
 cases a:qau s with
 | false=>rfl
 | true=>exact absurd ((q3o s).1 a) h
theorem zid {s:ZB} {i:Int} (h:∀ j,0<=j->j<i->qq2 (bx s j)=true) (hi:(97<=bx s i/\bx s i<=122)∨(48<=bx s i/\bx s i<=57)∨bx s i=45):∀ j,0<=j->j<i+1->qq2 (bx s j)=true:=by
 intro j a c;by_cases b:j=i
 .subst b;exact (q3p _).2 hi
 .exact h j a (by omega)
theorem zm9 {s:ZB} {i:Int} (a:0<=i) (h:i<ln s) (hi:¬ ((97<=bx s i/\bx s i<=122)∨(48<=bx s i/\bx s i<=57)∨bx s i=45)):false=qau s:=
 zfr λb=>hi ((q3p _).1 (b.2.2.2.2 i a h))
theorem zkh (a0:ZB) (e:ln a0<=9223372036854775806):qxp a0:=by
 unfold qxp;have f:=ln_nonneg a0
 unhygienic (repeat' (first | exact trivial | exact And.intro (by omega) trivial | apply And.intro | intro))
 all_goals try simp only [qbm,ky] at *
 all_goals first
  | omega
  | exact ⟨by omega,by omega,λj b h=>absurd h (by omega)⟩
  | (refine zfr λg=>?_;omega)
  | (exact zid a_4.2.2 (by omega) j ‹_› ‹_›)
  | (obtain ⟨i0,d,c⟩:=a_4;exact zm9 i0 ‹_› (by omega))
  | (obtain ⟨i0,d,c⟩:=a_4;exact zsh ⟨by omega,by omega,by omega,by omega,λj b h=>c j b (by omega)⟩)
theorem zgv (a0 b a2 a3:Int):qt4 a0 b a2 a3:=by
 unfold qt4
 unhygienic (repeat' (first | exact trivial | apply And.intro | intro))
 all_goals try simp only [qah,zv] at *
 all_goals first
  | omega
  | (unfold qe0;split<;>omega)
theorem za8 (a0:ZB) (b:List Sign) (c:ln a0<=1000000000/\ln b<=1000000000):qrb a0 b:=by
 unfold qrb;simp only [zai]
 unhygienic (repeat' (first | exact trivial | exact And.intro (by omega) trivial | apply And.intro | intro))
 all_goals try simp only [qc0,qbn] at *
 all_goals first
  | omega
  | skip
 all_goals grind [zr,qix,zd7,q5c,qo2,zk8,ins]
end
section
theorem zja {a b:List Sign} (h:a=b):qm0 a b=true:=decide_eq_true h
theorem zag {a b:List Sign} (h:a≠b):qm0 a b=false:=decide_eq_false h
theorem zo0 {a b:Sign} (k:a.Kind=b.Kind) (l:a.Value=b.Value) (m:a.Place=b.Place) (n:a.Acc=b.Acc) (o:a.Color=b.Color) (p:a.Stem=b.Stem) (q:a.Oblique=b.Oblique) (r:a.Last=b.Last) (s:a.MensMax=b.MensMax) (c:a.MensMod=b.MensMod) (d:a.MensTem=b.MensTem) (e:a.MensPro=b.MensPro) (f:a.Stroke=b.Stroke) (g:a.N=b.N) (h:a.D=b.D) (i:a.ClefStep=b.ClefStep) (j:a.ClefLine=b.ClefLine):a=b:=by
 cases a;cases b;simp_all
theorem q4z (a0 p:List Sign) (B:ln a0<=10000000):qsg a0 p:=by
 refine ⟨λh=>⟨(zag λa=>h (by rw [a])).symm,trivial⟩,λq=>⟨⟨by omega,ln_nonneg _,λj b n=>by omega⟩,λx ⟨i0,C,o⟩=>⟨λh=>⟨⟨i0,h⟩,⟨i0,by omega⟩,λc=>⟨(zag λa=>?_).symm,trivial⟩,λc=>⟨by omega,⟨by omega,by omega,λj b n=>?_⟩,?_⟩⟩,λh=>⟨(zja (qpg q λj b n=>o j b (by omega))).symm,trivial⟩⟩⟩⟩
 .subst a;simp at c
 .by_cases a:j=x
  .subst a;obtain ⟨r,s,t,u,v,w,y,z,A,d,e,f,g,i,k,l,m⟩:=c;exact zo0 r s t u v w y z A d e f g i k l m
  .exact o j b (by omega)
 .simp only [qfe];omega
section
theorem zj3 (a0:List Sign) (c:ln a0<=10000000):q7d a0:=by
 intro b a;refine ⟨λh=>⟨(a h).symm,trivial⟩,λ_=>⟨?_,by simp,trivial⟩⟩;simp only [qp,ln,List.length_nil] at *;omega
theorem zr2 (a0 a:List Sign) (b:ln a0<=1/\ln a<=1):zfk a0 a:=
 ⟨by omega,qcg (by omega),rfl,trivial⟩
theorem zk3 (a0 j:List Sign) (a2 a3 a4 a5:Int) (k:Bool) (l:Int) (m a9:Bool) (b c a12 d:Int) (e:Bool) (f g h i:Int):qxx a0 j a2 a3 a4 a5 k l m a9 b c a12 d e f g h i:=by
 unfold qxx jq;dsimp only
 unhygienic (repeat' (first | exact trivial | apply And.intro | intro))
 all_goals simp_all
theorem zhm (a0:List Sign) (e:ln a0<=1000000000):q2r a0:=by
 have b:∀ i,0<=i->i<ln a0->zq (fr a0 i)=if (ix a0 i).Kind=1∨(ix a0 i).Kind=4 then (true,(ix a0 i).Place) else zq (fr a0 (i+1)):=λi c h=>by
  rw [qat c h,zq]
 have d:∀ i,ln a0<=i->zq (fr a0 i)=(false,0):=λi h=>by rw [qhb h];rfl
 refine ⟨⟨by omega,ln_nonneg _,by rw [qfa]⟩,λx ⟨i0,f,a⟩=>⟨λh=>⟨⟨i0,h⟩,λk=>?_,λk=>⟨λk'=>?_,λk'=>⟨by omega,⟨by omega,by omega,?_⟩,?_⟩⟩⟩,λh=>?_⟩⟩
 .rw [<-a,b x i0 h,zT (.inl k)];exact ⟨rfl,rfl,trivial⟩
 .rw [<-a,b x i0 h,zT (.inr k')];exact ⟨rfl,rfl,trivial⟩
 .rw [<-a,b x i0 h,zF (by omega)]
 .simp only [qiq];omega
 .rw [<-a,d x h];exact ⟨rfl,rfl,trivial⟩
theorem zrj (a0:List Sign) (b:Int) (a2:Bool) (n:ln a0<=500):q5n a0 b a2:=by
 have d:∀ i to,tT a0 to=tT a0 (i+1)->¬ (to<ln a0/\(ix a0 (to-1)).Kind=4/\(ix a0 (to-1)).Last=false)->gE a0 i=if to<ln a0/\(ix a0 to).Kind=3 then to+1 else to:=by
  intro i to h c;unfold gE;rw [<-h,qiu c]
 have e:∀ i rest,i<ln a0->gE a0 i<=b->fA a0 b i rest=fA a0 b (gE a0 i) (if (ix a0 i).Kind=2 then gE a0 i else rest):=λi rest h c=>qp6 h c;have f:∀ i rest,ln a0<=i∨b<gE a0 i->fA a0 b i rest=(i,rest):=λi rest h=>qs1 h;have g:∀ to,to<ln a0->(ix a0 (to-1)).Kind=4->(ix a0 (to-1)).Last=false->tT a0 to=tT a0 (to+1):=λto j k l=>ql5 ⟨j,k,l⟩;have m:zc a0 b a2=if a2=true/\(fA a0 b 0 0).1<ln a0/\0<(fA a0 b 0 0).2 then (fA a0 b 0 0).2 else (fA a0 b 0 0).1:=rfl
 have o:=ln_nonneg a0;unfold q5n;dsimp only
 unhygienic (repeat' (first | exact trivial | exact And.intro (by omega) trivial | apply And.intro | intro))
 all_goals try simp only [kb,qy,qky,ql1] at *
 all_goals first
  | omega
  | skip
 all_goals grind
end
section
variable {nm n:ZB} {l s c k:List Sign} {w h m:Int} {page:List Staff} {pages:List Page}
def q8x (nm:ZB) (l:List Sign) (w h:Int):Prop:=(zr nm l).1=0/\qra l<0/\16<=w/\w<=60/\1<=h/\h<=12
theorem zch (a:(zr nm l).1≠0):mkB nm l w h=([],[],(zr nm l).1):=by rw [mkB,zT a]
theorem zse (b:(zr nm l).1=0) (a:0<=qra l):mkB nm l w h=([],[],8):=by rw [mkB,zF (by omega),zT a]
theorem zm7 (b:(zr nm l).1=0) (c:qra l<0) (a:w<16∨60<w∨h<1∨12<h):mkB nm l w h=([],[],2):=by rw [mkB,zF (by omega),zF (by omega),zT a]
theorem zsc (g:q8x nm l w h) (a:bk l w h 0 [] []=none):mkB nm l w h=([],[],11):=by
 obtain ⟨b,c,d,e,f,i⟩:=g;rw [mkB,zF (by omega),zF (by omega),zF (by omega),a]
theorem zsd (g:q8x nm l w h) (a:bk l w h 0 [] []=some pages):mkB nm l w h=(nm,pages,0):=by
 obtain ⟨b,c,d,e,f,i⟩:=g;rw [mkB,zF (by omega),zF (by omega),zF (by omega),a]
theorem zjy:qar nm l w h l nm [] [] []:=⟨0,zK _,ln_nonneg _,by rw [qfa],rfl,rfl,rfl,by simp [ln]⟩
theorem zup (g:q8x nm l w h) (hi:qar nm l w h s n pages c k) (b:ln s<=0):n=(mkB nm l w h).1/\pages=(mkB nm l w h).2.1/\(0:Int)=(mkB nm l w h).2.2:=by
 obtain ⟨i,i0,d,rfl,rfl,e,a,f⟩:=hi;rw [qel i0 d] at b;rw [zlb (by omega)] at a;rw [zsd g a.symm];exact ⟨rfl,rfl,rfl⟩
theorem zjz (hi:qar nm l w h s n pages c k) (b:0<ln s) (g:1<=h):kq nm l w h s 1 [] c k n pages:=by
 obtain ⟨i,i0,a,rfl,rfl,d,e,f⟩:=hi;rw [qel i0 a] at b;exact ⟨i,i0,a,rfl,rfl,d,by rw [qfp];rfl,by omega,f,by omega,by omega,by rw [qfp];omega,λ_ _=>e,by omega⟩
theorem zuq (hi:kq nm l w h s m page c k n pages):ln c<=1/\ln k<=1/\0<=ln (c++k)/\ln (c++k)<=2/\ln s<=ln l/\ln page<=ln l/\ln pages<=ln l/\1<=m/\m<=h+1:=by
 obtain ⟨i,i0,e,rfl,rfl,f,g,j,o,q,r,t,_,_⟩:=hi;have d:=q25 l i;rw [<-f] at d;have a:=ln_nonneg c;have b:=ln_nonneg k;have p:=ln_nonneg page;rw [qel i0 e,qm];dsimp only at d;omega
theorem zdu (hi:kq nm l w h s m page c k n pages) (f:1<=h) (b:ln s<=0∨h<m):qar nm l w h s n (pages++[Page.mk page]) c k/\ln pages+1<=ln l:=by
 obtain ⟨i,i0,a,rfl,rfl,d,g,j,o,q,r,t,u,e⟩:=hi;rw [qel i0 a] at b;have p:=ln_nonneg page;exact ⟨⟨i,i0,a,rfl,rfl,d,e (by omega),by rw [qb5];omega⟩,by omega⟩
theorem zj1 (hi:kq nm l w h s m page c k n pages) {u:List Sign}:qa4 nm l w h 0 c k s u:=by
 obtain ⟨i,i0,a,rfl,rfl,b,_⟩:=hi;refine ⟨zK _,ln_nonneg _,?_⟩;rw [qel i0 a,b];congr 1;omega
theorem zp2 (hi:kq nm l w h s m page c k n pages) {j f:Int} {a b:List Sign} (d:0<=f) (g:f<=ln s) (o:qa4 nm l w h j a b s (upto s f)) (u:j<ln (upto s f)) :
  qa4 nm l w h (j+1) (jq a b (ix (upto s f) j)).1 (jq a b (ix (upto s f) j)).2 s (upto s f):=by
 obtain ⟨i,i0,p,rfl,rfl,v,_⟩:=hi;obtain ⟨q,x,r⟩:=o;refine ⟨by omega,by omega,?_⟩;have y:=qel i0 p;have z:=qhj d g;have e:ln l-ln (fr l i)+(j+1)=(ln l-ln (fr l i)+j)+1:=by omega
 have t:ix (upto (fr l i) f) j=ix l (ln l-ln (fr l i)+j):=by
  have:ix (upto (fr l i) f) j=ix (fr l i) j:=by
   unfold ix upto;rw [List.getD_eq_getElem?_getD,List.getD_eq_getElem?_getD,List.getElem?_take];rw [zT (by omega)]
  rw [this,ze8 i0 q];congr 1;omega
 rw [e,qy0 (by omega),<-r,t]
theorem zj0 {j:Int} {b c u:List Sign} (a:qa4 nm l w h j b c s u):0<=j/\j<=ln u:=⟨a.out.1,a.out.2.1⟩
theorem zxw (hi:kq nm l w h s m page c k n pages) (hm:m<=h) (o:0<ln s) {f:Int} (e:f=zc s (w-ln (c++k)) (decide (m=h))) :
  ∃ i,0<=i/\i<ln l/\s=fr l i/\c++k=qcb l i/\i+f=nxt l w i (decide (ln page+1=h))/\bk l w h i page pages=bk l w h 0 [] []/\ln l-ln s=i:=by
 obtain ⟨i,i0,b,rfl,rfl,a,g,p,q,r,t,u,j,v⟩:=hi;have x:=qel i0 b;have d:c++k=qcb l i:=by unfold qcb;rw [<-a]
 refine ⟨i,i0,by omega,rfl,d,?_,j (by omega) hm,by omega⟩;rw [e,d,zlv i0 b,g]
theorem zur (g:q8x nm l w h) (hi:kq nm l w h s m page c k n pages) (hm:m<=h) (a:0<ln s) (e:zc s (w-ln (c++k)) (decide (m=h))<=0):mkB nm l w h=([],[],11):=by
 obtain ⟨i,i0,b,_,_,f,d,_⟩:=zxw hi hm a rfl;exact zsc g (by rw [<-d];exact zlc b (by omega))
theorem zp1 (hi:kq nm l w h s m page c k n pages) (hm:m<=h) (z:0<ln s) {f j:Int} {p q:List Sign} (r:f=zc s (w-ln (c++k)) (decide (m=h))) (A:0<f)
  (B:qa4 nm l w h j p q s (upto s f)) (I:ln (upto s f)<=j) :
  kq nm l w h (fr s f) (m+1) (page++[Staff.mk ((c++k)++upto s f) (ln (c++k)) (zq (fr s f)).1 (zq (fr s f)).2]) p q n pages:=by
 obtain ⟨i,i0,t,u,C,v,x,J⟩:=zxw hi hm z r;obtain ⟨K,a0,a1,D,rfl,_,L,M,N,O,_,P,_,_⟩:=hi;have e:=qel a0 a1;rw [<-D] at e;have b:=zes (l:=s) (room:=w-ln (c++k)) (last:=decide (m=h));rw [<-r] at b;obtain ⟨Q,R,E⟩:=B;have S:=qhj (l:=s) (i:=f) (by omega) b.2;have g:j=f:=by omega
 subst g;have T:ln s=ln l-i:=by omega
 have a:fr s j=fr l (i+j):=by rw [u,qy2 i0 (by omega)]
 have o:Staff.mk ((c++k)++upto s j) (ln (c++k)) (zq (fr s j)).1 (zq (fr s j)).2=stf l i (i+j):=by
  have d:sub l i (i+j)=upto s j:=by
   rw [qik i0 (by omega),u];congr 1;omega
  unfold stf qyd;rw [d,<-C,a]
 have y:ln (page++[stf l i (i+j)])=ln page+1:=qb5 _ _;have F:=ln_nonneg page;rw [o];refine ⟨i+j,by omega,by omega,a,rfl,?_,by omega,by omega,by omega,by omega,by omega,by omega,λG H=>?_,λU=>?_⟩
 .rw [E,show ln l-ln s+j=i+j by omega]
 .rw [<-x,zty t v (by omega) (by omega)]
 .rw [<-x,zd2 t v (by omega) (by omega)]
theorem zkd (a0:ZB) (o:List Sign) (a2 a3:Int) (J:ln a0<=1000000000/\ln o<=500):qxo a0 o a2 a3:=by
 have C:=ln_nonneg o;unfold qxo;dsimp only;simp only [zai];refine ⟨by omega,λd=>⟨by rw [zch d],by rw [zch d],by rw [zch d],trivial⟩,λd=>⟨⟨zK _,C,by rw [qfa];rfl⟩,λx ⟨i0,K,p⟩=>⟨λe=>⟨⟨i0,e⟩,λr=>⟨λ_=>?_,λA=>absurd i0 (by omega)⟩,λt=>?_⟩,λu=>?_⟩⟩⟩
 .rw [ql9 i0 e,zT r] at p;rw [zse d (by omega)];exact ⟨rfl,rfl,rfl,trivial⟩
 .rw [ql9 i0 e,zF t] at p;refine ⟨by omega,by trivial,by trivial,by trivial,by trivial,⟨by omega,by omega,p⟩,?_⟩;simp only [qj2];omega
 .rw [q07 u] at p;have B:qra o<0:=by omega
  refine ⟨λh=>?_,λv=>⟨λh=>?_,λw=>⟨λh=>?_,λq=>⟨λh=>?_,λy=>?_⟩⟩⟩⟩
  iterate 4
   .rw [zm7 d B (by omega)];exact ⟨rfl,rfl,rfl,trivial⟩
  have g:q8x a0 o a2 a3:=⟨d,B,v,w,q,y⟩;refine ⟨by omega,zjy,λs n pages c k hi=>⟨λz=>⟨zjz hi z q,λf m page j l i=>?_⟩,λz=>?_⟩⟩
  .have L:=zuq i;have b:0<=zc f (a2-ln (j++l)) (decide (m=a3))/\zc f (a2-ln (j++l)) (decide (m=a3))<=ln f:=zes;have D:=ln_nonneg page;have M:=qhj b.1 b.2;have N:=qel b.1 b.2;have E:ln ((j++l)++upto f (zc f (a2-ln (j++l)) (decide (m=a3))))=ln (j++l)+ln (upto f (zc f (a2-ln (j++l)) (decide (m=a3)))):=qm _ _;have F:=ln_nonneg pages
   unhygienic (repeat' (first | exact trivial | exact And.intro (by omega) trivial | apply And.intro | intro))
   all_goals first
    | omega
    | with_reducible rfl
    | (have:=zj0 ‹_›;omega)
    | exact zj1 i
    | (exact zp2 i b.1 b.2 ‹_› ‹_›)
    | (rw [zur g i ‹_› ‹_› (by omega)];done)
    | (exact zp1 i ‹_› ‹_› rfl ‹_› ‹_› ‹_›)
    | (exact (zdu i q (by first | exact .inl ‹_› | exact .inr ‹_›)).1)
    | (exact qcg (by have:=qhj b.1 b.2;omega))
    | (exact qcj (by omega))
    | (have:=zj0 ‹_›;simp only [qfd];omega)
    | (simp only [qbg];omega)
    | (have:=(zdu i q (by first | exact .inl ‹_› | exact .inr ‹_›)).2;simp only [qbf,qb5];omega)
    | skip
  .obtain ⟨G,H,I⟩:=zup g hi z;exact ⟨G,H,I,trivial⟩
end
section
set_option maxHeartbeats 4000000 in
theorem zp9 (a0 h a2 a3:Int) (a4:Bool) (a5:Int) (i j:Bool) (k a9 b c:Int) (a12:Bool) (d e f g:Int):q4w a0 h a2 a3 a4 a5 i j k a9 b c a12 d e f g:=by
 unfold q4w
 unhygienic (repeat' (first | exact trivial | apply And.intro | intro))
 all_goals try omega
 all_goals grind (splits:=40) [kh,qk4,qei,qe0]
end
end
theorem q6w (a0:List Sign) (d:Int) (a2:Bool) (a3:Int) (a4:List Sign) (a5:Int) (e:Bool) (f:Int) (g:ln a0<=10000000):qtt a0 d a2 a3 a4 a5 e f:=by
 refine ⟨λa=>⟨λb=>⟨λc=>⟨g,?_,trivial⟩,λc=>⟨?_,trivial⟩⟩,λb=>⟨?_,trivial⟩⟩,λa=>⟨?_,trivial⟩⟩
 .simp only [qm0,qe5,Staff.mk.injEq,a,b,c,and_true]
 .simp [qe5,c]
 .simp [qe5,b]
 .simp [qe5,a]
theorem zi8 (a0:ZB) (b:List Page) (a2:ZB) (a3:List Page) (v:ln b<=500/\okB b):qva a0 b a2 a3:=by
 have no:¬ (a0=a2/\b=a3)->false=qjm a0 b a2 a3:=λh=>(decide_eq_false h).symm;have g:a0=a2->b=a3->true=qjm a0 b a2 a3:=λh w=>(decide_eq_true ⟨h,w⟩).symm;have a:∀ p q:Page,p.Staves=q.Staves->p=q:=λp q h=>by cases p;cases q;simp_all
 have r:∀ i,0<=i->i<ln b->ln (ix b i).Staves<=1000000000/\∀ s ∈ (ix b i).Staves,ln s.Signs<=10000000:=λi z h=>v.2 _ (qci z h);unfold qva;simp only [qvd];refine ⟨λh=>⟨no λc=>h c.1,trivial⟩,λA=>⟨λh=>⟨no λc=>h (by rw [c.2]),trivial⟩,λB=>⟨⟨by omega,ln_nonneg _,λj d e=>by omega⟩,λx ⟨i0,C,t⟩=>⟨λh=>⟨⟨i0,h⟩,⟨i0,by omega⟩,λk=>⟨no λc=>k (by rw [c.2]),trivial⟩,λk=>
  ⟨⟨by omega,ln_nonneg _,λj d e=>by omega⟩,λy ⟨l,D,u⟩=>⟨⟨i0,h⟩,λn=>⟨⟨i0,h⟩,⟨l,n⟩,⟨i0,by omega⟩,⟨l,by omega⟩,(r x i0 h).2 _ (qci l n),λf=>⟨no λc=>?_,trivial⟩,λf=>⟨?_,trivial,trivial,trivial,trivial,⟨by omega,by omega,λj d e=>?_⟩,?_⟩⟩,λn=>⟨?_,trivial,trivial,trivial,trivial,⟨by omega,by omega,λj d e=>?_⟩,?_⟩⟩⟩⟩,
  λh=>⟨g A (qpg B λj d e=>t j d (by omega)),trivial⟩⟩⟩⟩⟩
 .rw [c.2] at f;simp [qe5] at f
 .have:=(r x i0 h).1;omega
 .by_cases o:j=y
  .subst o;exact of_decide_eq_true f
  .exact u j d (by omega)
 .simp only [qis];omega
 .omega
 .by_cases o:j=x
  .subst o;exact a _ _ (qpg k λm m0 m1=>u m m0 (by omega))
  .exact t j d (by omega)
 .simp only [qir];omega
theorem q1j (a0:ZB) (a:Int) (_:U8 a):qqu a0 a:=⟨trivial,rfl,trivial⟩
theorem zkq (a0 a:ZB) (b:ln a=1/\ln a0<=100000000):q7l a0 a:=⟨⟨b.1,rfl,rfl,b.2⟩,rfl,trivial⟩
end Go.Proofs.YtpdphcekmhajdaaGreatDoor
