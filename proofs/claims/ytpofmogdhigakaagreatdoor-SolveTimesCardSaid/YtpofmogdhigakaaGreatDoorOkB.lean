import Derived.Test.YtpofmogdhigakaaGreatDoorOkA
namespace Go.Proofs.YtpofmogdhigakaaGreatDoor
open Go Go.E2 Go.E3
set_option maxRecDepth 1000000
set_option maxHeartbeats 4000000
variable {sp:Nat->Option (List V->Heap->Option (CR×Heap))}
theorem q7s (q:qt (cfg sp)):kz XK szK (cfg sp) 41 c41.v:=
 zry zi ze q (l:=[]) trivial (λ(d,b,_)=>(Int.toNat (b ()))) false XT jw [] 3 (λ(d,b,_)=>j7 []) (λ(d,b,_)=>zu []) rfl λ((d:Int),(b:Int),_) g=>by
  dsimp only [c41,thY,List.cons_append,List.nil_append,kt0,kt1,kt4,kt9,qbh,qbi,qbj,qbk,qbl] at g;refine goA ?_
  with_reducible unhygienic repeat' first | exact trivial | apply And.intro | (intro;intros)
  all_goals obtain ⟨c,f,j,i⟩:=g
  all_goals have t:=λh=>zbg c (show 0<b from h)
  all_goals have q:=qbp c f
  all_goals try dsimp only [c41,qd0]
  all_goals first
   | omega
   | exact ⟨f,(t (by omega)).1,i,by have:=(t (by omega)).2;omega⟩
   | (have:=(t (by omega)).2;have:=(t (by omega)).1;show _<b.toNat;omega)
   | exact q0r c f
   | (rename b=0=>e;rw [e,q0s c])
theorem q7u (q:qt (cfg sp)):kz XK szK (cfg sp) 48 c48.v:=
 qa6 zi ze q (l:=[]) trivial false XT jw [(48,12,.inv 0 [.one 0 (.int .i64),.one 1 (.int .i64)] [])] 3 (λ(a,b,_)=>j7 [λc=>match c with | [.i d,.i e]=>λ_=>q8c a b (d ()) (e ()) | _=>λ_=>False]) (λ(a,b,_)=>zu [λc=>match c with | [.i d,.i e]=>λ_=>qvl a b (d ()) (e ()) | _=>λ_=>0]) rfl λ((a:Int),(b:Int),_) g=>by
  dsimp only [c48,thY,List.cons_append,List.nil_append,kt0,kt1,kt4,kt9,qbh,qbi,qbj,qbk,qbl] at g;refine goA ?_;obtain ⟨m,n,o,p⟩:=g;refine ⟨⟨m,n,rfl⟩,λx y ⟨f,j,k⟩=>⟨λh=>?_,λh=>⟨?_,trivial⟩⟩⟩
  .have t:=zbg f h;refine ⟨by omega,⟨j,t.1,by rw [q0r f j];exact k⟩,?_⟩;simp only [qvl];omega
  .have:y=0:=by omega
   subst this;rw [<-k,q0s f]
theorem zdr (q:qt (cfg sp)):kz XK szK (cfg sp) 24 c24.v:=
 qa6 zi ze q (l:=[(41,c41)]) ⟨q7s q,trivial⟩ false XT jw [] 3 (λ(c,b,_)=>j7 []) (λ(c,b,_)=>zu []) rfl λ((c:Int),(b:Int),_) d=>by
  clear d;refine goA ?_
  with_reducible unhygienic repeat' first | exact trivial | apply And.intro | (intro;intros)
  all_goals have e:1<=b->1<=kr c b:=λh=>qf9 h
  all_goals try unfold zr
  all_goals try split
  all_goals try split
  all_goals first | omega
theorem q2g (q:qt (cfg sp)):kz XK szK (cfg sp) 28 c28.v:=
 qa6 zi ze q (l:=[(48,c48)]) ⟨q7u q,trivial⟩ false XT jw [] 3 (λ(c,b,_)=>j7 []) (λ(c,b,_)=>zu []) rfl λ((c:Int),(b:Int),_) d=>by
  clear d;refine goA ?_
  with_reducible unhygienic repeat' first | exact trivial | apply And.intro | (intro;intros)
  all_goals have e:1<=b->1<=kr c b:=λh=>qf9 h
  all_goals try unfold zr
  all_goals try split
  all_goals try split
  all_goals first | omega
theorem zdx (q:qt (cfg sp)):kz XK szK (cfg sp) 44 c44.v:=
 qa6 zi ze q (l:=[(24,c24)]) ⟨zdr q,trivial⟩ false XT jw [(44,26,.inv 0 [.one 8 (.int .i64)] [])] 3 (λ(b,_)=>j7 [λc=>match c with | [.i d]=>λ_=>q24 b (d ()) | _=>λ_=>False]) (λ(b,_)=>zu [λc=>match c with | [.i d]=>λ_=>qqc b (d ()) | _=>λ_=>0]) rfl λ((b:List Time),_) g=>by
  dsimp only [c44,thY,List.cons_append,List.nil_append,kt0,kt1,kt4,kt9,qbh,qbi,qbj,qbk,qbl] at g;refine goA ?_;refine ⟨⟨by omega,zc _,rfl⟩,λx ⟨e,j,a⟩=>⟨λh=>?_,λh=>⟨?_,trivial⟩⟩⟩
  .rw [qdt e h] at a;simp only [qdz] at a;refine ⟨⟨e,h⟩,trivial,λf=>⟨?_,trivial⟩,λf=>⟨by omega,⟨by omega,by omega,?_⟩,?_⟩⟩
   .rw [zT f] at a;exact a
   .rw [zF (by omega)] at a;exact a
   .simp only [qqc];omega
  .rw [qf7 h] at a;exact a
theorem zd0 (q:qt (cfg sp)):kz XK szK (cfg sp) 57 c57.v:=
 qa6 zi ze q (l:=[(48,c48)]) ⟨q7u q,trivial⟩ false XT jw [] 3 (λ(b,c,_)=>j7 []) (λ(b,c,_)=>zu []) rfl λ((b:Int),(c:Int),_) d=>by
  dsimp only [c57,thY,List.cons_append,List.nil_append,kt0,kt1,kt4,kt9,qbh,qbi,qbj,qbk,qbl] at d;refine goA ?_;obtain ⟨f,j,k,m⟩:=d;have g:=qf9 (a:=b) j;have n:=qbp f (ji b c);have o:=qbp (show 0<=c by omega) (ji b c);refine ⟨⟨f,by omega,k,m⟩,⟨by omega,by omega,by omega⟩,⟨by omega,by omega,by omega⟩,λh=>?_,λh=>⟨λi=>?_,λi=>?_⟩⟩
  .have e:ofT b c=(0,0,4):=by unfold ofT;rw [zT (.inl h)]
   rw [e];exact ⟨rfl,rfl,rfl,trivial⟩
  .have e:ofT b c=(0,0,4):=by unfold ofT;rw [zT (.inr i)]
   rw [e];exact ⟨rfl,rfl,rfl,trivial⟩
  .have e:ofT b c=(b.tdiv (kr b c),c.tdiv (kr b c),0):=by unfold ofT;rw [zF (by omega)]
   rw [e];exact ⟨rfl,rfl,rfl,trivial⟩
theorem q7w (q:qt (cfg sp)):kz XK szK (cfg sp) 67 c67.v:=
 qa6 zi ze q (l:=[(41,c41)]) ⟨q7s q,trivial⟩ false XT jw [] 3 (λ(b,c,_)=>j7 []) (λ(b,c,_)=>zu []) rfl λ((b:Int),(c:Int),_) d=>by
  dsimp only [c67,thY,List.cons_append,List.nil_append,kt0,kt1,kt4,kt9,qbh,qbi,qbj,qbk,qbl] at d;refine goA ?_
  with_reducible unhygienic repeat' first | exact trivial | apply And.intro | (intro;intros)
  all_goals obtain ⟨e,f,h,i⟩:=d
  all_goals have g:=qf9 (a:=b) f
  all_goals have j:=qbp e (ji b c)
  all_goals have k:=qbp (show 0<=c by omega) (ji b c)
  all_goals first | omega | (unfold ofT;split<;>first | rfl | omega)
theorem zmw (q:qt (cfg sp)):kz XK szK (cfg sp) 33 c33.v:=
 qa6 zi ze q (l:=[(28,c28),(57,c57)]) ⟨q2g q,zd0 q,trivial⟩ false XT jw [] 3 (λ(c,a,d,b,_)=>j7 []) (λ(c,a,d,b,_)=>zu []) rfl λ((c:Int),(a:Int),(d:Int),(b:Int),_) g=>by
  clear g;refine goA ?_;refine ⟨trivial,λh=>⟨λ_=>?_,λf=>absurd f h⟩,λh=>⟨trivial,λf=>?_,λf=>?_⟩⟩
  .have e:qgq c a d b=(0,0,zr c a):=by unfold qgq;rw [zT h]
   rw [e];exact ⟨rfl,rfl,rfl,trivial⟩
  .have e:qgq c a d b=(0,0,zr d b):=by unfold qgq;rw [zF (by omega),zT f]
   rw [e];exact ⟨rfl,rfl,rfl,trivial⟩
  .have e:qgq c a d b=ofT (c * b+d * a) (a * b):=by unfold qgq;rw [zF (by omega),zF (by omega)]
   obtain ⟨i,j,k,m,n,_⟩:=qww h f;rw [e];exact ⟨i,j,k,m,n,rfl,rfl,rfl,trivial⟩
theorem zm3 (q:qt (cfg sp)):kz XK szK (cfg sp) 55 c55.v:=
 qa6 zi ze q (l:=[(44,c44),(67,c67)]) ⟨zdx q,q7w q,trivial⟩ false XT jw [] 3 (λ(b,a,d,c,_)=>j7 []) (λ(b,a,d,c,_)=>zu []) rfl λ((b:Int),(a:Int),(d:Int),(c:Int),_) g=>by
  clear g;refine goA ?_;have o:ln [Time.mk b a,Time.mk d c]=2:=rfl;refine ⟨trivial,trivial,by omega,λh=>?_,λh=>?_⟩
  .rw [qo6] at h ⊢;by_cases f:zr b a≠0
   .have e:qgq b a d c=(0,0,zr b a):=by unfold qgq;rw [zT f]
    rw [e,zT f];exact ⟨rfl,rfl,rfl,trivial⟩
   .rw [zF f] at h ⊢;have e:qgq b a d c=(0,0,zr d c):=by unfold qgq;rw [zF f,zT h]
    rw [e];exact ⟨rfl,rfl,rfl,trivial⟩
  .rw [qo6] at h;have f:zr b a=0:=by
    by_cases f:zr b a≠0
    .rw [zT f] at h;exact h
    .omega
   rw [zF (by omega)] at h;have e:qgq b a d c=ofT (b * c+d * a) (a * c):=by unfold qgq;rw [zF (by omega),zF (by omega)]
   obtain ⟨i,j,k,m,n,_⟩:=qww f h;rw [e];exact ⟨i,j,k,m,n,rfl,rfl,rfl,trivial⟩
theorem zmz (q:qt (cfg sp)):kz XK szK (cfg sp) 45 c45.v:=
 qa6 zi ze q (l:=[(41,c41),(67,c67)]) ⟨q7s q,q7w q,trivial⟩ false XT jw [] 3 (λ(b,e,f,c,_)=>j7 []) (λ(b,e,f,c,_)=>zu []) rfl λ((b:Int),(e:Int),(f:Int),(c:Int),_) x=>by
  dsimp only [c45,thY,List.cons_append,List.nil_append,kt0,kt1,kt4,kt9,qbh,qbi,qbj,qbk,qbl] at x;refine goA ?_;have i:=q0d x;obtain ⟨F,V,G,W,H,X,I,Y,Z,h9⟩:=x;have g1:=qf9 (a:=b) I;have g2:=qf9 (a:=f) G;have s:=qbp F (ji b c);have t:=qbp (show 0<=c by omega) (ji b c);have y:=qbp H (ji f e);have A:=qbp (show 0<=e by omega) (ji f e);have B:=qwm I (qlu (a:=b) (show 0<=c by omega)) t.1;have C:=qwm G (qlu (a:=f) (show 0<=e by omega)) A.1;have N:qfn b e f c=if (0<b.tdiv (kr b c)/\Int.tdiv 1099511627776 (b.tdiv (kr b c))<f.tdiv (kr f e))∨1048576<e.tdiv (kr f e) * c.tdiv (kr b c) then (0,0,4)
   else (b.tdiv (kr b c) * f.tdiv (kr f e),e.tdiv (kr f e) * c.tdiv (kr b c),0):=rfl
  have O:∀ n d:Int,kr n d=1->n<=1099511627776->d<=1048576->ofT n d=(n,d,0):=λn d P hn p=>by
   unfold ofT;rw [P,Int.tdiv_one,Int.tdiv_one,zF (by omega)]
  have Q:∀ z:Int,0<=z->0<=Int.tdiv 1099511627776 z/\Int.tdiv 1099511627776 z<=1099511627776:=λz m=>qbp (by decide) m;have R:∀ z:Int,0<=z->0<=Int.tdiv 1048576 z/\Int.tdiv 1048576 z<=1048576:=λz m=>qbp (by decide) m;rw [N];have u:kr b c≠0:=by omega
  have w:kr f e≠0:=by omega
  revert i s A y t C B u w g1 g2;generalize b.tdiv (kr b c)=g;generalize e.tdiv (kr f e)=o;generalize f.tdiv (kr f e)=j;generalize c.tdiv (kr b c)=k;intro i g1 g2 s t y A B C u w;have S:=Q g s.1;have T:=R k t.1;have U:0<g->(Int.tdiv 1099511627776 g<j↔1099511627776<j * g):=λh=>q3w h (by decide);have J:Int.tdiv 1048576 k<o↔1048576<o * k:=q3w (by omega) (by decide);have K:0<=g * j:=Int.mul_nonneg s.1 y.1;have L:1<=o * k:=q8i C B;have fin:g * j<=1099511627776->o * k<=1048576->ofT (g * j) (o * k)=(g * j,o * k,0):=O _ _ i;have zero:g<=0->g * j=0:=λh=>by
   have:g=0:=by omega
   rw [this,Int.zero_mul]
  have cm:=Int.mul_comm j g;refine ⟨⟨F,by omega,by omega,by omega⟩,⟨H,by omega,by omega,by omega⟩,⟨u,by omega,by omega⟩,⟨u,by omega,by omega⟩,⟨w,by omega,by omega⟩,⟨w,by omega,by omega⟩,λm=>⟨⟨by omega,by omega,by omega⟩,λM=>?_,λM=>⟨λp=>⟨⟨by omega,by omega,by omega⟩,λr=>?_,λr=>?_⟩,λp=>absurd p (by omega)⟩⟩,λm=>⟨λp=>⟨⟨by omega,by omega,by omega⟩,λr=>?_,λr=>?_⟩,λp=>absurd p (by omega)⟩⟩
  .rw [zT (.inl ⟨m,M⟩)];exact ⟨rfl,rfl,rfl,trivial⟩
  .rw [zT (.inr (J.1 r))];exact ⟨rfl,rfl,rfl,trivial⟩
  .have D:g * j<=1099511627776:=by have:=U m;omega
   have E:o * k<=1048576:=by omega
   rw [zF (by omega),fin D E];exact ⟨⟨by omega,by omega⟩,⟨by omega,by omega⟩,⟨K,L,by omega,by omega⟩,rfl,rfl,rfl,trivial⟩
  .rw [zT (.inr (J.1 r))];exact ⟨rfl,rfl,rfl,trivial⟩
  .have D:g * j<=1099511627776:=by have:=zero m;omega
   have E:o * k<=1048576:=by omega
   rw [zF (by omega),fin D E];exact ⟨⟨by omega,by omega⟩,⟨by omega,by omega⟩,⟨K,L,by omega,by omega⟩,rfl,rfl,rfl,trivial⟩
theorem zds (q:qt (cfg sp)):kz XK szK (cfg sp) 26 c26.v:=
 qa6 zi ze q (l:=[(44,c44),(45,c45)]) ⟨zdx q,zmz q,trivial⟩ false XT jw [] 3 (λ(b,c,d,f,_)=>j7 []) (λ(b,c,d,f,_)=>zu []) rfl λ((b:Int),(c:Int),(d:Int),(f:Int),_) j=>by
  clear j;refine goA ?_;have k:ln [Time.mk b c,Time.mk d f]=2:=rfl;refine ⟨trivial,trivial,by omega,λh=>?_,λh=>?_⟩
  .rw [qo6] at h ⊢;unfold qew;by_cases a:zr b c≠0
   .rw [zT a,zT a];exact ⟨rfl,rfl,rfl,trivial⟩
   .rw [zF a] at h;rw [zF a,zF a,zT h];exact ⟨rfl,rfl,rfl,trivial⟩
  .rw [qo6] at h;have a:zr b c=0:=by
    by_cases a:zr b c≠0
    .rw [zT a] at h;exact h
    .omega
   rw [zF (by omega)] at h;have g:=qd9 a;have i:=qd9 h;have e:qew b c d f=qfn b c d f:=by unfold qew;rw [zF (by omega),zF (by omega)]
   rw [e];exact ⟨⟨g.1,g.2.1,g.2.2.1,by omega,i.1,i.2.1,i.2.2.1,by omega,qtx a,qtx h⟩,rfl,rfl,rfl,trivial⟩
theorem zm1 (q:qt (cfg sp)):kz XK szK (cfg sp) 52 c52.v:=
 qa6 zi ze q (l:=[(48,c48)]) ⟨q7u q,trivial⟩ false XT jw [] 3 (λ(b,d,e,c,_)=>j7 []) (λ(b,d,e,c,_)=>zu []) rfl λ((b:Int),(d:Int),(e:Int),(c:Int),_) s=>by
  dsimp only [c52,thY,List.cons_append,List.nil_append,kt0,kt1,kt4,kt9,qbh,qbi,qbj,qbk,qbl] at s;refine goA ?_;obtain ⟨t,H,x,I,u,J,y,K,L,M⟩:=s;have g1:=qf9 (a:=b) y;have g2:=qf9 (a:=e) x;have k:=qbp t (ji b c);have o:=qbp (show 0<=c by omega) (ji b c);have p:=qbp u (ji e d);have r:=qbp (show 0<=d by omega) (ji e d);have A:qfn b d e c=if (0<b.tdiv (kr b c)/\Int.tdiv 1099511627776 (b.tdiv (kr b c))<e.tdiv (kr e d))∨1048576<d.tdiv (kr e d) * c.tdiv (kr b c) then (0,0,4)
   else (b.tdiv (kr b c) * e.tdiv (kr e d),d.tdiv (kr e d) * c.tdiv (kr b c),0):=rfl
  have B:∀ z:Int,0<=z->0<=Int.tdiv 1099511627776 z/\Int.tdiv 1099511627776 z<=1099511627776:=λz i=>qbp (by decide) i;rw [A];have m:kr b c≠0:=by omega
  have n:kr e d≠0:=by omega
  revert k r p o m n g1 g2;generalize b.tdiv (kr b c)=f;generalize d.tdiv (kr e d)=C;generalize e.tdiv (kr e d)=g;generalize c.tdiv (kr b c)=D;intro g1 g2 k o p r m n;have E:=B f k.1;have F:0<f->(Int.tdiv 1099511627776 f<g↔1099511627776<g * f):=λh=>q3w h (by decide);have N:0<=f * g:=Int.mul_nonneg k.1 p.1;have O:=q3j r.1 (show C<=1048576 by omega) o.1 (show D<=1099511627776 by omega);have cm:=Int.mul_comm g f;have zero:f<=0->f * g=0:=λh=>by
   have:f=0:=by omega
   rw [this,Int.zero_mul]
  refine ⟨⟨t,by omega,by omega,by omega⟩,⟨u,by omega,by omega,by omega⟩,⟨m,by omega,by omega⟩,⟨m,by omega,by omega⟩,⟨n,by omega,by omega⟩,⟨n,by omega,by omega⟩,λi=>⟨⟨by omega,by omega,by omega⟩,λw=>?_,λw=>⟨⟨by omega,by omega⟩,λj=>?_,λj=>?_⟩⟩,λi=>⟨⟨by omega,by omega⟩,λj=>?_,λj=>?_⟩⟩
  .rw [zT (.inl ⟨i,w⟩)];exact ⟨rfl,rfl,rfl,trivial⟩
  .rw [zT (.inr j)];exact ⟨rfl,rfl,rfl,trivial⟩
  .have G:f * g<=1099511627776:=by have:=F i;omega
   rw [zF (by omega)];exact ⟨⟨by omega,by omega⟩,⟨by omega,by omega⟩,rfl,rfl,rfl,trivial⟩
  .rw [zT (.inr j)];exact ⟨rfl,rfl,rfl,trivial⟩
  .have G:f * g<=1099511627776:=by have:=zero i;omega
   rw [zF (by omega)];exact ⟨⟨by omega,by omega⟩,⟨by omega,by omega⟩,rfl,rfl,rfl,trivial⟩
theorem zdu (q:qt (cfg sp)):kz XK szK (cfg sp) 30 c30.v:=
 qa6 zi ze q (l:=[(28,c28),(52,c52)]) ⟨q2g q,zm1 q,trivial⟩ false XT jw [] 3 (λ(a,b,c,d,_)=>j7 []) (λ(a,b,c,d,_)=>zu []) rfl λ((a:Int),(b:Int),(c:Int),(d:Int),_) j=>by
  clear j;refine goA ?_;refine ⟨trivial,λh=>⟨λ_=>?_,λf=>absurd f h⟩,λh=>⟨trivial,λf=>?_,λf=>?_⟩⟩
  .have e:qew a b c d=(0,0,zr a b):=by unfold qew;rw [zT h]
   rw [e];exact ⟨rfl,rfl,rfl,trivial⟩
  .have e:qew a b c d=(0,0,zr c d):=by unfold qew;rw [zF (by omega),zT f]
   rw [e];exact ⟨rfl,rfl,rfl,trivial⟩
  .have e:qew a b c d=qfn a b c d:=by unfold qew;rw [zF (by omega),zF (by omega)]
   have g:=qd9 h;have i:=qd9 f;rw [e];exact ⟨⟨g.1,g.2.1,g.2.2.1,by omega,i.1,i.2.1,i.2.2.1,by omega,qtx h,qtx f⟩,rfl,rfl,rfl,trivial⟩
theorem zrw (q:qt (cfg sp)):kz XK szK (cfg sp) 7 c7.v:=
 qk2 zi ze q (l:=[]) trivial false XT jw [] 3 (λ(a,_)=>j7 []) (λ(a,_)=>zu []) rfl λ((a:List Time),_) b=>by
  dsimp only [c7,thY,List.cons_append,List.nil_append,kt0,kt1,kt4,kt9,qbh,qbi,qbj,qbk,qbl] at b;refine goA ?_;exact ⟨by simp only [qrj,ln,List.length_nil] at *;omega,by simp,trivial⟩
theorem zmd (q:qt (cfg sp)):kz XK szK (cfg sp) 10 c10.v:=
 qa6 zi ze q (l:=[]) trivial false XT jw [(10,58,.inv 0 [.one 5 (.int .i64)] [])] 3 (λ(b,c,_)=>j7 [λe=>match e with | [.i f]=>λ_=>qv6 b c (f ()) | _=>λ_=>False]) (λ(b,c,_)=>zu [λe=>match e with | [.i f]=>λ_=>qlb b c (f ()) | _=>λ_=>0]) rfl λ((b:List Time),(c:List Time),_) o=>by
  dsimp only [c10,thY,List.cons_append,List.nil_append,kt0,kt1,kt4,kt9,qbh,qbi,qbj,qbk,qbl] at o;refine goA ?_;refine ⟨λh=>⟨(decide_eq_false λa=>h (by rw [a])).symm,trivial⟩,λp=>⟨⟨by omega,zc _,λj d k=>by omega⟩,λx ⟨m,r,n⟩=>⟨λh=>⟨⟨m,h⟩,⟨m,by omega⟩,λg=>⟨(decide_eq_false λa=>?_).symm,trivial⟩,λg=>⟨by omega,⟨by omega,by omega,λj d k=>?_⟩,?_⟩⟩,λh=>⟨(decide_eq_true (qnr p λj d k=>n j d (by omega))).symm,trivial⟩⟩⟩⟩
  .subst a;simp at g
  .by_cases a:j=x
   .subst a;exact (q65 _ _).1 g
   .exact n j d (by omega)
  .simp only [qlb];omega
end Go.Proofs.YtpofmogdhigakaaGreatDoor
