import Derived.Test.YtpofmogdhigakaaGreatDoorOkM
import Derived.Test.YtpofmogdhigakaaGreatDoorOkR
namespace Go.Proofs.YtpofmogdhigakaaGreatDoor
open Go Go.E2 Go.E3
set_option maxRecDepth 1000000
set_option maxHeartbeats 4000000
variable {sp:Nat->Option (List V->Heap->Option (CR×Heap))}
theorem zdq (q:qt (cfg sp)):kz XK szK (cfg sp) 23 c23.v:=
 qk2 zi ze q (l:=[(40,c40)]) ⟨zdw q,trivial⟩ false XT jw [(23,58,.inv 0 [.one 3 (.list 1 true false),.one 9 (.int .i64)] [])] 3 (λ(c,b,_)=>j7 [λd=>match d with | [.l 1 e,.i f]=>λ_=>ql6 c b (e ()) (f ()) | _=>λ_=>False]) (λ(c,b,_)=>zu [λd=>match d with | [.l 1 e,.i f]=>λ_=>qqd c b (e ()) (f ()) | _=>λ_=>0]) rfl λ((c:ZB),(b:List Sign),_) j=>by
  dsimp only [c23,thY,List.cons_append,List.nil_append,kt0,kt1,kt4,kt9,qbh,qbi,qbj,qbk,qbl] at j;refine goA ?_
  with_reducible unhygienic repeat' first | exact trivial | apply And.intro | (intro;intros)
  all_goals try (rename ql6 ..=>hi;obtain ⟨k,m,g⟩:=hi)
  all_goals try simp only [ql6,qqd]
  all_goals have n:=qoh b
  all_goals try (have h:=congrArg ln g;rw [qdg] at h)
  all_goals try (first | rw [zap ‹_›] at g h | rw [zaq ‹_›] at g)
  all_goals first
   | with_reducible rfl
   | omega
   | exact ⟨zK _,zc _,rfl⟩
   | (refine j9 ?_;grind [qgd])
   | grind [quk]
theorem zdz (q:qt (cfg sp)):kz XK szK (cfg sp) 47 c47.v:=
 qa6 zi ze q (l:=[]) trivial false XT jw [] 3 (λ(i,j,k,m,n,o,p,r,s,t,b,c,d,e,f,g,h,_)=>j7 []) (λ(i,j,k,m,n,o,p,r,s,t,b,c,d,e,f,g,h,_)=>zu []) rfl λ((i:Int),(j:Int),(k:Int),(m:Int),(n:Bool),(o:Int),(p:Bool),(r:Bool),(s:Int),(t:Int),(b:Int),(c:Int),(d:Bool),(e:Int),(f:Int),(g:Int),(h:Int),_) u=>by
  clear u;refine goA ?_
  with_reducible unhygienic repeat' first | exact trivial | apply And.intro | (intro;intros)
  all_goals first | with_reducible rfl | omega | grind [qkt]
theorem zms (q:qt (cfg sp)):kz XK szK (cfg sp) 22 c22.v:=
 qa6 zi ze q (l:=[(38,c38),(39,c39)]) ⟨zdv q,zmy q,trivial⟩ false XT jw [] 3 (λ(b,c,_)=>j7 []) (λ(b,c,_)=>zu []) rfl λ((b:ZB),(c:List Sign),_) d=>by
  dsimp only [c22,thY,List.cons_append,List.nil_append,kt0,kt1,kt4,kt9,qbh,qbi,qbj,qbk,qbl] at d;refine goA ?_
  with_reducible unhygienic repeat' first | exact trivial | apply And.intro | (intro;intros)
  all_goals first | with_reducible rfl | omega | grind [qjm]
theorem zdy (q:qt (cfg sp)):kz XK szK (cfg sp) 46 c46.v:=
 qa6 zi ze q (l:=[(68,c68),(69,c69)]) ⟨zd1 q,zm9 q,trivial⟩ false XT jw [] 3 (λ(b,c,_)=>j7 []) (λ(b,c,_)=>zu []) rfl λ((b:ZB),(c:List Sign),_) d=>by
  dsimp only [c46,thY,List.cons_append,List.nil_append,kt0,kt1,kt4,kt9,qbh,qbi,qbj,qbk,qbl] at d;refine goA ?_
  with_reducible unhygienic repeat' first | exact trivial | apply And.intro | (intro;intros)
  all_goals first | with_reducible rfl | omega | grind [qjm]
theorem zdt (q:qt (cfg sp)):kz XK szK (cfg sp) 27 c27.v:=
 qk2 zi ze q (l:=[(46,c46),(47,c47)]) ⟨zdy q,zdz q,trivial⟩ false XT jw [(27,250,.inv 0 [.one 5 (.list 1 true false),.one 6 (.int .i64)] [])] 3 (λ(c,b,_)=>j7 [λd=>match d with | [.l 1 e,.i f]=>λ_=>ql1 c b (e ()) (f ()) | _=>λ_=>False]) (λ(c,b,_)=>zu [λd=>match d with | [.l 1 e,.i f]=>λ_=>qp7 c b (e ()) (f ()) | _=>λ_=>0]) rfl λ((c:ZB),(b:List Sign),_) j=>by
  dsimp only [c27,thY,List.cons_append,List.nil_append,kt0,kt1,kt4,kt9,qbh,qbi,qbj,qbk,qbl] at j;refine goA ?_
  with_reducible unhygienic repeat' first | exact trivial | apply And.intro | (intro;intros)
  all_goals try (rename ql1 ..=>hi;obtain ⟨k,m,g⟩:=hi)
  all_goals try simp only [ql1,qp7]
  all_goals have n:=qoh b
  all_goals try (have h:=congrArg ln g;rw [qdg] at h)
  all_goals try (first | rw [zap ‹_›] at g h | rw [zaq ‹_›] at g)
  all_goals first
   | with_reducible rfl
   | omega
   | exact ⟨zK _,zc _,rfl⟩
   | (refine j9 ?_;grind [qgd])
   | grind [quk]
theorem zmv (q:qt (cfg sp)):kz XK szK (cfg sp) 32 c32.v:=
 qk2 zi ze q (l:=[(46,c46),(56,c56),(47,c47)]) ⟨zdy q,zm4 q,zdz q,trivial⟩ false XT jw [(32,506,.inv 0 [.one 7 (.list 18 true false),.one 8 (.int .i64)] [])] 3 (λ(d,b,_)=>j7 [λe=>match e with | [.l 18 f,.i g]=>λ_=>qnm d b (f ()) (g ()) | _=>λ_=>False]) (λ(d,b,_)=>zu [λe=>match e with | [.l 18 f,.i g]=>λ_=>qsn d b (f ()) (g ()) | _=>λ_=>0]) rfl λ((d:ZB),(b:List Sign),_) j=>by
  dsimp only [c32,thY,List.cons_append,List.nil_append,kt0,kt1,kt4,kt9,qbh,qbi,qbj,qbk,qbl] at j;refine goA ?_
  with_reducible unhygienic repeat' first | exact trivial | apply And.intro | (intro;intros)
  all_goals try (rename qnm ..=>hi;obtain ⟨h,o,c⟩:=hi)
  all_goals try simp only [qnm,qsn]
  all_goals try (rename (qjm d b).1=0=>hx;obtain ⟨k,p⟩:=zq7 hx;obtain ⟨m,r,s⟩:=qph (qha hx).1;simp only [k] at *)
  all_goals try (rename _<ln (qaz b _ _)=>hy;have t:=qtd (zK 0) m _ (q25 h hy);rw [qdt h hy,List.filter_cons] at c)
  all_goals try (rename ln (qaz b _ _)<=_=>hy;rw [qf7 hy] at c)
  all_goals try have n:=congrArg ln c
  all_goals try have u:ln (qgk b)<=ln (qaz b (kf b).1 0):=by unfold qgk;have:=List.length_filter_le (λx:Played=>qkt (ix b x.Sign)) (qaz b (kf b).1 0);simp only [ln];omega
  all_goals first
   | with_reducible rfl
   | omega
   | exact ⟨zK _,zc _,rfl⟩
   | (rw [zT ‹_›] at c;exact ⟨by omega,by omega,by rw [<-c];simp⟩)
   | (rw [zF (by simp_all)] at c;exact ⟨by omega,by omega,c⟩)
   | (rw [zT ‹_›,qdg,qgd] at n;have:=zc ((fr (qaz b (kf b).1 0) (_+1)).filter λx=>qkt (ix b x.Sign));refine j9 ?_;grind)
   | (simp only [List.filter_nil,zJ] at c;grind [zc4])
   | grind [zc4]
theorem zkm (q:qt (cfg sp)):kz XK szK (cfg sp) 8 c8.v:=
 qa6 zi ze q (l:=[(22,c22),(23,c23),(24,c24),(25,c25),(26,c26)]) ⟨zms q,zdq q,zdr q,zmt q,zds q,trivial⟩ false XT jw [(8,250,.inv 0 [.one 34 (.int .i64)] []),(8,4090,.inv 1 [.one 13 (.list 9 true false),.one 54 (.int .i64)] [])] 3 (λ(c,b,f,_)=>j7 [λd=>match d with | [.i e]=>λ_=>ql4 c b f (e ()) | _=>λ_=>False,λd=>match d with | [.l 9 e,.i g]=>λ_=>ql5 c b f (e ()) (g ()) | _=>λ_=>False]) (λ(c,b,f,_)=>zu [λd=>match d with | [.i e]=>λ_=>qqa c b f (e ()) | _=>λ_=>0,λd=>match d with | [.l 9 e,.i g]=>λ_=>qqb c b f (e ()) (g ()) | _=>λ_=>0]) rfl λ((c:ZB),(b:List Sign),(f:List Time),_) m=>by
  dsimp only [c8,thY,List.cons_append,List.nil_append,kt0,kt1,kt4,kt9,qbh,qbi,qbj,qbk,qbl] at m;refine goA ?_
  with_reducible unhygienic repeat' first | exact trivial | apply And.intro | (intro;intros)
  all_goals try (rename ql4 ..=>hi;obtain ⟨n,w,h⟩:=hi)
  all_goals try (rename ql5 ..=>hi;obtain ⟨j,y,k,z⟩:=hi)
  all_goals try simp only [ql4,qqa,ql5,qqb]
  all_goals try (rename (qjm c b).1=0=>hx;obtain ⟨o,p,r⟩:=qha hx;have s:=qoh b)
  all_goals try (rename (quk c b).2=0=>hx;obtain ⟨t,u⟩:=zff hx;simp only [u] at *;obtain ⟨o,p,r⟩:=qha t;have s:=qoh b)
  all_goals try (rename (qk5 c b).2=0=>hx;have fl:=zea hx)
  all_goals try (rw [zfa j (by omega) (by omega)] at k;have nx:=q3k (l:=b) j (by omega))
  all_goals try rw [zan (by omega)] at k
  all_goals try (first | rw [q5l n (by omega)] at h | rw [q0l (by omega)] at h)
  all_goals first
   | with_reducible rfl
   | omega
   | exact ⟨zK _,zc _,rfl⟩
   | exact ⟨zK _,zc _,rfl,by simp [ln]⟩
   | exact j9 (by omega)
   | grind [qmj,quk,qdu]
theorem zkn (q:qt (cfg sp)):kz XK szK (cfg sp) 9 c9.v:=
 qk2 zi ze q (l:=[(27,c27),(28,c28),(29,c29),(30,c30)]) ⟨zdt q,q2g q,zmu q,zdu q,trivial⟩ false XT jw [(9,250,.inv 0 [.one 8 (.int .i64)] []),(9,4090,.inv 1 [.one 10 (.list 9 true false),.one 11 (.int .i64)] [])] 3 (λ(c,b,f,_)=>j7 [λd=>match d with | [.i e]=>λ_=>ql2 c b f (e ()) | _=>λ_=>False,λd=>match d with | [.l 9 e,.i g]=>λ_=>ql3 c b f (e ()) (g ()) | _=>λ_=>False]) (λ(c,b,f,_)=>zu [λd=>match d with | [.i e]=>λ_=>qp8 c b f (e ()) | _=>λ_=>0,λd=>match d with | [.l 9 e,.i g]=>λ_=>qp9 c b f (e ()) (g ()) | _=>λ_=>0]) rfl λ((c:ZB),(b:List Sign),(f:List Time),_) m=>by
  dsimp only [c9,thY,List.cons_append,List.nil_append,kt0,kt1,kt4,kt9,qbh,qbi,qbj,qbk,qbl] at m;refine goA ?_
  with_reducible unhygienic repeat' first | exact trivial | apply And.intro | (intro;intros)
  all_goals try (rename ql2 ..=>hi;obtain ⟨n,w,h⟩:=hi)
  all_goals try (rename ql3 ..=>hi;obtain ⟨j,y,k,z⟩:=hi)
  all_goals try simp only [ql2,qp8,ql3,qp9]
  all_goals try (rename (qjm c b).1=0=>hx;obtain ⟨o,p,r⟩:=qha hx;have s:=qoh b)
  all_goals try (rename (quk c b).2=0=>hx;obtain ⟨t,u⟩:=zff hx;simp only [u] at *;obtain ⟨o,p,r⟩:=qha t;have s:=qoh b)
  all_goals try (rename (qk5 c b).2=0=>hx;have fl:=zea hx)
  all_goals try (rw [zfa j (by omega) (by omega)] at k;have nx:=q3k (l:=b) j (by omega))
  all_goals try rw [zan (by omega)] at k
  all_goals try (first | rw [q5l n (by omega)] at h | rw [q0l (by omega)] at h)
  all_goals first
   | with_reducible rfl
   | omega
   | exact ⟨zK _,zc _,rfl⟩
   | exact ⟨zK _,zc _,rfl,by simp [ln]⟩
   | exact j9 (by omega)
   | grind [qmj,quk,qdu]
theorem zmi (q:qt (cfg sp)):kz XK szK (cfg sp) 11 c11.v:=
 qa6 zi ze q (l:=[(8,c8),(23,c23),(54,c54),(55,c55)]) ⟨zkm q,zdq q,zm2 q,zm3 q,trivial⟩ false XT jw [(53,26,.inv 0 [.one 16 (.int .i64),.iter 5] []),(53,62,.inv 1 [.one 32 (.int .i64),.via 8 [.int .i64,.int .i64],.top 9 [.list 9 true true],.top 10 [.int .i64,.int .i64],.top 8 [.int .i64]] [])] 8 (λ(c,b,d,_)=>j7 [λf=>match f with | [.i g,.l 27 h]=>λ_=>qke c b d (g ()) (h ()) | _=>λ_=>False,λf=>match f with | [.i g,.i h,.i m,.l 9 n,.i o,.i p,.i r]=>λ_=>qkf c b d (g ()) (h ()) (m ()) (n ()) (o ()) (p ()) (r ()) | _=>λ_=>False]) (λ(c,b,d,_)=>zu [λf=>match f with | [.i g,.l 27 h]=>λ_=>qn6 c b d (g ()) (h ()) | _=>λ_=>0,λf=>match f with | [.i g,.i h,.i m,.l 9 n,.i o,.i p,.i r]=>λ_=>qn7 c b d (g ()) (h ()) (m ()) (n ()) (o ()) (p ()) (r ()) | _=>λ_=>0]) rfl λ((c:ZB),(b:List Sign),(d:List Time),_) A=>by
  dsimp only [c11,thY,List.cons_append,List.nil_append,kt0,kt1,kt4,kt9,qbh,qbi,qbj,qbk,qbl] at A;refine goA ?_
  with_reducible unhygienic repeat' first | exact trivial | apply And.intro | (intro;intros)
  all_goals try (rename qke ..=>hi;obtain ⟨H,I,u⟩:=hi)
  all_goals try (rename qkf ..=>hi;obtain ⟨s,B,J,K,L,w,M⟩:=hi)
  all_goals try simp only [qke,qn6,qkf,qn7]
  all_goals try (rename (qmj c b d).2=0=>hx;obtain ⟨t,t2,t3,C⟩:=q9b hx;(try simp only [t3,C] at *);have N:=q4c t;have t6:=qoh b;obtain ⟨_,_,D⟩:=qha t;obtain ⟨O,_⟩:=qea D)
  all_goals try (rename _<ln (qgk b)=>k;obtain ⟨P,Q,E,R,F⟩:=zgm t s k;have G:=u _ E (by omega) ⟨(ix (qgk b) _).Sign,0,0⟩ F.symm;simp only [G] at *;rw [zfk s k] at w)
  all_goals try rw [zav ‹_›] at w
  all_goals first
   | with_reducible rfl
   | omega
   | exact ⟨zK _,zc _,λj s B=>by omega⟩
   | exact ⟨by omega,by omega,λj z S y k=>by
     by_cases e:j=x_1
     .subst e;exact zp0 k
     .have:=zfh (l:=b) z (show j<x_1 by omega) (by omega);exact (zp1 (show y.key≠ix (qcp b) x_1 by rw [k];omega)).trans (u j z (by omega) y k)⟩
   | exact ⟨zK _,zc _,by omega,by trivial,by trivial,rfl,by simp [ln]⟩
   | exact j9 (by omega)
   | grind [qv8,ofN,qdu]
theorem zmk (q:qt (cfg sp)):kz XK szK (cfg sp) 12 c12.v:=
 qa6 zi ze q (l:=[(9,c9),(27,c27),(32,c32),(33,c33)]) ⟨zkn q,zdt q,zmv q,zmw q,trivial⟩ false XT jw [(12,1018,.inv 0 [.one 14 (.int .i64),.elems 43 1] []),(12,8186,.inv 1 [.one 15 (.list 9 true false),.one 17 (.int .i64),.via 16 [.int .i64,.int .i64]] [])] 3 (λ(c,b,d,_)=>j7 [λf=>match f with | [.i g,.l 1 h]=>λ_=>qkc c b d (g ()) (h ()) | _=>λ_=>False,λf=>match f with | [.l 9 g,.i h,.i k,.i m]=>λ_=>qkd c b d (g ()) (h ()) (k ()) (m ()) | _=>λ_=>False]) (λ(c,b,d,_)=>zu [λf=>match f with | [.i g,.l 1 h]=>λ_=>qn4 c b d (g ()) (h ()) | _=>λ_=>0,λf=>match f with | [.l 9 g,.i h,.i k,.i m]=>λ_=>qn5 c b d (g ()) (h ()) (k ()) (m ()) | _=>λ_=>0]) rfl λ((c:ZB),(b:List Sign),(d:List Time),_) u=>by
  dsimp only [c12,thY,List.cons_append,List.nil_append,kt0,kt1,kt4,kt9,qbh,qbi,qbj,qbk,qbl] at u;refine goA ?_
  with_reducible unhygienic repeat' first | exact trivial | apply And.intro | (intro;intros)
  all_goals try (rename qkc ..=>hi;obtain ⟨w,G,y,r⟩:=hi)
  all_goals try (rename qkd ..=>hi;obtain ⟨n,z,s,H⟩:=hi)
  all_goals try simp only [qkc,qn4,qkd,qn5]
  all_goals try (rename (qmj c b d).2=0=>hx;obtain ⟨o,t2,t3,A⟩:=q9b hx;(try simp only [t3,A] at *);have I:=q4c o;have t6:=qoh b;obtain ⟨_,_,B⟩:=qha o;obtain ⟨J,_⟩:=qea B)
  all_goals try (rename _<ln (qcp b)=>hy;obtain ⟨C,K,L⟩:=q3k w hy)
  all_goals try (rename _<ln (qgk b)=>hy;obtain ⟨M,N,D,O,E⟩:=zgm o n hy;have t:=r _ D (by omega);rw [E] at t;simp only [t] at *;rw [zfk n hy] at s)
  all_goals try rw [zav ‹_›] at s
  all_goals first
   | with_reducible rfl
   | omega
   | exact ⟨zK _,zc _,qsh (zc _),λj n z=>by omega⟩
   | exact ⟨by omega,by omega,by rw [q3b];exact y,λj p P=>by
     have F:=q3k (l:=b) p (by omega);rw [zer C (by omega) F.1];by_cases e:j=x_1
     .rw [zT (by rw [e]),e]
     .have:=zfh (l:=b) p (show j<x_1 by omega) hy;rw [zF (by omega)];exact r j p (by omega)⟩
   | exact ⟨zK _,zc _,rfl,by simp [ln]⟩
   | exact j9 (by omega)
   | grind [qv8,ofN,qdu]
end Go.Proofs.YtpofmogdhigakaaGreatDoor
