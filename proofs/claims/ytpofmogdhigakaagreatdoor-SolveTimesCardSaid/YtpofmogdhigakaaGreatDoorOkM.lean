import Derived.Test.YtpofmogdhigakaaGreatDoorOkB
namespace Go.Proofs.YtpofmogdhigakaaGreatDoor
open Go Go.E2 Go.E3
set_option maxRecDepth 1000000
set_option maxHeartbeats 4000000
variable {sp:Nat->Option (List V->Heap->Option (CR×Heap))}
theorem zhr (q:qt (cfg sp)):kz XK szK (cfg sp) 152 zrs.v:=
 qa6 zi ze q (l:=[]) trivial false XT jw [] 6 (λ(j,k,m,n,o,p,r,s,t,u,b,c,d,e,f,g,h,i,_)=>j7 []) (λ(j,k,m,n,o,p,r,s,t,u,b,c,d,e,f,g,h,i,_)=>zu []) rfl λ((j:Int),(k:Int),(m:Int),(n:Int),(o:Bool),(p:Int),(r:Bool),(s:Bool),(t:Int),(u:Int),(b:Int),(c:Int),(d:Bool),(e:Int),(f:Int),(g:Int),(h:Int),(i:Bool),_) w=>by
  clear w;refine goA ?_
  with_reducible unhygienic repeat' first | exact trivial | apply And.intro | (intro;intros)
  all_goals (simp only [zez,ne_eq,zbf];grind)
theorem zhs (q:qt (cfg sp)):kz XK szK (cfg sp) 153 zmp.v:=
 qa6 zi ze q (l:=[]) trivial false XT jw [] 3 (λ(b,c,_)=>j7 []) (λ(b,c,_)=>zu []) rfl λ((b:List Sign),(c:Int),_) d=>by
  dsimp only [zmp,thY,List.cons_append,List.nil_append,kt0,kt1,kt4,kt9,qbh,qbi,qbj,qbk,qbl] at d;refine goA ?_
  with_reducible unhygienic repeat' first | exact trivial | apply And.intro | (intro;intros)
  all_goals first | omega | grind [zjo]
theorem zhn (q:qt (cfg sp)):kz XK szK (cfg sp) 129 zmj.v:=
 qa6 zi ze q (l:=[(152,zrs),(153,zmp)]) ⟨zhr q,zhs q,trivial⟩ false XT jw [(129,58,.inv 0 [.one 17 (.int .i64)] [])] 3 (λ(b,_)=>j7 [λc=>match c with | [.i d]=>λ_=>qlz b (d ()) | _=>λ_=>False]) (λ(b,_)=>zu [λc=>match c with | [.i d]=>λ_=>qp5 b (d ()) | _=>λ_=>0]) rfl λ((b:List Sign),_) e=>by
  dsimp only [zmj,thY,List.cons_append,List.nil_append,kt0,kt1,kt4,kt9,qbh,qbi,qbj,qbk,qbl] at e;refine goA ?_
  with_reducible unhygienic repeat' first | exact trivial | apply And.intro | (intro;intros)
  all_goals try (rename qlz ..=>hi;obtain ⟨f,g,h⟩:=hi)
  all_goals try simp only [qlz,qp5]
  all_goals first | omega | grind [qyb,q28,q5z,zah,zag]
theorem zho (q:qt (cfg sp)):kz XK szK (cfg sp) 130 zml.v:=
 qa6 zi ze q (l:=[]) trivial false XT jw [(130,26,.unroll 6)] 6 (λ(b,c,_)=>j7 []) (λ(b,c,_)=>zu []) rfl λ((b:List Sign),(c:Int),_) d=>by
  dsimp only [zml,thY,List.cons_append,List.nil_append,kt0,kt1,kt4,kt9,qbh,qbi,qbj,qbk,qbl] at d;refine goA ?_
  with_reducible unhygienic repeat' first | exact trivial | apply And.intro | (intro;intros)
  all_goals first | omega | grind [q4d]
theorem zhj (q:qt (cfg sp)):kz XK szK (cfg sp) 107 zmc.v:=
 qa6 zi ze q (l:=[(129,zmj),(130,zml)]) ⟨zhn q,zho q,trivial⟩ false XT jw [(107,122,.inv 0 [.one 21 (.int .i64),.elems 18 1] [])] 3 (λ(c,_)=>j7 [λd=>match d with | [.i f,.l 1 g]=>λ_=>qkl c (f ()) (g ()) | _=>λ_=>False]) (λ(c,_)=>zu [λd=>match d with | [.i f,.l 1 g]=>λ_=>qod c (f ()) (g ()) | _=>λ_=>0]) rfl λ((c:List Sign),_) n=>by
  dsimp only [zmc,thY,List.cons_append,List.nil_append,kt0,kt1,kt4,kt9,qbh,qbi,qbj,qbk,qbl] at n;refine goA ?_
  with_reducible unhygienic repeat' first | exact trivial | apply And.intro | (intro;intros)
  all_goals try (rename qkl ..=>hi;obtain ⟨o,r,k,m⟩:=hi)
  all_goals try simp only [qkl,qod]
  all_goals try have s:=zai ‹_›
  all_goals first
   | omega
   | exact ⟨by omega,by omega,by rw [qsh (zc _)],λj t h=>absurd h (by omega)⟩
   | exact ⟨by omega,by omega,by rw [q3b];exact k,λj b p=>by rw [zer o (by omega) b];split;(rename j=_=>e;rw [e]);exact m j b (by omega)⟩
   | simp_all [qgr];done
   | (rw [zbj ‹_›];exact qnr (by rw [k,zq9]) λj b p=>by rw [m j b (by omega),zq8 b (by omega)])
theorem zht (q:qt (cfg sp)):kz XK szK (cfg sp) 155 zmq.v:=
 qa6 zi ze q (l:=[]) trivial true XT jw [] 6 (λ(b,c,_)=>j7 []) (λ(b,c,_)=>zu []) rfl λ((b:List Sign),(c:Int),_) d=>by
  dsimp only [zmq,thY,List.cons_append,List.nil_append,kt0,kt1,kt4,kt9,qbh,qbi,qbj,qbk,qbl] at d;refine goA ?_
  with_reducible unhygienic repeat' first | exact trivial | apply And.intro | (intro;intros)
  all_goals first | omega | (simp only [q28,zez,ne_eq,zbf];grind [zjo])
theorem zhp (q:qt (cfg sp)):kz XK szK (cfg sp) 131 zmm.v:=
 qa6 zi ze q (l:=[(155,zmq)]) ⟨zht q,trivial⟩ false XT jw [(131,58,.inv 0 [.one 4 (.int .i64)] [])] 3 (λ(b,_)=>j7 [λc=>match c with | [.i d]=>λ_=>qj4 b (d ()) | _=>λ_=>False]) (λ(b,_)=>zu [λc=>match c with | [.i d]=>λ_=>qnu b (d ()) | _=>λ_=>0]) rfl λ((b:List Sign),_) e=>by
  dsimp only [zmm,thY,List.cons_append,List.nil_append,kt0,kt1,kt4,kt9,qbh,qbi,qbj,qbk,qbl] at e;refine goA ?_
  with_reducible unhygienic repeat' first | exact trivial | apply And.intro | (intro;intros)
  all_goals try (rename qj4 ..=>hi;obtain ⟨f,g,h⟩:=hi)
  all_goals try simp only [qj4,qnu]
  all_goals first | omega | grind [qyb,q28,q5z,zah,zag]
theorem zhq (q:qt (cfg sp)):kz XK szK (cfg sp) 132 zmn.v:=
 qa6 zi ze q (l:=[]) trivial false XT jw [] 3 (λ(b,c,_)=>j7 []) (λ(b,c,_)=>zu []) rfl λ((b:List Sign),(c:Int),_) d=>by
  dsimp only [zmn,thY,List.cons_append,List.nil_append,kt0,kt1,kt4,kt9,qbh,qbi,qbj,qbk,qbl] at d;refine goA ?_
  with_reducible unhygienic repeat' first | exact trivial | apply And.intro | (intro;intros)
  all_goals first | omega | grind [q4d]
theorem zhl (q:qt (cfg sp)):kz XK szK (cfg sp) 112 zmf.v:=
 qk2 zi ze q (l:=[(131,zmm),(132,zmn)]) ⟨zhp q,zhq q,trivial⟩ false XT jw [(112,250,.inv 0 [.one 6 (.list 1 true false),.one 7 (.int .i64)] [])] 3 (λ(b,_)=>j7 [λc=>match c with | [.l 1 d,.i e]=>λ_=>qi9 b (d ()) (e ()) | _=>λ_=>False]) (λ(b,_)=>zu [λc=>match c with | [.l 1 d,.i e]=>λ_=>qmt b (d ()) (e ()) | _=>λ_=>0]) rfl λ((b:List Sign),_) f=>by
  dsimp only [zmf,thY,List.cons_append,List.nil_append,kt0,kt1,kt4,kt9,qbh,qbi,qbj,qbk,qbl] at f;refine goA ?_
  with_reducible unhygienic repeat' first | exact trivial | apply And.intro | (intro;intros)
  all_goals try (rename qi9 ..=>hi;obtain ⟨g,j,h⟩:=hi)
  all_goals try simp only [qi9,qmt]
  all_goals try have k:=zai ‹_›
  all_goals try subst h
  all_goals first
   | omega
   | exact ⟨by omega,by omega,rfl⟩
   | exact ⟨by omega,by omega,(zgy g).symm⟩
   | (rw [zbj ‹_›];congr 1;omega)
   | (simp only [List.length_append,List.length_cons,List.length_nil,qjl];omega)
   | simp_all [qgr];done
set_option maxRecDepth 1000000
set_option maxHeartbeats 4000000
variable {sp:Nat->Option (List V->Heap->Option (CR×Heap))}
theorem zhi (q:qt (cfg sp)):kz XK szK (cfg sp) 105 zrr.v:=
 qa6 zi ze q (l:=[]) trivial false XT jw [] 3 (λ(i,j,k,m,n,o,p,r,s,t,b,c,d,e,f,g,h,_)=>j7 []) (λ(i,j,k,m,n,o,p,r,s,t,b,c,d,e,f,g,h,_)=>zu []) rfl λ((i:Int),(j:Int),(k:Int),(m:Int),(n:Bool),(o:Int),(p:Bool),(r:Bool),(s:Int),(t:Int),(b:Int),(c:Int),(d:Bool),(e:Int),(f:Int),(g:Int),(h:Int),_) u=>by
  clear u;refine goA ?_
  with_reducible unhygienic repeat' first | exact trivial | apply And.intro | (intro;intros)
  all_goals try simp only [Int.ofNat_eq_natCast] at *
  all_goals first | with_reducible rfl | omega | grind [qiw]
theorem znd (q:qt (cfg sp)):kz XK szK (cfg sp) 86 c86.v:=
 qa6 zi ze q (l:=[(42,c42),(107,zmc)]) ⟨q7t q,zhj q,trivial⟩ true XT jw [(86,892,.inv 0 [.one 7 (.int .i64),.one 8 (.int .i64),.elems 27 4] []),(86,114220,.inv 1 [.one 9 (.int .i64)] [.one 8 (.int .i64)]),(86,3655162,.inv 2 [.one 68 (.int .i64),.elems 27 4] [.one 8 (.int .i64),.one 9 (.int .i64)])] 6 (λ(g,c,_)=>j7 [λe=>match e with | [.i f,.i d,.l 4 h]=>λ_=>qj9 g c (f ()) (d ()) (h ()) | _=>λ_=>False,λe=>match e with | [.i f,.i d]=>λ_=>qka g c (f ()) (d ()) | _=>λ_=>False,λe=>match e with | [.i f,.l 4 d,.i h,.i o]=>λ_=>qkb g c (f ()) (d ()) (h ()) (o ()) | _=>λ_=>False]) (λ(g,c,_)=>zu [λe=>match e with | [.i f,.i d,.l 4 h]=>λ_=>qn1 g c (f ()) (d ()) (h ()) | _=>λ_=>0,λe=>match e with | [.i f,.i d]=>λ_=>qn2 g c (f ()) (d ()) | _=>λ_=>0,λe=>match e with | [.i f,.l 4 d,.i h,.i o]=>λ_=>qn3 g c (f ()) (d ()) (h ()) (o ()) | _=>λ_=>0]) rfl λ((g:ZB),(c:List Sign),_) u=>by
  dsimp only [c86,thY,List.cons_append,List.nil_append,kt0,kt1,kt4,kt9,qbh,qbi,qbj,qbk,qbl] at u;refine goA ?_
  with_reducible unhygienic repeat' first | exact trivial | apply And.intro | (intro;intros)
  all_goals try (rename qj9 ..=>hi;obtain ⟨w,j,G,r,m,p⟩:=hi)
  all_goals try (rename qka ..=>hi;obtain ⟨H,y,I,z⟩:=hi)
  all_goals try (rename qkb ..=>hi;obtain ⟨A,J,s,t,n⟩:=hi)
  all_goals try simp only [qj9,qn1,qka,qn2,qkb,qn3]
  all_goals try (rename (qa9 g c).1=0=>hx;obtain ⟨g1,g2⟩:=qea hx)
  all_goals try (rename ln c<=0=>hy;obtain rfl:=zaj hy)
  all_goals try (rename Bool=>b;rename b=true->c=[]=>hy;first | (rename b=true=>k;obtain rfl:=hy k) | skip)
  all_goals try simp only [qja] at *
  all_goals try omega
  all_goals try (rename _<ln c=>hy;have B:=q5u m j (zK _);simp only [B] at *)
  all_goals try (rename (ix c _).Kind=4=>hk;obtain ⟨C,K,L,M,D⟩:=zuu g2 j hy hk p)
  all_goals try (have E:=q5u m j y;simp only [E] at *)
  all_goals try (rename (ix c _).Last=false=>k;obtain ⟨N,O⟩:=ztn (by omega) k)
  all_goals try (rename (ix c _).Last=true=>k;have F:=(ziu (by omega) k).symm.trans z;subst F;simp only [zj4,zpj] at *)
  all_goals try (rename (qgr (qsf c _)).2=0=>hv;obtain ⟨d,h⟩:=D hv)
  all_goals first
   | with_reducible rfl
   | omega
   | exact ⟨by trivial,zK _,zc _,by trivial,by trivial,by trivial⟩
   | exact ⟨w,by omega,by omega,r,q2x j m,by rw [<-p,q9g hy ‹_›]⟩
   | exact ⟨j,by omega,C,by trivial⟩
   | exact ⟨j,by omega,by omega,by omega⟩
   | exact ⟨by trivial,zK _,zK _,by trivial,by trivial,by trivial⟩
   | exact q1q (l:=[]) (by rw [qja];omega)
   | exact ⟨by omega,zc _,r,by rw [Int.add_zero];exact m,by rw [Int.add_zero,q99];exact h⟩
   | exact ⟨by omega,by omega,by rw [q3b];exact s,by rw [<-Int.add_assoc,zei (by omega)];exact q2x (by omega) t,by rw [<-Int.add_assoc];rw [zf8 A (by omega)] at n;exact n⟩
   | (rw [za2 (by omega)] at n;exact ⟨hv,by omega,by omega,s,q2w t (by omega) (by omega),n⟩)
   | (rw [zbs (by omega)] at p;grind [qcl])
   | (have k:qct [] 0 []=([],0):=zbs (zK 0);grind [qcl])
   | grind [qcl]
   | (exfalso;grind)
theorem q9m (q:qt (cfg sp)):kz XK szK (cfg sp) 113 zmg.v:=
 qa6 zi ze q (l:=[]) trivial false XT jw [] 3 (λ(i,j,k,m,n,o,p,r,s,t,b,c,d,e,f,g,h,_)=>j7 []) (λ(i,j,k,m,n,o,p,r,s,t,b,c,d,e,f,g,h,_)=>zu []) rfl λ((i:Int),(j:Int),(k:Int),(m:Int),(n:Bool),(o:Int),(p:Bool),(r:Bool),(s:Int),(t:Int),(b:Int),(c:Int),(d:Bool),(e:Int),(f:Int),(g:Int),(h:Int),_) u=>by
  clear u;refine goA ?_
  with_reducible unhygienic repeat' first | exact trivial | apply And.intro | (intro;intros)
  all_goals try simp only [Int.ofNat_eq_natCast] at *
  all_goals first | with_reducible rfl | omega | grind [qiw]
theorem zhk (q:qt (cfg sp)):kz XK szK (cfg sp) 111 zme.v:=
 qa6 zi ze q (l:=[(49,c49)]) ⟨q7v q,trivial⟩ false XT jw [(111,122,.inv 0 [.one 7 (.list 1 true false),.one 8 (.list 1 true false),.one 9 (.int .i64)] [])] 3 (λ(c,b,_)=>j7 [λd=>match d with | [.l 1 e,.l 1 f,.i g]=>λ_=>qgz c b (e ()) (f ()) (g ()) | _=>λ_=>False]) (λ(c,b,_)=>zu [λd=>match d with | [.l 1 e,.l 1 f,.i g]=>λ_=>qjx c b (e ()) (f ()) (g ()) | _=>λ_=>0]) rfl λ((c:ZB),(b:List Sign),_) k=>by
  dsimp only [zme,thY,List.cons_append,List.nil_append,kt0,kt1,kt4,kt9,qbh,qbi,qbj,qbk,qbl] at k;refine goA ?_
  with_reducible unhygienic repeat' first | exact trivial | apply And.intro | (intro;intros)
  all_goals try (rename qgz ..=>hi;obtain ⟨o,p,h,j⟩:=hi)
  all_goals try simp only [qgz,qjx]
  all_goals try (rename (qa9 c b).1=0=>hx;obtain ⟨g1,g2⟩:=qea hx;obtain ⟨r,s⟩:=q2z (zc b))
  all_goals try (have m:=congrArg ln h;have n:=congrArg ln j;rw [qdg] at m n;have t:=zc (qbz b _);have u:=zc (qcb b _))
  all_goals try (first | rw [qt7 ‹_›] at h | rw [qr6 ‹_›] at h)
  all_goals try (first | rw [qyg ‹_›] at j | rw [zal ‹_›] at j)
  all_goals first
   | with_reducible rfl
   | omega
   | exact ⟨zK _,zc _,rfl,rfl⟩
   | (refine j9 ?_;grind)
   | grind [qzr,ins]
theorem znf (q:qt (cfg sp)):kz XK szK (cfg sp) 92 c92.v:=
 qa6 zi ze q (l:=[(111,zme),(112,zmf)]) ⟨zhk q,zhl q,trivial⟩ true XT jw [(92,250,.inv 0 [.one 8 (.int .i64),.elems 28 4] []),(92,64078,.inv 1 [.one 11 (.int .i64),.elems 28 4] [.one 8 (.int .i64),.one 9 (.list 1 false false)])] 6 (λ(d,b,_)=>j7 [λe=>match e with | [.i f,.l 4 c]=>λ_=>qj7 d b (f ()) (c ()) | _=>λ_=>False,λe=>match e with | [.i f,.l 4 c,.i g,.l 1 j]=>λ_=>qj8 d b (f ()) (c ()) (g ()) (j ()) | _=>λ_=>False]) (λ(d,b,_)=>zu [λe=>match e with | [.i f,.l 4 c]=>λ_=>qnz d b (f ()) (c ()) | _=>λ_=>0,λe=>match e with | [.i f,.l 4 c,.i g,.l 1 j]=>λ_=>qn0 d b (f ()) (c ()) (g ()) (j ()) | _=>λ_=>0]) rfl λ((d:ZB),(b:List Sign),_) w=>by
  dsimp only [c92,thY,List.cons_append,List.nil_append,kt0,kt1,kt4,kt9,qbh,qbi,qbj,qbk,qbl] at w;refine goA ?_
  with_reducible unhygienic repeat' first | exact trivial | apply And.intro | (intro;intros)
  all_goals try (rename qj7 ..=>hi;obtain ⟨z,M,p,m,n,o,A,r,B,C,s⟩:=hi)
  all_goals try (rename qj8 ..=>hi;obtain ⟨N,O,t,u,h⟩:=hi)
  all_goals try simp only [qj7,qnz,qj8,qn0]
  all_goals try (rename (qzr d b).2.2=0=>hx;obtain ⟨D,E,F⟩:=zpi hx;obtain ⟨g1,g2⟩:=qea D;obtain ⟨P,Q⟩:=q2z (zc b);simp only [E,F] at *)
  all_goals try (rename ln b<=0=>hy;obtain rfl:=zaj hy)
  all_goals try (have G:qbz ([]:List Sign) 0=[]:=qr6 (zK 0);simp only [G,qja] at *)
  all_goals try omega
  all_goals try (rename _<ln (qbz b 0)=>hy;obtain ⟨R,S,T,U,H,I,J,K,V,k,L⟩:=zvf g2 z hy m n o A r C s)
  all_goals try (rename (qgr (sub b _ _)).2=0=>hv;obtain ⟨c,g⟩:=k hv)
  all_goals first
   | with_reducible rfl
   | omega
   | exact ⟨zK _,zc _,0,zK _,zc _,rfl,rfl,rfl,by trivial,by trivial,rfl⟩
   | exact q1q (l:=[]) (by rw [qja];omega)
   | exact ⟨zK _,by omega,B,K,by rw [Int.sub_self,q99];exact g⟩
   | exact ⟨by omega,by omega,by rw [q3b];exact t,by rw [zei (by omega)];exact q2x (by omega) u,by rw [zf8 (by omega) (by omega)] at h;rw [show ∀ x y:Int,x+1-y=x-y+1 from λx y=>by omega];exact h⟩
   | (rw [za2 (by omega)] at h;exact ⟨by omega,by omega,ix (qcb b 0) _+1,by omega,by omega,H,I,J,t,q2w u (by omega) (by omega),h⟩)
   | (rw [ztx g2 (by omega) m n o r] at s;grind [qcl])
   | exact ⟨zK _,zK _,0,zK _,zK _,(qr6 (l:=[]) (zK 0)).symm,rfl,rfl,by trivial,by trivial,rfl⟩
   | (have W:qct [] 0 []=([],0):=zbs (zK 0);grind [qcl])
   | grind [qcl,qzr]
set_option maxRecDepth 1000000
set_option maxHeartbeats 4000000
variable {sp:Nat->Option (List V->Heap->Option (CR×Heap))}
theorem zm6 (q:qt (cfg sp)):kz XK szK (cfg sp) 63 c63.v:=
 zrz zi ze q (l:=[(86,c86),(105,zrr)]) ⟨znd q,zhi q,trivial⟩ true XT jw [(108,122,.inv 0 [.one 12 (.int .i64),.via 3 [.int .i64,.int .i64,.int .i64,.int .i64],.one 4 (.bool),.via 5 [.int .i64,.int .i64,.int .i64,.int .i64,.int .i64,.int .i64,.int .i64,.int .i64],.top 3 [.list 13 true true]] [])] 6 (λ(h,j,_)=>j7 [λk=>match k with | [.i m,.i n,.i o,.i p,.i r,.b s,.i t,.i u,.i w,.i y,.i c,.i d,.i e,.i f,.l 13 g]=>λ_=>qnn h j (m ()) (n ()) (o ()) (p ()) (r ()) (s ()) (t ()) (u ()) (w ()) (y ()) (c ()) (d ()) (e ()) (f ()) (g ()) | _=>λ_=>False]) (λ(h,j,_)=>zu [λk=>match k with | [.i m,.i n,.i o,.i p,.i r,.b s,.i t,.i u,.i w,.i y,.i c,.i d,.i e,.i f,.l 13 g]=>λ_=>qso h j (m ()) (n ()) (o ()) (p ()) (r ()) (s ()) (t ()) (u ()) (w ()) (y ()) (c ()) (d ()) (e ()) (f ()) (g ()) | _=>λ_=>0]) rfl λ((h:ZB),(j:List Sign),_) A=>by
  dsimp only [c63,thY,List.cons_append,List.nil_append,kt0,kt1,kt4,kt9,qbh,qbi,qbj,qbk,qbl] at A;refine goA ?_
  with_reducible unhygienic repeat' first | exact trivial | apply And.intro | (intro;intros)
  all_goals try (rename qnn ..=>hi;obtain ⟨B,D,E,z,F⟩:=hi)
  all_goals try simp only [qnn,qso]
  all_goals try (rename (qcl h j).2=0=>hx;obtain ⟨C,G,H,I,J⟩:=zd7 hx;obtain ⟨g1,g2⟩:=qea C)
  all_goals try (first | rw [zqf B ‹_›] at z | rw [zjm ‹_›] at z)
  all_goals first
   | with_reducible rfl
   | omega
   | exact ⟨zK _,zc _,by omega,rfl,by simp [ln]⟩
   | exact j9 (by omega)
   | (rename ¬(qcl h j).2=0=>hx;have:=znq hx;grind [qpq])
   | grind [qpq,qg6,qsj,qdu]
theorem zmy (q:qt (cfg sp)):kz XK szK (cfg sp) 39 c39.v:=
 qa6 zi ze q (l:=[(63,c63)]) ⟨zm6 q,trivial⟩ false XT jw [] 3 (λ(b,c,_)=>j7 []) (λ(b,c,_)=>zu []) rfl λ((b:ZB),(c:List Sign),_) d=>by
  dsimp only [c39,thY,List.cons_append,List.nil_append,kt0,kt1,kt4,kt9,qbh,qbi,qbj,qbk,qbl] at d;refine goA ?_
  with_reducible unhygienic repeat' first | exact trivial | apply And.intro | (intro;intros)
  all_goals first | with_reducible rfl | omega | grind []
theorem zhm (q:qt (cfg sp)):kz XK szK (cfg sp) 114 zmh.v:=
 qa6 zi ze q (l:=[(113,zmg)]) ⟨q9m q,trivial⟩ false XT jw [(114,58,.inv 0 [.one 11 (.int .i64),.via 10 [.int .i64,.int .i64,.keep,.keep,.keep,.keep,.keep,.keep]] [])] 3 (λ(b,c,d,e,f,g,h,_)=>j7 [λj=>match j with | [.i k,.i m,.i n]=>λ_=>ql7 b c d e f g h (k ()) (m ()) (n ()) | _=>λ_=>False]) (λ(b,c,d,e,f,g,h,_)=>zu [λj=>match j with | [.i k,.i m,.i n]=>λ_=>qqe b c d e f g h (k ()) (m ()) (n ()) | _=>λ_=>0]) rfl λ((b:List Sign),(c:Int),(d:Int),(e:Int),(f:Int),(g:Int),(h:Int),_) p=>by
  dsimp only [zmh,thY,List.cons_append,List.nil_append,kt0,kt1,kt4,kt9,qbh,qbi,qbj,qbk,qbl] at p;refine goA ?_
  with_reducible unhygienic repeat' first | exact trivial | apply And.intro | (intro;intros)
  all_goals try (rename ql7 ..=>hi;obtain ⟨r,s,t,o⟩:=hi)
  all_goals try simp only [ql7,qqe]
  all_goals try rw [qdc,dif_pos (by omega)] at o
  all_goals try rw [qpl (by omega)] at o
  all_goals first
   | omega
   | exact ⟨zK _,by omega,by omega,rfl⟩
   | grind [qtk,qg6]
theorem zng (q:qt (cfg sp)):kz XK szK (cfg sp) 93 c93.v:=
 qk2 zi ze q (l:=[(113,zmg),(114,zmh)]) ⟨q9m q,zhm q,trivial⟩ false XT jw [(93,250,.inv 0 [.one 4 (.list 13 true false),.one 6 (.int .i64),.one 7 (.int .i64),.via 5 [.int .i64,.int .i64,.int .i64,.int .i64]] [])] 3 (λ(c,b,_)=>j7 [λd=>match d with | [.l 13 e,.i f,.i g,.i h,.i j,.i k,.i m]=>λ_=>qnj c b (e ()) (f ()) (g ()) (h ()) (j ()) (k ()) (m ()) | _=>λ_=>False]) (λ(c,b,_)=>zu [λd=>match d with | [.l 13 e,.i f,.i g,.i h,.i j,.i k,.i m]=>λ_=>qsk c b (e ()) (f ()) (g ()) (h ()) (j ()) (k ()) (m ()) | _=>λ_=>0]) rfl λ((c:ZB),(b:List Sign),_) o=>by
  dsimp only [c93,thY,List.cons_append,List.nil_append,kt0,kt1,kt4,kt9,qbh,qbi,qbj,qbk,qbl] at o;refine goA ?_
  with_reducible unhygienic repeat' first | exact trivial | apply And.intro | (intro;intros)
  all_goals try (rename qnj ..=>hi;obtain ⟨p,r,s,t,n,u⟩:=hi)
  all_goals try simp only [qnj,qsk]
  all_goals try (first | rw [q3f,dif_pos (by omega)] at n | rw [q3f,dif_neg (by omega)] at n)
  all_goals try dsimp only at n
  all_goals first
   | omega
   | exact ⟨zK _,zK _,by have:=zc b;omega,.inr trivial,rfl,by simp [ln]⟩
   | exact j9 (by omega)
   | (have w:=@zc8;grind [qdu,qsj])
theorem zm9 (q:qt (cfg sp)):kz XK szK (cfg sp) 69 c69.v:=
 qa6 zi ze q (l:=[(92,c92),(93,c93)]) ⟨znf q,zng q,trivial⟩ false XT jw [] 3 (λ(b,c,_)=>j7 []) (λ(b,c,_)=>zu []) rfl λ((b:ZB),(c:List Sign),_) d=>by
  dsimp only [c69,thY,List.cons_append,List.nil_append,kt0,kt1,kt4,kt9,qbh,qbi,qbj,qbk,qbl] at d;refine goA ?_
  with_reducible unhygienic repeat' first | exact trivial | apply And.intro | (intro;intros)
  all_goals try (rename (qcl b c).2=0=>hx;obtain ⟨e,f,g,h,i⟩:=zd7 hx;obtain ⟨j,k⟩:=zqe hx;simp only [f] at *;obtain ⟨g1,g2⟩:=qea e)
  all_goals first | with_reducible rfl | omega | grind [qpq]
end Go.Proofs.YtpofmogdhigakaaGreatDoor
