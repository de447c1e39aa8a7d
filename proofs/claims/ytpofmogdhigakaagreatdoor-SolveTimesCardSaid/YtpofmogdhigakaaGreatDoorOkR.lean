import Derived.Test.YtpofmogdhigakaaGreatDoorCty
import Derived.Test.YtpofmogdhigakaaGreatDoorFin
import Derived.Test.YtpofmogdhigakaaGreatDoorM7
import Derived.Test.YtpofmogdhigakaaGreatDoorOkB
import Derived.Test.YtpofmogdhigakaaGreatDoorDall
import Derived.Test.YtpofmogdhigakaaGreatDoorUnf
namespace Go.Proofs.YtpofmogdhigakaaGreatDoor
open Go Go.E2 Go.E3
set_option maxRecDepth 1000000
set_option maxHeartbeats 4000000
variable {sp:Nat->Option (List V->Heap->Option (CR×Heap))}
theorem zm5 (q:qt (cfg sp)):kz XK szK (cfg sp) 62 c62.v:=q2i rfl λ(l,_) a args e=>by
 cases (show some [.list 4 l none]=some args from e);exact q5k q l a
set_option maxRecDepth 1000000
set_option maxHeartbeats 4000000
variable {sp:Nat->Option (List V->Heap->Option (CR×Heap))}
theorem zd1 (q:qt (cfg sp)):kz XK szK (cfg sp) 68 c68.v:=
 qa6 zi ze q (l:=[(49,c49)]) ⟨q7v q,trivial⟩ false XT jw [(68,250,.inv 0 [.one 6 (.int .i64),.one 7 (.int .i64)] [])] 3 (λ(b,c,_)=>j7 [λd=>match d with | [.i e,.i f]=>λ_=>qj6 b c (e ()) (f ()) | _=>λ_=>False]) (λ(b,c,_)=>zu [λd=>match d with | [.i e,.i f]=>λ_=>qnw b c (e ()) (f ()) | _=>λ_=>0]) rfl λ((b:ZB),(c:List Sign),_) h=>by
  dsimp only [c68,thY,List.cons_append,List.nil_append,kt0,kt1,kt4,kt9,qbh,qbi,qbj,qbk,qbl] at h;refine goA ?_
  with_reducible unhygienic repeat' first | exact trivial | apply And.intro | (intro;intros)
  all_goals try (rename qj6 ..=>hi;obtain ⟨j,k,m,rs,g⟩:=hi)
  all_goals try simp only [qj6,qnw]
  all_goals try rw [za6 j ‹_›] at g
  all_goals try rw [q6y ‹_›] at g
  all_goals first
   | omega
   | exact ⟨zK 0,zc _,by omega,[],rfl⟩
   | grind [qdp]
theorem znc (q:qt (cfg sp)):kz XK szK (cfg sp) 77 c77.v:=
 qk2 zi ze q (l:=[(68,c68)]) ⟨zd1 q,trivial⟩ false XT jw [(77,506,.inv 0 [.one 6 (.list 17 true false),.one 7 (.int .i64),.one 8 (.int .i64)] [])] 3 (λ(b,c,_)=>j7 [λd=>match d with | [.l 17 e,.i f,.i g]=>λ_=>qi8 b c (e ()) (f ()) (g ()) | _=>λ_=>False]) (λ(b,c,_)=>zu [λd=>match d with | [.l 17 e,.i f,.i g]=>λ_=>qms b c (e ()) (f ()) (g ()) | _=>λ_=>0]) rfl λ((b:ZB),(c:List Sign),_) j=>by
  dsimp only [c77,thY,List.cons_append,List.nil_append,kt0,kt1,kt4,kt9,qbh,qbi,qbj,qbk,qbl] at j;refine goA ?_
  with_reducible unhygienic repeat' first | exact trivial | apply And.intro | (intro;intros)
  all_goals try (rename qi8 ..=>hi;obtain ⟨k,m,op,h,n,o⟩:=hi)
  all_goals try simp only [qi8,qms]
  all_goals try (rename (qdp b c).1=0=>hx;obtain ⟨p,r⟩:=qyt hx)
  all_goals try rw [za6 k ‹_›] at h
  all_goals try rw [q6y ‹_›] at h
  all_goals first
   | omega
   | exact ⟨zK 0,zc _,none,rfl,.inl rfl,by simp [ln]⟩
   | exact j9 (by omega)
   | grind [qyw,qdu]
theorem zdv (q:qt (cfg sp)):kz XK szK (cfg sp) 38 c38.v:=
 qa6 zi ze q (l:=[(42,c42),(62,c62)]) ⟨q7t q,zm5 q,trivial⟩ false XT jw [] 3 (λ(b,c,_)=>j7 []) (λ(b,c,_)=>zu []) rfl λ((b:ZB),(c:List Sign),_) d=>by
  dsimp only [c38,thY,List.cons_append,List.nil_append,kt0,kt1,kt4,kt9,qbh,qbi,qbj,qbk,qbl] at d;refine goA ?_
  with_reducible unhygienic repeat' first | exact trivial | apply And.intro | (intro;intros)
  all_goals first | with_reducible rfl | omega | grind [qdp]
theorem zm4 (q:qt (cfg sp)):kz XK szK (cfg sp) 56 c56.v:=
 qk2 zi ze q (l:=[(77,c77)]) ⟨znc q,trivial⟩ true XT jw [(56,506,.inv 0 [.one 6 (.list 18 true false),.one 7 (.int .i64),.one 8 (.int .i64)] []),(56,32400,.inv 1 [.one 6 (.list 18 true false),.one 7 (.int .i64)] [.one 8 (.int .i64),.one 6 (.list 18 false false)]),(56,129610,.inv 2 [.one 6 (.list 18 true false),.one 9 (.int .i64)] [.one 6 (.list 18 false false),.one 8 (.int .i64)]),(56,8295058,.inv 3 [.one 6 (.list 18 true false),.one 10 (.int .i64)] [.one 9 (.int .i64),.one 6 (.list 18 false false),.one 8 (.int .i64)]),(56,508,.inv 4 [.one 6 (.list 18 true false),.one 7 (.int .i64)] [.one 6 (.list 18 false false)])] 3 (λ(h,b,_)=>j7 [λc=>match c with | [.l 18 d,.i f,.i g]=>λ_=>qkg h b (d ()) (f ()) (g ()) | _=>λ_=>False,λc=>match c with | [.l 18 d,.i f,.i g,.l 18 j]=>λ_=>qkh h b (d ()) (f ()) (g ()) (j ()) | _=>λ_=>False,λc=>match c with | [.l 18 d,.i f,.l 18 g,.i j]=>λ_=>qki h b (d ()) (f ()) (g ()) (j ()) | _=>λ_=>False,λc=>match c with | [.l 18 d,.i f,.i g,.l 18 j,.i s]=>λ_=>qkj h b (d ()) (f ()) (g ()) (j ()) (s ()) | _=>λ_=>False,λc=>match c with | [.l 18 d,.i f,.l 18 g]=>λ_=>qkk h b (d ()) (f ()) (g ()) | _=>λ_=>False]) (λ(h,b,_)=>zu [λc=>match c with | [.l 18 d,.i f,.i g]=>λ_=>qn8 h b (d ()) (f ()) (g ()) | _=>λ_=>0,λc=>match c with | [.l 18 d,.i f,.i g,.l 18 j]=>λ_=>qn9 h b (d ()) (f ()) (g ()) (j ()) | _=>λ_=>0,λc=>match c with | [.l 18 d,.i f,.l 18 g,.i j]=>λ_=>qoa h b (d ()) (f ()) (g ()) (j ()) | _=>λ_=>0,λc=>match c with | [.l 18 d,.i f,.i g,.l 18 j,.i s]=>λ_=>qob h b (d ()) (f ()) (g ()) (j ()) (s ()) | _=>λ_=>0,λc=>match c with | [.l 18 d,.i f,.l 18 g]=>λ_=>qoc h b (d ()) (f ()) (g ()) | _=>λ_=>0]) rfl λ((h:ZB),(b:List Sign),_) I=>by
  dsimp only [c56,thY,List.cons_append,List.nil_append,kt0,kt1,kt4,kt9,qbh,qbi,qbj,qbk,qbl] at I;refine goA ?_
  with_reducible unhygienic repeat' first | exact trivial | apply And.intro | (intro;intros)
  all_goals try (rename qkg ..=>hi;obtain ⟨D,U,t,o,u⟩:=hi)
  all_goals try (rename qkh ..=>hi;obtain ⟨J,V,K,w⟩:=hi)
  all_goals try (rename qki ..=>hi;obtain ⟨W,X,p⟩:=hi)
  all_goals try (rename qkj ..=>hi;obtain ⟨Y,Z,r⟩:=hi)
  all_goals try (rename qkk ..=>hi;obtain ⟨u0,E,y⟩:=hi)
  all_goals try simp only [qkg,qn8,qkh,qn9,qki,qoa,qkj,qob,qkk,qoc]
  all_goals try (rename (qyw h b).2=0=>hx;obtain ⟨m,z⟩:=zqc hx;obtain ⟨F,hn,G⟩:=qph m;have hr:=q4s F;simp only [z] at *;obtain ⟨L,A⟩:=qyt m;obtain ⟨M,N⟩:=qea A)
  all_goals try (rename ¬(qyw h b).2=0=>hx;obtain ⟨O,P⟩:=zqb hx)
  all_goals try (rename _<ln (kf b).1=>hx;obtain ⟨Q,v2,v3,v4,v5,R,v7,S,T,n⟩:=zup G t D hx o;first | (have H:=(zup G J D hx K).2.2.2.2.2.2.1) | skip)
  all_goals try (rename ln (kf b).1<=_=>hx;rw [qf7 hx] at o u)
  all_goals first
   | with_reducible rfl
   | omega
   | exact ⟨zK _,zc _,zK _,F,rfl⟩
   | exact ⟨t,Q,o,u⟩
   | exact ⟨t,o,u⟩
   | (obtain ⟨B,C⟩:=H (by omega);exact ⟨by omega,by omega,B,by rw [List.append_assoc,<-w,C];rfl⟩)
   | (have e:=(show (ix (kf b).1 _).From=_ from by omega);exact ⟨by omega,by omega,by rw [<-S,<-w];congr 2;omega⟩)
   | (rw [T _ (by omega),List.append_assoc,<-List.append_assoc] at p;exact ⟨by omega,by omega,by simpa [List.append_assoc] using p⟩)
   | (have e:=n _ _ (by omega) (by omega);exact ⟨by omega,by omega,by rw [<-r,e];simp⟩)
   | (rw [qwq (by omega),List.nil_append] at r;exact ⟨by omega,by omega,r⟩)
   | (rw [zf4 (by omega),List.nil_append] at p;exact ⟨by omega,by omega,by omega,R,p⟩)
   | (obtain ⟨B,C⟩:=zly E (by omega);exact ⟨by omega,B,by rw [List.append_assoc,<-y,C];rfl⟩)
   | (have k:=congrArg ln w;rw [(H (by omega)).2,qdg,qgd] at k;have:=zc (qaz b (fr (kf b).1 _) _);exact j9 (by omega))
   | (have k:=congrArg ln r;rw [n _ _ (by omega) (by omega)] at k;simp only [qdg,qgd] at k;have n1:=@zc Played;refine j9 ?_;grind)
   | (have k:=congrArg ln y;rw [(zly E (by omega)).2,qdg,qgd] at k;have:=zc (qaz b [] _);exact j9 (by omega))
   | (rw [zq6 (by omega),zJ] at y;grind [qoz])
   | grind [qoz]
set_option maxRecDepth 1000000
set_option maxHeartbeats 4000000
variable {sp:Nat->Option (List V->Heap->Option (CR×Heap))}
theorem zmt (q:qt (cfg sp)):kz XK szK (cfg sp) 25 c25.v:=
 qk2 zi ze q (l:=[(42,c42),(67,c67),(26,c26)]) ⟨q7t q,q7w q,zds q,trivial⟩ false XT jw [(25,250,.inv 0 [.one 7 (.list 9 true false),.one 24 (.int .i64),.via 6 [.int .i64,.int .i64,.int .i64]] [])] 6 (λ(c,b,_)=>j7 [λd=>match d with | [.l 9 e,.i f,.i g,.i h,.i j]=>λ_=>qi6 c b (e ()) (f ()) (g ()) (h ()) (j ()) | _=>λ_=>False]) (λ(c,b,_)=>zu [λd=>match d with | [.l 9 e,.i f,.i g,.i h,.i j]=>λ_=>qmq c b (e ()) (f ()) (g ()) (h ()) (j ()) | _=>λ_=>0]) rfl λ((c:ZB),(b:List Sign),_) m=>by
  dsimp only [c25,thY,List.cons_append,List.nil_append,kt0,kt1,kt4,kt9,qbh,qbi,qbj,qbk,qbl] at m;refine goA ?_
  with_reducible unhygienic repeat' first | exact trivial | apply And.intro | (intro;intros)
  all_goals try (rename qi6 ..=>hi;obtain ⟨n,r,s,o,k,t⟩:=hi)
  all_goals try simp only [qi6,qmq]
  all_goals try (rename (qa9 c b).1=0=>hx;obtain ⟨g1,g2⟩:=qea hx)
  all_goals try (rename _<ln b=>hy;obtain ⟨u,w,y,p,z⟩:=zd9 n hy g2 o k;clear p)
  all_goals try rw [q9u ‹_›] at k
  all_goals first
   | with_reducible rfl
   | omega
   | exact ⟨zK _,zc _,by trivial,by decide,rfl,by simp [ln]⟩
   | exact j9 (by omega)
   | (simp_all [stF,qdu,qk5];done)
   | grind [qk5,stF,qdu]
theorem zm0 (q:qt (cfg sp)):kz XK szK (cfg sp) 50 c50.v:=
 qa6 zi ze q (l:=[(28,c28),(57,c57),(30,c30)]) ⟨q2g q,zd0 q,zdu q,trivial⟩ false XT jw [] 6 (λ(k,m,n,o,p,r,s,t,u,w,b,c,d,e,f,g,h,i,j,_)=>j7 []) (λ(k,m,n,o,p,r,s,t,u,w,b,c,d,e,f,g,h,i,j,_)=>zu []) rfl λ((k:Int),(m:Int),(n:Int),(o:Int),(p:Int),(r:Int),(s:Bool),(t:Int),(u:Bool),(w:Bool),(b:Int),(c:Int),(d:Int),(e:Int),(f:Bool),(g:Int),(h:Int),(i:Int),(j:Int),_) y=>by
  clear y;refine goA ?_
  with_reducible unhygienic repeat' first | exact trivial | apply And.intro | (intro;intros)
  all_goals try simp only [q7m,stF]
  all_goals first | with_reducible rfl | omega | grind []
theorem zmu (q:qt (cfg sp)):kz XK szK (cfg sp) 29 c29.v:=
 qk2 zi ze q (l:=[(49,c49),(50,c50)]) ⟨q7v q,zm0 q,trivial⟩ false XT jw [(29,506,.inv 0 [.one 6 (.list 9 true false),.one 8 (.int .i64),.via 7 [.int .i64,.int .i64]] [])] 3 (λ(c,b,_)=>j7 [λf=>match f with | [.l 9 g,.i d,.i e,.i h]=>λ_=>qi7 c b (g ()) (d ()) (e ()) (h ()) | _=>λ_=>False]) (λ(c,b,_)=>zu [λf=>match f with | [.l 9 g,.i d,.i e,.i h]=>λ_=>qmr c b (g ()) (d ()) (e ()) (h ()) | _=>λ_=>0]) rfl λ((c:ZB),(b:List Sign),_) k=>by
  dsimp only [c29,thY,List.cons_append,List.nil_append,kt0,kt1,kt4,kt9,qbh,qbi,qbj,qbk,qbl] at k;refine goA ?_
  with_reducible unhygienic repeat' first | exact trivial | apply And.intro | (intro;intros)
  all_goals try (rename qi7 ..=>hi;obtain ⟨m,r,n,j,s⟩:=hi)
  all_goals try simp only [qi7,qmr]
  all_goals try (rename (qa9 c b).1=0=>hx;obtain ⟨g1,g2⟩:=qea hx)
  all_goals try (rename _<ln b=>hy;obtain ⟨t,u,o,p,w⟩:=zd9 m hy g2 n j;simp only [p] at *)
  all_goals try rw [q9u ‹_›] at j
  all_goals first
   | with_reducible rfl
   | omega
   | exact ⟨zK _,zc _,by decide,rfl,by simp [ln]⟩
   | exact j9 (by omega)
   | (rename (stF _ _).2=0=>hz;obtain ⟨d,e⟩:=o hz;exact ⟨by omega,by omega,d,e,by rw [qdu];omega⟩)
   | grind [qk5,qdu]
set_option maxRecDepth 1000000
set_option maxHeartbeats 4000000
variable {sp:Nat->Option (List V->Heap->Option (CR×Heap))}
theorem zdw (q:qt (cfg sp)):kz XK szK (cfg sp) 40 c40.v:=
 qa6 zi ze q (l:=[]) trivial false XT jw [] 3 (λ(i,j,k,m,n,o,p,r,s,t,b,c,d,e,f,g,h,_)=>j7 []) (λ(i,j,k,m,n,o,p,r,s,t,b,c,d,e,f,g,h,_)=>zu []) rfl λ((i:Int),(j:Int),(k:Int),(m:Int),(n:Bool),(o:Int),(p:Bool),(r:Bool),(s:Int),(t:Int),(b:Int),(c:Int),(d:Bool),(e:Int),(f:Int),(g:Int),(h:Int),_) u=>by
  clear u;refine goA ?_
  with_reducible unhygienic repeat' first | exact trivial | apply And.intro | (intro;intros)
  all_goals first | with_reducible rfl | omega | grind [qkt]
set_option maxRecDepth 1000000
set_option maxHeartbeats 4000000
variable {sp:Nat->Option (List V->Heap->Option (CR×Heap))}
theorem zgs (q:qt (cfg sp)) (t:kz XK szK (cfg sp) 40 c40.v) (nm:ZB) (l:List Sign) (s p:Int) (c:0<=s) (d:s<ln l):qhp XK szK (cfg sp) 76 [.agg [.int .i64 none s,.int .i64 none p],.eptr [.str nm,.list 4 l none] 0] (.sb 0 false (!qkt (ix l s)) ((!qkt (ix l s))=true) ((!qkt (ix l s))=false)):=by
 refine zeg zi ze (qpi (l:=[(40,c40)]) ⟨t,trivial⟩) q (inv:=λ_ _=>False) (meas:=λ_ _=>0) (ann:=[]) (depth:=3) (λx b=>by rcases zD.1 b with rfl | b;exact .agg (qa4 rfl);rw [List.mem_singleton.1 b];exact .eptr (qa4 rfl)) (by simp [P.flat,P.cellsOf,RT]) rfl (Aux.h (T:=qkw (wpH false XT XK (tsL [(40,c40)]) (λ_ _ _=>False) (λ_ _ _=>0) {jw with E:={jw.E with funcs:=λf=>if f=76 then fi Tryz.f76 else zsd f}} [] 3 76 [.agg [.int .i64 none (λ_=>s),.int .i64 none (λ_=>p)],.eptr [.str (λ_=>nm),.list 4 (λ_=>l) none] 0] (.sb 0 false (λ_=>!qkt (ix l s)) (λ_=>(!qkt (ix l s))=true) (λ_=>(!qkt (ix l s))=false)))) ?_);refine goA ?_
 with_reducible unhygienic repeat' first | exact trivial | apply And.intro | (intro;intros)
 all_goals first | omega | rfl
theorem zvv (q:qt (cfg sp)) (nm:ZB) (l:List Sign) (b:ln nm<=1000000000) (a:ln l<=1000000000):q7g XK szK (cfg sp) 74 [.agg [.str nm,.list 4 l none]] 18 (qoz nm l).1 (qoz nm l).2:=
 zgw q a ((zdv q).fn rfl (nm,l,()) rfl ⟨b,a⟩)
theorem zgo (q:qt (cfg sp)) (nm:ZB) (l:List Sign) (d:(qdp nm l).1=0) (g:ln nm<=100) (h:ln l<=60):qhp XK szK (cfg sp) 54 [.agg [.str nm,.list 4 l none]] (.list 18 (qgk l) none):=by
 obtain ⟨a,e,_⟩:=qph d;have f:qoz nm l=(qaz l (kf l).1 0,0):=by unfold qoz;rw [zF (by omega)]
 have b:=zvv q nm l (by omega) (by omega);rw [f] at b;exact zjw q (keep:=λx=>qkt (ix l x.Sign)) (by simp only [ln] at e;omega) b λx c=>zgs q (zdw q) nm l x.Sign x.Pass (qtd (zK 0) a x c).1 (qtd (zK 0) a x c).2
theorem zm2 (q:qt (cfg sp)):kz XK szK (cfg sp) 54 c54.v:=q2i rfl λ(nm,l,_) a args e=>by
 cases (show some [.agg [.str nm,.list 4 l none]]=some args from e);exact zgo q nm l a.1 a.2.1 a.2.2
end Go.Proofs.YtpofmogdhigakaaGreatDoor
