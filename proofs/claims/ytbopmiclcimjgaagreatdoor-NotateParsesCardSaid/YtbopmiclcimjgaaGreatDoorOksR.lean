import Derived.Test.YtbopmiclcimjgaaGreatDoorVcsR
namespace Go.Proofs.YtbopmiclcimjgaaGreatDoor
open Go Go.E2 Go.E3
set_option maxRecDepth 100000
theorem zec:∀ n:Nat,n<127->bx [120,120,120,120,120,120,120,120,120,120,120,120,120,120,120,120,120,120,120,120,120,120,120,120,120,120,120,120,120,120,120,120,32,112,113,112,112,112,112,112,112,112,112,112,112,112,112,112,112,112,112,112,112,112,112,112,112,112,112,99,112,112,112,112,112,112,112,112,112,112,112,112,112,112,112,112,112,112,112,112,112,112,112,112,112,112,112,112,112,112,112,112,112,112,112,112,112,112,112,112,112,112,112,112,112,112,112,112,112,112,112,112,112,112,112,112,112,112,112,112,112,112,112,112,112,112,112] (n:Int)=j6 n:=by decide +kernel
theorem zhg (a0:Int) (hp:U8 a0):q4o a0:=by
 obtain ⟨h0,h1⟩:=hp
 refine ⟨by omega,fun h=>⟨?_,trivial⟩,fun h=>⟨⟨h0,by simp only [ln,List.length_cons,List.length_nil];omega⟩,?_,trivial⟩⟩
 .unfold j6;rw [if_pos (by omega)]
 .have:=zec a0.toNat (by omega)
  rwa [show ((a0.toNat:Nat):Int)=a0 by omega] at this
theorem zfp (a0:ZB) (hp:ln a0<=1000000000):q05 a0:=by
 refine ⟨⟨by omega,zb _,fun j h1 h2=>by omega⟩,fun x ⟨h0,h1,h2⟩=>⟨fun h3=>⟨⟨h0,h3⟩,qzt a0 x,fun hc=>⟨?_,trivial⟩,fun hc=>⟨fun hd=>⟨?_,trivial⟩,fun hd=>⟨by omega,⟨by omega,by omega,fun j h4 h5=>?_⟩,?_⟩⟩⟩,fun h3=>⟨?_,trivial⟩⟩⟩
 .exact (qt9 h0 h3 (qtx.2 (by have:=qu3.1 hc;omega))).symm
 .exact (qt9 h0 h3 (qtx.2 (by have:=qp3.1 hd;omega))).symm
 .by_cases h:j=x
  .subst h
   rw [qtw]
   have a:=mt qu3.2 hc
   have b:=mt qp3.2 hd
   omega
  .exact h2 j h4 (by omega)
 .simp only [qhh];omega
 .exact (qj9.2 fun i h4 h5=>h2 i h4 (by omega)).symm
theorem qqe {a0 a1 x:ZB} {i:Int} {l:List ZB} (hinv:kk a0 a1 0 (-1) x i l) (h:qz (bx a1 0) x=[x]) :
  i<ln l/\upto (l.set i.toNat x) (i+1)=qz (bx a1 0) a0:=by
 obtain ⟨h0,h1,h2,h3,h4⟩:=hinv
 rw [h] at h2 h3
 have hi:i<ln l:=by rw [h1,<-h2];simp only [ln,List.length_cons,List.length_nil];omega
 exact ⟨hi,by rw [q7o h0 hi,h3]⟩
theorem qn4 {a0 a1 x:ZB} {i m:Int} {l:List ZB} (hinv:kk a0 a1 0 (-1) x i l) (hm:0<=m) (hml:m<ln x) (h:qz (bx a1 0) x=upto x m::qz (bx a1 0) (fr x (m+1))) (hi:i<qks a0 (bx a1 0)) :
  kk a0 a1 0 (-1) (fr x (m+1)) (i+1) (l.set i.toNat (upto x m)):=by
 obtain ⟨h0,h1,h2,h3,h4⟩:=hinv
 rw [h] at h2 h3
 rw [qa5] at h2
 refine ⟨by omega,by rw [qxi,h1],by omega,?_,?_⟩
 .rw [q7o h0 (by rw [h1];omega),List.append_assoc]
  exact h3
 .rw [qmu (by omega) (by omega)];omega
theorem q5p (a0 a1:ZB) (a2 a3:Int) (hp:ln a1=1/\(a2:Int)=0/\(a3:Int) = -1/\ln a0<=100000000):qmm a0 a1 a2 a3:=by
 obtain ⟨h1,rfl,rfl,hl⟩:=hp
 have hc:=qzt a1 0
 have hb:=q2a a0 (bx a1 0)
 have hn:(if ((ln a0)+1)<((qks a0 (bx a1 0))+1) then ((ln a0)+1) else ((qks a0 (bx a1 0))+1))=qks a0 (bx a1 0)+1:=if_neg (by omega)
 have hz:∀ m:Int,m+0=m:=fun m=>by omega
 unfold qmm
 dsimp only
 simp only [hn]
 refine ⟨fun h=>absurd h (by decide),fun _=>⟨fun h=>(by subst h;cases h1),fun _=>⟨fun _=>⟨fun h=>by omega,fun _=>⟨fun _=>?_,fun h=>absurd h1 h⟩⟩,fun h=>by omega⟩⟩⟩
 refine ⟨by omega,trivial,by omega,by omega,trivial,by omega,trivial,by omega,⟨Int.le_refl 0,q2p (by omega),?_,?_,Int.le_refl _⟩,fun x i l hi=>⟨fun hlt=>⟨fun h=>by omega,fun _=>⟨fun hx=>?_,fun hx=>⟨fun _=>?_,fun h=>absurd h1 h⟩⟩⟩,fun hge=>?_⟩⟩
 .rw [qsc hc.1 (by omega)];omega
 .rfl
 .
  subst hx
  have hidx:jh a1 (bx a1 0)=0:=by
   rcases zm8 a1 (bx a1 0) with h | h
   .have:=zm7 a1 (bx a1 0)
    by_cases hx:jh a1 (bx a1 0)<0
    .exact absurd rfl (qng hc.1 (by omega) hx 0 (Int.le_refl 0) (by omega))
    .omega
   .exact absurd rfl (qng hc.1 (by omega) (by omega) 0 (Int.le_refl 0) (by omega))
  have hst:=qm9 (s:=a1) hc.1 (by omega) (by omega:0<=jh a1 (bx a1 0))
  rw [hidx] at hst
  have hs:=qn4 hi (Int.le_refl 0) (by omega) hst (by omega)
  obtain ⟨g0,g1,g2,g3,g4⟩:=id hi
  have e:(0:Int)+ln a1=0+1:=by omega
  rw [e]
  refine ⟨by omega,by omega,by omega,by omega,trivial,by omega,by omega,by omega,hs,?_⟩
  show (_:Int).toNat<(_:Int).toNat;omega
 .refine ⟨by omega,trivial,fun hm=>?_,fun hm=>?_⟩
  .obtain ⟨h2,h3⟩:=qqe hi (qul hc.1 (by omega) hm)
   obtain ⟨g0,g1,g2,g3,g4⟩:=id hi
   exact ⟨by omega,by omega,trivial,by omega,by rw [qxi];omega,by rw [qxi];omega,h3,trivial⟩
  .obtain ⟨b1,b2,b3⟩:=qr3 hc.1 (by omega) hm
   have hs:=qn4 hi hm b1 (qm9 hc.1 (by omega) hm) (by omega)
   obtain ⟨g0,g1,g2,g3,g4⟩:=id hi
   rw [h1,hz]
   refine ⟨by omega,by omega,by omega,by omega,trivial,by omega,by omega,by omega,hs,?_⟩
   show (_:Int).toNat<(_:Int).toNat;omega
 .obtain ⟨g0,g1,g2,g3,g4⟩:=id hi
  obtain ⟨h2,h3⟩:=qqe hi (zal hc.1 (by omega) (by omega))
  exact ⟨by omega,by omega,trivial,by omega,by rw [qxi];omega,by rw [qxi];omega,h3,trivial⟩
theorem zg2 (a0 a1:ZB) (hp:ln a1=1/\ln a0<=100000000):q4b a0 a1:=⟨⟨hp.1,rfl,rfl,hp.2⟩,rfl,trivial⟩
theorem zfl (a0:Int):q03 a0:=by
 refine ⟨fun h1=>⟨fun h2=>⟨fun h3=>⟨?_,trivial⟩,fun h3=>⟨?_,trivial⟩⟩,fun h2=>⟨?_,trivial⟩⟩,fun h1=>⟨?_,trivial⟩⟩<;>simp [ke]<;>omega
theorem q9l (a0:Int):qw9 a0:=by
 refine ⟨fun h1=>⟨fun h2=>⟨?_,trivial⟩,fun h2=>⟨?_,trivial⟩⟩,fun h1=>⟨?_,trivial⟩⟩<;>simp [zs]<;>omega
theorem qkl {l:ZB} {a x:Int} (h:zg zs l (a+1)=x) :
  (((0<a/\bx l (a-1)≠32)∨ln l<=x∨bx l x≠34∨¬ (ln l<=x+1∨bx l (x+1)=32∨bx l (x+1)=59))/\km l a = -1)∨
  (¬ ((0<a/\bx l (a-1)≠32)∨ln l<=x∨bx l x≠34∨¬ (ln l<=x+1∨bx l (x+1)=32∨bx l (x+1)=59))/\km l a=x+1):=by
 unfold km
 rw [h]
 split
 .rename_i hc
  exact .inl ⟨hc,rfl⟩
 .rename_i hc
  exact .inr ⟨hc,rfl⟩
theorem q98 (a0:ZB) (a1:Int) (hp:0<=a1/\a1<ln a0/\ln a0<=1000000000):qpe a0 a1:=by
 have h0:=qkl (l:=a0) (a:=a1) rfl
 unfold qpe
 dsimp only
 simp only [qbv,qcz,and_imp]
 unhygienic (repeat' (first | exact trivial | apply And.intro | intro))
 all_goals first
  | omega
  | exact Eq.trans ‹_› (qb6 (by omega) (by omega) ‹_›)
  | (have hh:=qkl (Eq.trans ‹_› (qbl (by first | exact .inl (by omega) | exact .inr ‹_›)));omega)
theorem qyh {out:List Word} {w:Word} {r:List Word×Int}:qjo out (if r.2<0 then (w::r.1,-1) else ([],r.2))=qjo (out++[w]) r:=by
 unfold qjo
 by_cases h:r.2<0
 .rw [if_pos h,if_pos h,if_pos (show (-1:Int)<0 by decide),List.append_assoc];rfl
 .rw [if_neg h,if_neg h,if_neg h]
theorem zf9 {out:List Word}:qjo out ([],-1)=(out,-1):=by simp [qjo]
theorem q1p {out:List Word} {x:Int} (h:0<=x):qjo out ([],x)=([],x):=by
 unfold qjo;rw [if_neg (by show ¬ x<0;omega)]
section
variable {l:ZB} {f x:Int} {out:List Word} (hi:kb l f 0=qjo out (kb l f x))
 include hi
theorem q83 (h0:0<=x) (h1:x<ln l) (h:bx l x=32):kb l f 0=qjo out (kb l f (x+1)):=by rw [hi,zeg h0 h1 h]
theorem qwj (h:ln l<=x∨bx l x=59):kb l f 0=(out,-1):=by rw [hi,zmx h,zf9]
theorem qwi (h0:0<=x) (h1:x<ln l) (h2:bx l x≠59) (h:(bx l x=34/\km l x<0)∨(bx l x≠34/\bx l x≠32/\ke (bx l x)=false)):kb l f 0=([],x):=by rw [hi,zmw h1 h2 h h0,q1p h0]
theorem qwl {a e:Int} (ha:a=f+x) (h0:0<=x) (h1:x<ln l) (h:bx l x=34) (he:km l x=e) (h3:0<=e):kb l f 0=qjo (out++[⟨a,sub l (x+1) (e-1),true⟩]) (kb l f e):=by
 rw [hi,zei h0 h1 h he h3,qyh,ha]
theorem qwk {a e:Int} (ha:a=f+x) (h0:0<=x) (h1:x<ln l) (h:ke (bx l x)=true) (he:zg ke l x=e):kb l f 0=qjo (out++[⟨a,sub l x e,false⟩]) (kb l f e):=by
 rw [hi,zeh h0 h1 h he,qyh,ha]
end
theorem qzx (l:ZB) (f i:Int) (h:0<=i):(kb l f i).2 = -1∨(0<=(kb l f i).2/\(kb l f i).1=[]):=by
 have hg:=qbo (p:=kg) (s:=l) (i:=i)
 fun_induction kb l f i with
 | case1 i h1=>exact .inl rfl
 | case2 i h1 h2 h3 h4 ih=>exact .inl rfl
 | case3 i h1 h2 h3 h4 ih=>
  refine .inr ⟨?_,rfl⟩
  show 0<=(kb l f _).2
  omega
 | case4 i h1 h2 h3=>exact .inr ⟨by show 0<=zg kg l i;omega,rfl⟩
 | case5 i h1 h2 h3 h4 h5 ih=>exact .inl rfl
 | case6 i h1 h2 h3 h4 h5 ih=>
  refine .inr ⟨?_,rfl⟩
  show 0<=(kb l f _).2
  omega
 | case7 i h1 h2 h3 h4=>exact .inr ⟨by show 0<=zg kg l i;omega,rfl⟩
 | case8 i h1 h2 h3=>exact .inr ⟨by show 0<=zg kg l i;omega,rfl⟩
theorem q1q {r:List Word×Int} (h:r.2 = -1∨(0<=r.2/\r.1=[])):r=qjo [] r:=by
 obtain ⟨a,b⟩:=r
 rcases h with h | ⟨h,h'⟩
 .cases h;rfl
 .cases h';rw [q1p h]
theorem zmt (a0:ZB) (a1:Int) (hp:ln a0<=1000/\0<=a1/\a1<=100000):q2c a0 a1:=by
 obtain ⟨p1,p2,p3⟩:=hp
 have hl:=zb a0
 unfold q2c
 dsimp only
 simp only [qd6,qb0,qi7,qj6,and_imp,qic]
 unhygienic (repeat' (first | exact trivial | apply And.intro | intro))
 all_goals first
  | omega
  | with_reducible exact Int.le_refl _
  | exact qsb
  | exact q1q (qzx _ _ _ (Int.le_refl 0))
  | exact q83 ‹_› (by omega) (by omega) (by omega)
  | exact qwl ‹_› rfl (by omega) (by omega) (by omega) rfl (by omega)
  | exact qwk ‹_› rfl (by omega) (by omega) ‹_› (Eq.trans ‹_› (qbl (by first | exact .inl (by omega) | exact .inr ‹_›)))
  | exact Eq.trans ‹_› (qb6 (by omega) (by omega) ‹_›)
  | exact (congrArg Prod.fst (qwj ‹_› (by omega))).symm
  | exact (congrArg Prod.snd (qwj ‹_› (by omega))).symm
  | exact (congrArg Prod.fst (qwi ‹_› (by omega) (by omega) (by omega) (by first | exact .inl (by omega) | exact .inr ⟨by omega,by omega,by assumption⟩))).symm
  | exact (congrArg Prod.snd (qwi ‹_› (by omega) (by omega) (by omega) (by first | exact .inl (by omega) | exact .inr ⟨by omega,by omega,by assumption⟩))).symm
  | (have hb:=qxs (l:=a0) (a:=x1) (by omega) (by omega);omega)
  | exact qjm (by omega)
  | (have hg:=q66 (p:=ke) (s:=a0) (i:=x1) (by omega) (by omega) ‹_›;have hs:=qbl (p:=ke) (s:=a0) (i:=x8) (by first | exact .inl (by omega) | exact .inr ‹_›);omega)
theorem q1n {out:List Row}:qgq out ([],0,0)=(out,0,0):=by simp [qgq]
theorem qs3 {out:List Row} {e x:Int} (h:e≠0):qgq out ([],e,x)=([],e,x):=by
 unfold qgq;rw [if_neg h]
theorem qx0:∀ (l:List ZB) (x:Int),(qay l x).2=(0,0)∨((qay l x).2.1≠0/\(qay l x).1=[])
 | [],_=>.inl rfl
 | l::ls,x=>by
  unfold qay
  split
  .exact .inr ⟨show (4:Int)≠0 by decide,rfl⟩
  .split
   .exact .inr ⟨show (3:Int)≠0 by decide,rfl⟩
   .split
    .exact .inl rfl
    .exact .inr ⟨by assumption,rfl⟩
theorem q1o {r:List Row×Int×Int} (h:r.2=(0,0)∨(r.2.1≠0/\r.1=[])):r=qgq [] r:=by
 obtain ⟨a,b⟩:=r
 rcases h with h | ⟨h,h'⟩
 .cases h;rfl
 .cases h';obtain ⟨b,c⟩:=b;rw [qs3 h]
theorem qss {L:List ZB} {line:ZB} {out:List Row} {R:List Row×Int×Int} {x:Int} (hi:R=qgq out (qay (line::L) x)) :
  (1000<ln line->R=([],4,x))/\(ln line<=1000->0<=(kb line x 0).2->R=([],3,x+(kb line x 0).2))/\
  (ln line<=1000->(kb line x 0).2<0->R=qgq (if (kb line x 0).1=[] then out else out++[⟨x,(kb line x 0).1⟩]) (qay L (x+ln line+1))):=by
 subst hi
 refine ⟨fun h=>?_,fun h h1=>?_,fun h h1=>?_⟩
 .rw [qay,if_pos h,qs3 (by decide)]
 .rw [qay,if_neg (by omega),if_pos h1,qs3 (by decide)]
 .rw [qay,if_neg (by omega),if_neg (by omega)]
  by_cases h2:(qay L (x+ln line+1)).2.1=0
  .rw [if_pos h2]
   unfold qgq
   rw [if_pos rfl,if_pos h2]
   split
   .rfl
   .simp
  .rw [if_neg h2]
   unfold qgq
   rw [if_neg h2,if_neg h2]
theorem qfv {a0:ZB} (h:ln a0<=20000):qa a0=qay (qz 10 a0) 0:=by unfold qa;rw [if_neg (by omega)]
theorem qxz {a0:ZB} (h:20000<ln a0):qa a0=([],4,20000):=by unfold qa;rw [if_pos h]
theorem zfw {a0:ZB} {out:List Row} {x y:Int} {R:List Row×Int×Int} (h0:0<=x) (h1:x<=y) (h2:y<=ln a0) (hy:zg qmz a0 x=y) (hi:R=if x<=ln a0 then qgq out (qay (qz 10 (fr a0 x)) x) else (out,0,0)) :
  (1000<y-x->R=([],4,x))/\(y-x<=1000->0<=(kb (sub a0 x y) x 0).2->R=([],3,x+(kb (sub a0 x y) x 0).2))/\
  (y-x<=1000->(kb (sub a0 x y) x 0).2<0->R=if y+1<=ln a0 then qgq (if (kb (sub a0 x y) x 0).1=[] then out else out++[⟨x,(kb (sub a0 x y) x 0).1⟩]) (qay (qz 10 (fr a0 (y+1))) (y+1))
    else (if (kb (sub a0 x y) x 0).1=[] then out else out++[⟨x,(kb (sub a0 x y) x 0).1⟩],0,0)):=by
 rw [if_pos (by omega)] at hi
 have hend:y=ln a0∨bx a0 y=10:=by
  by_cases h:y<ln a0
  .right
   have:=qsu (p:=qmz) (s:=a0) (i:=x) h0 (by rw [hy];exact h)
   rw [hy] at this
   exact q0r.1 this
  .left;omega
 have hall:∀ j,x<=j->j<y->bx a0 j≠10:=fun j h3 h4=>q0q.1 (qst j h3 (by rw [hy];exact h4))
 have hs:=q1b (c:=10) h0 h1 h2 hall hend
 have hl:=qkj h0 h1 h2
 by_cases h:y=ln a0
 .rw [if_pos h] at hs
  rw [hs] at hi
  obtain ⟨g1,g2,g3⟩:=qss hi
  rw [hl] at g1 g2 g3
  refine ⟨g1,g2,fun h4 h5=>?_⟩
  rw [if_neg (by omega),g3 h4 h5]
  exact q1n
 .rw [if_neg h] at hs
  rw [hs] at hi
  obtain ⟨g1,g2,g3⟩:=qss hi
  rw [hl] at g1 g2 g3
  refine ⟨g1,g2,fun h4 h5=>?_⟩
  rw [if_pos (by omega),g3 h4 h5]
  congr 2
  omega
theorem zmv (l:ZB) (f i:Int) (h0:0<=i) (h:i<=ln l):(kb l f i).2<=ln l:=by
 have hl:=zb l
 have hg:=qbo (p:=kg) (s:=l) (i:=i)
 have hr:=qez (p:=kg) (s:=l) (i:=i) h
 fun_induction kb l f i with
 | case1 i h1=>show (-1:Int)<=_;omega
 | case2 i h1 h2 h3 h4 ih=>show (-1:Int)<=_;omega
 | case3 i h1 h2 h3 h4 ih=>exact ih (by omega) (by omega) qbo (qez (by omega))
 | case4 i h1 h2 h3=>exact hr
 | case5 i h1 h2 h3 h4 h5 ih=>show (-1:Int)<=_;omega
 | case6 i h1 h2 h3 h4 h5 ih=>exact ih (by omega) (by omega) qbo (qez (by omega))
 | case7 i h1 h2 h3 h4=>exact hr
 | case8 i h1 h2 h3=>exact hr
theorem q58 {α:Type} {l:List α} (h:0<ln l):¬ l=[]:=by rintro rfl;simp [ln] at h
theorem zni {a0:ZB} {x y:Int} (h:zg qmz a0 x=zg qmz a0 y) (h2:ln a0<=y∨bx a0 y=10):zg qmz a0 x=y:=
 h.trans (qbl (h2.imp id fun h=>q0r.2 h))
theorem zgq (a0:ZB):qvo a0:=by
 have hl:=zb a0
 unfold qvo
 dsimp only
 simp only [qc5,qa6,qhn,qie,and_imp,qic]
 unhygienic (repeat' (first | exact trivial | apply And.intro | intro))
 all_goals first
  | omega
  | with_reducible exact Int.le_refl _
  | exact qsb
  | exact qjm (by omega)
  | exact Eq.trans ‹_› (qb6 (by omega) (by omega) (q0q.2 ‹_›))
  | (rw [qxz (by omega)];done)
  | (rw [if_pos (by omega),qu4];exact q1o (qx0 _ _))
  | (rw [qfv (by omega),a_4,if_neg (by omega)];done)
  | (rw [qkj (by omega) (by omega) (by omega)];omega)
  | (have ST:=zfw (a0:=a0) (out:=x1) (x:=x2) (y:=x5) (by omega) (by omega) (by omega) (zni ‹_› (by omega)) ‹_›
     first
      | (rw [qfv (by omega),ST.1 (by omega)];done)
      | (rw [qfv (by omega),ST.2.1 (by omega) (by omega)];done)
      | exact (ST.2.2 (by omega) (by omega)).trans (by rw [if_neg (q58 (by omega))])
      | exact (ST.2.2 (by omega) (by omega)).trans (by rw [if_pos (zcj (by omega))]))
  | (have:=zmv (sub a0 x2 x5) x2 0 (by omega) (zb _);rw [qkj (by omega) (by omega) (by omega)] at this;omega)
theorem q4p {b:Int} (h:j6 b=120) (h0:0<=b):b≠34/\b≠32/\b≠59/\ke b=false:=by
 have:=qu3.1 h
 exact ⟨by omega,by omega,by omega,q93.2 (by omega)⟩
theorem qtl {b:Int} (hx:j6 b≠120) (hq:j6 b≠113) (h1:b≠32) (h2:b≠59):ke b=true:=by
 have h3:=mt qu3.2 hx
 have h4:=mt qp3.2 hq
 exact qll.2 (by omega)
theorem qm4 {l:ZB} {x:Int} (h0:0<=x) (h1:x<ln l) :
  (0<x->bx l (x-1)≠32->km l x = -1)/\(jh (fr l (x+1)) 34<0->km l x = -1)/\
  (0<=jh (fr l (x+1)) 34->x+1+jh (fr l (x+1)) 34<ln l/\bx l (x+1+jh (fr l (x+1)) 34)=34/\
    (qaq (sub l (x+1) (x+1+jh (fr l (x+1)) 34))=false->km l x = -1)/\
    (qaq (sub l (x+1) (x+1+jh (fr l (x+1)) 34))=true->(0<x->bx l (x-1)=32)->
      (x+jh (fr l (x+1)) 34+2<ln l->bx l (x+jh (fr l (x+1)) 34+2)≠32->bx l (x+jh (fr l (x+1)) 34+2)≠59->km l x = -1)/\
      (ln l<=x+jh (fr l (x+1)) 34+2∨bx l (x+jh (fr l (x+1)) 34+2)=32∨bx l (x+jh (fr l (x+1)) 34+2)=59->km l x=x+jh (fr l (x+1)) 34+2))):=by
 have hc:=qkl (l:=l) (a:=x) rfl
 have hg:=qbo (p:=zs) (s:=l) (i:=x+1)
 have hle:=qez (p:=zs) (s:=l) (i:=x+1) (by omega)
 have hr:=qsu (p:=zs) (s:=l) (i:=x+1) (by omega)
 have hf:=qmu (l:=l) (i:=x+1) (by omega) (by omega)
 refine ⟨fun h2 h3=>by omega,fun h2=>?_,fun h2=>?_⟩
 .have hn:=qng (by decide) (by decide) h2
  by_cases hl:ln l<=zg zs l (x+1)
  .omega
  .have h3:=hn (zg zs l (x+1)-(x+1)) (by omega) (by omega)
   rw [qmc (by omega) (by omega),show x+1+(zg zs l (x+1)-(x+1))=zg zs l (x+1) by omega] at h3
   omega
 .obtain ⟨a1,a2,a3⟩:=qr3 (by decide) (by decide) h2
  generalize jh (fr l (x+1)) 34=n at *
  rw [qmc (by omega) h2] at a2
  refine ⟨by omega,a2,fun hq=>?_,fun hq hb=>?_⟩
  .have hlt:zg zs l (x+1)<x+1+n:=by
    apply Decidable.byContradiction
    intro hge
    have hle2:x+1+n<=ln l:=by omega
    have:qaq (sub l (x+1) (x+1+n))=true:=qj9.2 fun i h4 h5=>by
     rw [qkj (l:=l) (i:=x+1) (j:=x+1+n) (by omega) (by omega) hle2] at h5
     rw [q81 (s:=l) (i:=x+1) (j:=x+1+n) (k:=i) (by omega) h4 (by omega)]
     exact qst (i:=x+1) _ (by omega) (by omega)
    rw [this] at hq
    cases hq
   have h3:=a3 (zg zs l (x+1)-(x+1)) (by omega) (by omega)
   rw [qmc (by omega) (by omega),show x+1+(zg zs l (x+1)-(x+1))=zg zs l (x+1) by omega] at h3
   omega
  .have he:zg zs l (x+1)=x+1+n:=by
    refine qq1 (by omega) (by omega) (by omega) (fun j h4 h5=>?_) (.inr (by rw [a2];rfl))
    have:=qj9.1 hq (j-(x+1)) (by omega) (by rw [qkj (by omega) (by omega) (by omega)];omega)
    rwa [q81 (by omega) (by omega) (by omega),show x+1+(j-(x+1))=j by omega] at this
   rw [he] at hc
   rw [show x+1+n+1=x+n+2 by omega] at hc
   rw [show x+1+n=x+n+1 by omega] at *
   constructor<;>intros<;>omega
theorem qyy {c:Int} {s:ZB} {k:Int} (h0:0<=k) (h:k<ln (qz c s)):ln (ix (qz c s) k)<=ln s:=qgi (qr6 h0 h)
theorem qpf {L:List ZB} {k:Int} {out:List Row} {R:List Row×Int×Int} {x:Int} (h0:0<=k) (h1:k<ln L) (hi:R=qgq out (qay (fr L k) x)) :
  (1000<ln (ix L k)->R=([],4,x))/\(ln (ix L k)<=1000->0<=(kb (ix L k) x 0).2->R=([],3,x+(kb (ix L k) x 0).2))/\
  (ln (ix L k)<=1000->(kb (ix L k) x 0).2<0->R=qgq (if (kb (ix L k) x 0).1=[] then out else out++[⟨x,(kb (ix L k) x 0).1⟩]) (qay (fr L (k+1)) (x+(ln (ix L k)+1)))):=by
 rw [qjy h0 h1] at hi
 have:=qss hi
 rwa [Int.add_assoc] at this
theorem zib {l:ZB} {f x y:Int} (h0:0<=x) (hxy:zg kg l x=zg kg l y) (hy:ln l<=y∨bx l y≠32):kb l f x=kb l f y:=by
 rw [qgu hy] at hxy
 rw [kb,hxy]
 have e:zg kg l y=y:=qgu hy
 exact (by rw [kb,e]:kb l f y=_).symm
theorem q0s {b:Int} (h:j6 b≠112):ke b=false:=by rw [<-Bool.not_eq_true];exact mt za5.2 h
set_option maxHeartbeats 4000000 in
theorem zgt (a0:ZB):qvp a0:=by
 have hl:=zb a0
 have hb:bx [10] 0=10:=rfl
 have hb2:ln ([10]:ZB)=1:=rfl
 have hc:=qsc (s:=a0) (c:=10) (by decide) (by decide)
 have hd:=q2a a0 10
 unfold qvp
 dsimp only
 simp only [qau,z5,qy,qc,qho,qif,qc6,qeg,and_imp,qic,hb,hb2]
 unhygienic (repeat' (first | exact trivial | apply And.intro | (intro;intros)))
 all_goals first
  | omega
  | exact qjm (by omega)
  | (rw [qxz (by omega)];done)
  | exact Eq.trans ‹_› (qb6 (by omega) (by omega) (qv4.2 ‹_›))
  | exact Eq.trans ‹_› (qb6 (by omega) (by omega) (za5.1 ‹_›))
  | (have:=qzt (ix (qz 10 a0) x3) x10;omega)
  | (have:=qzt (ix (qz 10 a0) x3) x18;omega)
  | (have h1:=qyy (s:=a0) (c:=10) (k:=x3) (by omega) (by omega);have h2:=zb (ix (qz 10 a0) x3);omega)
  | (have QP:=qm4 (l:=ix (qz 10 a0) x3) (x:=x10) (by omega) (by omega);have Q:=QP.2.2 (by omega);have Q1:=Q.1;first | omega | (rw [qkj (by omega) (by omega) (by omega)];omega))
  | (have hg:=q66 (p:=ke) (s:=ix (qz 10 a0) x3) (i:=x10) (by omega) (by omega) (qtl ‹_› ‹_› (by omega) (by omega));have hs:=qbl (p:=ke) (s:=ix (qz 10 a0) x3) (i:=x18) (by first | exact .inl (by omega) | exact .inr (q0s ‹_›));omega)
  | (have hx:=a_12.trans (congrArg (qjo x7) (zib (by omega) ‹_› (by omega)))
     first
      | exact qwk hx (Int.add_comm _ _) (by omega) (by omega) (qtl ‹_› ‹_› (by omega) (by omega)) (Eq.trans ‹_› (qbl (by first | exact .inl (by omega) | exact .inr (q0s ‹_›))))
      | (have QP:=qm4 (l:=ix (qz 10 a0) x3) (x:=x10) (by omega) (by omega)
         exact qwl hx (Int.add_comm _ _) (by omega) (by omega) (qp3.1 ‹_›) (((QP.2.2 (by omega)).2.2.2 ‹_› (fun _=>by omega)).2 (by omega)) (by omega))
      | (have CE:=qwj hx (by omega)
         have L1:=(qpf (by omega) (by omega) (by assumption:qay (qz 10 a0) 0=qgq x1 (qay (fr (qz 10 a0) x3) x2))).2.2 (by omega) (by rw [CE];show (-1:Int)<0;decide)
         rw [CE] at L1
         first
          | exact L1.trans (by rw [if_neg (q58 (by omega))])
          | exact L1.trans (by rw [if_pos (zcj (by omega))]))
      | (have CB:=qwi hx (by omega) (by omega) (by omega) (by
          first
           | (refine .inr ⟨?_,by omega,?_⟩
              .exact (q4p ‹_› (qzt _ _).1).1
              .exact (q4p ‹_› (qzt _ _).1).2.2.2)
           | (refine .inl ⟨qp3.1 ‹_›,?_⟩
              have QP:=qm4 (l:=ix (qz 10 a0) x3) (x:=x10) (by omega) (by omega)
              first
               | (have:=QP.1 (by omega) (by omega);omega)
               | (have:=QP.2.1 (by omega);omega)
               | (have:=(QP.2.2 (by omega)).2.2.1 ‹_›;omega)
               | (have:=((QP.2.2 (by omega)).2.2.2 ‹_› (fun _=>by omega)).1 (by omega) (by omega) (by omega);omega)))
         have L1:=(qpf (by omega) (by omega) (by assumption:qay (qz 10 a0) 0=qgq x1 (qay (fr (qz 10 a0) x3) x2))).2.1 (by omega) (by rw [CB];show (0:Int)<=x10;omega)
         rw [CB] at L1
         rw [qfv (by omega),L1]))
  | exact q1q (qzx _ _ _ (Int.le_refl 0))
  | (rw [qu4];exact q1o (qx0 _ _))
  | (rw [qfv (by omega),a_6,qla (by omega)];simp only [qay,q1n];done)
  | (rw [qfv (by omega),(qpf (by omega) (by omega) (by assumption:qay (qz 10 a0) 0=qgq x1 (qay (fr (qz 10 a0) x3) x2))).1 (by omega)];done)
  | with_reducible exact Int.le_refl _
  | exact qsb
  | with_reducible rfl
  | exact Int.le_refl _
section
variable {a0 a1:List Row} {a2:Bool} {x y:Int}
end
section
variable {a b:Row} {off:Bool} {y:Int}
end
theorem q84 (l:ZB) (f i:Int) (h0:0<=i) (h:i<=ln l):ln (kb l f i).1<=ln l-i:=by
 have hg:=qbo (p:=kg) (s:=l) (i:=i)
 have hr:=qez (p:=kg) (s:=l) (i:=i) h
 fun_induction kb l f i with
 | case1 i h1=>show ln ([]:List Word)<=_;rw [qhv];omega
 | case2 i h1 h2 h3 h4 ih=>
  have:=ih (by omega) (by omega) qbo (qez (by omega))
  show ln (_::_)<=_
  rw [qa5];omega
 | case3 i h1 h2 h3 h4 ih=>show ln ([]:List Word)<=_;rw [qhv];omega
 | case4 i h1 h2 h3=>show ln ([]:List Word)<=_;rw [qhv];omega
 | case5 i h1 h2 h3 h4 h5 ih=>
  have:=ih (by omega) (by omega) qbo (qez (by omega))
  show ln (_::_)<=_
  rw [qa5];omega
 | case6 i h1 h2 h3 h4 h5 ih=>show ln ([]:List Word)<=_;rw [qhv];omega
 | case7 i h1 h2 h3 h4=>show ln ([]:List Word)<=_;rw [qhv];omega
 | case8 i h1 h2 h3=>show ln ([]:List Word)<=_;rw [qhv];omega
theorem q63:∀ (L:List ZB) (x:Int),ln (qay L x).1<=ln L/\∀ r ∈ (qay L x).1,ln r.Words<=1000
 | [],x=>⟨Int.le_refl _,fun r h=>by cases h⟩
 | l::L,x=>by
  have hn:ln ([]:List Row)<=ln (l::L)/\∀ r ∈ ([]:List Row),ln r.Words<=1000:=⟨by rw [qhv];exact zb _,fun r h=>by cases h⟩
  have ih:=q63 L (x+ln l+1)
  unfold qay
  split
  .exact hn
  .split
   .exact hn
   .rename_i h1 h2
    have hw:=q84 l x 0 (Int.le_refl 0) (zb l)
    split
    .split
     .exact ⟨by rw [qa5];show ln (qay L _).1<=_;omega,ih.2⟩
     .refine ⟨by show ln (_::_)<=_;rw [qa5,qa5];omega,fun r hr=>?_⟩
      rcases zD.1 hr with rfl | hr
      .show ln (kb l x 0).1<=1000;omega
      .exact ih.2 r hr
    .exact hn
theorem qxy (a0:ZB):ln (qa a0).1<=20001/\∀ r ∈ (qa a0).1,ln r.Words<=1000:=by
 unfold qa
 split
 .exact ⟨by show ln ([]:List Row)<=_;rw [qhv];omega,fun r h=>by cases h⟩
 .have h1:=q63 (qz 10 a0) 0
  have h2:=qsc (s:=a0) (c:=10) (by decide) (by decide)
  have h3:=q2a a0 10
  exact ⟨by omega,h1.2⟩
end Go.Proofs.YtbopmiclcimjgaaGreatDoor
