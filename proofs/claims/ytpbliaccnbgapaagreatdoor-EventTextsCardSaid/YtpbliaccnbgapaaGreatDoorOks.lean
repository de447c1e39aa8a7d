import Derived.Test.YtpbliaccnbgapaaGreatDoorVcs
import Derived.Test.YtpbliaccnbgapaaGreatDoorDall
namespace Go.Proofs.YtpbliaccnbgapaaGreatDoor
open Go Go.E2 Go.E3
set_option maxRecDepth 100000
theorem zc3:∀ n:Nat,n<127->bx ZX (n:Int)=js n:=by decide +kernel
theorem zf1 (a0:Int) (hp:U8 a0):q3r a0:=by
 obtain ⟨h0,h1⟩:=hp
 refine ⟨by omega,fun h=>⟨?_,trivial⟩,fun h=>⟨⟨h0,by simp only [ln,List.length_cons,List.length_nil];omega⟩,?_,trivial⟩⟩
 .unfold js;rw [zT (by omega)]
 .have:=zc3 a0.toNat (by omega)
  rwa [show ((a0.toNat:Nat):Int)=a0 by omega] at this
theorem zek (a0:ZB) (hp:ln a0<=1000000000):qz5 a0:=by
 refine ⟨⟨by omega,zm _,fun j h1 h2=>by omega⟩,fun x ⟨h0,h1,h2⟩=>⟨fun h3=>⟨⟨h0,h3⟩,qo4 a0 x,fun hc=>⟨?_,trivial⟩,fun hc=>⟨fun hd=>⟨?_,trivial⟩,fun hd=>⟨by omega,⟨by omega,by omega,fun j h4 h5=>?_⟩,?_⟩⟩⟩,fun h3=>⟨?_,trivial⟩⟩⟩
 .exact (qs0 h0 h3 (qsn.2 (by have:=qtm.1 hc;omega))).symm
 .exact (qs0 h0 h3 (qsn.2 (by have:=qpa.1 hd;omega))).symm
 .by_cases h:j=x
  .subst h
   rw [qsm]
   have a:=mt qtm.2 hc
   have b:=mt qpa.2 hd
   omega
  .exact h2 j h4 (by omega)
 .simp only [qg1];omega
 .exact (qjs.2 fun i h4 h5=>h2 i h4 (by omega)).symm
theorem qpl {a0 a1 x:ZB} {i:Int} {l:List ZB} (hinv:kk a0 a1 0 (-1) x i l) (h:qa (bx a1 0) x=[x]) :
  i<ln l/\upto (l.set i.toNat x) (i+1)=qa (bx a1 0) a0:=by
 obtain ⟨h0,h1,h2,h3,h4⟩:=hinv
 rw [h] at h2 h3
 have hi:i<ln l:=by rw [h1,<-h2];simp only [ln,List.length_cons,List.length_nil];omega
 exact ⟨hi,by rw [q6x h0 hi,h3]⟩
theorem qnd {a0 a1 x:ZB} {i m:Int} {l:List ZB} (hinv:kk a0 a1 0 (-1) x i l) (hm:0<=m) (hml:m<ln x) (h:qa (bx a1 0) x=upto x m::qa (bx a1 0) (fr x (m+1))) (hi:i<j5 a0 (bx a1 0)) :
  kk a0 a1 0 (-1) (fr x (m+1)) (i+1) (l.set i.toNat (upto x m)):=by
 obtain ⟨h0,h1,h2,h3,h4⟩:=hinv
 rw [h] at h2 h3
 rw [qau] at h2
 refine ⟨by omega,by rw [qwd,h1],by omega,?_,?_⟩
 .rw [q6x h0 (by rw [h1];omega),List.append_assoc]
  exact h3
 .rw [za2 (by omega) (by omega)];omega
theorem q4s (a0 a1:ZB) (a2 a3:Int) (hp:ln a1=1/\(a2:Int)=0/\(a3:Int) = -1/\ln a0<=100000000):qlv a0 a1 a2 a3:=by
 obtain ⟨h1,rfl,rfl,hl⟩:=hp
 have hc:=qo4 a1 0
 have hb:=q03 a0 (bx a1 0)
 have hn:(if ((ln a0)+1)<((j5 a0 (bx a1 0))+1) then ((ln a0)+1) else ((j5 a0 (bx a1 0))+1))=j5 a0 (bx a1 0)+1:=zF (by omega)
 have hz:∀ m:Int,m+0=m:=fun m=>by omega
 unfold qlv
 simp only [hn]
 refine ⟨fun h=>absurd h (by decide),fun _=>⟨fun h=>(by subst h;cases h1),fun _=>⟨fun _=>⟨fun h=>by omega,fun _=>⟨fun _=>?_,fun h=>absurd h1 h⟩⟩,fun h=>by omega⟩⟩⟩
 refine ⟨by omega,trivial,by omega,by omega,trivial,by omega,trivial,by omega,⟨zK 0,q1q (by omega),?_,?_,zK _⟩,fun x i l hi=>⟨fun hlt=>⟨fun h=>by omega,fun _=>⟨fun hx=>?_,fun hx=>⟨fun _=>?_,fun h=>absurd h1 h⟩⟩⟩,fun hge=>?_⟩⟩
 .rw [qre hc.1 (by omega)];omega
 .rfl
 .
  subst hx
  have hidx:qf a1 (bx a1 0)=0:=by
   rcases q1k a1 (bx a1 0) with h | h
   .have:=q1j a1 (bx a1 0)
    by_cases hx:qf a1 (bx a1 0)<0
    .exact absurd rfl (qms hc.1 (by omega) hx 0 (zK 0) (by omega))
    .omega
   .exact absurd rfl (qms hc.1 (by omega) (by omega) 0 (zK 0) (by omega))
  have hst:=qml (s:=a1) hc.1 (by omega) (by omega:0<=qf a1 (bx a1 0))
  rw [hidx] at hst
  have hs:=qnd hi (zK 0) (by omega) hst (by omega)
  obtain ⟨g0,g1,g2,g3,g4⟩:=id hi
  have e:(0:Int)+ln a1=0+1:=by omega
  rw [e]
  refine ⟨by omega,by omega,by omega,by omega,trivial,by omega,by omega,by omega,hs,?_⟩
  show (_:Int).toNat<(_:Int).toNat;omega
 .refine ⟨by omega,trivial,fun hm=>?_,fun hm=>?_⟩
  .obtain ⟨h2,h3⟩:=qpl hi (qtb hc.1 (by omega) hm)
   obtain ⟨g0,g1,g2,g3,g4⟩:=id hi
   exact ⟨by omega,by omega,trivial,by omega,by rw [qwd];omega,by rw [qwd];omega,h3,trivial⟩
  .obtain ⟨b1,b2,b3⟩:=qj5 hc.1 (by omega) hm
   have hs:=qnd hi hm b1 (qml hc.1 (by omega) hm) (by omega)
   obtain ⟨g0,g1,g2,g3,g4⟩:=id hi
   rw [h1,hz]
   refine ⟨by omega,by omega,by omega,by omega,trivial,by omega,by omega,by omega,hs,?_⟩
   show (_:Int).toNat<(_:Int).toNat;omega
 .obtain ⟨g0,g1,g2,g3,g4⟩:=id hi
  obtain ⟨h2,h3⟩:=qpl hi (q9s hc.1 (by omega) (by omega))
  exact ⟨by omega,by omega,trivial,by omega,by rw [qwd];omega,by rw [qwd];omega,h3,trivial⟩
theorem zfg (a0 a1:ZB) (hp:ln a1=1/\ln a0<=100000000):q3a a0 a1:=⟨⟨hp.1,rfl,rfl,hp.2⟩,rfl,trivial⟩
theorem zeh (a0:Int):qz3 a0:=by
 refine ⟨fun h1=>⟨fun h2=>⟨fun h3=>⟨?_,trivial⟩,fun h3=>⟨?_,trivial⟩⟩,fun h2=>⟨?_,trivial⟩⟩,fun h1=>⟨?_,trivial⟩⟩<;>simp [kh]<;>omega
theorem q8r (a0:Int):qv4 a0:=by
 refine ⟨fun h1=>⟨fun h2=>⟨?_,trivial⟩,fun h2=>⟨?_,trivial⟩⟩,fun h1=>⟨?_,trivial⟩⟩<;>simp [zr]<;>omega
theorem qjx {l:ZB} {a x:Int} (h:zj zr l (a+1)=x) :
  (((0<a/\bx l (a-1)≠32)∨ln l<=x∨bx l x≠34∨¬ (ln l<=x+1∨bx l (x+1)=32∨bx l (x+1)=59))/\zg l a = -1)∨
  (¬ ((0<a/\bx l (a-1)≠32)∨ln l<=x∨bx l x≠34∨¬ (ln l<=x+1∨bx l (x+1)=32∨bx l (x+1)=59))/\zg l a=x+1):=by
 unfold zg
 rw [h]
 split
 .rename_i hc
  exact .inl ⟨hc,rfl⟩
 .rename_i hc
  exact .inr ⟨hc,rfl⟩
theorem q9k (a0:ZB) (a1:Int) (hp:0<=a1/\a1<ln a0/\ln a0<=1000000000):qol a0 a1:=by
 have h0:=qjx (l:=a0) (a:=a1) rfl
 unfold qol
 simp only [qbj,qcn,and_imp]
 unhygienic (repeat' (first | exact trivial | apply And.intro | intro))
 all_goals first
  | omega
  | exact Eq.trans ‹_› (qcc (by omega) (by omega) ‹_›)
  | (have hh:=qjx (Eq.trans ‹_› (qbu (by first | exact .inl (by omega) | exact .inr ‹_›)));omega)
theorem qxe {out:List Word} {w:Word} {r:List Word×Int}:qjb out (if r.2<0 then (w::r.1,-1) else ([],r.2))=qjb (out++[w]) r:=by
 unfold qjb
 by_cases h:r.2<0
 .rw [zT h,zT h,zT (show (-1:Int)<0 by decide),List.append_assoc];rfl
 .rw [zF h,zF h,zF h]
theorem zey {out:List Word}:qjb out ([],-1)=(out,-1):=by simp [qjb]
theorem q0t {out:List Word} {x:Int} (h:0<=x):qjb out ([],x)=([],x):=by
 unfold qjb;rw [zF (by show ¬ x<0;omega)]
section
variable {l:ZB} {f x:Int} {out:List Word} (hi:zp l f 0=qjb out (zp l f x))
 include hi
theorem q77 (h0:0<=x) (h1:x<ln l) (h:bx l x=32):zp l f 0=qjb out (zp l f (x+1)):=by rw [hi,zc8 h0 h1 h]
theorem qva (h:ln l<=x∨bx l x=59):zp l f 0=(out,-1):=by rw [hi,zky h,zey]
theorem qu9 (h0:0<=x) (h1:x<ln l) (h2:bx l x≠59) (h:(bx l x=34/\zg l x<0)∨(bx l x≠34/\bx l x≠32/\kh (bx l x)=false)):zp l f 0=([],x):=by rw [hi,zkx h1 h2 h h0,q0t h0]
theorem qvc {a e:Int} (ha:a=f+x) (h0:0<=x) (h1:x<ln l) (h:bx l x=34) (he:zg l x=e) (h3:0<=e):zp l f 0=qjb (out++[⟨a,sub l (x+1) (e-1),true⟩]) (zp l f e):=by
 rw [hi,zda h0 h1 h he h3,qxe,ha]
theorem qvb {a e:Int} (ha:a=f+x) (h0:0<=x) (h1:x<ln l) (h:kh (bx l x)=true) (he:zj kh l x=e):zp l f 0=qjb (out++[⟨a,sub l x e,false⟩]) (zp l f e):=by
 rw [hi,zc9 h0 h1 h he,qxe,ha]
end
theorem qyx (l:ZB) (f i:Int) (h:0<=i):(zp l f i).2 = -1∨(0<=(zp l f i).2/\(zp l f i).1=[]):=by
 have hg:=qb5 (p:=kf) (s:=l) (i:=i)
 fun_induction zp l f i with
 | case1 i h1=>exact .inl rfl
 | case2 i h1 h2 h3 h4 ih=>exact .inl rfl
 | case3 i h1 h2 h3 h4 ih=>
  refine .inr ⟨?_,rfl⟩
  show 0<=(zp l f _).2
  omega
 | case4 i h1 h2 h3=>exact .inr ⟨by show 0<=zj kf l i;omega,rfl⟩
 | case5 i h1 h2 h3 h4 h5 ih=>exact .inl rfl
 | case6 i h1 h2 h3 h4 h5 ih=>
  refine .inr ⟨?_,rfl⟩
  show 0<=(zp l f _).2
  omega
 | case7 i h1 h2 h3 h4=>exact .inr ⟨by show 0<=zj kf l i;omega,rfl⟩
 | case8 i h1 h2 h3=>exact .inr ⟨by show 0<=zj kf l i;omega,rfl⟩
theorem q0u {r:List Word×Int} (h:r.2 = -1∨(0<=r.2/\r.1=[])):r=qjb [] r:=by
 obtain ⟨a,b⟩:=r
 rcases h with h | ⟨h,h'⟩
 .cases h;rfl
 .cases h';rw [q0t h]
theorem zkt (a0:ZB) (a1:Int) (hp:ln a0<=1000/\0<=a1/\a1<=100000):q09 a0 a1:=by
 obtain ⟨p1,p2,p3⟩:=hp
 have hl:=zm a0
 unfold q09
 simp only [qds,qbk,qiv,qjn,and_imp,qjl]
 unhygienic (repeat' (first | exact trivial | apply And.intro | intro))
 all_goals first
  | omega
  | with_reducible exact zK _
  | exact qrd
  | exact q0u (qyx _ _ _ (zK 0))
  | exact q77 ‹_› (by omega) (by omega) (by omega)
  | exact qvc ‹_› rfl (by omega) (by omega) (by omega) rfl (by omega)
  | exact qvb ‹_› rfl (by omega) (by omega) ‹_› (Eq.trans ‹_› (qbu (by first | exact .inl (by omega) | exact .inr ‹_›)))
  | exact Eq.trans ‹_› (qcc (by omega) (by omega) ‹_›)
  | exact (congrArg Prod.fst (qva ‹_› (by omega))).symm
  | exact (congrArg Prod.snd (qva ‹_› (by omega))).symm
  | exact (congrArg Prod.fst (qu9 ‹_› (by omega) (by omega) (by omega) (by first | exact .inl (by omega) | exact .inr ⟨by omega,by omega,by assumption⟩))).symm
  | exact (congrArg Prod.snd (qu9 ‹_› (by omega) (by omega) (by omega) (by first | exact .inl (by omega) | exact .inr ⟨by omega,by omega,by assumption⟩))).symm
  | (have hb:=qwr (l:=a0) (a:=x1) (by omega) (by omega);omega)
  | exact qgp (by omega)
  | (have hg:=qw0 (p:=kh) (s:=a0) (i:=x1) (by omega) (by omega) ‹_›;have hs:=qbu (p:=kh) (s:=a0) (i:=x8) (by first | exact .inl (by omega) | exact .inr ‹_›);omega)
theorem q0r {out:List Row}:qga out ([],0,0)=(out,0,0):=by simp [qga]
theorem qrw {out:List Row} {e x:Int} (h:e≠0):qga out ([],e,x)=([],e,x):=by
 unfold qga;rw [zF h]
theorem qwy:∀ (l:List ZB) (x:Int),(qap l x).2=(0,0)∨((qap l x).2.1≠0/\(qap l x).1=[])
 | [],_=>.inl rfl
 | l::ls,x=>by
  unfold qap
  split
  .exact .inr ⟨show (4:Int)≠0 by decide,rfl⟩
  .split
   .exact .inr ⟨show (3:Int)≠0 by decide,rfl⟩
   .split
    .exact .inl rfl
    .exact .inr ⟨by assumption,rfl⟩
theorem q0s {r:List Row×Int×Int} (h:r.2=(0,0)∨(r.2.1≠0/\r.1=[])):r=qga [] r:=by
 obtain ⟨a,b⟩:=r
 rcases h with h | ⟨h,h'⟩
 .cases h;rfl
 .cases h';obtain ⟨b,c⟩:=b;rw [qrw h]
theorem qrq {L:List ZB} {line:ZB} {out:List Row} {R:List Row×Int×Int} {x:Int} (hi:R=qga out (qap (line::L) x)) :
  (1000<ln line->R=([],4,x))/\(ln line<=1000->0<=(zp line x 0).2->R=([],3,x+(zp line x 0).2))/\
  (ln line<=1000->(zp line x 0).2<0->R=qga (if (zp line x 0).1=[] then out else out++[⟨x,(zp line x 0).1⟩]) (qap L (x+ln line+1))):=by
 subst hi
 refine ⟨fun h=>?_,fun h h1=>?_,fun h h1=>?_⟩
 .rw [qap,zT h,qrw (by decide)]
 .rw [qap,zF (by omega),zT h1,qrw (by decide)]
 .rw [qap,zF (by omega),zF (by omega)]
  by_cases h2:(qap L (x+ln line+1)).2.1=0
  .rw [zT h2]
   unfold qga
   rw [zT rfl,zT h2]
   split
   .rfl
   .simp
  .rw [zF h2]
   unfold qga
   rw [zF h2,zF h2]
theorem qfb {a0:ZB} (h:ln a0<=20000):qb a0=qap (qa 10 a0) 0:=by unfold qb;rw [zF (by omega)]
theorem qwx {a0:ZB} (h:20000<ln a0):qb a0=([],4,20000):=by unfold qb;rw [zT h]
theorem zep {a0:ZB} {out:List Row} {x y:Int} {R:List Row×Int×Int} (h0:0<=x) (h1:x<=y) (h2:y<=ln a0) (hy:zj ql9 a0 x=y) (hi:R=if x<=ln a0 then qga out (qap (qa 10 (fr a0 x)) x) else (out,0,0)) :
  (1000<y-x->R=([],4,x))/\(y-x<=1000->0<=(zp (sub a0 x y) x 0).2->R=([],3,x+(zp (sub a0 x y) x 0).2))/\
  (y-x<=1000->(zp (sub a0 x y) x 0).2<0->R=if y+1<=ln a0 then qga (if (zp (sub a0 x y) x 0).1=[] then out else out++[⟨x,(zp (sub a0 x y) x 0).1⟩]) (qap (qa 10 (fr a0 (y+1))) (y+1))
    else (if (zp (sub a0 x y) x 0).1=[] then out else out++[⟨x,(zp (sub a0 x y) x 0).1⟩],0,0)):=by
 rw [zT (by omega)] at hi
 have hend:y=ln a0∨bx a0 y=10:=by
  by_cases h:y<ln a0
  .right
   have:=q0e (p:=ql9) (s:=a0) (i:=x) h0 (by rw [hy];exact h)
   rw [hy] at this
   exact qzo.1 this
  .left;omega
 have hall:∀ j,x<=j->j<y->bx a0 j≠10:=fun j h3 h4=>qzn.1 (q0d j h3 (by rw [hy];exact h4))
 have hs:=q0g (c:=10) h0 h1 h2 hall hend
 have hl:=qod h0 h1 h2
 by_cases h:y=ln a0
 .rw [zT h] at hs
  rw [hs] at hi
  obtain ⟨g1,g2,g3⟩:=qrq hi
  rw [hl] at g1 g2 g3
  refine ⟨g1,g2,fun h4 h5=>?_⟩
  rw [zF (by omega),g3 h4 h5]
  exact q0r
 .rw [zF h] at hs
  rw [hs] at hi
  obtain ⟨g1,g2,g3⟩:=qrq hi
  rw [hl] at g1 g2 g3
  refine ⟨g1,g2,fun h4 h5=>?_⟩
  rw [zT (by omega),g3 h4 h5]
  congr 2
  omega
theorem zkv (l:ZB) (f i:Int) (h0:0<=i) (h:i<=ln l):(zp l f i).2<=ln l:=by
 have hl:=zm l
 have hg:=qb5 (p:=kf) (s:=l) (i:=i)
 have hr:=qf1 (p:=kf) (s:=l) (i:=i) h
 fun_induction zp l f i with
 | case1 i h1=>show (-1:Int)<=_;omega
 | case2 i h1 h2 h3 h4 ih=>show (-1:Int)<=_;omega
 | case3 i h1 h2 h3 h4 ih=>exact ih (by omega) (by omega) qb5 (qf1 (by omega))
 | case4 i h1 h2 h3=>exact hr
 | case5 i h1 h2 h3 h4 h5 ih=>show (-1:Int)<=_;omega
 | case6 i h1 h2 h3 h4 h5 ih=>exact ih (by omega) (by omega) qb5 (qf1 (by omega))
 | case7 i h1 h2 h3 h4=>exact hr
 | case8 i h1 h2 h3=>exact hr
theorem q49 {α:Type} {l:List α} (h:0<ln l):¬ l=[]:=by rintro rfl;simp [ln] at h
theorem zlg {a0:ZB} {x y:Int} (h:zj ql9 a0 x=zj ql9 a0 y) (h2:ln a0<=y∨bx a0 y=10):zj ql9 a0 x=y:=
 h.trans (qbu (h2.imp id fun h=>qzo.2 h))
theorem zfa (a0:ZB):qua a0:=by
 have hl:=zm a0
 unfold qua
 simp only [qct,qav,qg8,qhy,and_imp,qjl]
 unhygienic (repeat' (first | exact trivial | apply And.intro | intro))
 all_goals first
  | omega
  | with_reducible exact zK _
  | exact qrd
  | exact qgp (by omega)
  | exact Eq.trans ‹_› (qcc (by omega) (by omega) (qzn.2 ‹_›))
  | (rw [qwx (by omega)];done)
  | (rw [zT (by omega),qto];exact q0s (qwy _ _))
  | (rw [qfb (by omega),a_4,zF (by omega)];done)
  | (rw [qod (by omega) (by omega) (by omega)];omega)
  | (have ST:=zep (a0:=a0) (out:=x1) (x:=x2) (y:=x5) (by omega) (by omega) (by omega) (zlg ‹_› (by omega)) ‹_›
     first
      | (rw [qfb (by omega),ST.1 (by omega)];done)
      | (rw [qfb (by omega),ST.2.1 (by omega) (by omega)];done)
      | exact (ST.2.2 (by omega) (by omega)).trans (by rw [zF (q49 (by omega))])
      | exact (ST.2.2 (by omega) (by omega)).trans (by rw [zT (q1r (by omega))]))
  | (have:=zkv (sub a0 x2 x5) x2 0 (by omega) (zm _);rw [qod (by omega) (by omega) (by omega)] at this;omega)
theorem q3s {b:Int} (h:js b=120) (h0:0<=b):b≠34/\b≠32/\b≠59/\kh b=false:=by
 have:=qtm.1 h
 exact ⟨by omega,by omega,by omega,q9c.2 (by omega)⟩
theorem qr9 {b:Int} (hx:js b≠120) (hq:js b≠113) (h1:b≠32) (h2:b≠59):kh b=true:=by
 have h3:=mt qtm.2 hx
 have h4:=mt qpa.2 hq
 exact qk1.2 (by omega)
theorem qmf {l:ZB} {x:Int} (h0:0<=x) (h1:x<ln l) :
  (0<x->bx l (x-1)≠32->zg l x = -1)/\(qf (fr l (x+1)) 34<0->zg l x = -1)/\
  (0<=qf (fr l (x+1)) 34->x+1+qf (fr l (x+1)) 34<ln l/\bx l (x+1+qf (fr l (x+1)) 34)=34/\
    (qaf (sub l (x+1) (x+1+qf (fr l (x+1)) 34))=false->zg l x = -1)/\
    (qaf (sub l (x+1) (x+1+qf (fr l (x+1)) 34))=true->(0<x->bx l (x-1)=32)->
      (x+qf (fr l (x+1)) 34+2<ln l->bx l (x+qf (fr l (x+1)) 34+2)≠32->bx l (x+qf (fr l (x+1)) 34+2)≠59->zg l x = -1)/\
      (ln l<=x+qf (fr l (x+1)) 34+2∨bx l (x+qf (fr l (x+1)) 34+2)=32∨bx l (x+qf (fr l (x+1)) 34+2)=59->zg l x=x+qf (fr l (x+1)) 34+2))):=by
 have hc:=qjx (l:=l) (a:=x) rfl
 have hg:=qb5 (p:=zr) (s:=l) (i:=x+1)
 have hle:=qf1 (p:=zr) (s:=l) (i:=x+1) (by omega)
 have hr:=q0e (p:=zr) (s:=l) (i:=x+1) (by omega)
 have hf:=za2 (l:=l) (i:=x+1) (by omega) (by omega)
 refine ⟨fun h2 h3=>by omega,fun h2=>?_,fun h2=>?_⟩
 .have hn:=qms (by decide) (by decide) h2
  by_cases hl:ln l<=zj zr l (x+1)
  .omega
  .have h3:=hn (zj zr l (x+1)-(x+1)) (by omega) (by omega)
   rw [zfx (by omega) (by omega),show x+1+(zj zr l (x+1)-(x+1))=zj zr l (x+1) by omega] at h3
   omega
 .obtain ⟨a1,a2,a3⟩:=qj5 (by decide) (by decide) h2
  generalize qf (fr l (x+1)) 34=n at *
  rw [zfx (by omega) h2] at a2
  refine ⟨by omega,a2,fun hq=>?_,fun hq hb=>?_⟩
  .have hlt:zj zr l (x+1)<x+1+n:=by
    apply Decidable.byContradiction
    intro hge
    have hle2:x+1+n<=ln l:=by omega
    have:qaf (sub l (x+1) (x+1+n))=true:=qjs.2 fun i h4 h5=>by
     rw [qod (l:=l) (i:=x+1) (j:=x+1+n) (by omega) (by omega) hle2] at h5
     rw [q75 (s:=l) (i:=x+1) (j:=x+1+n) (k:=i) (by omega) h4 (by omega)]
     exact q0d (i:=x+1) _ (by omega) (by omega)
    rw [this] at hq
    cases hq
   have h3:=a3 (zj zr l (x+1)-(x+1)) (by omega) (by omega)
   rw [zfx (by omega) (by omega),show x+1+(zj zr l (x+1)-(x+1))=zj zr l (x+1) by omega] at h3
   omega
  .have he:zj zr l (x+1)=x+1+n:=by
    refine zi3 (by omega) (by omega) (by omega) (fun j h4 h5=>?_) (.inr (by rw [a2];rfl))
    have:=qjs.1 hq (j-(x+1)) (by omega) (by rw [qod (by omega) (by omega) (by omega)];omega)
    rwa [q75 (by omega) (by omega) (by omega),show x+1+(j-(x+1))=j by omega] at this
   rw [he] at hc
   rw [show x+1+n+1=x+n+2 by omega] at hc
   rw [show x+1+n=x+n+1 by omega] at *
   constructor<;>intros<;>omega
theorem qxw {c:Int} {s:ZB} {k:Int} (h0:0<=k) (h:k<ln (qa c s)):ln (ix (qa c s) k)<=ln s:=qf3 (qix h0 h)
theorem qoo {L:List ZB} {k:Int} {out:List Row} {R:List Row×Int×Int} {x:Int} (h0:0<=k) (h1:k<ln L) (hi:R=qga out (qap (fr L k) x)) :
  (1000<ln (ix L k)->R=([],4,x))/\(ln (ix L k)<=1000->0<=(zp (ix L k) x 0).2->R=([],3,x+(zp (ix L k) x 0).2))/\
  (ln (ix L k)<=1000->(zp (ix L k) x 0).2<0->R=qga (if (zp (ix L k) x 0).1=[] then out else out++[⟨x,(zp (ix L k) x 0).1⟩]) (qap (fr L (k+1)) (x+(ln (ix L k)+1)))):=by
 rw [qd1 h0 h1] at hi
 have:=qrq hi
 rwa [Int.add_assoc] at this
theorem zgt {l:ZB} {f x y:Int} (h0:0<=x) (hxy:zj kf l x=zj kf l y) (hy:ln l<=y∨bx l y≠32):zp l f x=zp l f y:=by
 rw [qgc hy] at hxy
 rw [zp,hxy]
 have e:zj kf l y=y:=qgc hy
 exact (by rw [zp,e]:zp l f y=_).symm
theorem qzp {b:Int} (h:js b≠112):kh b=false:=by rw [<-Bool.not_eq_true];exact mt zaa.2 h
set_option maxHeartbeats 4000000 in
theorem zfd (a0:ZB):qub a0:=by
 have hl:=zm a0
 have hb:bx [10] 0=10:=rfl
 have hb2:ln ([10]:ZB)=1:=rfl
 have hc:=qre (s:=a0) (c:=10) (by decide) (by decide)
 have hd:=q03 a0 10
 unfold qub
 simp only [qal,z6,zc,qe,qg9,qhz,qcu,qd6,and_imp,qjl,hb,hb2]
 unhygienic (repeat' (first | exact trivial | apply And.intro | (intro;intros)))
 all_goals first
  | omega
  | exact qgp (by omega)
  | (rw [qwx (by omega)];done)
  | exact Eq.trans ‹_› (qcc (by omega) (by omega) (quu.2 ‹_›))
  | exact Eq.trans ‹_› (qcc (by omega) (by omega) (zaa.1 ‹_›))
  | (have:=qo4 (ix (qa 10 a0) x3) x10;omega)
  | (have:=qo4 (ix (qa 10 a0) x3) x18;omega)
  | (have h1:=qxw (s:=a0) (c:=10) (k:=x3) (by omega) (by omega);have h2:=zm (ix (qa 10 a0) x3);omega)
  | (have QP:=qmf (l:=ix (qa 10 a0) x3) (x:=x10) (by omega) (by omega);have Q:=QP.2.2 (by omega);have Q1:=Q.1;first | omega | (rw [qod (by omega) (by omega) (by omega)];omega))
  | (have hg:=qw0 (p:=kh) (s:=ix (qa 10 a0) x3) (i:=x10) (by omega) (by omega) (qr9 ‹_› ‹_› (by omega) (by omega));have hs:=qbu (p:=kh) (s:=ix (qa 10 a0) x3) (i:=x18) (by first | exact .inl (by omega) | exact .inr (qzp ‹_›));omega)
  | (have hx:=a_12.trans (congrArg (qjb x7) (zgt (by omega) ‹_› (by omega)))
     first
      | exact qvb hx (Int.add_comm _ _) (by omega) (by omega) (qr9 ‹_› ‹_› (by omega) (by omega)) (Eq.trans ‹_› (qbu (by first | exact .inl (by omega) | exact .inr (qzp ‹_›))))
      | (have QP:=qmf (l:=ix (qa 10 a0) x3) (x:=x10) (by omega) (by omega)
         exact qvc hx (Int.add_comm _ _) (by omega) (by omega) (qpa.1 ‹_›) (((QP.2.2 (by omega)).2.2.2 ‹_› (fun _=>by omega)).2 (by omega)) (by omega))
      | (have CE:=qva hx (by omega)
         have L1:=(qoo (by omega) (by omega) (by assumption:qap (qa 10 a0) 0=qga x1 (qap (fr (qa 10 a0) x3) x2))).2.2 (by omega) (by rw [CE];show (-1:Int)<0;decide)
         rw [CE] at L1
         first
          | exact L1.trans (by rw [zF (q49 (by omega))])
          | exact L1.trans (by rw [zT (q1r (by omega))]))
      | (have CB:=qu9 hx (by omega) (by omega) (by omega) (by
          first
           | (refine .inr ⟨?_,by omega,?_⟩
              .exact (q3s ‹_› (qo4 _ _).1).1
              .exact (q3s ‹_› (qo4 _ _).1).2.2.2)
           | (refine .inl ⟨qpa.1 ‹_›,?_⟩
              have QP:=qmf (l:=ix (qa 10 a0) x3) (x:=x10) (by omega) (by omega)
              first
               | (have:=QP.1 (by omega) (by omega);omega)
               | (have:=QP.2.1 (by omega);omega)
               | (have:=(QP.2.2 (by omega)).2.2.1 ‹_›;omega)
               | (have:=((QP.2.2 (by omega)).2.2.2 ‹_› (fun _=>by omega)).1 (by omega) (by omega) (by omega);omega)))
         have L1:=(qoo (by omega) (by omega) (by assumption:qap (qa 10 a0) 0=qga x1 (qap (fr (qa 10 a0) x3) x2))).2.1 (by omega) (by rw [CB];show (0:Int)<=x10;omega)
         rw [CB] at L1
         rw [qfb (by omega),L1]))
  | exact q0u (qyx _ _ _ (zK 0))
  | (rw [qto];exact q0s (qwy _ _))
  | (rw [qfb (by omega),a_6,qkn (by omega)];simp only [qap,q0r];done)
  | (rw [qfb (by omega),(qoo (by omega) (by omega) (by assumption:qap (qa 10 a0) 0=qga x1 (qap (fr (qa 10 a0) x3) x2))).1 (by omega)];done)
  | with_reducible exact zK _
  | exact qrd
  | with_reducible rfl
  | exact zK _
section
variable {a0 a1:List Row} {a2:Bool} {x y:Int}
end
section
variable {a b:Row} {off:Bool} {y:Int}
end
theorem q78 (l:ZB) (f i:Int) (h0:0<=i) (h:i<=ln l):ln (zp l f i).1<=ln l-i:=by
 have hg:=qb5 (p:=kf) (s:=l) (i:=i)
 have hr:=qf1 (p:=kf) (s:=l) (i:=i) h
 fun_induction zp l f i with
 | case1 i h1=>show ln ([]:List Word)<=_;rw [qeb];omega
 | case2 i h1 h2 h3 h4 ih=>
  have:=ih (by omega) (by omega) qb5 (qf1 (by omega))
  show ln (_::_)<=_
  rw [qau];omega
 | case3 i h1 h2 h3 h4 ih=>show ln ([]:List Word)<=_;rw [qeb];omega
 | case4 i h1 h2 h3=>show ln ([]:List Word)<=_;rw [qeb];omega
 | case5 i h1 h2 h3 h4 h5 ih=>
  have:=ih (by omega) (by omega) qb5 (qf1 (by omega))
  show ln (_::_)<=_
  rw [qau];omega
 | case6 i h1 h2 h3 h4 h5 ih=>show ln ([]:List Word)<=_;rw [qeb];omega
 | case7 i h1 h2 h3 h4=>show ln ([]:List Word)<=_;rw [qeb];omega
 | case8 i h1 h2 h3=>show ln ([]:List Word)<=_;rw [qeb];omega
theorem q6f:∀ (L:List ZB) (x:Int),ln (qap L x).1<=ln L/\∀ r ∈ (qap L x).1,ln r.Words<=1000
 | [],x=>⟨zK _,fun r h=>by cases h⟩
 | l::L,x=>by
  have hn:ln ([]:List Row)<=ln (l::L)/\∀ r ∈ ([]:List Row),ln r.Words<=1000:=⟨by rw [qeb];exact zm _,fun r h=>by cases h⟩
  have ih:=q6f L (x+ln l+1)
  unfold qap
  split
  .exact hn
  .split
   .exact hn
   .rename_i h1 h2
    have hw:=q78 l x 0 (zK 0) (zm l)
    split
    .split
     .exact ⟨by rw [qau];show ln (qap L _).1<=_;omega,ih.2⟩
     .refine ⟨by show ln (_::_)<=_;rw [qau,qau];omega,fun r hr=>?_⟩
      rcases zD.1 hr with rfl | hr
      .show ln (zp l x 0).1<=1000;omega
      .exact ih.2 r hr
    .exact hn
theorem qqb (a0:ZB):ln (qb a0).1<=20001/\∀ r ∈ (qb a0).1,ln r.Words<=1000:=by
 unfold qb
 split
 .exact ⟨by show ln ([]:List Row)<=_;rw [qeb];omega,fun r h=>by cases h⟩
 .have h1:=q6f (qa 10 a0) 0
  have h2:=qre (s:=a0) (c:=10) (by decide) (by decide)
  have h3:=q03 a0 10
  exact ⟨by omega,h1.2⟩
theorem q8e (a0 a1:Int) (hp:0<=a0/\0<=a1/\a0<=4611686018427387904/\a1<=4611686018427387904):qvg a0 a1:=by
 obtain ⟨h0,h1,h2,h3⟩:=hp
 refine ⟨fun h=>⟨?_,trivial⟩,fun h=>?_⟩
 .rw [h,qzc h0]
 .have t:=zbk h0 (show 0<a1 by omega)
  have q:=q2q h0 h1
  exact ⟨⟨h,by omega,by omega⟩,h,⟨⟨h1,t.1,h3,by omega⟩,by omega⟩,qzb h0 h1,trivial⟩
theorem zk8 (a0 a1:Int) (hp:0<=a0/\0<=a1/\a0<=4611686018427387904/\a1<=4611686018427387904):zau a0 a1:=by
 obtain ⟨h0,h1,h2,h3⟩:=hp
 refine ⟨⟨h0,h1,rfl⟩,fun x y ⟨i0,i1,i2⟩=>⟨fun h=>?_,fun h=>⟨?_,trivial⟩⟩⟩
 .have t:=zbk i0 h
  refine ⟨by omega,⟨i1,t.1,by rw [qzb i0 i1];exact i2⟩,?_⟩
  simp only [qjo];omega
 .have:y=0:=by omega
  subst this
  rw [<-i2,qzc i0]
theorem zb1 (a0 a1:Int):qqo a0 a1:=by
 unfold qqo qj
 unhygienic (repeat' (first | exact trivial | apply And.intro | intro))
 all_goals (try split)
 all_goals (try split)
 all_goals omega
theorem zby (a0 a1:Int):qqn a0 a1:=by
 have hg:1<=a1->1<=jg a0 a1:=fun h=>qvw h
 unfold qqn qj
 unhygienic (repeat' (first | exact trivial | apply And.intro | intro))
 all_goals (try split)
 all_goals (try split)
 all_goals omega
theorem zdh (a0:List Time) (hp:ln a0<=1000000000):qy4 a0:=by
 refine ⟨⟨by omega,zm _,rfl⟩,fun x ⟨i0,i1,i2⟩=>⟨fun h=>?_,fun h=>⟨?_,trivial⟩⟩⟩
 .rw [qd1 i0 h] at i2
  simp only [qgg] at i2
  refine ⟨⟨i0,h⟩,trivial,fun hc=>⟨?_,trivial⟩,fun hc=>⟨by omega,⟨by omega,by omega,?_⟩,?_⟩⟩
  .rw [zT hc] at i2;exact i2
  .rw [zF (by omega)] at i2;exact i2
  .simp only [qg0];omega
 .rw [qkn h] at i2;exact i2
theorem zh1 (a0 a1:Int) (hp:0<=a0/\1<=a1/\a0<=4611686018427387904/\a1<=4611686018427387904):zh0 a0 a1:=by
 obtain ⟨h0,h1,h2,h3⟩:=hp
 have g:=qvw (a:=a0) h1
 have q1:=q2q h0 (qsj a0 a1)
 have q2:=q2q (show 0<=a1 by omega) (qsj a0 a1)
 refine ⟨⟨h0,by omega,h2,h3⟩,⟨by omega,by omega,by omega⟩,⟨by omega,by omega,by omega⟩,fun h=>?_,fun h=>⟨fun h'=>?_,fun h'=>?_⟩⟩
 .have e:ofT a0 a1=(0,0,4):=by unfold ofT;rw [zT (.inl h)]
  rw [e];exact ⟨rfl,rfl,rfl,trivial⟩
 .have e:ofT a0 a1=(0,0,4):=by unfold ofT;rw [zT (.inr h')]
  rw [e];exact ⟨rfl,rfl,rfl,trivial⟩
 .have e:ofT a0 a1=(a0.tdiv (jg a0 a1),a1.tdiv (jg a0 a1),0):=by unfold ofT;rw [zF (by omega)]
  rw [e];exact ⟨rfl,rfl,rfl,trivial⟩
theorem ze5 (a0 a1:Int) (hp:0<=a0/\1<=a1/\a0<=4611686018427387904/\a1<=4611686018427387904):q22 a0 a1:=
 ⟨fun h=>absurd h (by omega),fun _=>⟨fun h=>absurd h (by omega),fun _=>⟨fun h=>absurd h (by omega),fun _=>zh1 a0 a1 hp⟩⟩⟩
theorem qnu {a0 a1 a2 a3:Int} (h1:qj a0 a1=0) (h2:qj a2 a3=0):I64 (a0 * a3)/\I64 (a2 * a1)/\I64 ((a0 * a3)+(a2 * a1))/\I64 (a1 * a3)/\
  (0<=((a0 * a3)+(a2 * a1))/\1<=(a1 * a3)/\((a0 * a3)+(a2 * a1))<=4611686018427387904/\(a1 * a3)<=4611686018427387904)/\I64 ((a0 * a3)-(a2 * a1)):=by
 have b1:=qj3 h1
 have b2:=qj3 h2
 have p1:=q8v b1.1 b1.2.1 (show 0<=a3 by omega) b2.2.2.2
 have p2:=q8v b2.1 b2.2.1 (show 0<=a1 by omega) b1.2.2.2
 have p3:=zor b1.2.2.1 b2.2.2.1
 have p4:=q8v (show 0<=a1 by omega) b1.2.2.2 (show 0<=a3 by omega) b2.2.2.2
 omega
theorem zjm (a0 a1 a2 a3:Int):q91 a0 a1 a2 a3:=by
 refine ⟨trivial,fun h=>⟨fun _=>?_,fun h'=>absurd h' h⟩,fun h=>⟨trivial,fun h'=>?_,fun h'=>?_⟩⟩
 .have e:ke a0 a1 a2 a3=(0,0,qj a0 a1):=by unfold ke;rw [zT h]
  rw [e];exact ⟨rfl,rfl,rfl,trivial⟩
 .have e:ke a0 a1 a2 a3=(0,0,qj a2 a3):=by unfold ke;rw [zF (by omega),zT h']
  rw [e];exact ⟨rfl,rfl,rfl,trivial⟩
 .have e:ke a0 a1 a2 a3=ofT (a0 * a3+a2 * a1) (a1 * a3):=by unfold ke;rw [zF (by omega),zF (by omega)]
  obtain ⟨b1,b2,b3,b4,b5,_⟩:=qnu h h'
  rw [e];exact ⟨b1,b2,b3,b4,b5,rfl,rfl,rfl,trivial⟩
theorem zjp (a0 a1 a2 a3:Int):q92 a0 a1 a2 a3:=by
 have hl:ln [Time.mk a0 a1,Time.mk a2 a3]=2:=rfl
 refine ⟨trivial,trivial,by omega,fun h=>?_,fun h=>?_⟩
 .rw [qy5] at h ⊢
  by_cases h1:qj a0 a1≠0
  .have e:ke a0 a1 a2 a3=(0,0,qj a0 a1):=by unfold ke;rw [zT h1]
   rw [e,zT h1];exact ⟨rfl,rfl,rfl,trivial⟩
  .rw [zF h1] at h ⊢
   have e:ke a0 a1 a2 a3=(0,0,qj a2 a3):=by unfold ke;rw [zF h1,zT h]
   rw [e];exact ⟨rfl,rfl,rfl,trivial⟩
 .rw [qy5] at h
  have h1:qj a0 a1=0:=by
   by_cases h1:qj a0 a1≠0
   .rw [zT h1] at h;exact h
   .omega
  rw [zF (by omega)] at h
  have e:ke a0 a1 a2 a3=ofT (a0 * a3+a2 * a1) (a1 * a3):=by unfold ke;rw [zF (by omega),zF (by omega)]
  obtain ⟨b1,b2,b3,b4,b5,_⟩:=qnu h1 h
  rw [e];exact ⟨b1,b2,b3,b4,b5,rfl,rfl,rfl,trivial⟩
theorem zbv (a0 a1 a2:Int):qqm a0 a1 a2:=by
 unfold qqm kg
 unhygienic (repeat' (first | exact trivial | apply And.intro | intro))
 all_goals (try split)
 all_goals omega
theorem q66 (a0 a1 a2:Int):qnq a0 a1 a2:=by
 unfold qnq kg
 unhygienic (repeat' (first | exact trivial | apply And.intro | intro))
 all_goals (try split)
 all_goals omega
section
variable {a0 a1 a2 a3 a4 a5 a6:Int} {a7:Bool} {a8 a9:Int}
theorem zm8 (h:qj a0 a1≠0):qb4 ⟨a0,a1,a2,a3,a4,a5,a6,a7,a8,a9⟩=qj a0 a1:=by simp [qb4,h]
theorem zm9 (h:qj a0 a1=0) (h2:qj a2 a3≠0):qb4 ⟨a0,a1,a2,a3,a4,a5,a6,a7,a8,a9⟩=qj a2 a3:=by simp [qb4,h,h2]
theorem zna (h:qj a0 a1=0) (h2:qj a2 a3=0) (h3:a2=0):qb4 ⟨a0,a1,a2,a3,a4,a5,a6,a7,a8,a9⟩=2:=by subst h3;simp [qb4,h,h2]
theorem znb (h:qj a0 a1=0) (h2:qj a2 a3=0) (h3:a2≠0) (h4:a7=true) (h5:a4≠0∨(a5≠0∨a6≠0)):qb4 ⟨a0,a1,a2,a3,a4,a5,a6,a7,a8,a9⟩=3:=by
 unfold qb4
 dsimp only
 rw [zF (by omega),zF (by omega),zF h3,zT ⟨h4,h5⟩]
theorem znc (h:qj a0 a1=0) (h2:qj a2 a3=0) (h3:a2≠0) (h4:a7=true) (h5:a4=0/\(a5=0/\a6=0)):qb4 ⟨a0,a1,a2,a3,a4,a5,a6,a7,a8,a9⟩=if a8<0∨a9<0 then 2 else 0:=by
 unfold qb4
 dsimp only
 rw [zF (by omega),zF (by omega),zF h3,zF (fun hh=>by have:=hh.2;omega),zF (fun hh=>by rw [h4] at hh;cases hh.1)]
theorem znd (h:qj a0 a1=0) (h2:qj a2 a3=0) (h3:a2≠0) (h4:a7=false) (h5:kg a4 a5 a6≠0):qb4 ⟨a0,a1,a2,a3,a4,a5,a6,a7,a8,a9⟩=kg a4 a5 a6:=by
 unfold qb4
 dsimp only
 rw [zF (by omega),zF (by omega),zF h3,zF (fun hh=>by rw [h4] at hh;cases hh.1),zT ⟨h4,h5⟩]
theorem zne (h:qj a0 a1=0) (h2:qj a2 a3=0) (h3:a2≠0) (h4:a7=false) (h5:kg a4 a5 a6=0):qb4 ⟨a0,a1,a2,a3,a4,a5,a6,a7,a8,a9⟩=if a8<0∨a9<0 then 2 else 0:=by
 unfold qb4
 dsimp only
 rw [zF (by omega),zF (by omega),zF h3,zF (fun hh=>by rw [h4] at hh;cases hh.1),zF (fun hh=>hh.2 h5)]
end
theorem qem {x:Event} {n d e:Int} (h:qb4 x=e) (he:e≠0):qdl x n d=e:=by unfold qdl;rw [h,zT he]
theorem qwk {x:Event} {n d:Int} (h:qb4 x=0) (h2:x.AtN≠n∨x.AtD≠d):qdl x n d=6:=by unfold qdl;rw [zF (by omega),zT h2]
theorem qp2 {x:Event} {n d:Int} (h:qb4 x=0) (h2:x.AtN=n/\x.AtD=d):qdl x n d=(ke x.AtN x.AtD x.DurN x.DurD).2.2:=by unfold qdl;rw [zF (by omega),zF (by omega)]
theorem zlv (a0 a1 a2 a3 a4 a5 a6:Int) (a7:Bool) (a8 a9:Int):zbb a0 a1 a2 a3 a4 a5 a6 a7 a8 a9:=by
 have hl:ln [Time.mk a0 a1,Time.mk a2 a3]=2:=rfl
 refine ⟨trivial,trivial,⟨by omega,by omega,fun h=>by omega,fun h=>by omega⟩,fun x ⟨i0,i1,i2,i3⟩=>⟨fun h=>?_,fun h=>?_⟩⟩
 .rcases (show x=0∨x=1 by omega) with rfl | rfl
  .refine ⟨⟨by omega,by omega⟩,trivial,fun hc=>⟨(zm8 hc).symm,trivial⟩,fun hc=>⟨by omega,rfl,rfl,rfl,rfl,rfl,rfl,rfl,rfl,rfl,rfl,⟨by omega,by omega,fun _=>hc,fun h=>by omega⟩,?_⟩⟩
   simp only [qhb];omega
  .refine ⟨⟨by omega,by omega⟩,trivial,fun hc=>⟨(zm9 (i2 (by omega)) hc).symm,trivial⟩,fun hc=>⟨by omega,rfl,rfl,rfl,rfl,rfl,rfl,rfl,rfl,rfl,rfl,⟨by omega,by omega,fun _=>i2 (by omega),fun _=>hc⟩,?_⟩⟩
   simp only [qhb];omega
 .have c1:=i2 (by omega)
  have c2:=i3 (by omega)
  refine ⟨fun h3=>⟨(zna c1 c2 h3).symm,trivial⟩,fun h3=>⟨fun h4=>⟨fun h5=>⟨(znb c1 c2 h3 h4 h5).symm,trivial⟩,fun h5=>?_⟩,fun h4=>⟨trivial,fun h5=>⟨(znd c1 c2 h3 h4 h5).symm,trivial⟩,fun h5=>?_⟩⟩⟩
  .rw [znc c1 c2 h3 h4 h5]
   refine ⟨fun h6=>⟨?_,trivial⟩,fun h6=>⟨fun h7=>⟨?_,trivial⟩,fun h7=>⟨?_,trivial⟩⟩⟩
   .rw [zT (.inl h6)]
   .rw [zT (.inr h7)]
   .rw [zF (by omega)]
  .rw [zne c1 c2 h3 h4 h5]
   refine ⟨fun h6=>⟨?_,trivial⟩,fun h6=>⟨fun h7=>⟨?_,trivial⟩,fun h7=>⟨?_,trivial⟩⟩⟩
   .rw [zT (.inl h6)]
   .rw [zT (.inr h7)]
   .rw [zF (by omega)]
theorem zh3 (a0 a1 a2 a3 a4 a5 a6:Int) (a7:Bool) (a8 a9 a10 a11:Int):q5r a0 a1 a2 a3 a4 a5 a6 a7 a8 a9 a10 a11:=by
 refine ⟨trivial,fun c1=>⟨(qem (zm8 c1) c1).symm,trivial⟩,fun c1=>⟨trivial,fun c2=>⟨(qem (zm9 c1 c2) c2).symm,trivial⟩,fun c2=>⟨fun h3=>⟨(qem (zna c1 c2 h3) (by omega)).symm,trivial⟩,fun h3=>⟨fun h4=>⟨fun h5=>⟨(qem (znb c1 c2 h3 h4 h5) (by omega)).symm,trivial⟩,fun h5=>?_⟩,fun h4=>⟨trivial,fun h5=>⟨(qem (znd c1 c2 h3 h4 h5) h5).symm,trivial⟩,fun h5=>?_⟩⟩⟩⟩⟩
 .have e:=znc (a8:=a8) (a9:=a9) c1 c2 h3 h4 h5
  refine ⟨fun h6=>⟨?_,trivial⟩,fun h6=>⟨fun h7=>⟨?_,trivial⟩,fun h7=>⟨fun h8=>⟨?_,trivial⟩,fun h8=>⟨trivial,?_,trivial⟩⟩⟩⟩
  .rw [zT (.inl h6)] at e;exact (qem e (by omega)).symm
  .rw [zT (.inr h7)] at e;exact (qem e (by omega)).symm
  .rw [zF (by omega)] at e;exact (qwk e h8).symm
  .rw [zF (by omega)] at e;exact (qp2 e h8).symm
 .have e:=zne (a8:=a8) (a9:=a9) c1 c2 h3 h4 h5
  refine ⟨fun h6=>⟨?_,trivial⟩,fun h6=>⟨fun h7=>⟨?_,trivial⟩,fun h7=>⟨fun h8=>⟨?_,trivial⟩,fun h8=>⟨trivial,?_,trivial⟩⟩⟩⟩
  .rw [zT (.inl h6)] at e;exact (qem e (by omega)).symm
  .rw [zT (.inr h7)] at e;exact (qem e (by omega)).symm
  .rw [zF (by omega)] at e;exact (qwk e h8).symm
  .rw [zF (by omega)] at e;exact (qp2 e h8).symm
theorem qu6 {a0:List Event} {x n d:Int} (hl:ln a0<=2000) (h0:0<=x) (h1:x<ln a0) (hi:qcy (fr a0 x) x n d=qcy a0 0 0 1) :
  (qdl (ix a0 x) n d≠0->z8 a0=(qdl (ix a0 x) n d,x))/\(qdl (ix a0 x) n d=0->qcy (fr a0 (x+1)) (x+1) (ke (ix a0 x).AtN (ix a0 x).AtD (ix a0 x).DurN (ix a0 x).DurD).1 (ke (ix a0 x).AtN (ix a0 x).AtD (ix a0 x).DurN (ix a0 x).DurD).2.1=qcy a0 0 0 1):=by
 rw [qd1 h0 h1] at hi
 simp only [qcy] at hi
 refine ⟨fun h=>?_,fun h=>?_⟩
 .rw [zT h] at hi
  unfold z8
  rw [zF (by omega)]
  exact hi.symm
 .rw [zF (by omega)] at hi
  exact hi
theorem qyt {a0:List Event} {x n d:Int} (hl:ln a0<=2000) (h1:ln a0<=x) (hi:qcy (fr a0 x) x n d=qcy a0 0 0 1):z8 a0=(0,0):=by
 rw [qkn h1] at hi
 unfold z8
 rw [zF (by omega)]
 exact hi.symm
theorem qu5 {a0:List Event} (h:2000<ln a0):z8 a0=(11,0):=by unfold z8;rw [zT h]
theorem zbs (a0:List Event) (hp:ln a0<=1000000000):qya a0:=by
 refine ⟨fun h=>?_,fun hl=>⟨⟨by omega,zm _,rfl⟩,fun x n d ⟨i0,i1,i2⟩=>⟨fun h=>?_,fun h=>?_⟩⟩⟩
 .rw [qu5 h];exact ⟨rfl,rfl,trivial⟩
 .obtain ⟨s1,s2⟩:=qu6 hl i0 h i2
  refine ⟨⟨i0,h⟩,trivial,fun hc=>?_,fun hc=>⟨fun ho=>?_,fun ho=>⟨trivial,fun ha=>?_,fun ha=>⟨by omega,⟨by omega,by omega,?_⟩,?_⟩⟩⟩⟩
  .have e:qdl (ix a0 x) n d=qb4 (ix a0 x):=qem rfl hc
   rw [s1 (by rw [e];exact hc),e]
   exact ⟨rfl,rfl,trivial⟩
  .have e:qdl (ix a0 x) n d=6:=qwk hc ho
   rw [s1 (by rw [e];omega),e]
   exact ⟨rfl,rfl,trivial⟩
  .have e:qdl (ix a0 x) n d=_:=qp2 hc ho
   rw [s1 (by rw [e];exact ha),e]
   exact ⟨rfl,rfl,trivial⟩
  .have e:qdl (ix a0 x) n d=_:=qp2 hc ho
   exact s2 (by rw [e];exact ha)
  .simp only [qgx];omega
 .rw [qyt hl h i2];exact ⟨rfl,rfl,trivial⟩
theorem q62 (a0:List Event) (hp:ln a0<=1000000000):qty a0:=by
 refine ⟨fun h=>?_,fun hl=>⟨⟨by omega,zm _,rfl⟩,fun x n d ⟨i0,i1,i2⟩=>⟨fun h=>?_,fun h=>?_⟩⟩⟩
 .rw [qu5 h];exact ⟨rfl,rfl,trivial⟩
 .obtain ⟨s1,s2⟩:=qu6 hl i0 h i2
  refine ⟨⟨i0,h⟩,trivial,fun hc=>?_,fun hc=>⟨⟨i0,h⟩,⟨i0,h⟩,trivial,by omega,⟨by omega,by omega,s2 hc⟩,?_⟩⟩
  .rw [s1 hc]
   exact ⟨rfl,rfl,trivial⟩
  .simp only [qft];omega
 .rw [qyt hl h i2];exact ⟨rfl,rfl,trivial⟩
theorem qxm (a0 a1:List Event) (hp:ln a0<=1000000000):qnb a0 a1:=by
 refine ⟨fun h=>⟨(q0f fun he=>h (by rw [he])).symm,trivial⟩,fun hl=>⟨⟨by omega,zm _,fun j j0 j1=>by omega⟩,fun x ⟨i0,i1,i2⟩=>⟨fun h=>⟨⟨i0,h⟩,⟨i0,by omega⟩,fun hc=>⟨(q0f fun he=>?_).symm,trivial⟩,fun hc=>⟨by omega,⟨by omega,by omega,fun j j0 j1=>?_⟩,?_⟩⟩,fun h=>⟨(qw3 (q45 hl fun j j0 j1=>i2 j j0 (by omega))).symm,trivial⟩⟩⟩⟩
 .subst he
  simp at hc
 .obtain ⟨c1,c2,c3,c4,c5,c6,c7,c8,c9,c10⟩:=hc
  by_cases hj:j=x
  .subst hj
   exact q4e c1 c2 c3 c4 c5 c6 c7 c8 c9 c10
  .exact i2 j j0 (by omega)
 .simp only [qdj];omega
theorem q0w (a0:List Event) (hp:ln a0<=100000000):qoy a0:=⟨by simp only [ln,qn,List.length_nil] at *;omega,rfl,trivial⟩
theorem zhw {s:ZB} {i n:Int} (h0:0<=i) (h:i<ln s) (h1:48<=bx s i) (h2:bx s i<=57) (h3:10 * n+(bx s i-48)<=1099511627776):qf9 s i n=qf9 s (i+1) (10 * n+(bx s i-48)):=by
 conv=>lhs;rw [qf9]
 have hd:qm6 (bx s i)=true:=by simp [qm6,h1,h2]
 rw [dif_pos ⟨h0,h⟩,zT hd,zF (by omega)]
theorem zlo {s:ZB} {i n:Int} (h0:0<=i) (h:i<ln s) (h1:bx s i<48∨57<bx s i):qf9 s i n=(0,false):=by
 rw [qf9]
 have hd:¬ qm6 (bx s i)=true:=by simp only [qm6,zA,decide_eq_true_eq];omega
 rw [dif_pos ⟨h0,h⟩,zF hd]
theorem zlp {s:ZB} {i n:Int} (h0:0<=i) (h:i<ln s) (h1:48<=bx s i) (h2:bx s i<=57) (h3:1099511627776<10 * n+(bx s i-48)):qf9 s i n=(0,false):=by
 rw [qf9]
 have hd:qm6 (bx s i)=true:=by simp [qm6,h1,h2]
 rw [dif_pos ⟨h0,h⟩,zT hd,zT (by omega)]
theorem zlq {s:ZB} {i n:Int} (h:ln s<=i):qf9 s i n=(n,true):=by
 rw [qf9,dif_neg (by omega)]
theorem qp0 {s:ZB} (h:s=[]∨(bx s 0=48/\1<ln s)):zb s=(0,false):=by
 unfold zb
 rw [zT]
 rcases h with rfl | h
 .exact .inl rfl
 .exact .inr h
theorem q5j {s:ZB} (h:s≠[]) (h':¬ (bx s 0=48/\1<ln s)):qf9 s 0 0=zb s:=by
 unfold zb
 rw [zF]
 have:=q1p h
 rintro (h1 | h1)
 .omega
 .exact h' h1
theorem q5h {s:ZB} {i n:Int} (h:qf9 s i n=zb s) (h0:0<=i) (h1:i<ln s) (hb:bx s i<48∨57<bx s i∨1099511627776<10 * n+(bx s i-48)):zb s=(0,false):=by
 rw [<-h]
 by_cases h2:bx s i<48∨57<bx s i
 .exact zlo h0 h1 h2
 .exact zlp h0 h1 (by omega) (by omega) (by omega)
theorem q5g {s:ZB} {i n:Int} (h:qf9 s i n=zb s) (h1:ln s<=i):zb s=(n,true):=by rw [<-h];exact zlq h1
theorem q5i {s:ZB} {i n:Int} (h:qf9 s i n=zb s) (h0:0<=i) (h1:i<ln s) (h2:48<=bx s i) (h3:bx s i<=57) (h4:10 * n+(bx s i-48)<=1099511627776):qf9 s (i+1) (10 * n+(bx s i-48))=zb s:=by
 rw [<-h];exact (zhw h0 h1 h2 h3 h4).symm
set_option maxHeartbeats 4000000 in
theorem q7h (a0:ZB) (hp:ln a0<=1000):qns a0:=by
 unfold qns
 simp only [qbh,qcm,and_imp]
 have hn:a0≠[]->0<ln a0:=q1p
 unhygienic (repeat' (first | exact trivial | exact And.intro (by omega) trivial | apply And.intro | intro))
 all_goals first
  | omega
  | (have:=hn ‹_›;omega)
  | (rw [qp0 (.inl ‹_›)];done)
  | (rw [qp0 (.inr ⟨by assumption,by assumption⟩)];done)
  | (rw [q5h ‹_› ‹_› ‹_› (by omega)];done)
  | (rw [q5g ‹_› ‹_›];done)
  | exact q5i ‹_› ‹_› ‹_› ‹_› ‹_› ‹_›
  | exact q5j ‹_› (by omega)
  | exact zK _
  | (have:=hn ‹_›;omega)
set_option maxHeartbeats 4000000 in
theorem q7e (a0:ZB) (hp:ln a0<=1000):qnr a0:=by
 unfold qnr
 simp only [qbg,qcl,and_imp]
 have hn:a0≠[]->0<ln a0:=q1p
 unhygienic (repeat' (first | exact trivial | exact And.intro (by omega) trivial | apply And.intro | intro))
 all_goals first
  | omega
  | (have:=hn ‹_›;omega)
  | (rw [qp0 (.inl ‹_›)];done)
  | (rw [qp0 (.inr ⟨by assumption,by assumption⟩)];done)
  | (rw [q5h ‹_› ‹_› ‹_› (by omega)];done)
  | (rw [q5g ‹_› ‹_›];done)
  | exact q5i ‹_› ‹_› ‹_› ‹_› ‹_› ‹_›
  | exact q5j ‹_› (by omega)
  | exact zK _
  | (have:=hn ‹_›;omega)
theorem zkz {a n:Int} {s:ZB} (h:ju a n s) (ha:a<=9223372036854775807):ln s<=21:=by
 obtain ⟨h0,h1,h2⟩:=h
 have hl:=qfi (n:=a) (by omega) ha
 rcases h2 with ⟨rfl,_⟩ | ⟨_,h3,h4⟩
 .decide
 .by_cases hn:0<n
  .rw [h3 hn,qzh] at hl
   have:=zm (qx n)
   omega
  .rw [h4 (by omega)] at hl
   exact hl
theorem zgu {n:Int} (h:0<=n):UInt8.ofNat (Int.toNat (48+Int.tmod n 10))=UInt8.ofNat (48+(Int.tmod n 10).toNat):=by
 have:=qpf h
 congr 1
 omega
theorem q30 {a n:Int} {s:ZB} (h:ju a n s) (hn:0<n∨s=[]):ju a (Int.tdiv n 10) ([UInt8.ofNat (Int.toNat (48+Int.tmod n 10))]++s):=by
 obtain ⟨h0,h1,h2⟩:=h
 have hm:=qpf h0
 have e0:n<=9->qx n=[UInt8.ofNat (48+(Int.tmod n 10).toNat)]:=fun h9=>by rw [qn1 h0 h9,hm.2.2.2.2.2.2.2 h9]
 have e1:∀ h9:9<n,qx n=qx (Int.tdiv n 10)++[UInt8.ofNat (48+(Int.tmod n 10).toNat)]:=fun h9=>q3z h9
 rw [zgu h0]
 refine ⟨hm.2.2.1,by omega,.inr ⟨by simp,fun hp=>?_,fun hz=>?_⟩⟩
 .have h9:9<n:=by
   by_cases hc:n<=9
   .rw [hm.2.2.2.2.2.2.1 hc] at hp;omega
   .omega
  rcases h2 with ⟨rfl,rfl⟩ | ⟨_,h3,_⟩
  .rw [e1 h9,zJ]
  .rw [h3 (by omega),e1 h9,List.append_assoc]
 .have h9:n<=9:=by
   by_cases hc:9<n
   .have:=hm.2.2.2.2.2.1 hc;omega
   .omega
  rcases h2 with ⟨rfl,rfl⟩ | ⟨hne,h3,_⟩
  .rw [e0 h9,zJ]
  .rw [h3 (by rcases hn with hn | hn;exact hn;exact absurd hn hne),e0 h9]
theorem zai {a n:Int} {s:ZB} (h:ju a n s) (hn:0<n∨s=[]):qa3 a (Int.tdiv n 10) ([UInt8.ofNat (Int.toNat (48+Int.tmod n 10))]++s)<qa3 a n s:=by
 have hm:=qpf h.1
 unfold qa3
 rw [zF (by simp)]
 rcases hn with hn | hn
 .have:=hm.2.2.2.2.1 hn
  split<;>omega
 .rw [zT hn];omega
theorem q8b (a0:Int) (hp:(0:Int)<=a0/\(a0:Int)<=9223372036854775807):qve a0:=by
 have hs:∀ {n:Int} {s:ZB} (_:ju a0 n s) (x:UInt8),qn (List.length [x]+List.length s):=fun h x=>by
  have:=zkz h hp.2
  simp only [ln,qn,List.length_cons,List.length_nil] at *
  omega
 have hi:∀ {n:Int} {s:ZB} (_:ju a0 n s),I64 (48+Int.tmod n 10)/\U8 (48+Int.tmod n 10)/\I64 (Int.tdiv n 10):=fun h=>by
  have:=qpf h.1
  have:=h.2.1
  simp only [I64,U8]
  omega
 refine ⟨⟨hp.1,zK _,.inl ⟨rfl,rfl⟩⟩,fun n s h=>⟨fun hn=>?_,fun hn=>⟨fun hn'=>?_,fun hn'=>?_⟩⟩⟩
 .obtain ⟨q1,q2,q3⟩:=hi h
  exact ⟨by decide,q1,q2,q2,hs h _,⟨by decide,q3⟩,q30 h (.inl hn),zai h (.inl hn)⟩
 .obtain ⟨q1,q2,q3⟩:=hi h
  exact ⟨by decide,q1,q2,q2,hs h _,⟨by decide,q3⟩,q30 h (.inr hn'),zai h (.inr hn')⟩
 .obtain ⟨h0,h1,h2⟩:=h
  rcases h2 with ⟨h3,_⟩ | ⟨_,_,h4⟩
  .exact absurd h3 hn'
  .exact ⟨(h4 (by omega)).symm,trivial⟩
theorem q8z (a0:Int) (hp:(0:Int)<=a0/\(a0:Int)<=9223372036854775807):qwi a0:=by
 have hm:=qpf hp.1
 refine ⟨fun h=>?_,fun h=>?_⟩
 .have l1:=qfi (n:=Int.tdiv a0 10) hm.2.2.1 (by omega)
  have l2:=qfi (n:=Int.tmod a0 10) hm.1 (by omega)
  have e2:qx (Int.tmod a0 10)=[UInt8.ofNat (48+(Int.tmod a0 10).toNat)]:=qn1 hm.1 hm.2.1
  refine ⟨⟨by decide,by simp only [I64];omega⟩,⟨⟨hm.2.2.1,by omega⟩,by omega⟩,by decide,⟨⟨hm.1,by omega⟩,by omega⟩,qrt (by omega),?_,trivial⟩
  rw [e2]
  exact (q3z h).symm
 .refine ⟨by simp only [I64];omega,⟨hp.1,by omega,by show a0+1<=10;omega⟩,?_,trivial⟩
  obtain ⟨k,rfl⟩:=Int.eq_ofNat_of_zero_le hp.1
  rw [qn1 hp.1 h]
  have hk:k<=9:=by omega
  match k,hk with
  | 0,_=>rfl
  | 1,_=>rfl
  | 2,_=>rfl
  | 3,_=>rfl
  | 4,_=>rfl
  | 5,_=>rfl
  | 6,_=>rfl
  | 7,_=>rfl
  | 8,_=>rfl
  | 9,_=>rfl
  | k+10,hk=>omega
theorem q3d (a0 a1:Int):q3c a0 a1:=by
 refine ⟨trivial,fun h=>?_,fun h=>⟨fun h1=>?_,fun h1=>?_⟩⟩
 .unfold ze;rw [zT h];exact ⟨rfl,rfl,trivial⟩
 .have hb:=qj3 h
  unfold ze;rw [zF (by omega),zT h1]
  exact ⟨⟨hb.1,by omega⟩,rfl,rfl,trivial⟩
 .have hb:=qj3 h
  have l1:=qfi (n:=a0) hb.1 (by omega)
  have l2:=qfi (n:=a1) (by omega) (by omega)
  unfold ze;rw [zF (by omega),zF h1]
  refine ⟨⟨hb.1,by omega⟩,qgp (by omega),⟨by omega,by omega⟩,qrt (by rw [qjl];omega),rfl,rfl,trivial⟩
theorem zfm (a0 a1:Int):q3b a0 a1:=q3d a0 a1
theorem qzq {a0:ZB} (hp:ln a0<=1000) (hh:¬ qkp a0):∀ x3:Int,∀ x4:ZB,∀ x5:Int,(je a0 x3 x4 x5->
    ((x5<(ln x4)->
     (((jx x4 x5)<48->
      ((0:Int)=((ku a0).1))/\
      (false=((ku a0).2))/\
      True))/\
     (48<=(jx x4 x5)->
      ((57<(jx x4 x5)->
       ((0:Int)=((ku a0).1))/\
       (false=((ku a0).2))/\
       True))/\
      ((jx x4 x5)<=57->
       (I64 (10 * x3))/\
       (InK .i32 ((jx x4 x5)-48))/\
       (I64 ((jx x4 x5)-48))/\
       (I64 ((10 * x3)+((jx x4 x5)-48)))/\
       ((288230376151711744<((10 * x3)+((jx x4 x5)-48))->
        (je a0 288230376151711744 x4 (qfc x4 x5))/\
        zy a0 288230376151711744 x4 (qfc x4 x5)<zy a0 x3 x4 x5))/\
       (((10 * x3)+((jx x4 x5)-48))<=288230376151711744->
        (je a0 ((10 * x3)+((jx x4 x5)-48)) x4 (qfc x4 x5))/\
        zy a0 ((10 * x3)+((jx x4 x5)-48)) x4 (qfc x4 x5)<zy a0 x3 x4 x5)))))/\
    ((ln x4)<=x5->
     ((x3:Int)=((ku a0).1))/\
     (true=((ku a0).2))/\
     True)):=by
 rintro n s i ⟨rfl,i0,i1,n0,n1,hc⟩
 have hT:ku s=qxz s 0:=by unfold ku;rw [zF hh]
 refine ⟨fun hlt=>?_,fun hge=>?_⟩
 .have hr:=qk4 i0 hlt
  have bad:(bx s i<48∨57<bx s i)->ku s=(0,false):=fun hb=>by rw [hT,<-hc,qpz n0 n1,qvf i0 hlt hb,zF (by simp)]
  refine ⟨fun h=>?_,fun h=>⟨fun h2=>?_,fun h2=>?_⟩⟩
  .rw [bad (by omega)];exact ⟨rfl,rfl,trivial⟩
  .rw [bad (by omega)];exact ⟨rfl,rfl,trivial⟩
  .have e1:jx s i=bx s i:=by omega
   have e2:qfc s i=i+1:=by omega
   rw [e1] at h h2
   rw [e1,e2]
   have hstep:qxz (fr s i) n=qxz (fr s (i+1)) (if 288230376151711744<10 * n+(bx s i-48) then 288230376151711744 else 10 * n+(bx s i-48)):=by
    rw [qd1 i0 hlt]
    simp only [qxz]
    rw [<-qyq,zT (qin.2 ⟨h,h2⟩)]
   refine ⟨by simp only [I64];omega,by show -2147483648<=bx s i-48/\bx s i-48<=2147483647;omega,by simp only [I64];omega,by simp only [I64];omega,fun hb=>⟨⟨rfl,by omega,by omega,by omega,by omega,?_⟩,by simp only [zy];omega⟩,fun hb=>⟨⟨rfl,by omega,by omega,by omega,by omega,?_⟩,by simp only [zy];omega⟩⟩
   .rw [<-hc,hstep,zT hb]
   .rw [<-hc,hstep,zF (by omega)]
 .rw [hT,<-hc,qkn hge]
  exact ⟨rfl,rfl,trivial⟩
theorem q82 (a0:ZB) (hp:ln a0<=1000):qwj a0:=by
 have i0:je a0 0 a0 0:=⟨rfl,zK _,zm _,zK _,by omega,rfl⟩
 have bad:qkp a0->ku a0=(0,false):=fun h=>by unfold ku;rw [zT h]
 refine ⟨fun h=>?_,fun h=>⟨⟨zK _,q1p h⟩,fun h1=>⟨fun h2=>?_,fun h2=>⟨i0,qzq hp ?_⟩⟩,fun h1=>⟨i0,qzq hp ?_⟩⟩⟩
 .rw [bad (.inl h)];exact ⟨rfl,rfl,trivial⟩
 .rw [bad (.inr ⟨h1,h2⟩)];exact ⟨rfl,rfl,trivial⟩
 .rintro (h3 | ⟨_,h3⟩)
  .exact h h3
  .omega
 .rintro (h3 | ⟨h3,_⟩)
  .exact h h3
  .exact h1 h3
theorem q9e (a0:ZB) (hp:ln a0<=1000):qwo a0:=by
 have bad:qas a0=false->kv a0=false:=fun h=>by unfold kv;rw [h,Bool.and_false]
 refine ⟨⟨zK _,zm _,rfl⟩,fun i ⟨i0,i1,hd⟩=>⟨fun hlt=>⟨⟨i0,hlt⟩,fun h=>?_,fun h=>⟨⟨i0,hlt⟩,fun h2=>?_,fun h2=>⟨by simp only [I64];omega,⟨by omega,by omega,?_⟩,by simp only [qfw];omega⟩⟩⟩,fun hge=>⟨fun h=>?_,fun h=>⟨fun h2=>?_,fun h2=>?_⟩⟩⟩⟩
 .rw [bad (by rw [<-hd];exact qvf i0 hlt (.inl h))];exact ⟨rfl,trivial⟩
 .rw [bad (by rw [<-hd];exact qvf i0 hlt (.inr h2))];exact ⟨rfl,trivial⟩
 .rw [<-hd];exact zdb i0 hlt ⟨h,h2⟩
 .subst h;exact ⟨by decide,trivial⟩
 .rw [qkn hge,qyy] at hd
  refine ⟨⟨zK _,h2⟩,?_,trivial⟩
  unfold kv
  rw [<-hd,Bool.and_true]
  congr 1
  apply decide_eq_decide.2
  constructor
  .intro h48
   right
   refine ⟨h48,?_⟩
   by_cases h1:1<ln a0
   .exact h1
   .exfalso
    match a0,h,h2,h1,h48 with
    | [b],h,_,_,h48=>
     have hb:(b.toNat:Int)=48:=h48
     exact h (by rw [show b=48 from UInt8.toNat_inj.1 (by show b.toNat=48;omega)])
    | b::c::l,_,_,h1,_=>rw [qau,qau] at h1;have:=zm l;omega
  .rintro (h3 | h3)
   .subst h3;simp [ln] at h2
   .exact h3.1
 .have:a0=[]:=q1r h2
  subst this
  exact ⟨by decide,trivial⟩
theorem q5n (a0:ZB) (a1:Int) (hp:ln a0<=1000/\qas a0=true/\(0:Int)<=a1/\(a1:Int)<=1099511627776):qsv a0 a1:=by
 obtain ⟨p1,p2,p3,p4⟩:=hp
 refine ⟨⟨zK _,zm _,zK _,p3,rfl⟩,fun n i ⟨i0,i1,n0,n1,hv⟩=>⟨fun hlt=>?_,fun hge=>?_⟩⟩
 .have hd:=zk0 p2 i0 hlt
  rw [zjb i0 hlt] at hv
  refine ⟨by simp only [I64];omega,⟨i0,hlt⟩,by simp only [U8];omega,by simp only [I64];omega,by simp only [I64];omega,fun hb=>?_,fun hb=>⟨by simp only [I64];omega,⟨by omega,by omega,by omega,by omega,hv⟩,by simp only [qet];omega⟩⟩
  have:=qmn (s:=fr a0 (i+1)) (n:=10 * n+(bx a0 i-48)) (zk1 p2) (by omega)
  unfold zl
  rw [zF (by omega)]
  exact ⟨rfl,rfl,trivial⟩
 .rw [zmr hge] at hv
  unfold zl
  rw [zT (by omega),<-hv]
  exact ⟨rfl,rfl,trivial⟩
theorem zdc {s:ZB} {c i:Int} (h:qas (upto s c)=true) (h0:0<=i) (h1:i<c) (h2:i<ln s):48<=bx s i/\bx s i<=57:=by
 simp only [qas,List.all_eq_true] at h
 have hi:i.toNat<s.length:=by simp only [ln] at h2;omega
 have:=h s[i.toNat] (List.mem_take_iff_getElem.2 ⟨i.toNat,by omega,rfl⟩)
 have e:bx s i=((s[i.toNat].toNat:Nat):Int):=by unfold bx;rw [List.getD_eq_getElem?_getD,List.getElem?_eq_getElem hi];rfl
 rw [e]
 exact qin.1 this
theorem q8x {u:ZB} (h:(ku u).2=false):kv u=false:=by
 rw [za7] at h
 split at h
 .cases h
 .rename_i h1;simpa using h1
theorem q1z {u:ZB} (h:(ku u).2=true):kv u=true/\0<=qaj u 0/\((ku u).1=qaj u 0/\qaj u 0<=288230376151711744∨(ku u).1=288230376151711744/\288230376151711744<qaj u 0):=by
 rw [za7] at h ⊢
 split at h
 .rename_i h1
  rw [zT h1]
  have:=qmn (n:=0) (qdu h1) (zK _)
  refine ⟨h1,this,?_⟩
  split
  .exact .inr ⟨rfl,by assumption⟩
  .exact .inl ⟨rfl,by omega⟩
 .cases h
theorem gcd_one (n:Int):jg n 1=1:=by unfold jg;simp
theorem qyu {n:Int} (h0:0<=n) (h1:n<=1099511627776):qj n 1=0:=by
 unfold qj
 rw [zF (by omega),gcd_one,zF (by omega)]
theorem qqy {n d:Int} (h0:0<=n) (h1:n<=1099511627776) (h2:2<=d) (h3:d<=1048576):(qj n d=0↔¬ 1<jg n d):=by
 unfold qj
 rw [zF (by omega)]
 split<;>simp_all
theorem qib {s:ZB} (h:kv (upto s (qbb s))=false∨(qbb s<ln s/\kv (fr s (qbb s+1))=false)):qd s=(0,0,3):=by unfold qd;rw [zT h]
theorem zod (s:ZB):0<=qbb s/\qbb s<=ln s:=⟨qb5,qf1 (zm s)⟩
theorem qwf {b:Int}:q5e b=true↔b≠47:=by simp [q5e]
theorem q5f {b:Int}:q5e b=false↔b=47:=by simp [q5e]
theorem q9a {s:ZB} (hl:qbb s<ln s) (h1:kv (upto s (qbb s))=true) (h2:kv (fr s (qbb s+1))=true) :
  qd s=if 1099511627776<qaj (upto s (qbb s)) 0 then (0,0,4) else if 1048576<qaj (fr s (qbb s+1)) 0 then (0,0,4)
   else if qaj (fr s (qbb s+1)) 0<2∨1<jg (qaj (upto s (qbb s)) 0) (qaj (fr s (qbb s+1)) 0) then (0,0,3) else (qaj (upto s (qbb s)) 0,qaj (fr s (qbb s+1)) 0,0):=by
 unfold qd
 rw [zF (by rw [h1,h2];simp),zF (show ¬ ln s<=qbb s by omega)]
theorem zit {s:ZB} (hl:qbb s=ln s) (h1:kv s=true):qd s=if 1099511627776<qaj s 0 then (0,0,4) else (qaj s 0,1,0):=by
 unfold qd
 rw [hl,qqi (zK _),zF (by rw [h1];simp),zT (zK (ln s))]
theorem zcb (a0:ZB) (hp:ln a0<=1000):qyd a0:=by
 refine ⟨⟨rfl,rfl,rfl,rfl,zK _,zm _,rfl,fun j h0 h1=>by omega⟩,fun x y b s i ⟨e1,e2,e3,e4,i0,i1,hc,hb⟩=>?_⟩
 subst e1 e2 e3
 subst e4
 refine ⟨fun hlt=>⟨fun h47=>?_,fun h47=>⟨fun h57=>?_,fun h57=>?_⟩⟩,fun hge=>⟨by omega,fun h=>(by cases h),fun _=>?_⟩⟩
 .have hr:=qk4 i0 hlt
  have hbx:bx s i=47:=by omega
  have hci:qbb s=i:=hc.trans (qbu (.inr (q5f.2 hbx)))
  have lu:ln (upto s i)<=1000:=by rw [za3 i0 i1];omega
  have lf:ln (fr s (i+1))<=1000:=by rw [za2 (by omega) (by omega)];omega
  have hs:qbb s<ln s:=by omega
  refine ⟨⟨i0,i1⟩,by simp only [I64];omega,⟨by omega,by omega⟩,lu,lf,fun h1=>?_,fun h1=>⟨fun h2=>?_,fun h2=>?_⟩⟩
  .rw [qib (.inl (by rw [hci];exact q8x h1))];exact ⟨rfl,rfl,rfl,trivial⟩
  .rw [qib (.inr ⟨hs,by rw [hci];exact q8x h2⟩)];exact ⟨rfl,rfl,rfl,trivial⟩
  .obtain ⟨p1,v0,v1⟩:=q1z h1
   obtain ⟨p2,w0,w1⟩:=q1z h2
   have hP:=q9a hs (by rw [hci];exact p1) (by rw [hci];exact p2)
   rw [hci] at hP
   refine ⟨fun h3=>?_,fun h3=>⟨fun h4=>?_,fun h4=>⟨fun h5=>?_,fun h5=>⟨trivial,fun h6=>?_,fun h6=>?_⟩⟩⟩⟩
   .rw [hP,zT (by omega)];exact ⟨rfl,rfl,rfl,trivial⟩
   .rw [hP,zF (by omega),zT (by omega)];exact ⟨rfl,rfl,rfl,trivial⟩
   .rw [hP,zF (by omega),zF (by omega),zT (by omega)];exact ⟨rfl,rfl,rfl,trivial⟩
   .have q1:(ku (upto s i)).1=qaj (upto s i) 0:=by omega
    have q2:(ku (fr s (i+1))).1=qaj (fr s (i+1)) 0:=by omega
    rw [q1,q2] at h6
    have:=(qqy (n:=qaj (upto s i) 0) (d:=qaj (fr s (i+1)) 0) v0 (by omega) (by omega) (by omega))
    rw [hP,zF (by omega),zF (by omega),zT (by omega)];exact ⟨rfl,rfl,rfl,trivial⟩
   .have q1:(ku (upto s i)).1=qaj (upto s i) 0:=by omega
    have q2:(ku (fr s (i+1))).1=qaj (fr s (i+1)) 0:=by omega
    rw [q1,q2] at h6 ⊢
    have:=(qqy (n:=qaj (upto s i) 0) (d:=qaj (fr s (i+1)) 0) v0 (by omega) (by omega) (by omega))
    rw [hP,zF (by omega),zF (by omega),zF (by omega)];exact ⟨rfl,rfl,rfl,trivial⟩
 .have hr:=qk4 i0 hlt
  have hbx:57<bx s i:=by omega
  have hgt:i<qbb s:=by
   have:=qw0 (p:=q5e) i0 hlt (qwf.2 (by omega))
   omega
  rw [qib (.inl ?_)]
  .exact ⟨rfl,rfl,rfl,trivial⟩
  .rw [<-Bool.not_eq_true]
   intro hh
   have:=zdc (qdu hh) i0 hgt hlt
   omega
 .have hr:=qk4 i0 hlt
  have e1:qfc s i=i+1:=by omega
  have hbx:bx s i≠47/\bx s i<=57:=by omega
  rw [e1]
  refine ⟨⟨rfl,rfl,rfl,rfl,by omega,by omega,?_,fun j h0 h1=>?_⟩,by simp only [qgz];omega⟩
  .rw [hc];exact qcc i0 hlt (qwf.2 hbx.1)
  .by_cases hj:j<i
   .exact hb j h0 hj
   .rw [show j=i by omega];exact hbx.2
 .have hci:qbb s=ln s:=by
   rw [hc,show i=ln s by omega]
   exact qbu (.inl (zK _))
  refine ⟨fun h1=>?_,fun h1=>?_⟩
  .rw [qib (.inl (by rw [hci,qqi (zK _)];exact q8x h1))];exact ⟨rfl,rfl,rfl,trivial⟩
  .obtain ⟨p1,v0,v1⟩:=q1z h1
   have hP:=zit hci p1
   refine ⟨fun h3=>?_,fun h3=>⟨trivial,fun h6=>?_,fun h6=>?_⟩⟩
   .rw [hP,zT (by omega)];exact ⟨rfl,rfl,rfl,trivial⟩
   .exact absurd (qyu (by omega) h3) h6
   .rw [hP,zF (by omega)]
    exact ⟨by show (ku s).1=qaj s 0;omega,rfl,rfl,trivial⟩
theorem q1y {u:ZB} {m:Int} (h:(zl u m).2=false):m<qaj u 0:=by
 unfold zl at h
 split at h
 .cases h
 .omega
theorem qwh {u:ZB} {m:Int} (h:(zl u m).2=true):qaj u 0<=m/\(zl u m).1=qaj u 0:=by
 unfold zl at h ⊢
 split at h
 .rename_i h1;rw [zT h1];exact ⟨h1,rfl⟩
 .cases h
theorem zoh {n d:Int} (h2:2<=d):(jg n d≠1↔1<jg n d):=by
 have:=qvw (a:=n) (b:=d) (by omega)
 omega
theorem qz0 (a0:ZB) (x0:Int) (hp:ln a0<=1000) (hc:qbb a0=x0) :
   ((0:Int)<=x0/\x0<=ln a0)/\
   ((ln (upto a0 x0)<=1000))/\
   (((kv (upto a0 x0))=false->
    ((0:Int)=((qd a0).1))/\
    ((0:Int)=((qd a0).2.1))/\
    ((3:Int)=((qd a0).2.2))/\
    True))/\
   ((kv (upto a0 x0))=true->
    ((x0<(ln a0)->
     (I64 (x0+1))/\
     ((0:Int)<=(x0+1)/\(x0+1)<=ln a0)/\
     ((ln (fr a0 (x0+1))<=1000))/\
     (((kv (fr a0 (x0+1)))=false->
      ((0:Int)=((qd a0).1))/\
      ((0:Int)=((qd a0).2.1))/\
      ((3:Int)=((qd a0).2.2))/\
      True))/\
     ((kv (fr a0 (x0+1)))=true->
      ((0:Int)<=x0/\x0<=ln a0)/\
      ((ln (upto a0 x0)<=1000/\qas (upto a0 x0)=true/\(0:Int)<=1099511627776/\(1099511627776:Int)<=1099511627776))/\
      ((((zl (upto a0 x0) 1099511627776).2)=false->
       ((0:Int)=((qd a0).1))/\
       ((0:Int)=((qd a0).2.1))/\
       ((4:Int)=((qd a0).2.2))/\
       True))/\
      (((zl (upto a0 x0) 1099511627776).2)=true->
       ((x0=(ln a0)->
        ((((zl (upto a0 x0) 1099511627776).1):Int)=((qd a0).1))/\
        ((1:Int)=((qd a0).2.1))/\
        ((0:Int)=((qd a0).2.2))/\
        True))/\
       (x0≠(ln a0)->
        (I64 (x0+1))/\
        ((0:Int)<=(x0+1)/\(x0+1)<=ln a0)/\
        ((ln (fr a0 (x0+1))<=1000/\qas (fr a0 (x0+1))=true/\(0:Int)<=1048576/\(1048576:Int)<=1099511627776))/\
        ((((zl (fr a0 (x0+1)) 1048576).2)=false->
         ((0:Int)=((qd a0).1))/\
         ((0:Int)=((qd a0).2.1))/\
         ((4:Int)=((qd a0).2.2))/\
         True))/\
        (((zl (fr a0 (x0+1)) 1048576).2)=true->
         ((((zl (fr a0 (x0+1)) 1048576).1)<2->
          ((0:Int)=((qd a0).1))/\
          ((0:Int)=((qd a0).2.1))/\
          ((3:Int)=((qd a0).2.2))/\
          True))/\
         (2<=((zl (fr a0 (x0+1)) 1048576).1)->
          ((0<=((zl (upto a0 x0) 1099511627776).1)/\0<=((zl (fr a0 (x0+1)) 1048576).1)/\((zl (upto a0 x0) 1099511627776).1)<=4611686018427387904/\((zl (fr a0 (x0+1)) 1048576).1)<=4611686018427387904))/\
          (((jg ((zl (upto a0 x0) 1099511627776).1) ((zl (fr a0 (x0+1)) 1048576).1))≠1->
           ((0:Int)=((qd a0).1))/\
           ((0:Int)=((qd a0).2.1))/\
           ((3:Int)=((qd a0).2.2))/\
           True))/\
          ((jg ((zl (upto a0 x0) 1099511627776).1) ((zl (fr a0 (x0+1)) 1048576).1))=1->
           ((((zl (upto a0 x0) 1099511627776).1):Int)=((qd a0).1))/\
           ((((zl (fr a0 (x0+1)) 1048576).1):Int)=((qd a0).2.1))/\
           ((0:Int)=((qd a0).2.2))/\
           True))))))))/\
    ((ln a0)<=x0->
     ((0:Int)<=x0/\x0<=ln a0)/\
     ((ln (upto a0 x0)<=1000/\qas (upto a0 x0)=true/\(0:Int)<=1099511627776/\(1099511627776:Int)<=1099511627776))/\
     ((((zl (upto a0 x0) 1099511627776).2)=false->
      ((0:Int)=((qd a0).1))/\
      ((0:Int)=((qd a0).2.1))/\
      ((4:Int)=((qd a0).2.2))/\
      True))/\
     (((zl (upto a0 x0) 1099511627776).2)=true->
      ((x0=(ln a0)->
       ((((zl (upto a0 x0) 1099511627776).1):Int)=((qd a0).1))/\
       ((1:Int)=((qd a0).2.1))/\
       ((0:Int)=((qd a0).2.2))/\
       True))/\
      (x0≠(ln a0)->
       (I64 (x0+1))/\
       ((0:Int)<=(x0+1)/\(x0+1)<=ln a0)/\
       ((ln (fr a0 (x0+1))<=1000/\qas (fr a0 (x0+1))=true/\(0:Int)<=1048576/\(1048576:Int)<=1099511627776))/\
       ((((zl (fr a0 (x0+1)) 1048576).2)=false->
        ((0:Int)=((qd a0).1))/\
        ((0:Int)=((qd a0).2.1))/\
        ((4:Int)=((qd a0).2.2))/\
        True))/\
       (((zl (fr a0 (x0+1)) 1048576).2)=true->
        ((((zl (fr a0 (x0+1)) 1048576).1)<2->
         ((0:Int)=((qd a0).1))/\
         ((0:Int)=((qd a0).2.1))/\
         ((3:Int)=((qd a0).2.2))/\
         True))/\
        (2<=((zl (fr a0 (x0+1)) 1048576).1)->
         ((0<=((zl (upto a0 x0) 1099511627776).1)/\0<=((zl (fr a0 (x0+1)) 1048576).1)/\((zl (upto a0 x0) 1099511627776).1)<=4611686018427387904/\((zl (fr a0 (x0+1)) 1048576).1)<=4611686018427387904))/\
         (((jg ((zl (upto a0 x0) 1099511627776).1) ((zl (fr a0 (x0+1)) 1048576).1))≠1->
          ((0:Int)=((qd a0).1))/\
          ((0:Int)=((qd a0).2.1))/\
          ((3:Int)=((qd a0).2.2))/\
          True))/\
         ((jg ((zl (upto a0 x0) 1099511627776).1) ((zl (fr a0 (x0+1)) 1048576).1))=1->
          ((((zl (upto a0 x0) 1099511627776).1):Int)=((qd a0).1))/\
          ((((zl (fr a0 (x0+1)) 1048576).1):Int)=((qd a0).2.1))/\
          ((0:Int)=((qd a0).2.2))/\
          True))))))):=by
 have hb:=zod a0
 subst hc
 have lu:ln (upto a0 (qbb a0))<=1000:=by rw [za3 hb.1 hb.2];omega
 refine ⟨hb,lu,fun h1=>?_,fun h1=>⟨fun hl=>?_,fun hl=>?_⟩⟩
 .rw [qib (.inl h1)];exact ⟨rfl,rfl,rfl,trivial⟩
 .have lf:ln (fr a0 (qbb a0+1))<=1000:=by rw [za2 (by omega) (by omega)];omega
  refine ⟨by simp only [I64];omega,⟨by omega,by omega⟩,lf,fun h2=>?_,fun h2=>⟨hb,⟨lu,qdu h1,by decide,by decide⟩,fun h3=>?_,fun h3=>⟨fun h4=>absurd h4 (by omega),fun _=>?_⟩⟩⟩
  .rw [qib (.inr ⟨hl,h2⟩)];exact ⟨rfl,rfl,rfl,trivial⟩
  .rw [q9a hl h1 h2,zT (q1y h3)];exact ⟨rfl,rfl,rfl,trivial⟩
  .obtain ⟨v1,v2⟩:=qwh h3
   have v0:=qmn (n:=0) (qdu h1) (zK _)
   have w0:=qmn (n:=0) (qdu h2) (zK _)
   have hP:=q9a hl h1 h2
   rw [zF (by omega)] at hP
   refine ⟨by simp only [I64];omega,⟨by omega,by omega⟩,⟨lf,qdu h2,by decide,by decide⟩,fun h5=>?_,fun h5=>?_⟩
   .rw [hP,zT (q1y h5)];exact ⟨rfl,rfl,rfl,trivial⟩
   .obtain ⟨w1,w2⟩:=qwh h5
    rw [zF (by omega)] at hP
    rw [v2,w2]
    refine ⟨fun h6=>?_,fun h6=>⟨⟨v0,w0,by omega,by omega⟩,fun h7=>?_,fun h7=>?_⟩⟩
    .rw [hP,zT (.inl h6)];exact ⟨rfl,rfl,rfl,trivial⟩
    .rw [hP,zT (.inr ((zoh h6).1 h7))];exact ⟨rfl,rfl,rfl,trivial⟩
    .have:¬ 1<jg (qaj (upto a0 (qbb a0)) 0) (qaj (fr a0 (qbb a0+1)) 0):=by rw [h7];decide
     rw [hP,zF (by omega)];exact ⟨rfl,rfl,rfl,trivial⟩
 .have hl':qbb a0=ln a0:=by omega
  have h1':kv a0=true:=by rw [hl',qqi (zK _)] at h1;exact h1
  have hP:=zit hl' h1'
  have hu:upto a0 (qbb a0)=a0:=by rw [hl'];exact qqi (zK _)
  refine ⟨hb,⟨lu,qdu h1,by decide,by decide⟩,fun h3=>?_,fun h3=>⟨fun _=>?_,fun h4=>absurd hl' h4⟩⟩
  .have:=q1y h3
   rw [hu] at this
   rw [hP,zT this];exact ⟨rfl,rfl,rfl,trivial⟩
  .obtain ⟨v1,v2⟩:=qwh h3
   rw [hu] at v1 v2
   rw [hP,zF (by omega)]
   exact ⟨by rw [hu];exact v2,rfl,rfl,trivial⟩
theorem q7s (a0:ZB) (hp:ln a0<=1000):qt6 a0:=by
 refine ⟨⟨zK _,zm _,zm _,.inl ⟨rfl,rfl⟩⟩,fun c i ⟨i0,i1,c0,hc⟩=>⟨fun hlt=>⟨fun he=>⟨⟨i0,hlt⟩,fun h=>?_,fun h=>?_⟩,fun hne=>?_⟩,fun hge=>?_⟩⟩
 .have h1:qbb a0=i:=by
   rcases hc with ⟨_,h1⟩ | ⟨h1,_⟩
   .rw [h1];exact qbu (.inr (q5f.2 h))
   .omega
  exact ⟨by simp only [I64];omega,⟨by omega,by omega,by omega,.inr ⟨by omega,by omega,h1⟩⟩,by simp only [qbs];omega⟩
 .refine ⟨by simp only [I64];omega,⟨by omega,by omega,by omega,.inl ⟨he,?_⟩⟩,by simp only [qbs];omega⟩
  rcases hc with ⟨_,h1⟩ | ⟨h1,_⟩
  .rw [h1];exact qcc i0 hlt (qwf.2 h)
  .omega
 .exact qz0 a0 c hp (by rcases hc with ⟨h1,_⟩ | ⟨_,_,h1⟩;exact absurd h1 hne;exact h1)
 .exact qz0 a0 c hp (by
   rcases hc with ⟨h1,h2⟩ | ⟨_,_,h1⟩
   .rw [h2,h1];rw [show i=ln a0 by omega];exact qbu (.inl (zK _))
   .exact h1)
theorem ziv {a b c:Int} (h:kg a b c=0):0<=a/\a<=6/\0<=b/\b<=8/\-1<=c/\c<=1:=by
 unfold kg at h
 split at h
 .omega
 .omega
theorem zln {a b:Int} (h0:0<=a) (h1:a<=6) (h2:0<=b):Int.tmod (7 * b+a) 7=a/\Int.tdiv (7 * b+a) 7=b:=by
 rw [Int.tmod_eq_emod_of_nonneg (by omega),Int.tdiv_eq_ediv_of_nonneg (by omega)]
 omega
theorem six {a:Int} (h0:0<=a) (h1:a<=6):a=0∨a=1∨a=2∨a=3∨a=4∨a=5∨a=6:=by omega
theorem zoo {a:Int} (h0:0<=a) (h1:a<=6):UInt8.ofNat (Int.toNat (bx qbr a))=qbr.getD a.toNat 0/\sub qbr a (a+1)=[qbr.getD a.toNat 0]/\U8 (bx qbr a):=by
 rcases six h0 h1 with rfl | rfl | rfl | rfl | rfl | rfl | rfl<;>exact ⟨by decide,by decide,by decide⟩
theorem znh {c:Int} (h0:-1<=c) (h1:c<=1):(c≠0->[UInt8.ofNat (Int.toNat (bx qce (c+1)))]=zct c)/\(c=0->zct c=[])/\ix [([98]:ZB),[],[35]] (c+1)=zct c/\U8 (bx qce (c+1))/\ln (zct c)<=1:=by
 have:c = -1∨c=0∨c=1:=by omega
 rcases this with rfl | rfl | rfl<;>exact ⟨by decide,by decide,by decide,by decide,by decide⟩
theorem zp6 {b:Int} (h0:0<=b) (h1:b<=8):UInt8.ofNat (Int.toNat (48+b))=UInt8.ofNat (48+b.toNat)/\sub ([48,49,50,51,52,53,54,55,56]:ZB) b (b+1)=[UInt8.ofNat (48+b.toNat)]:=by
 have:b=0∨b=1∨b=2∨b=3∨b=4∨b=5∨b=6∨b=7∨b=8:=by omega
 rcases this with rfl | rfl | rfl | rfl | rfl | rfl | rfl | rfl | rfl<;>exact ⟨by decide,by decide⟩
theorem zco (a0 a1 a2:Int):qyk a0 a1 a2:=by
 refine ⟨trivial,fun h=>?_,fun h=>?_⟩
 .unfold zn;rw [zT h];exact ⟨rfl,rfl,trivial⟩
 .obtain ⟨b1,b2,b3,b4,b5,b6⟩:=ziv h
  obtain ⟨e1,e2⟩:=zln b1 b2 b3
  obtain ⟨l1,_,l3⟩:=zoo b1 b2
  obtain ⟨c1,c2,_,c4,_⟩:=znh b5 b6
  obtain ⟨o1,_⟩:=zp6 b3 b4
  have hT:zn a0 a1 a2=(qp7 a0 a1 a2,0):=by unfold zn;rw [zF (by omega)]
  rw [hT,e1,e2]
  have s2:∀ x y:UInt8,qn (List.length [x]+List.length [y]):=fun x y=>by simp only [qn,List.length_cons,List.length_nil];omega
  refine ⟨by simp only [I64];omega,by simp only [I64];omega,by decide,⟨b1,by show a0<7;omega⟩,l3,fun hn=>?_,fun hn=>?_⟩
  .refine ⟨by simp only [I64];omega,⟨by omega,by show a2+1<3;omega⟩,c4,s2 _ _,⟨by decide,by simp only [I64];omega⟩,by simp only [I64];omega,by simp only [U8];omega,by simp only [U8];omega,?_,?_,rfl,trivial⟩
   .simp only [qn,List.length_append,List.length_cons,List.length_nil];omega
   .unfold qp7
    rw [l1,c1 hn,o1]
  .refine ⟨⟨by decide,by simp only [I64];omega⟩,by simp only [I64];omega,by simp only [U8];omega,by simp only [U8];omega,s2 _ _,?_,rfl,trivial⟩
   unfold qp7
   rw [l1,c2 hn,o1,zJ]
theorem zcl (a0 a1 a2:Int):qyj a0 a1 a2:=by
 refine ⟨trivial,fun h=>?_,fun h=>?_⟩
 .unfold zn;rw [zT h];exact ⟨rfl,rfl,trivial⟩
 .obtain ⟨b1,b2,b3,b4,b5,b6⟩:=ziv h
  obtain ⟨_,l2,_⟩:=zoo b1 b2
  obtain ⟨_,_,c3,_,c5⟩:=znh b5 b6
  obtain ⟨_,o2⟩:=zp6 b3 b4
  have hT:zn a0 a1 a2=(qp7 a0 a1 a2,0):=by unfold zn;rw [zF (by omega)]
  rw [hT,c3,o2]
  have e:sub ([99,100,101,102,103,97,98]:ZB) a0 (a0+1)=[qbr.getD a0.toNat 0]:=l2
  rw [e]
  refine ⟨by simp only [I64];omega,⟨b1,by omega,by show a0+1<=7;omega⟩,trivial,trivial,trivial,by simp only [I64];omega,⟨by omega,by show a2+1<3;omega⟩,qrt (by rw [qau,qeb];omega),by simp only [I64];omega,⟨b3,by omega,by show a1+1<=9;omega⟩,?_,rfl,rfl,trivial⟩
  simp only [qn,List.length_append,List.length_cons,List.length_nil,ln] at *
  omega
theorem q52 {s:ZB} (h:ln s<2∨3<ln s∨qf ([99,100,101,102,103,97,98]:ZB) (bx s 0)<0∨bx s (ln s-1)<48∨56<bx s (ln s-1)∨qui s=2):qo s=(0,0,0,3):=by unfold qo;rw [zT h]
theorem qzz {s:ZB} (h:¬ (ln s<2∨3<ln s∨qf ([99,100,101,102,103,97,98]:ZB) (bx s 0)<0∨bx s (ln s-1)<48∨56<bx s (ln s-1)∨qui s=2)):qo s=(qf ([99,100,101,102,103,97,98]:ZB) (bx s 0),bx s (ln s-1)-48,qui s,0):=by unfold qo;rw [zF h]
theorem zb8 (a0:ZB) (hp:ln a0<=1000):qyc a0:=by
 have hb:=qo4 a0 (ln a0-1)
 have hi:qf ([99,100,101,102,103,97,98]:ZB) (bx a0 0)<7/\-1<=qf ([99,100,101,102,103,97,98]:ZB) (bx a0 0):=by
  have h1:=q1k ([99,100,101,102,103,97,98]:ZB) (bx a0 0)
  have h2:=q1j ([99,100,101,102,103,97,98]:ZB) (bx a0 0)
  have:ln ([99,100,101,102,103,97,98]:ZB)=7:=rfl
  omega
 have ha:qf ([98,32,35]:ZB) (bx a0 1)<3/\-1<=qf ([98,32,35]:ZB) (bx a0 1):=by
  have h1:=q1k ([98,32,35]:ZB) (bx a0 1)
  have h2:=q1j ([98,32,35]:ZB) (bx a0 1)
  have:ln ([98,32,35]:ZB)=3:=rfl
  omega
 have hA:qui a0=if ln a0≠3 then 0 else if qf ([98,32,35]:ZB) (bx a0 1)<0∨qf ([98,32,35]:ZB) (bx a0 1)=1 then 2 else qf ([98,32,35]:ZB) (bx a0 1)-1:=rfl
 have bad:(ln a0<2∨3<ln a0∨qf ([99,100,101,102,103,97,98]:ZB) (bx a0 0)<0∨bx a0 (ln a0-1)<48∨56<bx a0 (ln a0-1)∨qui a0=2)->((0:Int)=(qo a0).1/\(0:Int)=(qo a0).2.1/\(0:Int)=(qo a0).2.2.1/\(3:Int)=(qo a0).2.2.2/\True):=fun h=>by
  rw [q52 h];exact ⟨rfl,rfl,rfl,rfl,trivial⟩
 refine ⟨fun h=>bad (.inl h),fun h=>⟨fun h1=>bad (.inr (.inl h1)),fun h1=>⟨⟨zK _,by omega⟩,trivial,by simp only [I64];omega,⟨by omega,by omega⟩,by simp only [I64];omega,by simp only [I64];omega,fun h2=>bad (.inr (.inr (.inl h2))),fun h2=>⟨fun h3=>bad (.inr (.inr (.inr (.inl (by omega))))),fun h3=>⟨fun h4=>bad (.inr (.inr (.inr (.inr (.inl (by omega)))))),fun h4=>⟨fun h5=>?_,fun h5=>?_⟩⟩⟩⟩⟩⟩
 .refine ⟨⟨by omega,by omega⟩,trivial,fun h6=>bad (by rw [hA,zF (by omega),zT (.inl h6)];omega),fun h6=>⟨fun h7=>bad (by rw [hA,zF (by omega),zT (.inr h7)];omega),fun h7=>?_⟩⟩
  have eA:qui a0=qf ([98,32,35]:ZB) (bx a0 1)-1:=by rw [hA,zF (by omega),zF (by rintro (h | h);exact absurd h (by show ¬ qf ([98,32,35]:ZB) (bx a0 1)<0;omega);exact h7 h)]
  obtain ⟨e1,e2⟩:=zln (a:=qf ([99,100,101,102,103,97,98]:ZB) (bx a0 0)) (b:=bx a0 (ln a0-1)-48) h2 (by omega) h3
  refine ⟨by simp only [I64];omega,by simp only [I64];omega,by simp only [I64];omega,fun h8=>absurd h8 (by omega),fun _=>⟨fun h8=>absurd h8 (by omega),fun _=>⟨fun h8=>absurd h8 (by omega),fun _=>⟨fun h8=>absurd h8 (by omega),fun _=>⟨by decide,⟨by decide,?_⟩,?_⟩⟩⟩⟩⟩
  .rw [e2];simp only [I64];omega
  .rw [e1,e2,qzz (by rw [eA];omega),eA];exact ⟨rfl,rfl,rfl,rfl,trivial⟩
 .have eA:qui a0=0:=by rw [hA,zT h5]
  obtain ⟨e1,e2⟩:=zln (a:=qf ([99,100,101,102,103,97,98]:ZB) (bx a0 0)) (b:=bx a0 (ln a0-1)-48) h2 (by omega) h3
  refine ⟨by simp only [I64];omega,by simp only [I64];omega,fun h8=>absurd h8 (by omega),fun _=>⟨fun h8=>absurd h8 (by omega),fun _=>⟨by decide,⟨by decide,?_⟩,?_⟩⟩⟩
  .rw [e2];simp only [I64];omega
  .rw [e1,e2,qzz (by rw [eA];omega),eA];exact ⟨rfl,rfl,rfl,rfl,trivial⟩
theorem zl5:((List.range 7).all fun a=>(List.range 9).all fun b=>(List.range 3).all fun c=>decide (qo (qp7 (a:Int) (b:Int) ((c:Int)-1))=((a:Int),(b:Int),(c:Int)-1,0)))=true:=by kernel_rfl
theorem ziu {a b c:Int} (a0:0<=a) (a1:a<=6) (b0:0<=b) (b1:b<=8) (c0:-1<=c) (c1:c<=1):qo (qp7 a b c)=(a,b,c,0):=by
 have h:=List.all_eq_true.1 (List.all_eq_true.1 (List.all_eq_true.1 zl5 a.toNat (List.mem_range.2 (by omega))) b.toNat (List.mem_range.2 (by omega))) (c+1).toNat (List.mem_range.2 (by omega))
 have h:=of_decide_eq_true h
 rw [show ((a.toNat:Nat):Int)=a by omega,show ((b.toNat:Nat):Int)=b by omega,show (((c+1).toNat:Nat):Int)-1=c by omega] at h
 exact h
theorem tm7 {n:Int} (h0:0<=n) (h1:n<=62):0<=Int.tmod n 7/\Int.tmod n 7<=6/\0<=Int.tdiv n 7/\Int.tdiv n 7<=8:=by
 rw [Int.tmod_eq_emod_of_nonneg h0,Int.tdiv_eq_ediv_of_nonneg h0]
 omega
theorem qqx (x:UInt8) {k:Int} (h:k=(x.toNat:Int)):UInt8.ofNat k.toNat=x:=by
 subst h
 rw [Int.toNat_natCast]
 exact UInt8.ofNat_toNat
theorem zl6 {s:ZB} (h:(qo s).2.2.2=0):∃ a b c:Int,0<=a/\a<=6/\0<=b/\b<=8/\-1<=c/\c<=1/\s=qp7 a b c:=by
 by_cases hb:ln s<2∨3<ln s∨qf qbr (bx s 0)<0∨bx s (ln s-1)<48∨56<bx s (ln s-1)∨qui s=2
 .rw [q52 hb] at h;exact absurd h (by decide)
 .have hx:=qo4 s 0
  obtain ⟨q1,q2,_⟩:=qj5 (s:=qbr) (c:=bx s 0) hx.1 (by omega) (by omega)
  have q1':qf qbr (bx s 0)<7:=q1
  obtain ⟨l1,_,_⟩:=zoo (a:=qf qbr (bx s 0)) (by omega) (by omega)
  match s,hb,hx,q1',q2,l1 with
  | [],hb,_,_,_,_=>exact absurd (.inl (by decide)) hb
  | [x],hb,_,_,_,_=>exact absurd (.inl (by show (1:Int)<2;decide)) hb
  | [x,y],hb,_,q1',q2,l1=>
   have hl:ln [x,y]=2:=rfl
   have hy:bx [x,y] (ln [x,y]-1)=(y.toNat:Int):=rfl
   have hx0:bx [x,y] 0=(x.toNat:Int):=rfl
   rw [hl] at hb
   refine ⟨qf qbr (bx [x,y] 0),(y.toNat:Int)-48,0,by omega,by omega,by rw [hl] at hy;omega,by rw [hl] at hy;omega,by decide,by decide,?_⟩
   unfold qp7
   rw [<-l1,q2,qqx x hx0]
   have e2:UInt8.ofNat (48+((y.toNat:Int)-48).toNat)=y:=by
    rw [show 48+((y.toNat:Int)-48).toNat=y.toNat by rw [hl] at hy;omega]
    exact UInt8.ofNat_toNat
   rw [e2];rfl
  | [x,z,y],hb,_,q1',q2,l1=>
   have hl:ln [x,z,y]=3:=rfl
   have hy:bx [x,z,y] (ln [x,z,y]-1)=(y.toNat:Int):=rfl
   have hx0:bx [x,z,y] 0=(x.toNat:Int):=rfl
   have hz:bx [x,z,y] 1=(z.toNat:Int):=rfl
   have hA:qui [x,z,y]=if qf qce (bx [x,z,y] 1)<0∨qf qce (bx [x,z,y] 1)=1 then 2 else qf qce (bx [x,z,y] 1)-1:=rfl
   rw [hl] at hb
   have hg:¬ (qf qce (bx [x,z,y] 1)<0∨qf qce (bx [x,z,y] 1)=1):=fun hc=>by rw [zT hc] at hA;omega
   have hzb:=qo4 [x,z,y] 1
   obtain ⟨r1,r2,_⟩:=qj5 (s:=qce) (c:=bx [x,z,y] 1) hzb.1 (by omega) (by omega)
   have r1':qf qce (bx [x,z,y] 1)<3:=r1
   obtain ⟨c1,_,_,_,_⟩:=znh (c:=qf qce (bx [x,z,y] 1)-1) (by omega) (by omega)
   have c1:=c1 (by omega)
   refine ⟨qf qbr (bx [x,z,y] 0),(y.toNat:Int)-48,qf qce (bx [x,z,y] 1)-1,by omega,by omega,by rw [hl] at hy;omega,by rw [hl] at hy;omega,by omega,by omega,?_⟩
   unfold qp7
   rw [<-l1,q2,qqx x hx0,<-c1,show qf qce (bx [x,z,y] 1)-1+1=qf qce (bx [x,z,y] 1) by omega,r2,qqx z hz]
   have e2:UInt8.ofNat (48+((y.toNat:Int)-48).toNat)=y:=by
    rw [show 48+((y.toNat:Int)-48).toNat=y.toNat by rw [hl] at hy;omega]
    exact UInt8.ofNat_toNat
   rw [e2];rfl
  | x::y::z::w::l,hb,_,_,_,_=>
   exfalso
   apply hb
   right;left
   rw [qau,qau,qau,qau]
   have:=zm l
   omega
theorem zhv {s:ZB} {n:Int} (hn:63<=n) (h:zhu s n (-1)):qo s=(0,0,0,3):=by
 by_cases h0:(qo s).2.2.2=0
 .exfalso
  obtain ⟨a,b,c,a0,a1,b0,b1,c0,c1,rfl⟩:=zl6 h0
  obtain ⟨e1,e2⟩:=zln a0 a1 b0
  exact h (7 * b+a) c (by omega) (by omega) c0 c1 (.inl (by omega)) (by rw [e1,e2])
 .unfold qo at h0 ⊢
  split at h0
  .rename_i hb;rw [zT hb]
  .exact absurd rfl h0
theorem q6t {n c:Int} (h0:0<=n) (h1:n<=62) (c0:-1<=c) (c1:c<=1):(zn (Int.tmod n 7) (Int.tdiv n 7) c).1=qp7 (Int.tmod n 7) (Int.tdiv n 7) c:=by
 obtain ⟨m0,m1,m2,m3⟩:=tm7 h0 h1
 have:kg (Int.tmod n 7) (Int.tdiv n 7) c=0:=by unfold kg;rw [zF (by omega)]
 unfold zn
 rw [zF (by omega)]
theorem q7o (a0:ZB) (hp:ln a0<=1000):qt4 a0:=by
 refine ⟨⟨zK _,by decide,fun m b h0 _ h2 _ h4=>by omega⟩,fun n ⟨n0,n1,hn⟩=>⟨fun hlt=>⟨⟨n0,by omega,by decide,by decide,hn⟩,fun c ⟨m0,m1,c0,c1,hc⟩=>⟨fun hc1=>⟨fun h=>absurd h (by omega),fun _=>⟨fun h=>absurd h (by omega),fun _=>⟨fun h=>absurd h (by omega),fun _=>⟨fun h=>absurd h (by omega),fun _=>⟨by decide,⟨by decide,?_⟩,trivial,fun he=>?_,fun he=>?_⟩⟩⟩⟩⟩,fun hc1=>?_⟩⟩,fun hge=>?_⟩⟩
 .have:=tm7 m0 m1;simp only [I64];omega
 .obtain ⟨t0,t1,t2,t3⟩:=tm7 m0 m1
  rw [q6t m0 m1 c0 hc1] at he
  rw [<-he,ziu t0 t1 t2 t3 c0 hc1]
  exact ⟨rfl,rfl,rfl,rfl,trivial⟩
 .rw [q6t m0 m1 c0 hc1] at he
  refine ⟨by simp only [I64];omega,⟨m0,m1,by omega,by omega,fun m b h0 h1 h2 h3 h4=>?_⟩,by simp only [jd];omega⟩
  by_cases hx:m=n/\b=c
  .rw [hx.1,hx.2];exact he
  .exact hc m b h0 h1 h2 h3 (by omega)
 .refine ⟨by simp only [I64];omega,⟨by omega,by omega,fun m b h0 h1 h2 h3 h4=>hc m b h0 h1 h2 h3 (by omega)⟩,by simp only [qfv];omega⟩
 .rw [zhv hge hn];exact ⟨rfl,rfl,rfl,rfl,trivial⟩
structure RowL (x:Event):Prop where
 s0:0<=x.Sign
 s1:x.Sign<=9223372036854775807
 p0:0<=x.Pass
 p1:x.Pass<=9223372036854775807
 t:(ze x.DurN x.DurD).1.length<=43
 p:(zn x.PitchStep x.PitchOctave x.PitchAlter).1.length<=3
 s:(qx x.Sign).length<=21
 q:(qx x.Pass).length<=21
theorem qtu {l:List Event} (hg:qlx l) (h:(z8 l).1=0) {i:Int} (h0:0<=i) (h1:i<ln l):RowL (ix l i):=by
 have hm:=qix h0 h1
 obtain ⟨_,_,c1,c2⟩:=zd8 (zex h _ hm)
 obtain ⟨d1,d2⟩:=hg.2 _ hm
 have t1:=zev (ix l i).DurN (ix l i).DurD
 have t2:=zeu (ix l i).PitchStep (ix l i).PitchOctave (ix l i).PitchAlter
 have t3:=qfi c1 d1
 have t4:=qfi c2 d2
 simp only [ln] at t1 t2 t3 t4
 exact ⟨c1,d1,c2,d2,by omega,by omega,by omega,by omega⟩
section
variable {x:Event} {s:ZB}
theorem quk (h:x.Rest=true):(s++([114,101,115,116,32]:ZB))++(((((((ze x.DurN x.DurD).1)++([32]:ZB))++(qx x.Sign))++([32]:ZB))++(qx x.Pass))++([10]:ZB))=s++qon x:=by
 unfold qon;rw [zT h];simp only [List.append_assoc]
theorem quj (h:x.Rest=false):(s++((([110,111,116,101,32]:ZB)++((zn x.PitchStep x.PitchOctave x.PitchAlter).1))++([32]:ZB)))++(((((((ze x.DurN x.DurD).1)++([32]:ZB))++(qx x.Sign))++([32]:ZB))++(qx x.Pass))++([10]:ZB))=s++qon x:=by
 unfold qon;rw [zF (by rw [h];decide)];simp only [List.append_assoc]
theorem zcw (h:x.Rest=true):(((((((s++([114,101,115,116,32]:ZB))++((ze x.DurN x.DurD).1))++([32]:ZB))++(qx x.Sign))++([32]:ZB))++(qx x.Pass))++([10]:ZB))=s++qon x:=by
 unfold qon;rw [zT h];simp only [List.append_assoc]
theorem zcv (h:x.Rest=false):(((((((((s++([110,111,116,101,32]:ZB))++((zn x.PitchStep x.PitchOctave x.PitchAlter).1))++([32]:ZB))++((ze x.DurN x.DurD).1))++([32]:ZB))++(qx x.Sign))++([32]:ZB))++(qx x.Pass))++([10]:ZB))=s++qon x:=by
 unfold qon;rw [zF (by rw [h];decide)];simp only [List.append_assoc]
end
section
variable {l:List Event} {i:Int} {s:ZB}
theorem qi2 (hc:(z8 l).1=0) (h0:0<=i) (h:i<ln l) (hi:qj6 (fr l i) s=qj6 l []) (hb:20000<ln (s++qon (ix l i))):kp l=([],4):=by
 rw [q6s hc,<-hi,q51 h0 h,zT hb]
theorem qi3 (h0:0<=i) (h:i<ln l) (hi:qj6 (fr l i) s=qj6 l []) (hb:ln (s++qon (ix l i))<=20000):qj6 (fr l (i+1)) (s++qon (ix l i))=qj6 l []:=by
 rw [<-hi,q51 h0 h,zF (by omega)]
theorem qp4 (hc:(z8 l).1=0) (h:ln l<=i) (hi:qj6 (fr l i) s=qj6 l []):kp l=(s,0):=by
 rw [q6s hc,<-hi,zl3 h]
end
theorem zch (a0:List Event) (hp:qlx a0):qqs a0:=by
 have hl:=hp.1
 have n0:=zm a0
 unfold qqs
 refine ⟨by omega,fun hc=>?_,fun hc=>⟨⟨zK _,n0,by decide,rfl⟩,fun s i ⟨i0,i1,i2,i3⟩=>⟨fun hlt=>?_,fun hge=>?_⟩⟩⟩
 .rw [q0l hc];exact ⟨rfl,rfl,trivial⟩
 .obtain ⟨s0,s1,p0,p1,ht,hpl,hs,hq⟩:=qtu hp hc i0 hlt
  have w:Wn i (ln a0):=⟨i0,hlt⟩
  have z:s.length<=20000:=by simp only [ln] at i2;omega
  refine ⟨w,trivial,w,fun hr=>?_,fun hr=>?_⟩
  all_goals first | simp only [zcw hr] | simp only [zcv hr]
  all_goals unhygienic (repeat' (first | exact trivial | with_reducible apply And.intro | (intro;intros)))
  all_goals first
   | (with_reducible assumption)
   | (simp only [qn,List.length_append,List.length_cons,List.length_nil];omega)
   | omega
   | (rw [qi2 hc i0 hlt i3 ‹_›])
   | exact ⟨by omega,by omega⟩
   | exact ⟨by omega,by omega,by assumption,qi3 i0 hlt i3 ‹_›⟩
   | (simp only [qdc];omega)
 .rw [qp4 hc hge i3];exact ⟨rfl,rfl,trivial⟩
theorem zfj (a0:List Event) (hp:qlx a0):que a0:=by
 have hl:=hp.1
 have n0:=zm a0
 unfold que
 refine ⟨by omega,fun hc=>?_,fun hc=>⟨fun h0=>?_,fun h0=>?_⟩⟩
 .rw [q0l hc];exact ⟨rfl,rfl,trivial⟩
 .obtain ⟨s0,s1,p0,p1,ht,hpl,hs,hq⟩:=qtu hp hc (zK 0) h0
  have z:([]:ZB).length<=20000:=by decide
  have i3:qj6 (fr a0 0) []=qj6 a0 []:=rfl
  refine ⟨⟨zK _,h0⟩,trivial,fun hr=>?_,fun hr=>?_⟩
  all_goals first | simp only [quk hr] | simp only [quj hr]
  .refine ⟨?_,?_,⟨s0,s1⟩,?_,?_,⟨p0,p1⟩,?_,?_,?_,fun hb=>?_,fun hb=>⟨⟨by decide,by omega,hb,qi3 (zK 0) h0 i3 hb⟩,?_⟩⟩
   all_goals first | (simp only [qn,List.length_append,List.length_cons,List.length_nil];omega) | (rw [qi2 hc (zK 0) h0 i3 hb];exact ⟨rfl,rfl,trivial⟩) | skip
   intro i s ⟨i0,i1,i2,i3⟩
   refine ⟨fun hlt=>?_,fun hge=>?_⟩
   .obtain ⟨s0,s1,p0,p1,ht,hpl,hs,hq⟩:=qtu hp hc i0 hlt
    have z:s.length<=20000:=by simp only [ln] at i2;omega
    refine ⟨⟨i0,hlt⟩,trivial,fun hr=>?_,fun hr=>?_⟩
    all_goals first | simp only [quk hr] | simp only [quj hr]
    .refine ⟨?_,?_,⟨s0,s1⟩,?_,?_,⟨p0,p1⟩,?_,?_,?_,fun hb=>?_,fun hb=>⟨⟨by omega,by omega⟩,trivial,trivial,trivial,trivial,trivial,trivial,trivial,trivial,trivial,trivial,⟨by omega,by omega,hb,qi3 i0 hlt i3 hb⟩,by simp only [jn];omega⟩⟩
     all_goals first | (simp only [qn,List.length_append,List.length_cons,List.length_nil];omega) | (rw [qi2 hc i0 hlt i3 hb];exact ⟨rfl,rfl,trivial⟩)
    .refine ⟨trivial,?_,?_,?_,?_,⟨s0,s1⟩,?_,?_,⟨p0,p1⟩,?_,?_,?_,fun hb=>?_,fun hb=>⟨⟨by omega,by omega⟩,trivial,trivial,trivial,trivial,trivial,trivial,trivial,trivial,trivial,trivial,⟨by omega,by omega,hb,qi3 i0 hlt i3 hb⟩,by simp only [jn];omega⟩⟩
     all_goals first | (simp only [qn,List.length_append,List.length_cons,List.length_nil];omega) | (rw [qi2 hc i0 hlt i3 hb];exact ⟨rfl,rfl,trivial⟩)
   .rw [qp4 hc hge i3]
    exact ⟨Int.le_trans i2 (by decide),rfl,rfl,trivial⟩
  .refine ⟨trivial,?_,?_,?_,?_,⟨s0,s1⟩,?_,?_,⟨p0,p1⟩,?_,?_,?_,fun hb=>?_,fun hb=>⟨⟨by decide,by omega,hb,qi3 (zK 0) h0 i3 hb⟩,?_⟩⟩
   all_goals first | (simp only [qn,List.length_append,List.length_cons,List.length_nil];omega) | (rw [qi2 hc (zK 0) h0 i3 hb];exact ⟨rfl,rfl,trivial⟩) | skip
   intro i s ⟨i0,i1,i2,i3⟩
   refine ⟨fun hlt=>?_,fun hge=>?_⟩
   .obtain ⟨s0,s1,p0,p1,ht,hpl,hs,hq⟩:=qtu hp hc i0 hlt
    have z:s.length<=20000:=by simp only [ln] at i2;omega
    refine ⟨⟨i0,hlt⟩,trivial,fun hr=>?_,fun hr=>?_⟩
    all_goals first | simp only [quk hr] | simp only [quj hr]
    .refine ⟨?_,?_,⟨s0,s1⟩,?_,?_,⟨p0,p1⟩,?_,?_,?_,fun hb=>?_,fun hb=>⟨⟨by omega,by omega⟩,trivial,trivial,trivial,trivial,trivial,trivial,trivial,trivial,trivial,trivial,⟨by omega,by omega,hb,qi3 i0 hlt i3 hb⟩,by simp only [jn];omega⟩⟩
     all_goals first | (simp only [qn,List.length_append,List.length_cons,List.length_nil];omega) | (rw [qi2 hc i0 hlt i3 hb];exact ⟨rfl,rfl,trivial⟩)
    .refine ⟨trivial,?_,?_,?_,?_,⟨s0,s1⟩,?_,?_,⟨p0,p1⟩,?_,?_,?_,fun hb=>?_,fun hb=>⟨⟨by omega,by omega⟩,trivial,trivial,trivial,trivial,trivial,trivial,trivial,trivial,trivial,trivial,⟨by omega,by omega,hb,qi3 i0 hlt i3 hb⟩,by simp only [jn];omega⟩⟩
     all_goals first | (simp only [qn,List.length_append,List.length_cons,List.length_nil];omega) | (rw [qi2 hc i0 hlt i3 hb];exact ⟨rfl,rfl,trivial⟩)
   .rw [qp4 hc hge i3]
    exact ⟨Int.le_trans i2 (by decide),rfl,rfl,trivial⟩
 .rw [qp4 hc h0 (s:=[]) rfl];exact ⟨rfl,rfl,trivial⟩
section
variable {ws:List Word} {x:Int}
theorem qfr (h:(ix ws 0).Text=[114,101,115,116]):isR ws=true:=decide_eq_true h
theorem qhi (h:(ix ws 0).Text≠[114,101,115,116]):isR ws=false:=decide_eq_false h
theorem zmy (h0:0<=x) (h1:x<ln ws) (h:(ix ws x).Quoted=true):qdq ws:=.inr (.inr (List.any_eq_true.2 ⟨_,qix h0 h1,h⟩))
theorem zp3 (h1:ln ws<=x) (h:∀ j,0<=j->j<x->(ix ws j).Quoted=false):¬ ws.any (·.Quoted)=true:=by
 rw [List.any_eq_true]
 rintro ⟨w,hw,hq⟩
 obtain ⟨j,h0,h2,rfl⟩:=q1v hw
 rw [h j h0 (by omega)] at hq;cases hq
theorem qof (ht:(ix ws 0).Text=[114,101,115,116]) (hl:ln ws=4) (h1:ln ws<=x) (h:∀ j,0<=j->j<x->(ix ws j).Quoted=false):¬ qdq ws:=by
 rintro (⟨_,h⟩ | ⟨h,_⟩ | hq)
 .exact h hl
 .rw [qfr ht] at h;cases h
 .exact zp3 h1 h hq
theorem qla (hn:(ix ws 0).Text=[110,111,116,101]) (hl:ln ws=5) (h1:ln ws<=x) (h:∀ j,0<=j->j<x->(ix ws j).Quoted=false):¬ qdq ws:=by
 rintro (⟨h,_⟩ | ⟨_,h⟩ | hq)
 .simp only [isR,hn] at h;exact absurd h (by decide)
 .rcases h with h | h
  .exact h hl
  .exact h hn
 .exact zp3 h1 h hq
theorem qma (hn:(ix ws 0).Text=[110,111,116,101]):isR ws=false:=qhi (by rw [hn];decide)
theorem q0b (h:¬ qdq ws) (hR:isR ws=true):qbn ws=if (qd (ix ws 1).Text).2.2≠0∨(qd (ix ws 1).Text).1=0 then 1 else if (zb (ix ws 2).Text).2=false then 2 else if (zb (ix ws 3).Text).2=false then 3 else -1:=by
 simp [qbn,h,hR,kD]
theorem qwg (h:¬ qdq ws) (hR:isR ws=false):qbn ws=if (qo (ix ws 1).Text).2.2.2≠0 then 1 else if (qd (ix ws 2).Text).2.2≠0∨(qd (ix ws 2).Text).1=0 then 2 else if (zb (ix ws 3).Text).2=false then 3 else if (zb (ix ws 4).Text).2=false then 4 else -1:=by
 simp [qbn,h,hR,kD]
theorem zaj (h:qdq ws):qy ws 0 0 0 0 0 0 0 (isR ws) 0 0 0:=by
 have hk:qbn ws=0:=zT h
 unfold qy zu qok kD
 simp only [hk]
 cases isR ws<;>simp
theorem q37 {k:Int} (h:¬ qdq ws) (hR:isR ws=true) (hk:qbn ws=k) (k1:k = -1∨1<=k) :
  qy ws 0 0 (if k = -1∨1<k then (qd (ix ws 1).Text).1 else 0) (if k = -1∨1<k then (qd (ix ws 1).Text).2.1 else 0) 0 0 0 (isR ws) (if k = -1∨2<k then (zb (ix ws 2).Text).1 else 0) (if k = -1∨3<k then (zb (ix ws 3).Text).1 else 0) k:=by
 unfold qy zu qok kD
 simp [hR,hk]
theorem qyz {k:Int} (h:¬ qdq ws) (hR:isR ws=false) (hk:qbn ws=k) :
  qy ws 0 0 (if k = -1∨2<k then (qd (ix ws 2).Text).1 else 0) (if k = -1∨2<k then (qd (ix ws 2).Text).2.1 else 0) (if k = -1∨1<k then (qo (ix ws 1).Text).1 else 0) (if k = -1∨1<k then (qo (ix ws 1).Text).2.1 else 0) (if k = -1∨1<k then (qo (ix ws 1).Text).2.2.1 else 0) (isR ws) (if k = -1∨3<k then (zb (ix ws 3).Text).1 else 0) (if k = -1∨4<k then (zb (ix ws 4).Text).1 else 0) k:=by
 unfold qy zu qok kD
 simp [hR,hk]
theorem r1 (h:¬ qdq ws) (hR:isR ws=true) (c:(qd (ix ws 1).Text).2.2≠0∨(qd (ix ws 1).Text).1=0):qbn ws=1:=by rw [q0b h hR,zT c]
theorem r2 (h:¬ qdq ws) (hR:isR ws=true) (c:(qd (ix ws 1).Text).2.2=0) (d:(qd (ix ws 1).Text).1≠0) (e:(zb (ix ws 2).Text).2=false):qbn ws=2:=by rw [q0b h hR,zF (by omega),zT e]
theorem r3 (h:¬ qdq ws) (hR:isR ws=true) (c:(qd (ix ws 1).Text).2.2=0) (d:(qd (ix ws 1).Text).1≠0) (e:(zb (ix ws 2).Text).2=true) (f:(zb (ix ws 3).Text).2=false):qbn ws=3:=by rw [q0b h hR,zF (by omega),zF (by rw [e];decide),zT f]
theorem r4 (h:¬ qdq ws) (hR:isR ws=true) (c:(qd (ix ws 1).Text).2.2=0) (d:(qd (ix ws 1).Text).1≠0) (e:(zb (ix ws 2).Text).2=true) (f:(zb (ix ws 3).Text).2=true):qbn ws = -1:=by rw [q0b h hR,zF (by omega),zF (by rw [e];decide),zF (by rw [f];decide)]
theorem n1 (h:¬ qdq ws) (hR:isR ws=false) (b:(qo (ix ws 1).Text).2.2.2≠0):qbn ws=1:=by rw [qwg h hR,zT b]
theorem n2 (h:¬ qdq ws) (hR:isR ws=false) (b:(qo (ix ws 1).Text).2.2.2=0) (c:(qd (ix ws 2).Text).2.2≠0∨(qd (ix ws 2).Text).1=0):qbn ws=2:=by rw [qwg h hR,zF (by omega),zT c]
theorem n3 (h:¬ qdq ws) (hR:isR ws=false) (b:(qo (ix ws 1).Text).2.2.2=0) (c:(qd (ix ws 2).Text).2.2=0) (d:(qd (ix ws 2).Text).1≠0) (e:(zb (ix ws 3).Text).2=false):qbn ws=3:=by rw [qwg h hR,zF (by omega),zF (by omega),zT e]
theorem n4 (h:¬ qdq ws) (hR:isR ws=false) (b:(qo (ix ws 1).Text).2.2.2=0) (c:(qd (ix ws 2).Text).2.2=0) (d:(qd (ix ws 2).Text).1≠0) (e:(zb (ix ws 3).Text).2=true) (f:(zb (ix ws 4).Text).2=false):qbn ws=4:=by rw [qwg h hR,zF (by omega),zF (by omega),zF (by rw [e];decide),zT f]
theorem n5 (h:¬ qdq ws) (hR:isR ws=false) (b:(qo (ix ws 1).Text).2.2.2=0) (c:(qd (ix ws 2).Text).2.2=0) (d:(qd (ix ws 2).Text).1≠0) (e:(zb (ix ws 3).Text).2=true) (f:(zb (ix ws 4).Text).2=true):qbn ws = -1:=by rw [qwg h hR,zF (by omega),zF (by omega),zF (by rw [e];decide),zF (by rw [f];decide)]
end
section
variable {ws:List Word} {x:Int}
theorem q56 (h:∀ j,0<=j->j<x->(ix ws j).Quoted=false) (hx:(ix ws x).Quoted=false):∀ j,0<=j->j<x+1->(ix ws j).Quoted=false:=by
 intro j h0 h1
 by_cases hj:j=x
 .rw [hj];exact hx
 .exact h j h0 (by omega)
end
theorem zmi (a0:List Word) (hp:qh4 a0):q2i a0:=by
 obtain ⟨p0,p1,p2⟩:=hp
 have tx:∀ i,0<=i->i<ln a0->ln (ix a0 i).Text<=1000:=fun i h0 h1=>p2 _ (qix h0 h1)
 unfold q2i
 simp only [qad,qbl,and_imp]
 unhygienic (repeat' (first | exact trivial | with_reducible apply And.intro | with_reducible refine fun _=>?_))
 all_goals first
  | (with_reducible assumption)
  | contradiction
  | omega
  | exact tx _ (by omega) (by omega)
  | (with_reducible rfl)
  | exact q56 ‹_› ‹_›  _ ‹_› ‹_›
  | exact zaj (.inl ⟨qfr ‹_›,by assumption⟩)
  | exact zaj (.inr (.inl ⟨qhi ‹_›,.inl ‹_›⟩))
  | exact zaj (.inr (.inl ⟨qhi ‹_›,.inr ‹_›⟩))
  | exact zaj (zmy ‹_› ‹_› ‹_›)
  | exact q37 (qof ‹_› ‹_› ‹_› ‹_›) (qfr ‹_›) (r4 (qof ‹_› ‹_› ‹_› ‹_›) (qfr ‹_›) ‹_› ‹_› ‹_› ‹_›) (by decide)
  | exact q37 (qof ‹_› ‹_› ‹_› ‹_›) (qfr ‹_›) (r3 (qof ‹_› ‹_› ‹_› ‹_›) (qfr ‹_›) ‹_› ‹_› ‹_› ‹_›) (by decide)
  | exact q37 (qof ‹_› ‹_› ‹_› ‹_›) (qfr ‹_›) (r2 (qof ‹_› ‹_› ‹_› ‹_›) (qfr ‹_›) ‹_› ‹_› ‹_›) (by decide)
  | exact q37 (qof ‹_› ‹_› ‹_› ‹_›) (qfr ‹_›) (r1 (qof ‹_› ‹_› ‹_› ‹_›) (qfr ‹_›) (.inl ‹_›)) (by decide)
  | exact q37 (qof ‹_› ‹_› ‹_› ‹_›) (qfr ‹_›) (r1 (qof ‹_› ‹_› ‹_› ‹_›) (qfr ‹_›) (.inr ‹_›)) (by decide)
  | exact qyz (qla ‹_› ‹_› ‹_› ‹_›) (qhi ‹_›) (n5 (qla ‹_› ‹_› ‹_› ‹_›) (qhi ‹_›) ‹_› ‹_› ‹_› ‹_› ‹_›)
  | exact qyz (qla ‹_› ‹_› ‹_› ‹_›) (qhi ‹_›) (n4 (qla ‹_› ‹_› ‹_› ‹_›) (qhi ‹_›) ‹_› ‹_› ‹_› ‹_› ‹_›)
  | exact qyz (qla ‹_› ‹_› ‹_› ‹_›) (qhi ‹_›) (n3 (qla ‹_› ‹_› ‹_› ‹_›) (qhi ‹_›) ‹_› ‹_› ‹_› ‹_›)
  | exact qyz (qla ‹_› ‹_› ‹_› ‹_›) (qhi ‹_›) (n2 (qla ‹_› ‹_› ‹_› ‹_›) (qhi ‹_›) ‹_› (.inl ‹_›))
  | exact qyz (qla ‹_› ‹_› ‹_› ‹_›) (qhi ‹_›) (n2 (qla ‹_› ‹_› ‹_› ‹_›) (qhi ‹_›) ‹_› (.inr ‹_›))
  | exact qyz (qla ‹_› ‹_› ‹_› ‹_›) (qhi ‹_›) (n1 (qla ‹_› ‹_› ‹_› ‹_›) (qhi ‹_›) ‹_›)
section
variable {ws:List Word} {z:Int}
theorem q1c (h:qdq ws):ka z ws 0 0 0 0 0 0 0 false 0 0 (ix ws 0).At:=by
 have hk:qbn ws=0:=zT h
 unfold ka jh qom
 simp [hk]
theorem qki {k:Int} (hk:qbn ws=k) (h:k≠-1):ka z ws 0 0 0 0 0 0 0 false 0 0 (ix ws k).At:=by
 unfold ka jh qom
 simp [hk,h]
theorem zog (hR:isR ws=true) (hk:qbn ws = -1) {b:Bool} (hb:b=true):ka z ws 0 0 (qd (ix ws 1).Text).1 (qd (ix ws 1).Text).2.1 0 0 0 b (zb (ix ws 2).Text).1 (zb (ix ws 3).Text).1 (-1):=by
 unfold ka jh qom zu qok kD
 simp [hk,hR,hb]
theorem zof (hR:isR ws=false) (hk:qbn ws = -1) {b:Bool} (hb:b=false):ka z ws 0 0 (qd (ix ws 2).Text).1 (qd (ix ws 2).Text).2.1 (qo (ix ws 1).Text).1 (qo (ix ws 1).Text).2.1 (qo (ix ws 1).Text).2.2.1 b (zb (ix ws 3).Text).1 (zb (ix ws 4).Text).1 (-1):=by
 unfold ka jh qom zu qok kD
 simp [hk,hR,hb]
end
theorem zmf (z:Int) (a0:List Word) (hp:qh4 a0):q2h z a0:=by
 obtain ⟨p0,p1,p2⟩:=hp
 have tx:∀ i,0<=i->i<ln a0->ln (ix a0 i).Text<=1000:=fun i h0 h1=>p2 _ (qix h0 h1)
 unfold q2h
 simp only [qiw,qjp,and_imp]
 unhygienic (repeat' (first | exact trivial | with_reducible apply And.intro | with_reducible refine fun _=>?_))
 all_goals first
  | (with_reducible assumption)
  | contradiction
  | omega
  | exact tx _ (by omega) (by omega)
  | (with_reducible rfl)
  | exact q56 ‹_› ‹_›  _ ‹_› ‹_›
  | exact q1c (.inl ⟨qfr ‹_›,by assumption⟩)
  | exact q1c (.inr (.inl ⟨qhi ‹_›,.inr ‹_›⟩))
  | exact q1c (.inr (.inl ⟨qma ‹_›,.inl ‹_›⟩))
  | exact q1c (zmy ‹_› ‹_› ‹_›)
  | exact zog (qfr ‹_›) (r4 (qof ‹_› ‹_› ‹_› ‹_›) (qfr ‹_›) ‹_› ‹_› ‹_› ‹_›) (by simp;omega)
  | exact qki (r3 (qof ‹_› ‹_› ‹_› ‹_›) (qfr ‹_›) ‹_› ‹_› ‹_› ‹_›) (by decide)
  | exact qki (r2 (qof ‹_› ‹_› ‹_› ‹_›) (qfr ‹_›) ‹_› ‹_› ‹_›) (by decide)
  | exact qki (r1 (qof ‹_› ‹_› ‹_› ‹_›) (qfr ‹_›) (.inl ‹_›)) (by decide)
  | exact qki (r1 (qof ‹_› ‹_› ‹_› ‹_›) (qfr ‹_›) (.inr ‹_›)) (by decide)
  | exact zof (qma ‹_›) (n5 (qla ‹_› ‹_› ‹_› ‹_›) (qma ‹_›) ‹_› ‹_› ‹_› ‹_› ‹_›) (by first | rfl | (simp;omega))
  | exact qki (n4 (qla ‹_› ‹_› ‹_› ‹_›) (qma ‹_›) ‹_› ‹_› ‹_› ‹_› ‹_›) (by decide)
  | exact qki (n3 (qla ‹_› ‹_› ‹_› ‹_›) (qma ‹_›) ‹_› ‹_› ‹_› ‹_›) (by decide)
  | exact qki (n2 (qla ‹_› ‹_› ‹_› ‹_›) (qma ‹_›) ‹_› (.inl ‹_›)) (by decide)
  | exact qki (n2 (qla ‹_› ‹_› ‹_› ‹_›) (qma ‹_›) ‹_› (.inr ‹_›)) (by decide)
  | exact qki (n1 (qla ‹_› ‹_› ‹_› ‹_›) (qma ‹_›) ‹_›) (by decide)
theorem zd5 {n d:Int} (h0:0<=n) (h1:1<=d) (h:(ofT n d).2.2=0):qj (ofT n d).1 (ofT n d).2.1=0:=by
 unfold ofT at h ⊢
 split at h
 .simp at h
 .rename_i hno
  rw [zF hno]
  obtain ⟨N,rfl⟩:=Int.eq_ofNat_of_zero_le h0
  obtain ⟨D,rfl⟩:=Int.eq_ofNat_of_zero_le (show 0<=d by omega)
  have hD:0<D:=by omega
  have hg:0<Nat.gcd N D:=Nat.gcd_pos_of_pos_right _ hD
  have e:jg (N:Int) (D:Int)=((Nat.gcd N D:Nat):Int):=by simp [jg]
  rw [e] at hno ⊢
  have e1:Int.tdiv (N:Int) ((Nat.gcd N D:Nat):Int)=((N / Nat.gcd N D:Nat):Int):=(Int.ofNat_tdiv _ _).symm
  have e2:Int.tdiv (D:Int) ((Nat.gcd N D:Nat):Int)=((D / Nat.gcd N D:Nat):Int):=(Int.ofNat_tdiv _ _).symm
  rw [e1,e2] at hno ⊢
  have hd:0<D / Nat.gcd N D:=Nat.div_pos (Nat.le_of_dvd hD (Nat.gcd_dvd_right N D)) hg
  have hc:=Nat.gcd_div_gcd_div_gcd_of_pos_right (n:=N) hD
  revert hno hc hd
  generalize N / Nat.gcd N D=p
  generalize D / Nat.gcd N D=q
  intro hno hd hc
  show qj (p:Int) (q:Int)=0
  have hg1:jg (p:Int) (q:Int)=1:=by simp [jg,hc]
  unfold qj
  rw [zF (by omega),hg1,zF (by omega)]
theorem q95 {a b c d:Int} (h1:qj a b=0) (h2:qj c d=0):ke a b c d=ofT (a * d+c * b) (b * d):=by
 unfold ke
 rw [zF (by omega),zF (by omega)]
theorem qyo {a b c d:Int} (h1:qj a b=0) (h2:qj c d=0) (h:(ke a b c d).2.2=0):qj (ke a b c d).1 (ke a b c d).2.1=0:=by
 obtain ⟨_,_,_,_,⟨b5,b6,_⟩,_⟩:=qnu h1 h2
 rw [q95 h1 h2] at h ⊢
 exact zd5 b5 b6 h
theorem zjt {a b c d:Int} (h1:qj a b=0) (h2:qj c d=0) (h:(ke a b c d).2.2≠0):(ke a b c d).2.2=4:=by
 rw [q95 h1 h2] at h ⊢
 unfold ofT at h ⊢
 split at h
 .rename_i hc;rw [zT hc]
 .exact absurd rfl h
theorem zed {s:ZB} (h:(qd s).2.2=0):qj (qd s).1 (qd s).2.1=0:=by
 unfold qd at h ⊢
 split at h
 .simp at h
 .rename_i c1
  rw [zF c1]
  have q:0<=qaj (upto s (qbb s)) 0:=by
   have:kv (upto s (qbb s))=true:=by
    cases hp:kv (upto s (qbb s)) with
    | true=>rfl
    | false=>exact absurd (.inl hp) c1
   exact qmn (n:=0) (qdu this) (zK _)
  split at h
  .simp at h
  .rename_i c2
   rw [zF c2]
   split at h
   .rename_i c3;rw [zT c3];exact qyu q (by omega)
   .rename_i c3
    rw [zF c3]
    split at h
    .simp at h
    .rename_i c4
     rw [zF c4]
     split at h
     .simp at h
     .rename_i c5
      rw [zF c5]
      show qj (qaj (upto s (qbb s)) 0) (qaj (fr s (qbb s+1)) 0)=0
      exact (qqy q (by omega) (by omega) (by omega)).2 (by omega)
theorem sub_le (l:ZB) (i j:Int):ln (sub l i j)<=ln l:=by simp only [ln,sub,List.length_drop,List.length_take];omega
theorem zkw (l:ZB) (f i:Int) (hf:0<=f) (hi:0<=i):∀ w ∈ (zp l f i).1,ln w.Text<=ln l/\0<=w.At:=by
 have hr:∀ i:Int,i<=zj kf l i:=fun i=>qb5
 fun_induction zp l f i with
 | case1 i h1=>intro w hw;cases hw
 | case2 i h1 h2 h3 h4 ih=>
  intro w hw
  have:=hr i
  rcases zD.1 hw with rfl | hw
  .exact ⟨sub_le _ _ _,by show 0<=f+_;omega⟩
  .exact ih (by omega) w hw
 | case3 i h1 h2 h3 h4 ih=>intro w hw;cases hw
 | case4 i h1 h2 h3=>intro w hw;cases hw
 | case5 i h1 h2 h3 h4 h5 ih=>
  intro w hw
  have:=hr i
  rcases zD.1 hw with rfl | hw
  .exact ⟨sub_le _ _ _,by show 0<=f+_;omega⟩
  .exact ih (by omega) w hw
 | case6 i h1 h2 h3 h4 h5 ih=>intro w hw;cases hw
 | case7 i h1 h2 h3 h4=>intro w hw;cases hw
 | case8 i h1 h2 h3=>intro w hw;cases hw
theorem q6g:∀ (L:List ZB) (x:Int),0<=x->∀ r ∈ (qap L x).1,1<=ln r.Words/\∀ w ∈ r.Words,ln w.Text<=1000/\0<=w.At
 | [],x,_=>fun r h=>by cases h
 | l::L,x,hx=>by
  have ih:=q6g L (x+ln l+1) (by have:=zm l;omega)
  unfold qap
  split
  .intro r h;cases h
  .rename_i hl
   split
   .intro r h;cases h
   .split
    .split
     .exact ih
     .rename_i hne
      intro r hr
      rcases zD.1 hr with rfl | hr
      .refine ⟨?_,fun w hw=>?_⟩
       .show 1<=ln (zp l x 0).1
        cases hc:(zp l x 0).1 with
        | nil=>exact absurd hc hne
        | cons a b=>rw [qau];have:=zm b;omega
       .have:=zkw l x 0 hx (zK _) w hw;exact ⟨by omega,this.2⟩
      .exact ih r hr
    .intro r h;cases h
theorem q6e (t:ZB):∀ r ∈ (qb t).1,qh4 r.Words/\∀ w ∈ r.Words,0<=w.At:=by
 intro r hr
 have h1:=(qqb t).2 r hr
 unfold qb at hr
 split at hr
 .cases hr
 .have:=q6g _ _ (zK _) r hr
  exact ⟨⟨by omega,h1,fun w hw=>(this.2 w hw).1⟩,fun w hw=>(this.2 w hw).2⟩
theorem zbe {ws:List Word} (h:0<ln ws):qbn ws = -1∨(0<=qbn ws/\qbn ws<ln ws):=by
 by_cases hh:qdq ws
 .rw [show qbn ws=0 from zT hh];omega
 .have hl:ln ws=if isR ws=true then 4 else 5:=by
   by_cases hR:isR ws=true
   .rw [zT hR]
    by_cases h4:ln ws=4
    .exact h4
    .exact absurd (.inl ⟨hR,h4⟩) hh
   .rw [zF hR]
    by_cases h5:ln ws=5
    .exact h5
    .exact absurd (.inr (.inl ⟨by simpa using hR,.inl h5⟩)) hh
  cases hR:isR ws
  .rw [hR,zF (by decide)] at hl
   rw [qwg hh hR];(repeat' split)<;>omega
  .rw [hR,zT rfl] at hl
   rw [q0b hh hR];(repeat' split)<;>omega
theorem qww {ws:List Word} (h:qbn ws = -1):qj (zu ws).DurN (zu ws).DurD=0:=by
 have hh:¬ qdq ws:=fun hh=>by rw [show qbn ws=0 from zT hh] at h;omega
 have hp:(qd (ix ws (kD ws)).Text).2.2=0:=by
  cases hR:isR ws
  .rw [qwg hh hR] at h
   have:kD ws=2:=by simp [kD,hR]
   rw [this]
   split at h
   .omega
   .split at h<;>omega
  .rw [q0b hh hR] at h
   have:kD ws=1:=by simp [kD,hR]
   rw [this]
   split at h<;>omega
 have e:qok ws (kD ws):=.inl h
 simp only [zu,zT e]
 exact zed hp
section
variable {t:ZB} {l:List Event} {i n d:Int}
theorem q53 (h:(qb t).2.1≠0):qai t=([],(qb t).2):=by unfold qai;rw [zT h]
theorem zam (h:(qb t).2.1=0) (hi:qg6 (fr (qb t).1 i) i n d l=qg6 (qb t).1 0 0 1 []) (h0:0<=i) (h1:i<ln (qb t).1) (h2:i=2000):qai t=([],11,(ix (ix (qb t).1 i).Words 0).At):=by
 unfold qai
 rw [zF (by omega),<-hi,qd1 h0 h1,qg6,zT h2]
theorem zgz (h:(qb t).2.1=0) (hi:qg6 (fr (qb t).1 i) i n d l=qg6 (qb t).1 0 0 1 []) (h0:0<=i) (h1:i<ln (qb t).1) (h2:i≠2000) (h3:qbn (ix (qb t).1 i).Words≠-1):qai t=([],3,(ix (ix (qb t).1 i).Words (qbn (ix (qb t).1 i).Words)).At):=by
 unfold qai
 rw [zF (by omega),<-hi,qd1 h0 h1,qg6,zF h2,zT h3]
theorem zgx (h:(qb t).2.1=0) (hi:qg6 (fr (qb t).1 i) i n d l=qg6 (qb t).1 0 0 1 []) (h0:0<=i) (h1:i<ln (qb t).1) (h2:i≠2000) (h3:qbn (ix (qb t).1 i).Words = -1)
  (h4:(ke n d (zu (ix (qb t).1 i).Words).DurN (zu (ix (qb t).1 i).Words).DurD).2.2≠0):qai t=([],4,(ix (ix (qb t).1 i).Words 0).At):=by
 unfold qai
 rw [zF (by omega),<-hi,qd1 h0 h1,qg6,zF h2,zF (by omega),zT h4]
theorem zao (hi:qg6 (fr (qb t).1 i) i n d l=qg6 (qb t).1 0 0 1 []) (h0:0<=i) (h1:i<ln (qb t).1) (h2:i≠2000) (h3:qbn (ix (qb t).1 i).Words = -1)
  (h4:(ke n d (zu (ix (qb t).1 i).Words).DurN (zu (ix (qb t).1 i).Words).DurD).2.2=0) {x:Event} (hx:x = {zu (ix (qb t).1 i).Words with AtN:=n,AtD:=d}) :
  qg6 (fr (qb t).1 (i+1)) (i+1) (ke n d (zu (ix (qb t).1 i).Words).DurN (zu (ix (qb t).1 i).Words).DurD).1 (ke n d (zu (ix (qb t).1 i).Words).DurN (zu (ix (qb t).1 i).Words).DurD).2.1 (l++[x])=qg6 (qb t).1 0 0 1 []:=by
 rw [<-hi,qd1 h0 h1,qg6,zF h2,zF (by omega),zF (by omega),hx]
theorem zgy (h:(qb t).2.1=0) (hi:qg6 (fr (qb t).1 i) i n d l=qg6 (qb t).1 0 0 1 []) (h1:ln (qb t).1<=i):qai t=(l,0,0):=by
 unfold qai
 rw [zF (by omega),<-hi,qkn h1,qg6]
end
theorem zmk {ws:List Word} (h:qbn ws = -1):jh ws=zu ws:=zT h
theorem zmd {ws:List Word} (h:0<ln ws) (hw:∀ w ∈ ws,0<=w.At) (ha:qom ws<0):qbn ws = -1:=by
 rcases zbe h with hk | ⟨h0,h1⟩
 .exact hk
 .exfalso
  unfold qom at ha
  rw [zF (by omega)] at ha
  have:=hw _ (qix h0 h1)
  omega
theorem zmc {ws:List Word} (ha:0<=qom ws):qbn ws≠-1/\qom ws=(ix ws (qbn ws)).At:=by
 unfold qom at ha ⊢
 split at ha
 .omega
 .rename_i h;exact ⟨h,by rw [zF h]⟩
theorem zb5 (t:ZB) (hp:ln t<=1000000000):qqr t:=by
 have hb:=(qqb t).1
 have n0:=zm (qb t).1
 have hw:=fun i (h0:0<=i) (h1:i<ln (qb t).1)=>q6e t _ (qix h0 h1)
 unfold qqr
 refine ⟨trivial,fun h=>?_,fun h=>⟨⟨zK _,n0,zK _,by decide,by decide,rfl⟩,fun l i n d ⟨i0,i1,i2,i3,i4,i5⟩=>⟨fun hlt=>?_,fun hge=>?_⟩⟩⟩
 .unfold qb8;rw [q53 h];exact ⟨rfl,rfl,rfl,trivial⟩
 .obtain ⟨⟨g0,g1,g2⟩,g3⟩:=hw i i0 hlt
  have kb:=zbe g0
  refine ⟨⟨i0,hlt⟩,fun hf=>⟨⟨by omega,g0⟩,?_⟩,fun hf=>⟨⟨g0,g1,g2⟩,fun hk=>⟨⟨hk,by omega⟩,?_⟩,fun hk=>⟨trivial,fun ha=>⟨⟨by omega,g0⟩,?_⟩,fun ha=>⟨trivial,?_,⟨by omega,by omega⟩,rfl,rfl,?_,?_⟩⟩⟩⟩
  .unfold qb8;rw [zam h i5 i0 hlt hf];exact ⟨rfl,rfl,rfl,trivial⟩
  .unfold qb8;rw [zgz h i5 i0 hlt hf (by omega)];exact ⟨rfl,rfl,rfl,trivial⟩
  .unfold qb8;rw [zgx h i5 i0 hlt hf (by omega) ha,zjt i4 (qww (by omega)) ha];exact ⟨rfl,rfl,rfl,trivial⟩
  .exact qgp (by omega)
  .exact ⟨by omega,by omega,by rw [qjl];omega,by omega,qyo i4 (qww (by omega)) ha,zao i5 i0 hlt hf (by omega) ha rfl⟩
  .simp only [qgy];omega
 .unfold qb8;rw [zgy h i5 hge];exact ⟨rfl,rfl,rfl,trivial⟩
theorem q7k (t:ZB) (hp:ln t<=1000000000):qnt t:=by
 have hb:=(qqb t).1
 have n0:=zm (qb t).1
 have hw:=fun i (h0:0<=i) (h1:i<ln (qb t).1)=>q6e t _ (qix h0 h1)
 unfold qnt
 refine ⟨trivial,fun h=>?_,fun h=>⟨⟨zK _,n0,zK _,by decide,by decide,rfl⟩,fun l i n d ⟨i0,i1,i2,i3,i4,i5⟩=>⟨fun hlt=>?_,fun hge=>?_⟩⟩⟩
 .unfold qbe;rw [q53 h];exact ⟨rfl,rfl,rfl,trivial⟩
 .obtain ⟨⟨g0,g1,g2⟩,g3⟩:=hw i i0 hlt
  refine ⟨fun hf=>⟨⟨i0,hlt⟩,⟨by omega,g0⟩,?_⟩,fun hf=>⟨⟨i0,hlt⟩,⟨g0,g1,g2⟩,fun hk=>?_,fun hk=>?_⟩⟩
  .unfold qbe;rw [zam h i5 i0 hlt hf];exact ⟨rfl,rfl,rfl,trivial⟩
  .obtain ⟨k1,k2⟩:=zmc hk
   unfold qbe;rw [zgz h i5 i0 hlt hf k1,k2];exact ⟨rfl,rfl,rfl,trivial⟩
  .have hk1:=zmd g0 g3 hk
   rw [zmk hk1]
   refine ⟨trivial,fun ha=>⟨⟨i0,hlt⟩,⟨by omega,g0⟩,?_⟩,fun ha=>⟨trivial,?_,⟨by omega,by omega⟩,rfl,rfl,?_,?_⟩⟩
   .unfold qbe;rw [zgx h i5 i0 hlt hf hk1 ha];exact ⟨rfl,rfl,rfl,trivial⟩
   .exact qgp (by omega)
   .exact ⟨by omega,by omega,by rw [qjl];omega,by omega,qyo i4 (qww hk1) ha,zao i5 i0 hlt hf hk1 ha rfl⟩
   .simp only [qfu];omega
 .unfold qbe;rw [zgy h i5 hge];exact ⟨rfl,rfl,rfl,trivial⟩
theorem zis (t:ZB):ln (qai t).1<=1000000000:=by
 have go:∀ (rs:List Row) (i n d:Int) (acc:List Event),ln (qg6 rs i n d acc).1<=ln acc+ln rs:=by
  intro rs
  induction rs with
  | nil=>intro i n d acc;rw [qg6,qeb];show ln acc<=_;omega
  | cons r rs ih=>
   intro i n d acc
   have h0:=zm acc
   have h1:=zm rs
   rw [qg6,qau]
   split
   .show ln ([]:List Event)<=_;rw [qeb];omega
   .split
    .show ln ([]:List Event)<=_;rw [qeb];omega
    .split
     .show ln ([]:List Event)<=_;rw [qeb];omega
     .refine Int.le_trans (ih _ _ _ _) ?_
      rw [qjl];omega
 have hb:=(qqb t).1
 unfold qai
 split
 .show ln ([]:List Event)<=_;rw [qeb];decide
 .have:=go (qb t).1 0 0 1 []
  rw [qeb] at this
  omega
theorem q43 (a0:List Event) (a1:ZB) (hp:ln a0<=9223372036854775807/\ln a1<=9223372036854775807/\∀ x ∈ a0,x.Sign<=9223372036854775807/\x.Pass<=9223372036854775807):ql2 a0 a1:=by
 obtain ⟨_,_,hg⟩:=hp
 have hl:=zis a1
 have hs:qbx (qai a1).1 (qai a1).1=true:=qw3 rfl
 unfold ql2
 unhygienic (repeat' (first | exact trivial | with_reducible apply And.intro | with_reducible refine fun _=>?_))
 all_goals first
  | (with_reducible rfl)
  | omega
  | exact ⟨by omega,hg⟩
  | (rw [hs] at *;contradiction)
  | skip
end Go.Proofs.YtpbliaccnbgapaaGreatDoor
