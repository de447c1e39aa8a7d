import Derived.Test.YtpbliaccnbgapaaGreatDoorVcs
import Derived.Test.YtpbliaccnbgapaaGreatDoorDall
namespace Go.Proofs.YtpbliaccnbgapaaGreatDoor
open Go Go.E2 Go.E3
set_option maxRecDepth 100000
theorem zcd:∀ n:Nat,n<127->bx ZX (n:Int)=jl n:=by decide +kernel
theorem zfp (a0:Int) (hp:U8 a0):q31 a0:=by
 obtain ⟨h0,h1⟩:=hp
 refine ⟨by omega,fun h=>⟨?_,trivial⟩,fun h=>⟨⟨h0,by simp only [ln,List.length_cons,List.length_nil];omega⟩,?_,trivial⟩⟩
 .unfold jl;rw [zT (by omega)]
 .have:=zcd a0.toNat (by omega)
  rwa [show ((a0.toNat:Nat):Int)=a0 by omega] at this
theorem zdw (a0:ZB) (hp:ln a0<=1000000000):qz5 a0:=by
 refine ⟨⟨by omega,zt _,fun j h1 h2=>by omega⟩,fun x ⟨h0,h1,h2⟩=>⟨fun h3=>⟨⟨h0,h3⟩,quk a0 x,fun hc=>⟨?_,trivial⟩,fun hc=>⟨fun hd=>⟨?_,trivial⟩,fun hd=>⟨by omega,⟨by omega,by omega,fun j h4 h5=>?_⟩,?_⟩⟩⟩,fun h3=>⟨?_,trivial⟩⟩⟩
 .exact (qss h0 h3 (qsh.2 (by have:=qtg.1 hc;omega))).symm
 .exact (qss h0 h3 (qsh.2 (by have:=qo6.1 hd;omega))).symm
 .by_cases h:j=x
  .subst h
   rw [qsg]
   have a:=mt qtg.2 hc
   have b:=mt qo6.2 hd
   omega
  .exact h2 j h4 (by omega)
 .simp only [qgm];omega
 .exact (qi9.2 fun i h4 h5=>h2 i h4 (by omega)).symm
theorem qpl {a0 a1 x:ZB} {i:Int} {l:List ZB} (hinv:kf a0 a1 0 (-1) x i l) (h:qa (bx a1 0) x=[x]) :
  i<ln l/\upto (l.set i.toNat x) (i+1)=qa (bx a1 0) a0:=by
 obtain ⟨h0,h1,h2,h3,h4⟩:=hinv
 rw [h] at h2 h3
 have hi:i<ln l:=by rw [h1,<-h2];simp only [ln,List.length_cons,List.length_nil];omega
 exact ⟨hi,by rw [q6p h0 hi,h3]⟩
theorem qnc {a0 a1 x:ZB} {i m:Int} {l:List ZB} (hinv:kf a0 a1 0 (-1) x i l) (hm:0<=m) (hml:m<ln x) (h:qa (bx a1 0) x=upto x m::qa (bx a1 0) (fr x (m+1))) (hi:i<j4 a0 (bx a1 0)) :
  kf a0 a1 0 (-1) (fr x (m+1)) (i+1) (l.set i.toNat (upto x m)):=by
 obtain ⟨h0,h1,h2,h3,h4⟩:=hinv
 rw [h] at h2 h3
 rw [jv] at h2
 refine ⟨by omega,by rw [qwj,h1],by omega,?_,?_⟩
 .rw [q6p h0 (by rw [h1];omega),List.append_assoc]
  exact h3
 .rw [zg5 (by omega) (by omega)];omega
theorem q4x (a0 a1:ZB) (a2 a3:Int) (hp:ln a1=1/\(a2:Int)=0/\(a3:Int) = -1/\ln a0<=100000000):qlp a0 a1 a2 a3:=by
 obtain ⟨h1,rfl,rfl,hl⟩:=hp
 have hc:=quk a1 0
 have hb:=q06 a0 (bx a1 0)
 have hn:(if ((ln a0)+1)<((j4 a0 (bx a1 0))+1) then ((ln a0)+1) else ((j4 a0 (bx a1 0))+1))=j4 a0 (bx a1 0)+1:=zF (by omega)
 have hz:∀ m:Int,m+0=m:=fun m=>by omega
 unfold qlp
 simp only [hn]
 refine ⟨fun h=>absurd h (by decide),fun _=>⟨fun h=>(by subst h;cases h1),fun _=>⟨fun _=>⟨fun h=>by omega,fun _=>⟨fun _=>?_,fun h=>absurd h1 h⟩⟩,fun h=>by omega⟩⟩⟩
 refine ⟨by omega,trivial,by omega,by omega,trivial,by omega,trivial,by omega,⟨zK 0,q19 (by omega),?_,?_,zK _⟩,fun x i l hi=>⟨fun hlt=>⟨fun h=>by omega,fun _=>⟨fun hx=>?_,fun hx=>⟨fun _=>?_,fun h=>absurd h1 h⟩⟩⟩,fun hge=>?_⟩⟩
 .rw [qrb hc.1 (by omega)];omega
 .rfl
 .
  subst hx
  have hidx:qf a1 (bx a1 0)=0:=by
   rcases q1z a1 (bx a1 0) with h | h
   .have:=q1y a1 (bx a1 0)
    by_cases hx:qf a1 (bx a1 0)<0
    .exact absurd rfl (qmm hc.1 (by omega) hx 0 (zK 0) (by omega))
    .omega
   .exact absurd rfl (qmm hc.1 (by omega) (by omega) 0 (zK 0) (by omega))
  have hst:=qmf (s:=a1) hc.1 (by omega) (by omega:0<=qf a1 (bx a1 0))
  rw [hidx] at hst
  have hs:=qnc hi (zK 0) (by omega) hst (by omega)
  obtain ⟨g0,g1,g2,g3,g4⟩:=id hi
  have e:(0:Int)+ln a1=0+1:=by omega
  rw [e]
  refine ⟨by omega,by omega,by omega,by omega,trivial,by omega,by omega,by omega,hs,?_⟩
  show (_:Int).toNat<(_:Int).toNat;omega
 .refine ⟨by omega,trivial,fun hm=>?_,fun hm=>?_⟩
  .obtain ⟨h2,h3⟩:=qpl hi (qs3 hc.1 (by omega) hm)
   obtain ⟨g0,g1,g2,g3,g4⟩:=id hi
   exact ⟨by omega,by omega,trivial,by omega,by rw [qwj];omega,by rw [qwj];omega,h3,trivial⟩
  .obtain ⟨b1,b2,b3⟩:=qq3 hc.1 (by omega) hm
   have hs:=qnc hi hm b1 (qmf hc.1 (by omega) hm) (by omega)
   obtain ⟨g0,g1,g2,g3,g4⟩:=id hi
   rw [h1,hz]
   refine ⟨by omega,by omega,by omega,by omega,trivial,by omega,by omega,by omega,hs,?_⟩
   show (_:Int).toNat<(_:Int).toNat;omega
 .obtain ⟨g0,g1,g2,g3,g4⟩:=id hi
  obtain ⟨h2,h3⟩:=qpl hi (q8y hc.1 (by omega) (by omega))
  exact ⟨by omega,by omega,trivial,by omega,by rw [qwj];omega,by rw [qwj];omega,h3,trivial⟩
theorem ze5 (a0 a1:ZB) (hp:ln a1=1/\ln a0<=100000000):q3o a0 a1:=⟨⟨hp.1,rfl,rfl,hp.2⟩,rfl,trivial⟩
theorem qx9 {l:ZB} {a x:Int} (h:zp ju l (a+1)=x) :
  (((0<a/\bx l (a-1)≠32)∨ln l<=x∨bx l x≠34∨¬ (ln l<=x+1∨bx l (x+1)=32∨bx l (x+1)=59))/\qao l a = -1)∨
  (¬ ((0<a/\bx l (a-1)≠32)∨ln l<=x∨bx l x≠34∨¬ (ln l<=x+1∨bx l (x+1)=32∨bx l (x+1)=59))/\qao l a=x+1):=by
 unfold qao
 rw [h]
 split
 .rename_i hc
  exact .inl ⟨hc,rfl⟩
 .rename_i hc
  exact .inr ⟨hc,rfl⟩
theorem qxh {out:List Word} {w:Word} {r:List Word×Int}:qjx out (if r.2<0 then (w::r.1,-1) else ([],r.2))=qjx (out++[w]) r:=by
 unfold qjx
 by_cases h:r.2<0
 .rw [zT h,zT h,zT (show (-1:Int)<0 by decide),List.append_assoc];rfl
 .rw [zF h,zF h,zF h]
theorem zej {out:List Word}:qjx out ([],-1)=(out,-1):=by simp [qjx]
theorem q0u {out:List Word} {x:Int} (h:0<=x):qjx out ([],x)=([],x):=by
 unfold qjx;rw [zF (by show ¬ x<0;omega)]
section
variable {l:ZB} {f x:Int} {out:List Word} (hi:jd l f 0=qjx out (jd l f x))
 include hi
theorem zf4 (h:ln l<=x∨bx l x=59):jd l f 0=(out,-1):=by rw [hi,q1a h,zej]
theorem zf3 (h0:0<=x) (h1:x<ln l) (h2:bx l x≠59) (h:(bx l x=34/\qao l x<0)∨(bx l x≠34/\bx l x≠32/\jz (bx l x)=false)):jd l f 0=([],x):=by rw [hi,zkr h1 h2 h h0,q0u h0]
theorem q7p {a e:Int} (ha:a=f+x) (h0:0<=x) (h1:x<ln l) (h:bx l x=34) (he:qao l x=e) (h3:0<=e):jd l f 0=qjx (out++[⟨a,sub l (x+1) (e-1),true⟩]) (jd l f e):=by
 rw [hi,zck h0 h1 h he h3,qxh,ha]
theorem q7o {a e:Int} (ha:a=f+x) (h0:0<=x) (h1:x<ln l) (h:jz (bx l x)=true) (he:zp jz l x=e):jd l f 0=qjx (out++[⟨a,sub l x e,false⟩]) (jd l f e):=by
 rw [hi,qy1 h0 h1 h he,qxh,ha]
end
theorem zci (l:ZB) (f i:Int) (h:0<=i):(jd l f i).2 = -1∨(0<=(jd l f i).2/\(jd l f i).1=[]):=by
 have hg:=qej (p:=kj) (s:=l) (i:=i)
 fun_induction jd l f i with
 | case1 i h1=>exact .inl rfl
 | case2 i h1 h2 h3 h4 ih=>exact .inl rfl
 | case3 i h1 h2 h3 h4 ih=>
  refine .inr ⟨?_,rfl⟩
  show 0<=(jd l f _).2
  omega
 | case4 i h1 h2 h3=>exact .inr ⟨by show 0<=zp kj l i;omega,rfl⟩
 | case5 i h1 h2 h3 h4 h5 ih=>exact .inl rfl
 | case6 i h1 h2 h3 h4 h5 ih=>
  refine .inr ⟨?_,rfl⟩
  show 0<=(jd l f _).2
  omega
 | case7 i h1 h2 h3 h4=>exact .inr ⟨by show 0<=zp kj l i;omega,rfl⟩
 | case8 i h1 h2 h3=>exact .inr ⟨by show 0<=zp kj l i;omega,rfl⟩
theorem zek {r:List Word×Int} (h:r.2 = -1∨(0<=r.2/\r.1=[])):r=qjx [] r:=by
 obtain ⟨a,b⟩:=r
 rcases h with h | ⟨h,h'⟩
 .cases h;rfl
 .cases h';rw [q0u h]
theorem zeh {out:List Row}:qis out ([],0,0)=(out,0,0):=by simp [qis]
theorem qrw {out:List Row} {e x:Int} (h:e≠0):qis out ([],e,x)=([],e,x):=by
 unfold qis;rw [zF h]
theorem q8t:∀ (l:List ZB) (x:Int),(qas l x).2=(0,0)∨((qas l x).2.1≠0/\(qas l x).1=[])
 | [],_=>.inl rfl
 | l::ls,x=>by
  unfold qas
  split
  .exact .inr ⟨show (4:Int)≠0 by decide,rfl⟩
  .split
   .exact .inr ⟨show (3:Int)≠0 by decide,rfl⟩
   .split
    .exact .inl rfl
    .exact .inr ⟨by assumption,rfl⟩
theorem zei {r:List Row×Int×Int} (h:r.2=(0,0)∨(r.2.1≠0/\r.1=[])):r=qis [] r:=by
 obtain ⟨a,b⟩:=r
 rcases h with h | ⟨h,h'⟩
 .cases h;rfl
 .cases h';obtain ⟨b,c⟩:=b;rw [qrw h]
theorem zd1 {L:List ZB} {line:ZB} {out:List Row} {R:List Row×Int×Int} {x:Int} (hi:R=qis out (qas (line::L) x)) :
  (1000<ln line->R=([],4,x))/\(ln line<=1000->0<=(jd line x 0).2->R=([],3,x+(jd line x 0).2))/\
  (ln line<=1000->(jd line x 0).2<0->R=qis (if (jd line x 0).1=[] then out else out++[⟨x,(jd line x 0).1⟩]) (qas L (x+ln line+1))):=by
 subst hi
 refine ⟨fun h=>?_,fun h h1=>?_,fun h h1=>?_⟩
 .rw [qas,zT h,qrw (by decide)]
 .rw [qas,zF (by omega),zT h1,qrw (by decide)]
 .rw [qas,zF (by omega),zF (by omega)]
  by_cases h2:(qas L (x+ln line+1)).2.1=0
  .rw [zT h2]
   unfold qis
   rw [zT rfl,zT h2]
   split
   .rfl
   .simp
  .rw [zF h2]
   unfold qis
   rw [zF h2,zF h2]
theorem ql9 {a0:ZB} (h:ln a0<=20000):qh a0=qas (qa 10 a0) 0:=by unfold qh;rw [zF (by omega)]
theorem q8s {a0:ZB} (h:20000<ln a0):qh a0=([],4,20000):=by unfold qh;rw [zT h]
theorem zhb {α:Type} {l:List α} (h:0<ln l):¬ l=[]:=by rintro rfl;simp [ln] at h
theorem q32 {b:Int} (h:jl b=120) (h0:0<=b):b≠34/\b≠32/\b≠59/\jz b=false:=by
 have:=qtg.1 h
 exact ⟨by omega,by omega,by omega,q8l.2 (by omega)⟩
theorem qr6 {b:Int} (hx:jl b≠120) (hq:jl b≠113) (h1:b≠32) (h2:b≠59):jz b=true:=by
 have h3:=mt qtg.2 hx
 have h4:=mt qo6.2 hq
 exact qgb.2 (by omega)
theorem ql7 {l:ZB} {x:Int} (h0:0<=x) (h1:x<ln l) :
  (0<x->bx l (x-1)≠32->qao l x = -1)/\(qf (fr l (x+1)) 34<0->qao l x = -1)/\
  (0<=qf (fr l (x+1)) 34->x+1+qf (fr l (x+1)) 34<ln l/\bx l (x+1+qf (fr l (x+1)) 34)=34/\
    (qaf (sub l (x+1) (x+1+qf (fr l (x+1)) 34))=false->qao l x = -1)/\
    (qaf (sub l (x+1) (x+1+qf (fr l (x+1)) 34))=true->(0<x->bx l (x-1)=32)->
      (x+qf (fr l (x+1)) 34+2<ln l->bx l (x+qf (fr l (x+1)) 34+2)≠32->bx l (x+qf (fr l (x+1)) 34+2)≠59->qao l x = -1)/\
      (ln l<=x+qf (fr l (x+1)) 34+2∨bx l (x+qf (fr l (x+1)) 34+2)=32∨bx l (x+qf (fr l (x+1)) 34+2)=59->qao l x=x+qf (fr l (x+1)) 34+2))):=by
 have hc:=qx9 (l:=l) (a:=x) rfl
 have hg:=qej (p:=ju) (s:=l) (i:=x+1)
 have hle:=qmb (p:=ju) (s:=l) (i:=x+1) (by omega)
 have hr:=zd3 (p:=ju) (s:=l) (i:=x+1) (by omega)
 have hf:=zg5 (l:=l) (i:=x+1) (by omega) (by omega)
 refine ⟨fun h2 h3=>by omega,fun h2=>?_,fun h2=>?_⟩
 .have hn:=qmm (by decide) (by decide) h2
  by_cases hl:ln l<=zp ju l (x+1)
  .omega
  .have h3:=hn (zp ju l (x+1)-(x+1)) (by omega) (by omega)
   rw [qyv (by omega) (by omega),show x+1+(zp ju l (x+1)-(x+1))=zp ju l (x+1) by omega] at h3
   omega
 .obtain ⟨a1,a2,a3⟩:=qq3 (by decide) (by decide) h2
  generalize qf (fr l (x+1)) 34=n at *
  rw [qyv (by omega) h2] at a2
  refine ⟨by omega,a2,fun hq=>?_,fun hq hb=>?_⟩
  .have hlt:zp ju l (x+1)<x+1+n:=by
    apply Decidable.byContradiction
    intro hge
    have hle2:x+1+n<=ln l:=by omega
    have:qaf (sub l (x+1) (x+1+n))=true:=qi9.2 fun i h4 h5=>by
     rw [q2a (l:=l) (i:=x+1) (j:=x+1+n) (by omega) (by omega) hle2] at h5
     rw [q7k (s:=l) (i:=x+1) (j:=x+1+n) (k:=i) (by omega) h4 (by omega)]
     exact zd2 (i:=x+1) _ (by omega) (by omega)
    rw [this] at hq
    cases hq
   have h3:=a3 (zp ju l (x+1)-(x+1)) (by omega) (by omega)
   rw [qyv (by omega) (by omega),show x+1+(zp ju l (x+1)-(x+1))=zp ju l (x+1) by omega] at h3
   omega
  .have he:zp ju l (x+1)=x+1+n:=by
    refine qqa (by omega) (by omega) (by omega) (fun j h4 h5=>?_) (.inr (by rw [a2];rfl))
    have:=qi9.1 hq (j-(x+1)) (by omega) (by rw [q2a (by omega) (by omega) (by omega)];omega)
    rwa [q7k (by omega) (by omega) (by omega),show x+1+(j-(x+1))=j by omega] at this
   rw [he] at hc
   rw [show x+1+n+1=x+n+2 by omega] at hc
   rw [show x+1+n=x+n+1 by omega] at *
   constructor<;>intros<;>omega
theorem qxy {c:Int} {s:ZB} {k:Int} (h0:0<=k) (h:k<ln (qa c s)):ln (ix (qa c s) k)<=ln s:=qfr (qf8 h0 h)
theorem qog {L:List ZB} {k:Int} {out:List Row} {R:List Row×Int×Int} {x:Int} (h0:0<=k) (h1:k<ln L) (hi:R=qis out (qas (fr L k) x)) :
  (1000<ln (ix L k)->R=([],4,x))/\(ln (ix L k)<=1000->0<=(jd (ix L k) x 0).2->R=([],3,x+(jd (ix L k) x 0).2))/\
  (ln (ix L k)<=1000->(jd (ix L k) x 0).2<0->R=qis (if (jd (ix L k) x 0).1=[] then out else out++[⟨x,(jd (ix L k) x 0).1⟩]) (qas (fr L (k+1)) (x+(ln (ix L k)+1)))):=by
 rw [qdd h0 h1] at hi
 have:=zd1 hi
 rwa [Int.add_assoc] at this
theorem zf5 {l:ZB} {f x y:Int} (h0:0<=x) (hxy:zp kj l x=zp kj l y) (hy:ln l<=y∨bx l y≠32):jd l f x=jd l f y:=by
 rw [qfz hy] at hxy
 rw [jd,hxy]
 have e:zp kj l y=y:=qfz hy
 exact (by rw [jd,e]:jd l f y=_).symm
theorem qzr {b:Int} (h:jl b≠112):jz b=false:=by rw [<-Bool.not_eq_true];exact mt q9l.2 h
set_option maxHeartbeats 4000000 in
theorem ze2 (a0:ZB):qt1 a0:=by
 have hl:=zt a0
 have hb:bx [10] 0=10:=rfl
 have hb2:ln ([10]:ZB)=1:=rfl
 have hc:=qrb (s:=a0) (c:=10) (by decide) (by decide)
 have hd:=q06 a0 10
 unfold qt1
 simp only [qam,z8,zc,qc,qgs,qhj,qcl,qdy,and_imp,qkh,hb,hb2]
 unhygienic (repeat' (first | exact trivial | apply And.intro | (intro;intros)))
 all_goals first
  | omega
  | exact qir (by omega)
  | (rw [q8s (by omega)];done)
  | exact Eq.trans ‹_› (qgd (by omega) (by omega) (qui.2 ‹_›))
  | exact Eq.trans ‹_› (qgd (by omega) (by omega) (q9l.1 ‹_›))
  | (have:=quk (ix (qa 10 a0) x3) x10;omega)
  | (have:=quk (ix (qa 10 a0) x3) x18;omega)
  | (have h1:=qxy (s:=a0) (c:=10) (k:=x3) (by omega) (by omega);have h2:=zt (ix (qa 10 a0) x3);omega)
  | (have QP:=ql7 (l:=ix (qa 10 a0) x3) (x:=x10) (by omega) (by omega);have Q:=QP.2.2 (by omega);have Q1:=Q.1;first | omega | (rw [q2a (by omega) (by omega) (by omega)];omega))
  | (have hg:=q58 (p:=jz) (s:=ix (qa 10 a0) x3) (i:=x10) (by omega) (by omega) (qr6 ‹_› ‹_› (by omega) (by omega));have hs:=qio (p:=jz) (s:=ix (qa 10 a0) x3) (i:=x18) (by first | exact .inl (by omega) | exact .inr (qzr ‹_›));omega)
  | (have hx:=a_12.trans (congrArg (qjx x7) (zf5 (by omega) ‹_› (by omega)))
     first
      | exact q7o hx (Int.add_comm _ _) (by omega) (by omega) (qr6 ‹_› ‹_› (by omega) (by omega)) (Eq.trans ‹_› (qio (by first | exact .inl (by omega) | exact .inr (qzr ‹_›))))
      | (have QP:=ql7 (l:=ix (qa 10 a0) x3) (x:=x10) (by omega) (by omega)
         exact q7p hx (Int.add_comm _ _) (by omega) (by omega) (qo6.1 ‹_›) (((QP.2.2 (by omega)).2.2.2 ‹_› (fun _=>by omega)).2 (by omega)) (by omega))
      | (have CE:=zf4 hx (by omega)
         have L1:=(qog (by omega) (by omega) (by assumption:qas (qa 10 a0) 0=qis x1 (qas (fr (qa 10 a0) x3) x2))).2.2 (by omega) (by rw [CE];show (-1:Int)<0;decide)
         rw [CE] at L1
         first
          | exact L1.trans (by rw [zF (zhb (by omega))])
          | exact L1.trans (by rw [zT (zll (by omega))]))
      | (have CB:=zf3 hx (by omega) (by omega) (by omega) (by
          first
           | (refine .inr ⟨?_,by omega,?_⟩
              .exact (q32 ‹_› (quk _ _).1).1
              .exact (q32 ‹_› (quk _ _).1).2.2.2)
           | (refine .inl ⟨qo6.1 ‹_›,?_⟩
              have QP:=ql7 (l:=ix (qa 10 a0) x3) (x:=x10) (by omega) (by omega)
              first
               | (have:=QP.1 (by omega) (by omega);omega)
               | (have:=QP.2.1 (by omega);omega)
               | (have:=(QP.2.2 (by omega)).2.2.1 ‹_›;omega)
               | (have:=((QP.2.2 (by omega)).2.2.2 ‹_› (fun _=>by omega)).1 (by omega) (by omega) (by omega);omega)))
         have L1:=(qog (by omega) (by omega) (by assumption:qas (qa 10 a0) 0=qis x1 (qas (fr (qa 10 a0) x3) x2))).2.1 (by omega) (by rw [CB];show (0:Int)<=x10;omega)
         rw [CB] at L1
         rw [ql9 (by omega),L1]))
  | exact zek (zci _ _ _ (zK 0))
  | (rw [qpj];exact zei (q8t _ _))
  | (rw [ql9 (by omega),a_6,qka (by omega)];simp only [qas,zeh];done)
  | (rw [ql9 (by omega),(qog (by omega) (by omega) (by assumption:qas (qa 10 a0) 0=qis x1 (qas (fr (qa 10 a0) x3) x2))).1 (by omega)];done)
  | with_reducible exact zK _
  | exact zdf
  | with_reducible rfl
  | exact zK _
section
variable {a0 a1:List Row} {a2:Bool} {x y:Int}
end
section
variable {a b:Row} {off:Bool} {y:Int}
end
theorem q7q (l:ZB) (f i:Int) (h0:0<=i) (h:i<=ln l):ln (jd l f i).1<=ln l-i:=by
 have hg:=qej (p:=kj) (s:=l) (i:=i)
 have hr:=qmb (p:=kj) (s:=l) (i:=i) h
 fun_induction jd l f i with
 | case1 i h1=>show ln ([]:List Word)<=_;rw [qda];omega
 | case2 i h1 h2 h3 h4 ih=>
  have:=ih (by omega) (by omega) qej (qmb (by omega))
  show ln (_::_)<=_
  rw [jv];omega
 | case3 i h1 h2 h3 h4 ih=>show ln ([]:List Word)<=_;rw [qda];omega
 | case4 i h1 h2 h3=>show ln ([]:List Word)<=_;rw [qda];omega
 | case5 i h1 h2 h3 h4 h5 ih=>
  have:=ih (by omega) (by omega) qej (qmb (by omega))
  show ln (_::_)<=_
  rw [jv];omega
 | case6 i h1 h2 h3 h4 h5 ih=>show ln ([]:List Word)<=_;rw [qda];omega
 | case7 i h1 h2 h3 h4=>show ln ([]:List Word)<=_;rw [qda];omega
 | case8 i h1 h2 h3=>show ln ([]:List Word)<=_;rw [qda];omega
theorem q56:∀ (L:List ZB) (x:Int),ln (qas L x).1<=ln L/\∀ r ∈ (qas L x).1,ln r.Words<=1000
 | [],x=>⟨zK _,fun r h=>by cases h⟩
 | l::L,x=>by
  have hn:ln ([]:List Row)<=ln (l::L)/\∀ r ∈ ([]:List Row),ln r.Words<=1000:=⟨by rw [qda];exact zt _,fun r h=>by cases h⟩
  have ih:=q56 L (x+ln l+1)
  unfold qas
  split
  .exact hn
  .split
   .exact hn
   .rename_i h1 h2
    have hw:=q7q l x 0 (zK 0) (zt l)
    split
    .split
     .exact ⟨by rw [jv];show ln (qas L _).1<=_;omega,ih.2⟩
     .refine ⟨by show ln (_::_)<=_;rw [jv,jv];omega,fun r hr=>?_⟩
      rcases zD.1 hr with rfl | hr
      .show ln (jd l x 0).1<=1000;omega
      .exact ih.2 r hr
    .exact hn
theorem q55 (a0:ZB):ln (qh a0).1<=20001/\∀ r ∈ (qh a0).1,ln r.Words<=1000:=by
 unfold qh
 split
 .exact ⟨by show ln ([]:List Row)<=_;rw [qda];omega,fun r h=>by cases h⟩
 .have h1:=q56 (qa 10 a0) 0
  have h2:=qrb (s:=a0) (c:=10) (by decide) (by decide)
  have h3:=q06 a0 10
  exact ⟨by omega,h1.2⟩
theorem q7t (a0 a1:Int) (hp:0<=a0/\0<=a1/\a0<=4611686018427387904/\a1<=4611686018427387904):qu1 a0 a1:=by
 obtain ⟨h0,h1,h2,h3⟩:=hp
 refine ⟨fun h=>⟨?_,trivial⟩,fun h=>?_⟩
 .rw [h,qqz h0]
 .have t:=qm3 h0 (show 0<a1 by omega)
  have q:=qb8 h0 h1
  exact ⟨⟨h,by omega,by omega⟩,h,⟨⟨h1,t.1,h3,by omega⟩,by omega⟩,qqy h0 h1,trivial⟩
theorem zk5 (a0 a1:Int) (hp:0<=a0/\0<=a1/\a0<=4611686018427387904/\a1<=4611686018427387904):zaa a0 a1:=by
 obtain ⟨h0,h1,h2,h3⟩:=hp
 refine ⟨⟨h0,h1,rfl⟩,fun x y ⟨i0,i1,i2⟩=>⟨fun h=>?_,fun h=>⟨?_,trivial⟩⟩⟩
 .have t:=qm3 i0 h
  refine ⟨by omega,⟨i1,t.1,by rw [qqy i0 i1];exact i2⟩,?_⟩
  simp only [qi6];omega
 .have:y=0:=by omega
  subst this
  rw [<-i2,qqz i0]
theorem zbh (a0 a1:Int):qql a0 a1:=by
 unfold qql qe
 unhygienic (repeat' (first | exact trivial | apply And.intro | intro))
 all_goals (try split)
 all_goals (try split)
 all_goals omega
theorem zbe (a0 a1:Int):qqk a0 a1:=by
 have hg:1<=a1->1<=zh a0 a1:=fun h=>qjo h
 unfold qqk qe
 unhygienic (repeat' (first | exact trivial | apply And.intro | intro))
 all_goals (try split)
 all_goals (try split)
 all_goals omega
theorem zcs (a0:List Time) (hp:ln a0<=1000000000):qzb a0:=by
 refine ⟨⟨by omega,zt _,rfl⟩,fun x ⟨i0,i1,i2⟩=>⟨fun h=>?_,fun h=>⟨?_,trivial⟩⟩⟩
 .rw [qdd i0 h] at i2
  simp only [qd4] at i2
  refine ⟨⟨i0,h⟩,trivial,fun hc=>⟨?_,trivial⟩,fun hc=>⟨by omega,⟨by omega,by omega,?_⟩,?_⟩⟩
  .rw [zT hc] at i2;exact i2
  .rw [zF (by omega)] at i2;exact i2
  .simp only [qgl];omega
 .rw [qka h] at i2;exact i2
theorem zpe (a0 a1:Int) (hp:0<=a0/\1<=a1/\a0<=4611686018427387904/\a1<=4611686018427387904):zpd a0 a1:=by
 obtain ⟨h0,h1,h2,h3⟩:=hp
 have g:=qjo (a:=a0) h1
 have q1:=qb8 h0 (qcj a0 a1)
 have q2:=qb8 (show 0<=a1 by omega) (qcj a0 a1)
 refine ⟨⟨h0,by omega,h2,h3⟩,⟨by omega,by omega,by omega⟩,⟨by omega,by omega,by omega⟩,fun h=>?_,fun h=>⟨fun h'=>?_,fun h'=>?_⟩⟩
 .have e:ofT a0 a1=(0,0,4):=by unfold ofT;rw [zT (.inl h)]
  rw [e];exact ⟨rfl,rfl,rfl,trivial⟩
 .have e:ofT a0 a1=(0,0,4):=by unfold ofT;rw [zT (.inr h')]
  rw [e];exact ⟨rfl,rfl,rfl,trivial⟩
 .have e:ofT a0 a1=(a0.tdiv (zh a0 a1),a1.tdiv (zh a0 a1),0):=by unfold ofT;rw [zF (by omega)]
  rw [e];exact ⟨rfl,rfl,rfl,trivial⟩
theorem zes (a0 a1:Int) (hp:0<=a0/\1<=a1/\a0<=4611686018427387904/\a1<=4611686018427387904):q3h a0 a1:=
 ⟨fun h=>absurd h (by omega),fun _=>⟨fun h=>absurd h (by omega),fun _=>⟨fun h=>absurd h (by omega),fun _=>zpe a0 a1 hp⟩⟩⟩
theorem qt6 {a0 a1 a2 a3:Int} (h1:qe a0 a1=0) (h2:qe a2 a3=0):I64 (a0 * a3)/\I64 (a2 * a1)/\I64 ((a0 * a3)+(a2 * a1))/\I64 (a1 * a3)/\
  (0<=((a0 * a3)+(a2 * a1))/\1<=(a1 * a3)/\((a0 * a3)+(a2 * a1))<=4611686018427387904/\(a1 * a3)<=4611686018427387904)/\I64 ((a0 * a3)-(a2 * a1)):=by
 have b1:=je h1
 have b2:=je h2
 have p1:=qd5 b1.1 b1.2.1 (show 0<=a3 by omega) b2.2.2.2
 have p2:=qd5 b2.1 b2.2.1 (show 0<=a1 by omega) b1.2.2.2
 have p3:=ql1 b1.2.2.1 b2.2.2.1
 have p4:=qd5 (show 0<=a1 by omega) b1.2.2.2 (show 0<=a3 by omega) b2.2.2.2
 omega
theorem zjd (a0 a1 a2 a3:Int):q9a a0 a1 a2 a3:=by
 have hl:ln [Time.mk a0 a1,Time.mk a2 a3]=2:=rfl
 refine ⟨trivial,trivial,by omega,fun h=>?_,fun h=>?_⟩
 .rw [qml] at h ⊢
  by_cases h1:qe a0 a1≠0
  .have e:kr a0 a1 a2 a3=(0,0,qe a0 a1):=by unfold kr;rw [zT h1]
   rw [e,zT h1];exact ⟨rfl,rfl,rfl,trivial⟩
  .rw [zF h1] at h ⊢
   have e:kr a0 a1 a2 a3=(0,0,qe a2 a3):=by unfold kr;rw [zF h1,zT h]
   rw [e];exact ⟨rfl,rfl,rfl,trivial⟩
 .rw [qml] at h
  have h1:qe a0 a1=0:=by
   by_cases h1:qe a0 a1≠0
   .rw [zT h1] at h;exact h
   .omega
  rw [zF (by omega)] at h
  have e:kr a0 a1 a2 a3=ofT (a0 * a3+a2 * a1) (a1 * a3):=by unfold kr;rw [zF (by omega),zF (by omega)]
  obtain ⟨b1,b2,b3,b4,b5,_⟩:=qt6 h1 h
  rw [e];exact ⟨b1,b2,b3,b4,b5,rfl,rfl,rfl,trivial⟩
theorem zjw {a0 a1 a2 a3:Int} (h1:qe a0 a1=0) (h2:qe a2 a3=0):qap a0 a1 a2 a3=if a0 * a3<a2 * a1 then (-1,0) else if a2 * a1<a0 * a3 then (1,0) else (0,0):=by
 unfold qap
 rw [zF (by omega),zF (by omega)]
theorem q3c (a0 a1 a2 a3:Int):qry a0 a1 a2 a3:=by
 have hl:ln [Time.mk a0 a1,Time.mk a2 a3]=2:=rfl
 refine ⟨trivial,trivial,by omega,fun h=>?_,fun h=>?_⟩
 .rw [qml] at h ⊢
  by_cases h1:qe a0 a1≠0
  .have e:qap a0 a1 a2 a3=(0,qe a0 a1):=by unfold qap;rw [zT h1]
   rw [e,zT h1];exact ⟨rfl,rfl,trivial⟩
  .rw [zF h1] at h ⊢
   have e:qap a0 a1 a2 a3=(0,qe a2 a3):=by unfold qap;rw [zF h1,zT h]
   rw [e];exact ⟨rfl,rfl,trivial⟩
 .rw [qml] at h
  have h1:qe a0 a1=0:=by
   by_cases h1:qe a0 a1≠0
   .rw [zT h1] at h;exact h
   .omega
  rw [zF (by omega)] at h
  obtain ⟨b1,b2,b3,b4,b5,b6⟩:=qt6 h1 h
  rw [zjw h1 h]
  refine ⟨b1,b2,b6,fun g=>?_,fun g=>⟨fun g'=>?_,fun g'=>?_⟩⟩
  .rw [zT (by omega)];exact ⟨rfl,rfl,trivial⟩
  .rw [zF (by omega),zT (by omega)];exact ⟨rfl,rfl,trivial⟩
  .rw [zF (by omega),zF (by omega)];exact ⟨rfl,rfl,trivial⟩
theorem znb (a0 a1 a2 a3 a4 a5 a6:Int) (a7:Bool) (a8 a9 a10 a11:Int):zen a0 a1 a2 a3 a4 a5 a6 a7 a8 a9 a10 a11:=⟨trivial,rfl,trivial⟩
theorem zbb (a0 a1 a2:Int):qqj a0 a1 a2:=by
 unfold qqj jy
 unhygienic (repeat' (first | exact trivial | apply And.intro | intro))
 all_goals (try split)
 all_goals omega
section
variable {a0 a1 a2 a3 a4 a5 a6:Int} {a7:Bool} {a8 a9:Int}
theorem zqz (h:qe a0 a1≠0):qbb ⟨a0,a1,a2,a3,a4,a5,a6,a7,a8,a9⟩=qe a0 a1:=by simp [qbb,h]
theorem zq0 (h:qe a0 a1=0) (h2:qe a2 a3≠0):qbb ⟨a0,a1,a2,a3,a4,a5,a6,a7,a8,a9⟩=qe a2 a3:=by simp [qbb,h,h2]
theorem zq1 (h:qe a0 a1=0) (h2:qe a2 a3=0) (h3:a2=0):qbb ⟨a0,a1,a2,a3,a4,a5,a6,a7,a8,a9⟩=2:=by subst h3;simp [qbb,h,h2]
theorem zq2 (h:qe a0 a1=0) (h2:qe a2 a3=0) (h3:a2≠0) (h4:a7=true) (h5:a4≠0∨(a5≠0∨a6≠0)):qbb ⟨a0,a1,a2,a3,a4,a5,a6,a7,a8,a9⟩=3:=by
 unfold qbb
 dsimp only
 rw [zF (by omega),zF (by omega),zF h3,zT ⟨h4,h5⟩]
theorem zq3 (h:qe a0 a1=0) (h2:qe a2 a3=0) (h3:a2≠0) (h4:a7=true) (h5:a4=0/\(a5=0/\a6=0)):qbb ⟨a0,a1,a2,a3,a4,a5,a6,a7,a8,a9⟩=if a8<0∨a9<0 then 2 else 0:=by
 unfold qbb
 dsimp only
 rw [zF (by omega),zF (by omega),zF h3,zF (fun hh=>by have:=hh.2;omega),zF (fun hh=>by rw [h4] at hh;cases hh.1)]
theorem zq4 (h:qe a0 a1=0) (h2:qe a2 a3=0) (h3:a2≠0) (h4:a7=false) (h5:jy a4 a5 a6≠0):qbb ⟨a0,a1,a2,a3,a4,a5,a6,a7,a8,a9⟩=jy a4 a5 a6:=by
 unfold qbb
 dsimp only
 rw [zF (by omega),zF (by omega),zF h3,zF (fun hh=>by rw [h4] at hh;cases hh.1),zT ⟨h4,h5⟩]
theorem zq5 (h:qe a0 a1=0) (h2:qe a2 a3=0) (h3:a2≠0) (h4:a7=false) (h5:jy a4 a5 a6=0):qbb ⟨a0,a1,a2,a3,a4,a5,a6,a7,a8,a9⟩=if a8<0∨a9<0 then 2 else 0:=by
 unfold qbb
 dsimp only
 rw [zF (by omega),zF (by omega),zF h3,zF (fun hh=>by rw [h4] at hh;cases hh.1),zF (fun hh=>hh.2 h5)]
end
theorem zhp {x:Event} {n d e:Int} (h:qbb x=e) (he:e≠0):qjr x n d=e:=by unfold qjr;rw [h,zT he]
theorem zhq {x:Event} {n d:Int} (h:qbb x=0) (h2:x.AtN≠n∨x.AtD≠d):qjr x n d=6:=by unfold qjr;rw [zF (by omega),zT h2]
theorem q5m {x:Event} {n d:Int} (h:qbb x=0) (h2:x.AtN=n/\x.AtD=d):qjr x n d=(kr x.AtN x.AtD x.DurN x.DurD).2.2:=by unfold qjr;rw [zF (by omega),zF (by omega)]
theorem zlv (a0 a1 a2 a3 a4 a5 a6:Int) (a7:Bool) (a8 a9:Int):zan a0 a1 a2 a3 a4 a5 a6 a7 a8 a9:=by
 have hl:ln [Time.mk a0 a1,Time.mk a2 a3]=2:=rfl
 refine ⟨trivial,trivial,⟨by omega,by omega,fun h=>by omega,fun h=>by omega⟩,fun x ⟨i0,i1,i2,i3⟩=>⟨fun h=>?_,fun h=>?_⟩⟩
 .rcases (show x=0∨x=1 by omega) with rfl | rfl
  .refine ⟨⟨by omega,by omega⟩,trivial,fun hc=>⟨(zqz hc).symm,trivial⟩,fun hc=>⟨by omega,rfl,rfl,rfl,rfl,rfl,rfl,rfl,rfl,rfl,rfl,⟨by omega,by omega,fun _=>hc,fun h=>by omega⟩,?_⟩⟩
   simp only [qgv];omega
  .refine ⟨⟨by omega,by omega⟩,trivial,fun hc=>⟨(zq0 (i2 (by omega)) hc).symm,trivial⟩,fun hc=>⟨by omega,rfl,rfl,rfl,rfl,rfl,rfl,rfl,rfl,rfl,rfl,⟨by omega,by omega,fun _=>i2 (by omega),fun _=>hc⟩,?_⟩⟩
   simp only [qgv];omega
 .have c1:=i2 (by omega)
  have c2:=i3 (by omega)
  refine ⟨fun h3=>⟨(zq1 c1 c2 h3).symm,trivial⟩,fun h3=>⟨fun h4=>⟨fun h5=>⟨(zq2 c1 c2 h3 h4 h5).symm,trivial⟩,fun h5=>?_⟩,fun h4=>⟨trivial,fun h5=>⟨(zq4 c1 c2 h3 h4 h5).symm,trivial⟩,fun h5=>?_⟩⟩⟩
  .rw [zq3 c1 c2 h3 h4 h5]
   refine ⟨fun h6=>⟨?_,trivial⟩,fun h6=>⟨fun h7=>⟨?_,trivial⟩,fun h7=>⟨?_,trivial⟩⟩⟩
   .rw [zT (.inl h6)]
   .rw [zT (.inr h7)]
   .rw [zF (by omega)]
  .rw [zq5 c1 c2 h3 h4 h5]
   refine ⟨fun h6=>⟨?_,trivial⟩,fun h6=>⟨fun h7=>⟨?_,trivial⟩,fun h7=>⟨?_,trivial⟩⟩⟩
   .rw [zT (.inl h6)]
   .rw [zT (.inr h7)]
   .rw [zF (by omega)]
theorem q7m {a0:List Event} {x n d:Int} (hl:ln a0<=2000) (h0:0<=x) (h1:x<ln a0) (hi:qcp (fr a0 x) x n d=qcp a0 0 0 1) :
  (qjr (ix a0 x) n d≠0->zu a0=(qjr (ix a0 x) n d,x))/\(qjr (ix a0 x) n d=0->qcp (fr a0 (x+1)) (x+1) (kr (ix a0 x).AtN (ix a0 x).AtD (ix a0 x).DurN (ix a0 x).DurD).1 (kr (ix a0 x).AtN (ix a0 x).AtD (ix a0 x).DurN (ix a0 x).DurD).2.1=qcp a0 0 0 1):=by
 rw [qdd h0 h1] at hi
 simp only [qcp] at hi
 refine ⟨fun h=>?_,fun h=>?_⟩
 .rw [zT h] at hi
  unfold zu
  rw [zF (by omega)]
  exact hi.symm
 .rw [zF (by omega)] at hi
  exact hi
theorem zcc {a0:List Event} {x n d:Int} (hl:ln a0<=2000) (h1:ln a0<=x) (hi:qcp (fr a0 x) x n d=qcp a0 0 0 1):zu a0=(0,0):=by
 rw [qka h1] at hi
 unfold zu
 rw [zF (by omega)]
 exact hi.symm
theorem q7l {a0:List Event} (h:2000<ln a0):zu a0=(11,0):=by unfold zu;rw [zT h]
theorem za8 (a0:List Event) (hp:ln a0<=1000000000):qyf a0:=by
 refine ⟨fun h=>?_,fun hl=>⟨⟨by omega,zt _,rfl⟩,fun x n d ⟨i0,i1,i2⟩=>⟨fun h=>?_,fun h=>?_⟩⟩⟩
 .rw [q7l h];exact ⟨rfl,rfl,trivial⟩
 .obtain ⟨s1,s2⟩:=q7m hl i0 h i2
  refine ⟨⟨i0,h⟩,trivial,fun hc=>?_,fun hc=>⟨fun ho=>?_,fun ho=>⟨trivial,fun ha=>?_,fun ha=>⟨by omega,⟨by omega,by omega,?_⟩,?_⟩⟩⟩⟩
  .have e:qjr (ix a0 x) n d=qbb (ix a0 x):=zhp rfl hc
   rw [s1 (by rw [e];exact hc),e]
   exact ⟨rfl,rfl,trivial⟩
  .have e:qjr (ix a0 x) n d=6:=zhq hc ho
   rw [s1 (by rw [e];omega),e]
   exact ⟨rfl,rfl,trivial⟩
  .have e:qjr (ix a0 x) n d=_:=q5m hc ho
   rw [s1 (by rw [e];exact ha),e]
   exact ⟨rfl,rfl,trivial⟩
  .have e:qjr (ix a0 x) n d=_:=q5m hc ho
   exact s2 (by rw [e];exact ha)
  .simp only [qgi];omega
 .rw [zcc hl h i2];exact ⟨rfl,rfl,trivial⟩
theorem zji (a0:List Event) (hp:ln a0<=1000000000):q9d a0:=by
 have h0:=zt a0
 refine ⟨hp,fun h=>?_,fun h=>⟨fun h2=>?_,fun h2=>⟨by omega,⟨by omega,by omega⟩,trivial,?_⟩⟩⟩
 .have e:kv a0=(0,0,(zu a0).1):=by unfold kv;rw [zT h]
  rw [e];exact ⟨rfl,rfl,rfl,trivial⟩
 .have e:kv a0=(0,1,0):=by unfold kv;rw [zF (by omega),zT h2]
  rw [e];exact ⟨rfl,rfl,rfl,trivial⟩
 .have e:kv a0=kr (ix a0 (ln a0-1)).AtN (ix a0 (ln a0-1)).AtD (ix a0 (ln a0-1)).DurN (ix a0 (ln a0-1)).DurD:=by unfold kv;rw [zF (by omega),zF h2]
  rw [e];exact ⟨rfl,rfl,rfl,trivial⟩
theorem znj {l:List Event} {tn td:Int} (h:(kv l).2.2≠0):atE l tn td=(0,(kv l).2.2):=by unfold atE;rw [zT h]
theorem zjt {l:List Event} {tn td:Int} (h:(kv l).2.2=0) (h2:(qap tn td (kv l).1 (kv l).2.1).2≠0):atE l tn td=(0,(qap tn td (kv l).1 (kv l).2.1).2):=by unfold atE;rw [zF (by omega),zT h2]
theorem zju {l:List Event} {tn td:Int} (h:(kv l).2.2=0) (h2:(qap tn td (kv l).1 (kv l).2.1).2=0) (h3:0<=(qap tn td (kv l).1 (kv l).2.1).1):atE l tn td=(0,2):=by unfold atE;rw [zF (by omega),zF (by omega),zT h3]
theorem zlb {x y:Int} (h0:0<=x) (h1:x<y):x<=Int.tdiv (x+y) 2/\Int.tdiv (x+y) 2<y:=by
 rw [Int.tdiv_eq_ediv_of_nonneg (by omega)]
 omega
theorem zne (a0:List Event) (a1 a2:Int) (hp:ln a0<=1000000000):zeo a0 a1 a2:=by
 refine ⟨hp,fun h=>?_,fun h1=>⟨trivial,fun h2=>?_,fun h2=>⟨fun h3=>?_,fun h3=>?_⟩⟩⟩
 .rw [znj h];exact ⟨rfl,rfl,trivial⟩
 .rw [zjt h1 h2];exact ⟨rfl,rfl,trivial⟩
 .rw [zju h1 h2 h3];exact ⟨rfl,rfl,trivial⟩
 .obtain ⟨f1,f2,f3⟩:=zfj h1 h2 h3
  refine ⟨⟨by omega,by omega,by omega,fun k k0 k1=>by omega,fun k k0 k1=>by omega⟩,fun x y ⟨i0,i1,i2,i3,i4⟩=>⟨fun h=>?_,fun h=>⟨fun g=>⟨⟨i0,g⟩,trivial,fun hz=>⟨by omega,?_⟩,fun hz=>?_⟩,fun g=>⟨by omega,?_⟩⟩⟩⟩
  .obtain ⟨m0,m1⟩:=zlb i0 h
   generalize hm:Int.tdiv (x+y) 2=m at *
   refine ⟨by omega,by simp only [InK];omega,by omega,⟨by omega,by simp only [InK];omega⟩,by omega,⟨by omega,by omega⟩,trivial,fun hc=>⟨by omega,rfl,rfl,rfl,rfl,rfl,rfl,⟨by omega,by omega,by omega,fun k k0 k1=>?_,i4⟩,?_⟩,fun hc=>⟨rfl,rfl,rfl,rfl,rfl,rfl,⟨by omega,by omega,by omega,i3,fun k k0 k1=>?_⟩,?_⟩⟩
   .have hc':cm a0 a1 a2 m<0:=hc
    by_cases hk:k=m
    .rw [hk];exact hc'
    .by_cases hcm:cm a0 a1 a2 k<0
     .exact hcm
     .have:=f3 k m k0 (by omega) (by omega) (by omega)
      omega
   .simp only [qev];omega
   .have hc':0<=cm a0 a1 a2 m:=hc
    by_cases hk:k=m
    .rw [hk];exact hc'
    .have:=f3 m k (by omega) (by omega) k1 hc'
     omega
   .simp only [qev];omega
  .have hz':cm a0 a1 a2 x≠0:=hz
   have hx:x=y:=by omega
   subst hx
   have c0:=i4 x (zK _) g
   have hx0:0<x:=by
    by_cases hx0:0<x
    .exact hx0
    .have:x=0:=by omega
     subst this
     omega
   have:=i3 (x-1) (by omega) (by omega)
   rw [zfk h1 h2 h3 (r:=x-1) (by omega) (by omega) (by omega) (fun j j0 j1=>by
    by_cases hj:j=x
    .subst hj;omega
    .exact f3 x j i0 (by omega) j1 c0)]
   exact ⟨rfl,rfl,trivial⟩
  .have hz':cm a0 a1 a2 x=0:=hz
   rw [zfk h1 h2 h3 (r:=x) i0 g (by omega) (fun j j0 j1=>f3 x j i0 j0 j1 (by omega))]
   exact ⟨rfl,rfl,trivial⟩
  .have hx:x=ln a0:=by omega
   have:=i3 (x-1) (by omega) (by omega)
   rw [zfk h1 h2 h3 (r:=x-1) (by omega) (by omega) (by omega) (fun j j0 j1=>by omega)]
   exact ⟨rfl,rfl,trivial⟩
theorem qxo (a0 a1:List Event) (hp:ln a0<=1000000000):qm9 a0 a1:=by
 refine ⟨fun h=>⟨(q0e fun he=>h (by rw [he])).symm,trivial⟩,fun hl=>⟨⟨by omega,zt _,fun j j0 j1=>by omega⟩,fun x ⟨i0,i1,i2⟩=>⟨fun h=>⟨⟨i0,h⟩,⟨i0,by omega⟩,fun hc=>⟨(q0e fun he=>?_).symm,trivial⟩,fun hc=>⟨by omega,⟨by omega,by omega,fun j j0 j1=>?_⟩,?_⟩⟩,fun h=>⟨(qw1 (q49 hl fun j j0 j1=>i2 j j0 (by omega))).symm,trivial⟩⟩⟩⟩
 .subst he
  simp at hc
 .obtain ⟨c1,c2,c3,c4,c5,c6,c7,c8,c9,c10⟩:=hc
  by_cases hj:j=x
  .subst hj
   exact qu8 c1 c2 c3 c4 c5 c6 c7 c8 c9 c10
  .exact i2 j j0 (by omega)
 .simp only [qdg];omega
theorem zhl {s:ZB} {i n:Int} (h0:0<=i) (h:i<ln s) (h1:48<=bx s i) (h2:bx s i<=57) (h3:10 * n+(bx s i-48)<=1099511627776):qe5 s i n=qe5 s (i+1) (10 * n+(bx s i-48)):=by
 conv=>lhs;rw [qe5]
 have hd:qm5 (bx s i)=true:=by simp [qm5,h1,h2]
 rw [dif_pos ⟨h0,h⟩,zT hd,zF (by omega)]
theorem zlp {s:ZB} {i n:Int} (h0:0<=i) (h:i<ln s) (h1:bx s i<48∨57<bx s i):qe5 s i n=(0,false):=by
 rw [qe5]
 have hd:¬ qm5 (bx s i)=true:=by simp only [qm5,zA,decide_eq_true_eq];omega
 rw [dif_pos ⟨h0,h⟩,zF hd]
theorem zlq {s:ZB} {i n:Int} (h0:0<=i) (h:i<ln s) (h1:48<=bx s i) (h2:bx s i<=57) (h3:1099511627776<10 * n+(bx s i-48)):qe5 s i n=(0,false):=by
 rw [qe5]
 have hd:qm5 (bx s i)=true:=by simp [qm5,h1,h2]
 rw [dif_pos ⟨h0,h⟩,zT hd,zT (by omega)]
theorem zlr {s:ZB} {i n:Int} (h:ln s<=i):qe5 s i n=(n,true):=by
 rw [qe5,dif_neg (by omega)]
theorem q5j {s:ZB} (h:s=[]∨(bx s 0=48/\1<ln s)):zq s=(0,false):=by
 unfold zq
 rw [zT]
 rcases h with rfl | h
 .exact .inl rfl
 .exact .inr h
theorem zhk {s:ZB} (h:s≠[]) (h':¬ (bx s 0=48/\1<ln s)):qe5 s 0 0=zq s:=by
 unfold zq
 rw [zF]
 have:=q18 h
 rintro (h1 | h1)
 .omega
 .exact h' h1
theorem zhh {s:ZB} {i n:Int} (h:qe5 s i n=zq s) (h0:0<=i) (h1:i<ln s) (hb:bx s i<48∨57<bx s i∨1099511627776<10 * n+(bx s i-48)):zq s=(0,false):=by
 rw [<-h]
 by_cases h2:bx s i<48∨57<bx s i
 .exact zlp h0 h1 h2
 .exact zlq h0 h1 (by omega) (by omega) (by omega)
theorem zhg {s:ZB} {i n:Int} (h:qe5 s i n=zq s) (h1:ln s<=i):zq s=(n,true):=by rw [<-h];exact zlr h1
theorem zhj {s:ZB} {i n:Int} (h:qe5 s i n=zq s) (h0:0<=i) (h1:i<ln s) (h2:48<=bx s i) (h3:bx s i<=57) (h4:10 * n+(bx s i-48)<=1099511627776):qe5 s (i+1) (10 * n+(bx s i-48))=zq s:=by
 rw [<-h];exact (zhl h0 h1 h2 h3 h4).symm
set_option maxHeartbeats 4000000 in
theorem q64 (a0:ZB) (hp:ln a0<=1000):qnq a0:=by
 unfold qnq
 simp only [qbg,qce,and_imp]
 have hn:a0≠[]->0<ln a0:=q18
 unhygienic (repeat' (first | exact trivial | exact And.intro (by omega) trivial | apply And.intro | intro))
 all_goals first
  | omega
  | (have:=hn ‹_›;omega)
  | (rw [q5j (.inl ‹_›)];done)
  | (rw [q5j (.inr ⟨by assumption,by assumption⟩)];done)
  | (rw [zhh ‹_› ‹_› ‹_› (by omega)];done)
  | (rw [zhg ‹_› ‹_›];done)
  | exact zhj ‹_› ‹_› ‹_› ‹_› ‹_› ‹_›
  | exact zhk ‹_› (by omega)
  | exact zK _
  | (have:=hn ‹_›;omega)
theorem zfc (a0 a1:Int):q3p a0 a1:=by
 refine ⟨trivial,fun h=>?_,fun h=>⟨fun h1=>?_,fun h1=>?_⟩⟩
 .unfold zk;rw [zT h];exact ⟨rfl,rfl,trivial⟩
 .have hb:=je h
  unfold zk;rw [zF (by omega),zT h1]
  exact ⟨⟨hb.1,by omega⟩,rfl,rfl,trivial⟩
 .have hb:=je h
  have l1:=qed (n:=a0) hb.1 (by omega)
  have l2:=qed (n:=a1) (by omega) (by omega)
  unfold zk;rw [zF (by omega),zF h1]
  refine ⟨⟨hb.1,by omega⟩,qir (by omega),⟨by omega,by omega⟩,zd6 (by rw [qkh];omega),rfl,rfl,trivial⟩
theorem qzs {a0:ZB} (hp:ln a0<=1000) (hh:¬ qiy a0):∀ x3:Int,∀ x4:ZB,∀ x5:Int,(k7 a0 x3 x4 x5->
    ((x5<(ln x4)->
     (((jq x4 x5)<48->
      ((0:Int)=((kl a0).1))/\
      (false=((kl a0).2))/\
      True))/\
     (48<=(jq x4 x5)->
      ((57<(jq x4 x5)->
       ((0:Int)=((kl a0).1))/\
       (false=((kl a0).2))/\
       True))/\
      ((jq x4 x5)<=57->
       (I64 (10 * x3))/\
       (InK .i32 ((jq x4 x5)-48))/\
       (I64 ((jq x4 x5)-48))/\
       (I64 ((10 * x3)+((jq x4 x5)-48)))/\
       ((288230376151711744<((10 * x3)+((jq x4 x5)-48))->
        (k7 a0 288230376151711744 x4 (qe9 x4 x5))/\
        z6 a0 288230376151711744 x4 (qe9 x4 x5)<z6 a0 x3 x4 x5))/\
       (((10 * x3)+((jq x4 x5)-48))<=288230376151711744->
        (k7 a0 ((10 * x3)+((jq x4 x5)-48)) x4 (qe9 x4 x5))/\
        z6 a0 ((10 * x3)+((jq x4 x5)-48)) x4 (qe9 x4 x5)<z6 a0 x3 x4 x5)))))/\
    ((ln x4)<=x5->
     ((x3:Int)=((kl a0).1))/\
     (true=((kl a0).2))/\
     True)):=by
 rintro n s i ⟨rfl,i0,i1,n0,n1,hc⟩
 have hT:kl s=qx3 s 0:=by unfold kl;rw [zF hh]
 refine ⟨fun hlt=>?_,fun hge=>?_⟩
 .have hr:=qkr i0 hlt
  have bad:(bx s i<48∨57<bx s i)->kl s=(0,false):=fun hb=>by rw [hT,<-hc,qp1 n0 n1,zf7 i0 hlt hb,zF (by simp)]
  refine ⟨fun h=>?_,fun h=>⟨fun h2=>?_,fun h2=>?_⟩⟩
  .rw [bad (by omega)];exact ⟨rfl,rfl,trivial⟩
  .rw [bad (by omega)];exact ⟨rfl,rfl,trivial⟩
  .have e1:jq s i=bx s i:=by omega
   have e2:qe9 s i=i+1:=by omega
   rw [e1] at h h2
   rw [e1,e2]
   have hstep:qx3 (fr s i) n=qx3 (fr s (i+1)) (if 288230376151711744<10 * n+(bx s i-48) then 288230376151711744 else 10 * n+(bx s i-48)):=by
    rw [qdd i0 hlt]
    simp only [qx3]
    rw [<-qo0,zT (qee.2 ⟨h,h2⟩)]
   refine ⟨by simp only [I64];omega,by show -2147483648<=bx s i-48/\bx s i-48<=2147483647;omega,by simp only [I64];omega,by simp only [I64];omega,fun hb=>⟨⟨rfl,by omega,by omega,by omega,by omega,?_⟩,by simp only [z6];omega⟩,fun hb=>⟨⟨rfl,by omega,by omega,by omega,by omega,?_⟩,by simp only [z6];omega⟩⟩
   .rw [<-hc,hstep,zT hb]
   .rw [<-hc,hstep,zF (by omega)]
 .rw [hT,<-hc,qka hge]
  exact ⟨rfl,rfl,trivial⟩
theorem q8c (a0:ZB) (hp:ln a0<=1000):qwo a0:=by
 have i0:k7 a0 0 a0 0:=⟨rfl,zK _,zt _,zK _,by omega,rfl⟩
 have bad:qiy a0->kl a0=(0,false):=fun h=>by unfold kl;rw [zT h]
 refine ⟨fun h=>?_,fun h=>⟨⟨zK _,q18 h⟩,fun h1=>⟨fun h2=>?_,fun h2=>⟨i0,qzs hp ?_⟩⟩,fun h1=>⟨i0,qzs hp ?_⟩⟩⟩
 .rw [bad (.inl h)];exact ⟨rfl,rfl,trivial⟩
 .rw [bad (.inr ⟨h1,h2⟩)];exact ⟨rfl,rfl,trivial⟩
 .rintro (h3 | ⟨_,h3⟩)
  .exact h h3
  .omega
 .rintro (h3 | ⟨h3,_⟩)
  .exact h h3
  .exact h1 h3
theorem zcm {s:ZB} {c i:Int} (h:qcv (upto s c)=true) (h0:0<=i) (h1:i<c) (h2:i<ln s):48<=bx s i/\bx s i<=57:=by
 simp only [qcv,List.all_eq_true] at h
 have hi:i.toNat<s.length:=by simp only [ln] at h2;omega
 have:=h s[i.toNat] (List.mem_take_iff_getElem.2 ⟨i.toNat,by omega,rfl⟩)
 have e:bx s i=((s[i.toNat].toNat:Nat):Int):=by unfold bx;rw [List.getD_eq_getElem?_getD,List.getElem?_eq_getElem hi];rfl
 rw [e]
 exact qee.1 this
theorem q8a {u:ZB} (h:(kl u).2=false):qdn u=false:=by
 rw [zak] at h
 split at h
 .cases h
 .rename_i h1;simpa using h1
theorem q2h {u:ZB} (h:(kl u).2=true):qdn u=true/\0<=qav u 0/\((kl u).1=qav u 0/\qav u 0<=288230376151711744∨(kl u).1=288230376151711744/\288230376151711744<qav u 0):=by
 rw [zak] at h ⊢
 split at h
 .rename_i h1
  rw [zT h1]
  have:=qru (n:=0) (qof h1) (zK _)
  refine ⟨h1,this,?_⟩
  split
  .exact .inr ⟨rfl,by assumption⟩
  .exact .inl ⟨rfl,by omega⟩
 .cases h
theorem gcd_one (n:Int):zh n 1=1:=by unfold zh;simp
theorem qyy {n:Int} (h0:0<=n) (h1:n<=1099511627776):qe n 1=0:=by
 unfold qe
 rw [zF (by omega),gcd_one,zF (by omega)]
theorem qqs {n d:Int} (h0:0<=n) (h1:n<=1099511627776) (h2:2<=d) (h3:d<=1048576):(qe n d=0↔¬ 1<zh n d):=by
 unfold qe
 rw [zF (by omega)]
 split<;>simp_all
theorem qmu {s:ZB} (h:qdn (upto s (qcq s))=false∨(qcq s<ln s/\qdn (fr s (qcq s+1))=false)):qu s=(0,0,3):=by unfold qu;rw [zT h]
theorem q5h {b:Int}:q2g b=true↔b≠47:=by simp [q2g]
theorem zhf {b:Int}:q2g b=false↔b=47:=by simp [q2g]
theorem zpi {s:ZB} (hl:qcq s<ln s) (h1:qdn (upto s (qcq s))=true) (h2:qdn (fr s (qcq s+1))=true) :
  qu s=if 1099511627776<qav (upto s (qcq s)) 0 then (0,0,4) else if 1048576<qav (fr s (qcq s+1)) 0 then (0,0,4)
   else if qav (fr s (qcq s+1)) 0<2∨1<zh (qav (upto s (qcq s)) 0) (qav (fr s (qcq s+1)) 0) then (0,0,3) else (qav (upto s (qcq s)) 0,qav (fr s (qcq s+1)) 0,0):=by
 unfold qu
 rw [zF (by rw [h1,h2];simp),zF (show ¬ ln s<=qcq s by omega)]
theorem zph {s:ZB} (hl:qcq s=ln s) (h1:qdn s=true):qu s=if 1099511627776<qav s 0 then (0,0,4) else (qav s 0,1,0):=by
 unfold qu
 rw [hl,qxg (zK _),zF (by rw [h1];simp),zT (zK (ln s))]
theorem zbr (a0:ZB) (hp:ln a0<=1000):qyi a0:=by
 refine ⟨⟨rfl,rfl,rfl,rfl,zK _,zt _,rfl,fun j h0 h1=>by omega⟩,fun x y b s i ⟨e1,e2,e3,e4,i0,i1,hc,hb⟩=>?_⟩
 subst e1 e2 e3
 subst e4
 refine ⟨fun hlt=>⟨fun h47=>?_,fun h47=>⟨fun h57=>?_,fun h57=>?_⟩⟩,fun hge=>⟨by omega,fun h=>(by cases h),fun _=>?_⟩⟩
 .have hr:=qkr i0 hlt
  have hbx:bx s i=47:=by omega
  have hci:qcq s=i:=hc.trans (qio (.inr (zhf.2 hbx)))
  have lu:ln (upto s i)<=1000:=by rw [zlk i0 i1];omega
  have lf:ln (fr s (i+1))<=1000:=by rw [zg5 (by omega) (by omega)];omega
  have hs:qcq s<ln s:=by omega
  refine ⟨⟨i0,i1⟩,by simp only [I64];omega,⟨by omega,by omega⟩,lu,lf,fun h1=>?_,fun h1=>⟨fun h2=>?_,fun h2=>?_⟩⟩
  .rw [qmu (.inl (by rw [hci];exact q8a h1))];exact ⟨rfl,rfl,rfl,trivial⟩
  .rw [qmu (.inr ⟨hs,by rw [hci];exact q8a h2⟩)];exact ⟨rfl,rfl,rfl,trivial⟩
  .obtain ⟨p1,v0,v1⟩:=q2h h1
   obtain ⟨p2,w0,w1⟩:=q2h h2
   have hP:=zpi hs (by rw [hci];exact p1) (by rw [hci];exact p2)
   rw [hci] at hP
   refine ⟨fun h3=>?_,fun h3=>⟨fun h4=>?_,fun h4=>⟨fun h5=>?_,fun h5=>⟨trivial,fun h6=>?_,fun h6=>?_⟩⟩⟩⟩
   .rw [hP,zT (by omega)];exact ⟨rfl,rfl,rfl,trivial⟩
   .rw [hP,zF (by omega),zT (by omega)];exact ⟨rfl,rfl,rfl,trivial⟩
   .rw [hP,zF (by omega),zF (by omega),zT (by omega)];exact ⟨rfl,rfl,rfl,trivial⟩
   .have q1:(kl (upto s i)).1=qav (upto s i) 0:=by omega
    have q2:(kl (fr s (i+1))).1=qav (fr s (i+1)) 0:=by omega
    rw [q1,q2] at h6
    have:=(qqs (n:=qav (upto s i) 0) (d:=qav (fr s (i+1)) 0) v0 (by omega) (by omega) (by omega))
    rw [hP,zF (by omega),zF (by omega),zT (by omega)];exact ⟨rfl,rfl,rfl,trivial⟩
   .have q1:(kl (upto s i)).1=qav (upto s i) 0:=by omega
    have q2:(kl (fr s (i+1))).1=qav (fr s (i+1)) 0:=by omega
    rw [q1,q2] at h6 ⊢
    have:=(qqs (n:=qav (upto s i) 0) (d:=qav (fr s (i+1)) 0) v0 (by omega) (by omega) (by omega))
    rw [hP,zF (by omega),zF (by omega),zF (by omega)];exact ⟨rfl,rfl,rfl,trivial⟩
 .have hr:=qkr i0 hlt
  have hbx:57<bx s i:=by omega
  have hgt:i<qcq s:=by
   have:=q58 (p:=q2g) i0 hlt (q5h.2 (by omega))
   omega
  rw [qmu (.inl ?_)]
  .exact ⟨rfl,rfl,rfl,trivial⟩
  .rw [<-Bool.not_eq_true]
   intro hh
   have:=zcm (qof hh) i0 hgt hlt
   omega
 .have hr:=qkr i0 hlt
  have e1:qe9 s i=i+1:=by omega
  have hbx:bx s i≠47/\bx s i<=57:=by omega
  rw [e1]
  refine ⟨⟨rfl,rfl,rfl,rfl,by omega,by omega,?_,fun j h0 h1=>?_⟩,by simp only [qgk];omega⟩
  .rw [hc];exact qgd i0 hlt (q5h.2 hbx.1)
  .by_cases hj:j<i
   .exact hb j h0 hj
   .rw [show j=i by omega];exact hbx.2
 .have hci:qcq s=ln s:=by
   rw [hc,show i=ln s by omega]
   exact qio (.inl (zK _))
  refine ⟨fun h1=>?_,fun h1=>?_⟩
  .rw [qmu (.inl (by rw [hci,qxg (zK _)];exact q8a h1))];exact ⟨rfl,rfl,rfl,trivial⟩
  .obtain ⟨p1,v0,v1⟩:=q2h h1
   have hP:=zph hci p1
   refine ⟨fun h3=>?_,fun h3=>⟨trivial,fun h6=>?_,fun h6=>?_⟩⟩
   .rw [hP,zT (by omega)];exact ⟨rfl,rfl,rfl,trivial⟩
   .exact absurd (qyy (by omega) h3) h6
   .rw [hP,zF (by omega)]
    exact ⟨by show (kl s).1=qav s 0;omega,rfl,rfl,trivial⟩
theorem zpj {a b c:Int} (h:jy a b c=0):0<=a/\a<=6/\0<=b/\b<=8/\-1<=c/\c<=1:=by
 unfold jy at h
 split at h
 .omega
 .omega
theorem zpc {a b:Int} (h0:0<=a) (h1:a<=6) (h2:0<=b):Int.tmod (7 * b+a) 7=a/\Int.tdiv (7 * b+a) 7=b:=by
 rw [Int.tmod_eq_emod_of_nonneg (by omega),Int.tdiv_eq_ediv_of_nonneg (by omega)]
 omega
theorem six {a:Int} (h0:0<=a) (h1:a<=6):a=0∨a=1∨a=2∨a=3∨a=4∨a=5∨a=6:=by omega
theorem zso {a:Int} (h0:0<=a) (h1:a<=6):UInt8.ofNat (Int.toNat (bx qgu a))=qgu.getD a.toNat 0/\sub qgu a (a+1)=[qgu.getD a.toNat 0]/\U8 (bx qgu a):=by
 rcases six h0 h1 with rfl | rfl | rfl | rfl | rfl | rfl | rfl<;>exact ⟨by decide,by decide,by decide⟩
theorem zsl {c:Int} (h0:-1<=c) (h1:c<=1):(c≠0->[UInt8.ofNat (Int.toNat (bx qow (c+1)))]=q7d c)/\(c=0->q7d c=[])/\ix [([98]:ZB),[],[35]] (c+1)=q7d c/\U8 (bx qow (c+1))/\ln (q7d c)<=1:=by
 have:c = -1∨c=0∨c=1:=by omega
 rcases this with rfl | rfl | rfl<;>exact ⟨by decide,by decide,by decide,by decide,by decide⟩
theorem zsq {b:Int} (h0:0<=b) (h1:b<=8):UInt8.ofNat (Int.toNat (48+b))=UInt8.ofNat (48+b.toNat)/\sub ([48,49,50,51,52,53,54,55,56]:ZB) b (b+1)=[UInt8.ofNat (48+b.toNat)]:=by
 have:b=0∨b=1∨b=2∨b=3∨b=4∨b=5∨b=6∨b=7∨b=8:=by omega
 rcases this with rfl | rfl | rfl | rfl | rfl | rfl | rfl | rfl | rfl<;>exact ⟨by decide,by decide⟩
theorem zby (a0 a1 a2:Int):qyp a0 a1 a2:=by
 refine ⟨trivial,fun h=>?_,fun h=>?_⟩
 .unfold js;rw [zT h];exact ⟨rfl,rfl,trivial⟩
 .obtain ⟨b1,b2,b3,b4,b5,b6⟩:=zpj h
  obtain ⟨e1,e2⟩:=zpc b1 b2 b3
  obtain ⟨l1,_,l3⟩:=zso b1 b2
  obtain ⟨c1,c2,_,c4,_⟩:=zsl b5 b6
  obtain ⟨o1,_⟩:=zsq b3 b4
  have hT:js a0 a1 a2=(qko a0 a1 a2,0):=by unfold js;rw [zF (by omega)]
  rw [hT,e1,e2]
  have s2:∀ x y:UInt8,ze (List.length [x]+List.length [y]):=fun x y=>by simp only [ze,List.length_cons,List.length_nil];omega
  refine ⟨by simp only [I64];omega,by simp only [I64];omega,by decide,⟨b1,by show a0<7;omega⟩,l3,fun hn=>?_,fun hn=>?_⟩
  .refine ⟨by simp only [I64];omega,⟨by omega,by show a2+1<3;omega⟩,c4,s2 _ _,⟨by decide,by simp only [I64];omega⟩,by simp only [I64];omega,by simp only [U8];omega,by simp only [U8];omega,?_,?_,rfl,trivial⟩
   .simp only [ze,List.length_append,List.length_cons,List.length_nil];omega
   .unfold qko
    rw [l1,c1 hn,o1]
  .refine ⟨⟨by decide,by simp only [I64];omega⟩,by simp only [I64];omega,by simp only [U8];omega,by simp only [U8];omega,s2 _ _,?_,rfl,trivial⟩
   unfold qko
   rw [l1,c2 hn,o1,zJ]
theorem zic {s:ZB} (h:ln s<2∨3<ln s∨qf ([99,100,101,102,103,97,98]:ZB) (bx s 0)<0∨bx s (ln s-1)<48∨56<bx s (ln s-1)∨q0z s=2):zf s=(0,0,0,3):=by unfold zf;rw [zT h]
theorem qz1 {s:ZB} (h:¬ (ln s<2∨3<ln s∨qf ([99,100,101,102,103,97,98]:ZB) (bx s 0)<0∨bx s (ln s-1)<48∨56<bx s (ln s-1)∨q0z s=2)):zf s=(qf ([99,100,101,102,103,97,98]:ZB) (bx s 0),bx s (ln s-1)-48,q0z s,0):=by unfold zf;rw [zF h]
theorem zbo (a0:ZB) (hp:ln a0<=1000):qyh a0:=by
 have hb:=quk a0 (ln a0-1)
 have hi:qf ([99,100,101,102,103,97,98]:ZB) (bx a0 0)<7/\-1<=qf ([99,100,101,102,103,97,98]:ZB) (bx a0 0):=by
  have h1:=q1z ([99,100,101,102,103,97,98]:ZB) (bx a0 0)
  have h2:=q1y ([99,100,101,102,103,97,98]:ZB) (bx a0 0)
  have:ln ([99,100,101,102,103,97,98]:ZB)=7:=rfl
  omega
 have ha:qf ([98,32,35]:ZB) (bx a0 1)<3/\-1<=qf ([98,32,35]:ZB) (bx a0 1):=by
  have h1:=q1z ([98,32,35]:ZB) (bx a0 1)
  have h2:=q1y ([98,32,35]:ZB) (bx a0 1)
  have:ln ([98,32,35]:ZB)=3:=rfl
  omega
 have hA:q0z a0=if ln a0≠3 then 0 else if qf ([98,32,35]:ZB) (bx a0 1)<0∨qf ([98,32,35]:ZB) (bx a0 1)=1 then 2 else qf ([98,32,35]:ZB) (bx a0 1)-1:=rfl
 have bad:(ln a0<2∨3<ln a0∨qf ([99,100,101,102,103,97,98]:ZB) (bx a0 0)<0∨bx a0 (ln a0-1)<48∨56<bx a0 (ln a0-1)∨q0z a0=2)->((0:Int)=(zf a0).1/\(0:Int)=(zf a0).2.1/\(0:Int)=(zf a0).2.2.1/\(3:Int)=(zf a0).2.2.2/\True):=fun h=>by
  rw [zic h];exact ⟨rfl,rfl,rfl,rfl,trivial⟩
 refine ⟨fun h=>bad (.inl h),fun h=>⟨fun h1=>bad (.inr (.inl h1)),fun h1=>⟨⟨zK _,by omega⟩,trivial,by simp only [I64];omega,⟨by omega,by omega⟩,by simp only [I64];omega,by simp only [I64];omega,fun h2=>bad (.inr (.inr (.inl h2))),fun h2=>⟨fun h3=>bad (.inr (.inr (.inr (.inl (by omega))))),fun h3=>⟨fun h4=>bad (.inr (.inr (.inr (.inr (.inl (by omega)))))),fun h4=>⟨fun h5=>?_,fun h5=>?_⟩⟩⟩⟩⟩⟩
 .refine ⟨⟨by omega,by omega⟩,trivial,fun h6=>bad (by rw [hA,zF (by omega),zT (.inl h6)];omega),fun h6=>⟨fun h7=>bad (by rw [hA,zF (by omega),zT (.inr h7)];omega),fun h7=>?_⟩⟩
  have eA:q0z a0=qf ([98,32,35]:ZB) (bx a0 1)-1:=by rw [hA,zF (by omega),zF (by rintro (h | h);exact absurd h (by show ¬ qf ([98,32,35]:ZB) (bx a0 1)<0;omega);exact h7 h)]
  obtain ⟨e1,e2⟩:=zpc (a:=qf ([99,100,101,102,103,97,98]:ZB) (bx a0 0)) (b:=bx a0 (ln a0-1)-48) h2 (by omega) h3
  refine ⟨by simp only [I64];omega,by simp only [I64];omega,by simp only [I64];omega,fun h8=>absurd h8 (by omega),fun _=>⟨fun h8=>absurd h8 (by omega),fun _=>⟨fun h8=>absurd h8 (by omega),fun _=>⟨fun h8=>absurd h8 (by omega),fun _=>⟨by decide,⟨by decide,?_⟩,?_⟩⟩⟩⟩⟩
  .rw [e2];simp only [I64];omega
  .rw [e1,e2,qz1 (by rw [eA];omega),eA];exact ⟨rfl,rfl,rfl,rfl,trivial⟩
 .have eA:q0z a0=0:=by rw [hA,zT h5]
  obtain ⟨e1,e2⟩:=zpc (a:=qf ([99,100,101,102,103,97,98]:ZB) (bx a0 0)) (b:=bx a0 (ln a0-1)-48) h2 (by omega) h3
  refine ⟨by simp only [I64];omega,by simp only [I64];omega,fun h8=>absurd h8 (by omega),fun _=>⟨fun h8=>absurd h8 (by omega),fun _=>⟨by decide,⟨by decide,?_⟩,?_⟩⟩⟩
  .rw [e2];simp only [I64];omega
  .rw [e1,e2,qz1 (by rw [eA];omega),eA];exact ⟨rfl,rfl,rfl,rfl,trivial⟩
structure RowL (x:Event):Prop where
 s0:0<=x.Sign
 s1:x.Sign<=9223372036854775807
 p0:0<=x.Pass
 p1:x.Pass<=9223372036854775807
 t:(zk x.DurN x.DurD).1.length<=43
 p:(js x.PitchStep x.PitchOctave x.PitchAlter).1.length<=3
 s:(zb x.Sign).length<=21
 q:(zb x.Pass).length<=21
theorem q2w {l:List Event} (hg:q43 l) (h:(zu l).1=0) {i:Int} (h0:0<=i) (h1:i<ln l):RowL (ix l i):=by
 have hm:=qf8 h0 h1
 obtain ⟨_,_,c1,c2⟩:=qmt (q0s h _ hm)
 obtain ⟨d1,d2⟩:=hg.2 _ hm
 have t1:=qrr (ix l i).DurN (ix l i).DurD
 have t2:=q0j (ix l i).PitchStep (ix l i).PitchOctave (ix l i).PitchAlter
 have t3:=qed c1 d1
 have t4:=qed c2 d2
 simp only [ln] at t1 t2 t3 t4
 exact ⟨c1,d1,c2,d2,by omega,by omega,by omega,by omega⟩
section
variable {x:Event} {s:ZB}
theorem qt9 (h:x.Rest=true):(s++([114,101,115,116,32]:ZB))++(((((((zk x.DurN x.DurD).1)++([32]:ZB))++(zb x.Sign))++([32]:ZB))++(zb x.Pass))++([10]:ZB))=s++qji x:=by
 unfold qji;rw [zT h];simp only [List.append_assoc]
theorem qt8 (h:x.Rest=false):(s++((([110,111,116,101,32]:ZB)++((js x.PitchStep x.PitchOctave x.PitchAlter).1))++([32]:ZB)))++(((((((zk x.DurN x.DurD).1)++([32]:ZB))++(zb x.Sign))++([32]:ZB))++(zb x.Pass))++([10]:ZB))=s++qji x:=by
 unfold qji;rw [zF (by rw [h];decide)];simp only [List.append_assoc]
end
section
variable {l:List Event} {i:Int} {s:ZB}
theorem qjs (hc:(zu l).1=0) (h0:0<=i) (h:i<ln l) (hi:qjf (fr l i) s=qjf l []) (hb:20000<ln (s++qji (ix l i))):jr l=([],4):=by
 rw [qxa hc,<-hi,q5w h0 h,zT hb]
theorem qjt (h0:0<=i) (h:i<ln l) (hi:qjf (fr l i) s=qjf l []) (hb:ln (s++qji (ix l i))<=20000):qjf (fr l (i+1)) (s++qji (ix l i))=qjf l []:=by
 rw [<-hi,q5w h0 h,zF (by omega)]
theorem qwr (hc:(zu l).1=0) (h:ln l<=i) (hi:qjf (fr l i) s=qjf l []):jr l=(s,0):=by
 rw [qxa hc,<-hi,zl3 h]
end
theorem ze9 (a0:List Event) (hp:q43 a0):qt3 a0:=by
 have hl:=hp.1
 have n0:=zt a0
 unfold qt3
 refine ⟨by omega,fun hc=>?_,fun hc=>⟨fun h0=>?_,fun h0=>?_⟩⟩
 .rw [zea hc];exact ⟨rfl,rfl,trivial⟩
 .obtain ⟨s0,s1,p0,p1,ht,hpl,hs,hq⟩:=q2w hp hc (zK 0) h0
  have z:([]:ZB).length<=20000:=by decide
  have i3:qjf (fr a0 0) []=qjf a0 []:=rfl
  refine ⟨⟨zK _,h0⟩,trivial,fun hr=>?_,fun hr=>?_⟩
  all_goals first | simp only [qt9 hr] | simp only [qt8 hr]
  .refine ⟨?_,?_,⟨s0,s1⟩,?_,?_,⟨p0,p1⟩,?_,?_,?_,fun hb=>?_,fun hb=>⟨⟨by decide,by omega,hb,qjt (zK 0) h0 i3 hb⟩,?_⟩⟩
   all_goals first | (simp only [ze,List.length_append,List.length_cons,List.length_nil];omega) | (rw [qjs hc (zK 0) h0 i3 hb];exact ⟨rfl,rfl,trivial⟩) | skip
   intro i s ⟨i0,i1,i2,i3⟩
   refine ⟨fun hlt=>?_,fun hge=>?_⟩
   .obtain ⟨s0,s1,p0,p1,ht,hpl,hs,hq⟩:=q2w hp hc i0 hlt
    have z:s.length<=20000:=by simp only [ln] at i2;omega
    refine ⟨⟨i0,hlt⟩,trivial,fun hr=>?_,fun hr=>?_⟩
    all_goals first | simp only [qt9 hr] | simp only [qt8 hr]
    .refine ⟨?_,?_,⟨s0,s1⟩,?_,?_,⟨p0,p1⟩,?_,?_,?_,fun hb=>?_,fun hb=>⟨⟨by omega,by omega⟩,trivial,trivial,trivial,trivial,trivial,trivial,trivial,trivial,trivial,trivial,⟨by omega,by omega,hb,qjt i0 hlt i3 hb⟩,by simp only [jg];omega⟩⟩
     all_goals first | (simp only [ze,List.length_append,List.length_cons,List.length_nil];omega) | (rw [qjs hc i0 hlt i3 hb];exact ⟨rfl,rfl,trivial⟩)
    .refine ⟨trivial,?_,?_,?_,?_,⟨s0,s1⟩,?_,?_,⟨p0,p1⟩,?_,?_,?_,fun hb=>?_,fun hb=>⟨⟨by omega,by omega⟩,trivial,trivial,trivial,trivial,trivial,trivial,trivial,trivial,trivial,trivial,⟨by omega,by omega,hb,qjt i0 hlt i3 hb⟩,by simp only [jg];omega⟩⟩
     all_goals first | (simp only [ze,List.length_append,List.length_cons,List.length_nil];omega) | (rw [qjs hc i0 hlt i3 hb];exact ⟨rfl,rfl,trivial⟩)
   .rw [qwr hc hge i3]
    exact ⟨Int.le_trans i2 (by decide),rfl,rfl,trivial⟩
  .refine ⟨trivial,?_,?_,?_,?_,⟨s0,s1⟩,?_,?_,⟨p0,p1⟩,?_,?_,?_,fun hb=>?_,fun hb=>⟨⟨by decide,by omega,hb,qjt (zK 0) h0 i3 hb⟩,?_⟩⟩
   all_goals first | (simp only [ze,List.length_append,List.length_cons,List.length_nil];omega) | (rw [qjs hc (zK 0) h0 i3 hb];exact ⟨rfl,rfl,trivial⟩) | skip
   intro i s ⟨i0,i1,i2,i3⟩
   refine ⟨fun hlt=>?_,fun hge=>?_⟩
   .obtain ⟨s0,s1,p0,p1,ht,hpl,hs,hq⟩:=q2w hp hc i0 hlt
    have z:s.length<=20000:=by simp only [ln] at i2;omega
    refine ⟨⟨i0,hlt⟩,trivial,fun hr=>?_,fun hr=>?_⟩
    all_goals first | simp only [qt9 hr] | simp only [qt8 hr]
    .refine ⟨?_,?_,⟨s0,s1⟩,?_,?_,⟨p0,p1⟩,?_,?_,?_,fun hb=>?_,fun hb=>⟨⟨by omega,by omega⟩,trivial,trivial,trivial,trivial,trivial,trivial,trivial,trivial,trivial,trivial,⟨by omega,by omega,hb,qjt i0 hlt i3 hb⟩,by simp only [jg];omega⟩⟩
     all_goals first | (simp only [ze,List.length_append,List.length_cons,List.length_nil];omega) | (rw [qjs hc i0 hlt i3 hb];exact ⟨rfl,rfl,trivial⟩)
    .refine ⟨trivial,?_,?_,?_,?_,⟨s0,s1⟩,?_,?_,⟨p0,p1⟩,?_,?_,?_,fun hb=>?_,fun hb=>⟨⟨by omega,by omega⟩,trivial,trivial,trivial,trivial,trivial,trivial,trivial,trivial,trivial,trivial,⟨by omega,by omega,hb,qjt i0 hlt i3 hb⟩,by simp only [jg];omega⟩⟩
     all_goals first | (simp only [ze,List.length_append,List.length_cons,List.length_nil];omega) | (rw [qjs hc i0 hlt i3 hb];exact ⟨rfl,rfl,trivial⟩)
   .rw [qwr hc hge i3]
    exact ⟨Int.le_trans i2 (by decide),rfl,rfl,trivial⟩
 .rw [qwr hc h0 (s:=[]) rfl];exact ⟨rfl,rfl,trivial⟩
section
variable {ws:List Word} {x:Int}
theorem qkx (h:(ix ws 0).Text=[114,101,115,116]):isR ws=true:=decide_eq_true h
theorem qi2 (h:(ix ws 0).Text≠[114,101,115,116]):isR ws=false:=decide_eq_false h
theorem zp7 (h0:0<=x) (h1:x<ln ws) (h:(ix ws x).Quoted=true):qde ws:=.inr (.inr (List.any_eq_true.2 ⟨_,qf8 h0 h1,h⟩))
theorem zqx (h1:ln ws<=x) (h:∀ j,0<=j->j<x->(ix ws j).Quoted=false):¬ ws.any (·.Quoted)=true:=by
 rw [List.any_eq_true]
 rintro ⟨w,hw,hq⟩
 obtain ⟨j,h0,h2,rfl⟩:=qwk hw
 rw [h j h0 (by omega)] at hq;cases hq
theorem qx2 (ht:(ix ws 0).Text=[114,101,115,116]) (hl:ln ws=4) (h1:ln ws<=x) (h:∀ j,0<=j->j<x->(ix ws j).Quoted=false):¬ qde ws:=by
 rintro (⟨_,h⟩ | ⟨h,_⟩ | hq)
 .exact h hl
 .rw [qkx ht] at h;cases h
 .exact zqx h1 h hq
theorem qta (hn:(ix ws 0).Text=[110,111,116,101]) (hl:ln ws=5) (h1:ln ws<=x) (h:∀ j,0<=j->j<x->(ix ws j).Quoted=false):¬ qde ws:=by
 rintro (⟨h,_⟩ | ⟨_,h⟩ | hq)
 .simp only [isR,hn] at h;exact absurd h (by decide)
 .rcases h with h | h
  .exact h hl
  .exact h hn
 .exact zqx h1 h hq
theorem q0c (h:¬ qde ws) (hR:isR ws=true):qb6 ws=if (qu (ix ws 1).Text).2.2≠0∨(qu (ix ws 1).Text).1=0 then 1 else if (zq (ix ws 2).Text).2=false then 2 else if (zq (ix ws 3).Text).2=false then 3 else -1:=by
 simp [qb6,h,hR,kD]
theorem qwn (h:¬ qde ws) (hR:isR ws=false):qb6 ws=if (zf (ix ws 1).Text).2.2.2≠0 then 1 else if (qu (ix ws 2).Text).2.2≠0∨(qu (ix ws 2).Text).1=0 then 2 else if (zq (ix ws 3).Text).2=false then 3 else if (zq (ix ws 4).Text).2=false then 4 else -1:=by
 simp [qb6,h,hR,kD]
theorem q9z (h:qde ws):qx ws 0 0 0 0 0 0 0 (isR ws) 0 0 0:=by
 have hk:qb6 ws=0:=zT h
 unfold qx zw qoe kD
 simp only [hk]
 cases isR ws<;>simp
theorem q4d {k:Int} (h:¬ qde ws) (hR:isR ws=true) (hk:qb6 ws=k) (k1:k = -1∨1<=k) :
  qx ws 0 0 (if k = -1∨1<k then (qu (ix ws 1).Text).1 else 0) (if k = -1∨1<k then (qu (ix ws 1).Text).2.1 else 0) 0 0 0 (isR ws) (if k = -1∨2<k then (zq (ix ws 2).Text).1 else 0) (if k = -1∨3<k then (zq (ix ws 3).Text).1 else 0) k:=by
 unfold qx zw qoe kD
 simp [hR,hk]
theorem qy5 {k:Int} (h:¬ qde ws) (hR:isR ws=false) (hk:qb6 ws=k) :
  qx ws 0 0 (if k = -1∨2<k then (qu (ix ws 2).Text).1 else 0) (if k = -1∨2<k then (qu (ix ws 2).Text).2.1 else 0) (if k = -1∨1<k then (zf (ix ws 1).Text).1 else 0) (if k = -1∨1<k then (zf (ix ws 1).Text).2.1 else 0) (if k = -1∨1<k then (zf (ix ws 1).Text).2.2.1 else 0) (isR ws) (if k = -1∨3<k then (zq (ix ws 3).Text).1 else 0) (if k = -1∨4<k then (zq (ix ws 4).Text).1 else 0) k:=by
 unfold qx zw qoe kD
 simp [hR,hk]
theorem r1 (h:¬ qde ws) (hR:isR ws=true) (c:(qu (ix ws 1).Text).2.2≠0∨(qu (ix ws 1).Text).1=0):qb6 ws=1:=by rw [q0c h hR,zT c]
theorem r2 (h:¬ qde ws) (hR:isR ws=true) (c:(qu (ix ws 1).Text).2.2=0) (d:(qu (ix ws 1).Text).1≠0) (e:(zq (ix ws 2).Text).2=false):qb6 ws=2:=by rw [q0c h hR,zF (by omega),zT e]
theorem r3 (h:¬ qde ws) (hR:isR ws=true) (c:(qu (ix ws 1).Text).2.2=0) (d:(qu (ix ws 1).Text).1≠0) (e:(zq (ix ws 2).Text).2=true) (f:(zq (ix ws 3).Text).2=false):qb6 ws=3:=by rw [q0c h hR,zF (by omega),zF (by rw [e];decide),zT f]
theorem r4 (h:¬ qde ws) (hR:isR ws=true) (c:(qu (ix ws 1).Text).2.2=0) (d:(qu (ix ws 1).Text).1≠0) (e:(zq (ix ws 2).Text).2=true) (f:(zq (ix ws 3).Text).2=true):qb6 ws = -1:=by rw [q0c h hR,zF (by omega),zF (by rw [e];decide),zF (by rw [f];decide)]
theorem n1 (h:¬ qde ws) (hR:isR ws=false) (b:(zf (ix ws 1).Text).2.2.2≠0):qb6 ws=1:=by rw [qwn h hR,zT b]
theorem n2 (h:¬ qde ws) (hR:isR ws=false) (b:(zf (ix ws 1).Text).2.2.2=0) (c:(qu (ix ws 2).Text).2.2≠0∨(qu (ix ws 2).Text).1=0):qb6 ws=2:=by rw [qwn h hR,zF (by omega),zT c]
theorem n3 (h:¬ qde ws) (hR:isR ws=false) (b:(zf (ix ws 1).Text).2.2.2=0) (c:(qu (ix ws 2).Text).2.2=0) (d:(qu (ix ws 2).Text).1≠0) (e:(zq (ix ws 3).Text).2=false):qb6 ws=3:=by rw [qwn h hR,zF (by omega),zF (by omega),zT e]
theorem n4 (h:¬ qde ws) (hR:isR ws=false) (b:(zf (ix ws 1).Text).2.2.2=0) (c:(qu (ix ws 2).Text).2.2=0) (d:(qu (ix ws 2).Text).1≠0) (e:(zq (ix ws 3).Text).2=true) (f:(zq (ix ws 4).Text).2=false):qb6 ws=4:=by rw [qwn h hR,zF (by omega),zF (by omega),zF (by rw [e];decide),zT f]
theorem n5 (h:¬ qde ws) (hR:isR ws=false) (b:(zf (ix ws 1).Text).2.2.2=0) (c:(qu (ix ws 2).Text).2.2=0) (d:(qu (ix ws 2).Text).1≠0) (e:(zq (ix ws 3).Text).2=true) (f:(zq (ix ws 4).Text).2=true):qb6 ws = -1:=by rw [qwn h hR,zF (by omega),zF (by omega),zF (by rw [e];decide),zF (by rw [f];decide)]
end
section
variable {ws:List Word} {x:Int}
theorem zil (h:∀ j,0<=j->j<x->(ix ws j).Quoted=false) (hx:(ix ws x).Quoted=false):∀ j,0<=j->j<x+1->(ix ws j).Quoted=false:=by
 intro j h0 h1
 by_cases hj:j=x
 .rw [hj];exact hx
 .exact h j h0 (by omega)
end
theorem zmf (a0:List Word) (hp:qp8 a0):q2x a0:=by
 obtain ⟨p0,p1,p2⟩:=hp
 have tx:∀ i,0<=i->i<ln a0->ln (ix a0 i).Text<=1000:=fun i h0 h1=>p2 _ (qf8 h0 h1)
 unfold q2x
 simp only [qad,qbh,and_imp]
 unhygienic (repeat' (first | exact trivial | with_reducible apply And.intro | with_reducible refine fun _=>?_))
 all_goals first
  | (with_reducible assumption)
  | contradiction
  | omega
  | exact tx _ (by omega) (by omega)
  | (with_reducible rfl)
  | exact zil ‹_› ‹_›  _ ‹_› ‹_›
  | exact q9z (.inl ⟨qkx ‹_›,by assumption⟩)
  | exact q9z (.inr (.inl ⟨qi2 ‹_›,.inl ‹_›⟩))
  | exact q9z (.inr (.inl ⟨qi2 ‹_›,.inr ‹_›⟩))
  | exact q9z (zp7 ‹_› ‹_› ‹_›)
  | exact q4d (qx2 ‹_› ‹_› ‹_› ‹_›) (qkx ‹_›) (r4 (qx2 ‹_› ‹_› ‹_› ‹_›) (qkx ‹_›) ‹_› ‹_› ‹_› ‹_›) (by decide)
  | exact q4d (qx2 ‹_› ‹_› ‹_› ‹_›) (qkx ‹_›) (r3 (qx2 ‹_› ‹_› ‹_› ‹_›) (qkx ‹_›) ‹_› ‹_› ‹_› ‹_›) (by decide)
  | exact q4d (qx2 ‹_› ‹_› ‹_› ‹_›) (qkx ‹_›) (r2 (qx2 ‹_› ‹_› ‹_› ‹_›) (qkx ‹_›) ‹_› ‹_› ‹_›) (by decide)
  | exact q4d (qx2 ‹_› ‹_› ‹_› ‹_›) (qkx ‹_›) (r1 (qx2 ‹_› ‹_› ‹_› ‹_›) (qkx ‹_›) (.inl ‹_›)) (by decide)
  | exact q4d (qx2 ‹_› ‹_› ‹_› ‹_›) (qkx ‹_›) (r1 (qx2 ‹_› ‹_› ‹_› ‹_›) (qkx ‹_›) (.inr ‹_›)) (by decide)
  | exact qy5 (qta ‹_› ‹_› ‹_› ‹_›) (qi2 ‹_›) (n5 (qta ‹_› ‹_› ‹_› ‹_›) (qi2 ‹_›) ‹_› ‹_› ‹_› ‹_› ‹_›)
  | exact qy5 (qta ‹_› ‹_› ‹_› ‹_›) (qi2 ‹_›) (n4 (qta ‹_› ‹_› ‹_› ‹_›) (qi2 ‹_›) ‹_› ‹_› ‹_› ‹_› ‹_›)
  | exact qy5 (qta ‹_› ‹_› ‹_› ‹_›) (qi2 ‹_›) (n3 (qta ‹_› ‹_› ‹_› ‹_›) (qi2 ‹_›) ‹_› ‹_› ‹_› ‹_›)
  | exact qy5 (qta ‹_› ‹_› ‹_› ‹_›) (qi2 ‹_›) (n2 (qta ‹_› ‹_› ‹_› ‹_›) (qi2 ‹_›) ‹_› (.inl ‹_›))
  | exact qy5 (qta ‹_› ‹_› ‹_› ‹_›) (qi2 ‹_›) (n2 (qta ‹_› ‹_› ‹_› ‹_›) (qi2 ‹_›) ‹_› (.inr ‹_›))
  | exact qy5 (qta ‹_› ‹_› ‹_› ‹_›) (qi2 ‹_›) (n1 (qta ‹_› ‹_› ‹_› ‹_›) (qi2 ‹_›) ‹_›)
section
variable {ws:List Word} {z:Int}
end
theorem zdr {s:ZB} (h:(qu s).2.2=0):qe (qu s).1 (qu s).2.1=0:=by
 unfold qu at h ⊢
 split at h
 .simp at h
 .rename_i c1
  rw [zF c1]
  have q:0<=qav (upto s (qcq s)) 0:=by
   have:qdn (upto s (qcq s))=true:=by
    cases hp:qdn (upto s (qcq s)) with
    | true=>rfl
    | false=>exact absurd (.inl hp) c1
   exact qru (n:=0) (qof this) (zK _)
  split at h
  .simp at h
  .rename_i c2
   rw [zF c2]
   split at h
   .rename_i c3;rw [zT c3];exact qyy q (by omega)
   .rename_i c3
    rw [zF c3]
    split at h
    .simp at h
    .rename_i c4
     rw [zF c4]
     split at h
     .simp at h
     .rename_i c5
      rw [zF c5]
      show qe (qav (upto s (qcq s)) 0) (qav (fr s (qcq s+1)) 0)=0
      exact (qqs q (by omega) (by omega) (by omega)).2 (by omega)
theorem sub_le (l:ZB) (i j:Int):ln (sub l i j)<=ln l:=by simp only [ln,sub,List.length_drop,List.length_take];omega
theorem zkq (l:ZB) (f i:Int) (hf:0<=f) (hi:0<=i):∀ w ∈ (jd l f i).1,ln w.Text<=ln l/\0<=w.At:=by
 have hr:∀ i:Int,i<=zp kj l i:=fun i=>qej
 fun_induction jd l f i with
 | case1 i h1=>intro w hw;cases hw
 | case2 i h1 h2 h3 h4 ih=>
  intro w hw
  have:=hr i
  rcases zD.1 hw with rfl | hw
  .exact ⟨sub_le _ _ _,by show 0<=f+_;omega⟩
  .exact ih (by omega) w hw
 | case3 i h1 h2 h3 h4 ih=>intro w hw;cases hw
 | case4 i h1 h2 h3=>intro w hw;cases hw
 | case5 i h1 h2 h3 h4 h5 ih=>
  intro w hw
  have:=hr i
  rcases zD.1 hw with rfl | hw
  .exact ⟨sub_le _ _ _,by show 0<=f+_;omega⟩
  .exact ih (by omega) w hw
 | case6 i h1 h2 h3 h4 h5 ih=>intro w hw;cases hw
 | case7 i h1 h2 h3 h4=>intro w hw;cases hw
 | case8 i h1 h2 h3=>intro w hw;cases hw
theorem q57:∀ (L:List ZB) (x:Int),0<=x->∀ r ∈ (qas L x).1,1<=ln r.Words/\∀ w ∈ r.Words,ln w.Text<=1000/\0<=w.At
 | [],x,_=>fun r h=>by cases h
 | l::L,x,hx=>by
  have ih:=q57 L (x+ln l+1) (by have:=zt l;omega)
  unfold qas
  split
  .intro r h;cases h
  .rename_i hl
   split
   .intro r h;cases h
   .split
    .split
     .exact ih
     .rename_i hne
      intro r hr
      rcases zD.1 hr with rfl | hr
      .refine ⟨?_,fun w hw=>?_⟩
       .show 1<=ln (jd l x 0).1
        cases hc:(jd l x 0).1 with
        | nil=>exact absurd hc hne
        | cons a b=>rw [jv];have:=zt b;omega
       .have:=zkq l x 0 hx (zK _) w hw;exact ⟨by omega,this.2⟩
      .exact ih r hr
    .intro r h;cases h
theorem zit (t:ZB):∀ r ∈ (qh t).1,qp8 r.Words/\∀ w ∈ r.Words,0<=w.At:=by
 intro r hr
 have h1:=(q55 t).2 r hr
 unfold qh at hr
 split at hr
 .cases hr
 .have:=q57 _ _ (zK _) r hr
  exact ⟨⟨by omega,h1,fun w hw=>(this.2 w hw).1⟩,fun w hw=>(this.2 w hw).2⟩
theorem zmd {ws:List Word} (h:0<ln ws):qb6 ws = -1∨(0<=qb6 ws/\qb6 ws<ln ws):=by
 by_cases hh:qde ws
 .rw [show qb6 ws=0 from zT hh];omega
 .have hl:ln ws=if isR ws=true then 4 else 5:=by
   by_cases hR:isR ws=true
   .rw [zT hR]
    by_cases h4:ln ws=4
    .exact h4
    .exact absurd (.inl ⟨hR,h4⟩) hh
   .rw [zF hR]
    by_cases h5:ln ws=5
    .exact h5
    .exact absurd (.inr (.inl ⟨by simpa using hR,.inl h5⟩)) hh
  cases hR:isR ws
  .rw [hR,zF (by decide)] at hl
   rw [qwn hh hR];(repeat' split)<;>omega
  .rw [hR,zT rfl] at hl
   rw [q0c hh hR];(repeat' split)<;>omega
theorem q54 {ws:List Word} (h:qb6 ws = -1):qe (zw ws).DurN (zw ws).DurD=0:=by
 have hh:¬ qde ws:=fun hh=>by rw [show qb6 ws=0 from zT hh] at h;omega
 have hp:(qu (ix ws (kD ws)).Text).2.2=0:=by
  cases hR:isR ws
  .rw [qwn hh hR] at h
   have:kD ws=2:=by simp [kD,hR]
   rw [this]
   split at h
   .omega
   .split at h<;>omega
  .rw [q0c hh hR] at h
   have:kD ws=1:=by simp [kD,hR]
   rw [this]
   split at h<;>omega
 have e:qoe ws (kD ws):=.inl h
 simp only [zw,zT e]
 exact zdr hp
section
variable {t:ZB} {l:List Event} {i n d:Int}
theorem zid (h:(qh t).2.1≠0):qgw t=([],(qh t).2):=by unfold qgw;rw [zT h]
theorem zkz (h:(qh t).2.1=0) (hi:qg8 (fr (qh t).1 i) i n d l=qg8 (qh t).1 0 0 1 []) (h0:0<=i) (h1:i<ln (qh t).1) (h2:i=2000):qgw t=([],11,(ix (ix (qh t).1 i).Words 0).At):=by
 unfold qgw
 rw [zF (by omega),<-hi,qdd h0 h1,qg8,zT h2]
theorem zn8 (h:(qh t).2.1=0) (hi:qg8 (fr (qh t).1 i) i n d l=qg8 (qh t).1 0 0 1 []) (h0:0<=i) (h1:i<ln (qh t).1) (h2:i≠2000) (h3:qb6 (ix (qh t).1 i).Words≠-1):qgw t=([],3,(ix (ix (qh t).1 i).Words (qb6 (ix (qh t).1 i).Words)).At):=by
 unfold qgw
 rw [zF (by omega),<-hi,qdd h0 h1,qg8,zF h2,zT h3]
theorem zn6 (h:(qh t).2.1=0) (hi:qg8 (fr (qh t).1 i) i n d l=qg8 (qh t).1 0 0 1 []) (h0:0<=i) (h1:i<ln (qh t).1) (h2:i≠2000) (h3:qb6 (ix (qh t).1 i).Words = -1)
  (h4:(kr n d (zw (ix (qh t).1 i).Words).DurN (zw (ix (qh t).1 i).Words).DurD).2.2≠0):qgw t=([],4,(ix (ix (qh t).1 i).Words 0).At):=by
 unfold qgw
 rw [zF (by omega),<-hi,qdd h0 h1,qg8,zF h2,zF (by omega),zT h4]
theorem zk0 (hi:qg8 (fr (qh t).1 i) i n d l=qg8 (qh t).1 0 0 1 []) (h0:0<=i) (h1:i<ln (qh t).1) (h2:i≠2000) (h3:qb6 (ix (qh t).1 i).Words = -1)
  (h4:(kr n d (zw (ix (qh t).1 i).Words).DurN (zw (ix (qh t).1 i).Words).DurD).2.2=0) {x:Event} (hx:x = {zw (ix (qh t).1 i).Words with AtN:=n,AtD:=d}) :
  qg8 (fr (qh t).1 (i+1)) (i+1) (kr n d (zw (ix (qh t).1 i).Words).DurN (zw (ix (qh t).1 i).Words).DurD).1 (kr n d (zw (ix (qh t).1 i).Words).DurN (zw (ix (qh t).1 i).Words).DurD).2.1 (l++[x])=qg8 (qh t).1 0 0 1 []:=by
 rw [<-hi,qdd h0 h1,qg8,zF h2,zF (by omega),zF (by omega),hx]
theorem zn7 (h:(qh t).2.1=0) (hi:qg8 (fr (qh t).1 i) i n d l=qg8 (qh t).1 0 0 1 []) (h1:ln (qh t).1<=i):qgw t=(l,0,0):=by
 unfold qgw
 rw [zF (by omega),<-hi,qka h1,qg8]
end
theorem zbl (t:ZB) (hp:ln t<=1000000000):qqo t:=by
 have hb:=(q55 t).1
 have n0:=zt (qh t).1
 have hw:=fun i (h0:0<=i) (h1:i<ln (qh t).1)=>zit t _ (qf8 h0 h1)
 unfold qqo
 refine ⟨trivial,fun h=>?_,fun h=>⟨⟨zK _,n0,zK _,by decide,by decide,rfl⟩,fun l i n d ⟨i0,i1,i2,i3,i4,i5⟩=>⟨fun hlt=>?_,fun hge=>?_⟩⟩⟩
 .unfold qb0;rw [zid h];exact ⟨rfl,rfl,rfl,trivial⟩
 .obtain ⟨⟨g0,g1,g2⟩,g3⟩:=hw i i0 hlt
  have kb:=zmd g0
  refine ⟨⟨i0,hlt⟩,fun hf=>⟨⟨by omega,g0⟩,?_⟩,fun hf=>⟨⟨g0,g1,g2⟩,fun hk=>⟨⟨hk,by omega⟩,?_⟩,fun hk=>⟨trivial,fun ha=>⟨⟨by omega,g0⟩,?_⟩,fun ha=>⟨trivial,?_,⟨by omega,by omega⟩,rfl,rfl,?_,?_⟩⟩⟩⟩
  .unfold qb0;rw [zkz h i5 i0 hlt hf];exact ⟨rfl,rfl,rfl,trivial⟩
  .unfold qb0;rw [zn8 h i5 i0 hlt hf (by omega)];exact ⟨rfl,rfl,rfl,trivial⟩
  .unfold qb0;rw [zn6 h i5 i0 hlt hf (by omega) ha,zjs i4 (q54 (by omega)) ha];exact ⟨rfl,rfl,rfl,trivial⟩
  .exact qir (by omega)
  .exact ⟨by omega,by omega,by rw [qkh];omega,by omega,qyt i4 (q54 (by omega)) ha,zk0 i5 i0 hlt hf (by omega) ha rfl⟩
  .simp only [qgj];omega
 .unfold qb0;rw [zn7 h i5 hge];exact ⟨rfl,rfl,rfl,trivial⟩
theorem zjm (a0 a1:Int) (hp:(1:Int)<=a1/\(a1:Int)<=1000000/\(-9223372036854775808:Int)<=a0/\(a0:Int)<=9223372036854775807):q9e a0 a1:=by
 obtain ⟨h1,h2,_,_⟩:=hp
 have b1:=Int.tmod_lt_of_pos a0 (show 0<a1 by omega)
 have b2:=Int.lt_tmod_of_pos a0 (show 0<a1 by omega)
 have e:zj a0 a1=if Int.tmod a0 a1<0 then Int.tmod a0 a1+a1 else Int.tmod a0 a1:=by unfold zj;rw [zF (by omega)]
 refine ⟨fun h=>by omega,fun _=>⟨by omega,fun h=>⟨⟨by omega,by omega⟩,by rw [e,zT h],trivial⟩,fun h=>⟨by rw [e,zF (by omega)],trivial⟩⟩⟩
theorem zp5 (a0 a1:Int) (hp:(0:Int)<=a0/\(a0:Int)<=1000000000000/\(1:Int)<=a1/\(a1:Int)<=1000000000000):zmv a0 a1:=by
 obtain ⟨h0,h1,h2,h3⟩:=hp
 refine ⟨⟨h0,by omega,rfl⟩,fun x y ⟨i0,i1,i2⟩=>⟨fun h=>?_,fun h=>?_⟩⟩
 .have t:=qm3 i0 h
  refine ⟨by omega,⟨i1,t.1,by rw [qqy i0 i1];exact i2⟩,?_⟩
  simp only [qmr];omega
 .have hy:y=0:=by omega
  subst hy
  rw [qqz i0] at i2
  have g:=qjo (a:=a0) h2
  have q1:=qb8 h0 (show 0<=x by omega)
  have q2:=qb8 (show 0<=a1 by omega) (show 0<=x by omega)
  refine ⟨fun hx=>by omega,fun hx=>⟨⟨by omega,by omega,by omega⟩,⟨by omega,by omega,by omega⟩,?_,?_,trivial⟩⟩
  .unfold tT;rw [<-i2]
  .unfold tT;rw [<-i2]
theorem zex (a0 a1 a2 a3:Int) (hp:(0:Int)<=a0/\(a0:Int)<=100000/\(1:Int)<=a1/\(a1:Int)<=100000/\(0:Int)<=a2/\(a2:Int)<=100000/\(1:Int)<=a3/\(a3:Int)<=100000):q3l a0 a1 a2 a3:=by
 obtain ⟨h0,h1,h2,h3,h4,h5,h6,h7⟩:=hp
 have m1:=qd5 h0 h1 (show 0<=a3 by omega) h7
 have m2:=qd5 h4 h5 (show 0<=a1 by omega) h3
 have m3:=qd5 (show 0<=a1 by omega) h3 (show 0<=a3 by omega) h7
 have m4:=ql1 h2 h6
 exact ⟨⟨by omega,by omega⟩,⟨by omega,by omega⟩,⟨by omega,by omega⟩,⟨by omega,by omega⟩,⟨by omega,by omega,by omega,by omega⟩,rfl,rfl,trivial⟩
theorem zee (a0 a1 a2 a3:Int) (hp:(0:Int)<=a0/\(a0:Int)<=1099511627776/\(1:Int)<=a1/\(a1:Int)<=1048576/\(0:Int)<=a2/\(a2:Int)<=1099511627776/\(1:Int)<=a3/\(a3:Int)<=1048576/\(a0:Int) * a2<=1000000):q0m a0 a1 a2 a3:=by
 obtain ⟨h0,h1,h2,h3,h4,h5,h6,h7,h8⟩:=hp
 have g1:=qjo (a:=a0) h6
 have g2:=qjo (a:=a2) h2
 have q0:=qb8 h0 (qcj a0 a3)
 have q3:=qb8 (show 0<=a3 by omega) (qcj a0 a3)
 have q2:=qb8 h4 (qcj a2 a1)
 have q1:=qb8 (show 0<=a1 by omega) (qcj a2 a1)
 have m1:=qd5 q1.1 (show a1.tdiv (zh a2 a1)<=1048576 by omega) q3.1 (show a3.tdiv (zh a0 a3)<=1048576 by omega)
 have m2:0<=a0.tdiv (zh a0 a3) * a2.tdiv (zh a2 a1)/\a0.tdiv (zh a0 a3) * a2.tdiv (zh a2 a1)<=a0 * a2:=qd5 q0.1 q0.2 q2.1 q2.2
 have b0:∀ z:Int,0<=z->0<=Int.tdiv 1099511627776 z/\Int.tdiv 1099511627776 z<=1099511627776:=fun z hz=>qb8 (by decide) hz
 have bz:=b0 _ q0.1
 refine ⟨⟨h0,by omega,by omega,by omega⟩,⟨h4,by omega,by omega,by omega⟩,⟨by omega,by omega,by omega⟩,⟨by omega,by omega,by omega⟩,⟨by omega,by omega,by omega⟩,⟨by omega,by omega,by omega⟩,fun hz=>⟨⟨by omega,by omega,by omega⟩,fun hc=>?_,fun hc=>⟨⟨by omega,by omega⟩,fun hd=>?_,fun hd=>⟨⟨by omega,by omega⟩,⟨by omega,by omega⟩,?_⟩⟩⟩,fun hz=>⟨⟨by omega,by omega⟩,fun hd=>?_,fun hd=>⟨⟨by omega,by omega⟩,⟨by omega,by omega⟩,?_⟩⟩⟩
 .have e:kz a0 a1 a2 a3=(0,0,4):=by unfold kz;rw [zT (.inl ⟨hz,hc⟩)]
  rw [e];exact ⟨rfl,rfl,rfl,trivial⟩
 .have e:kz a0 a1 a2 a3=(0,0,4):=by unfold kz;rw [zT (.inr hd)]
  rw [e];exact ⟨rfl,rfl,rfl,trivial⟩
 .have e:kz a0 a1 a2 a3=(a0.tdiv (zh a0 a3) * a2.tdiv (zh a2 a1),a1.tdiv (zh a2 a1) * a3.tdiv (zh a0 a3),0):=by unfold kz;rw [zF (by omega)]
  rw [e];exact ⟨rfl,rfl,rfl,trivial⟩
 .have e:kz a0 a1 a2 a3=(0,0,4):=by unfold kz;rw [zT (.inr hd)]
  rw [e];exact ⟨rfl,rfl,rfl,trivial⟩
 .have e:kz a0 a1 a2 a3=(a0.tdiv (zh a0 a3) * a2.tdiv (zh a2 a1),a1.tdiv (zh a2 a1) * a3.tdiv (zh a0 a3),0):=by unfold kz;rw [zF (by omega)]
  rw [e];exact ⟨rfl,rfl,rfl,trivial⟩
theorem zjp (a0 a1 a2 a3:Int) (hp:qe a0 a1=0/\qe a2 a3=0/\(a0:Int) * a2<=1000000):q0w a0 a1 a2 a3:=by
 obtain ⟨h1,h2,h3⟩:=hp
 have k1:=je h1
 have k2:=je h2
 have e:qa5 a0 a1 a2 a3=kz a0 a1 a2 a3:=by unfold qa5;rw [zF (by omega),zF (by omega)]
 rw [q0w,e]
 exact ⟨trivial,fun h=>absurd h1 h,fun _=>⟨trivial,fun h=>absurd h2 h,fun _=>⟨⟨k1.1,k1.2.1,k1.2.2.1,k1.2.2.2,k2.1,k2.2.1,k2.2.2.1,k2.2.2.2,h3⟩,rfl,rfl,rfl,trivial⟩⟩⟩
theorem zb2 (a0:List Int) (a1:Int) (hp:ln a0<=9223372036854775807/\(0:Int)<=a1/\(a1:Int)<=20/\∀ x ∈ a0,I64 x):qyr a0 a1:=by
 obtain ⟨h0,h1,h2,h3⟩:=hp
 have n0:=zt a0
 refine ⟨trivial,trivial,trivial,trivial,trivial,trivial,trivial,trivial,trivial,⟨zK _,n0,h1,rfl,qom,rfl⟩,fun o i n d ⟨i0,i1,i2,i3,i4,i5⟩=>⟨fun hlt=>⟨fun hm=>?_,fun hm=>⟨?_,trivial⟩⟩,fun hge=>⟨?_,trivial⟩⟩⟩
 .have hb:=h3 _ (qf8 i0 hlt)
  obtain ⟨k0,k1⟩:=qp0 (ix a0 i) (show 1<=(3969:Int) by decide)
  obtain ⟨b1,b2,b3,b4,b5⟩:=qw6 i4 (by omega)
  obtain ⟨c,_,_,_,_,_,_,_,d1,d2,d3,d4⟩:=qpc k0
  have hnx:=(qol i4 (by omega) k0).1
  have v1:=qb8 k0 (show (0:Int)<=63 by decide)
  have v2:=qb8 k0 (show (0:Int)<=567 by decide)
  have v3:=qb8 k0 (show (0:Int)<=7 by decide)
  have v4:=qb8 k0 (show (0:Int)<=21 by decide)
  have t1:=qm3 v1.1 (show (0:Int)<9 by decide)
  have t2:=qm3 v3.1 (show (0:Int)<3 by decide)
  have t3:=qm3 v4.1 (show (0:Int)<3 by decide)
  have hL:ln zmz=9:=rfl
  have step:∀ x:Event,x=evK (zj (ix a0 i) 3969) i n d->qdw a0 a1 (o++[x]) (i+1) (j5 n d (qbp (zj (ix a0 i) 3969)).N (qbp (zj (ix a0 i) 3969)).D).1 (j5 n d (qbp (zj (ix a0 i) 3969)).N (qbp (zj (ix a0 i) 3969)).D).2:=by
   intro x hx
   refine ⟨by omega,by omega,by omega,by rw [qkh];omega,hnx,?_⟩
   rw [<-i5,qdd i0 hlt,qe1,zT hm,hx]
   simp
  refine ⟨⟨i0,hlt⟩,⟨by decide,by decide,hb.1,hb.2⟩,⟨by decide,by omega,by omega⟩,by decide,⟨by omega,by show _<(9:Int);omega⟩,⟨by decide,by omega,by omega⟩,by decide,⟨by decide,by omega,by omega⟩,fun hr=>?_,fun hr=>?_⟩
  .refine ⟨trivial,qir (by omega),⟨b2,by omega,b4,by omega,by show 0<=(qbp _).N;omega,by show (qbp _).N<=100000;omega,by show 1<=(qbp _).D;omega,by show (qbp _).D<=100000;omega⟩,⟨by omega,by omega⟩,step _ ?_,by simp only [qb1];omega⟩
   unfold evK;rw [zT hr]
   rfl
  .refine ⟨by decide,⟨by decide,by omega,by omega⟩,by decide,⟨by omega,by omega⟩,⟨by decide,by omega,by omega⟩,by decide,⟨by omega,by omega⟩,trivial,qir (by omega),⟨b2,by omega,b4,by omega,by show 0<=(qbp _).N;omega,by show (qbp _).N<=100000;omega,by show 1<=(qbp _).D;omega,by show (qbp _).D<=100000;omega⟩,⟨by omega,by omega⟩,step _ ?_,by simp only [qb1];omega⟩
   unfold evK;rw [zF hr]
   rfl
 .rw [<-i5,qdd i0 hlt,qe1,zF (by omega),zJ]
 .rw [<-i5,qka hge,qe1,zJ]
theorem q16 (a0:List Int) (a1:Int) (hp:ln a0<=9223372036854775807/\(-9223372036854775808:Int)<=a1/\(a1:Int)<=9223372036854775807/\∀ x ∈ a0,I64 x):qkg a0 a1:=by
 obtain ⟨h0,h1,h2,h3⟩:=hp
 have hc:(zu (ql a0 20)).1=0:=by rw [q6s (by decide) (by decide)]
 have hl:ln (ql a0 20)<=20:=qrv a0 0 0 1 (zK _) (by decide)
 have n0:=zt (ql a0 20)
 have hall:=fun x (hx:x ∈ ql a0 20)=>q0q (most:=20) (by decide) a0 0 0 1 (zK _) qom x hx
 obtain ⟨k0,k1⟩:=qp0 a1 (show 1<=(12:Int) by decide)
 obtain ⟨tb1,tb2⟩:=zeb hc hl fun x hx=>by have:=hall x hx;omega
 have tl:ln (jr (ql a0 20)).1<=20000:=by
  by_cases ht:ln (jr (ql a0 20)).1<=20000
  .exact ht
  .exfalso
   have:qgw (jr (ql a0 20)).1=([],4,20000):=by
    have hr:qh (jr (ql a0 20)).1=([],4,20000):=by unfold qh;rw [zT (by omega)]
    unfold qgw;rw [hr];rfl
   rw [this] at tb2
   exact absurd (congrArg (fun p=>p.2.1) tb2) (show ¬ (4:Int)=0 by decide)
 unfold qkg
 refine ⟨trivial,⟨h0,by decide,by decide,h3⟩,⟨zK _,n0⟩,fun i ⟨i0,i1⟩=>⟨fun hlt=>?_,fun hge=>?_⟩⟩
 .have hx:=hall _ (qf8 i0 hlt)
  obtain ⟨c,hcm,dn,dd⟩:=q0r (most:=20) a0 0 0 1 _ (qf8 i0 hlt)
  have dn':(ix (ql a0 20) i).DurN=(sxt c).1:=dn
  have dd':(ix (ql a0 20) i).DurD=(sxt c).2:=dd
  obtain ⟨z1,z2,_⟩:=qjl (qld hc) i i0 hlt
  obtain ⟨o1,o2,o3⟩:=qii z1
  obtain ⟨r1,r2,r3,r4,r5,r6,r7⟩:=zih k0 k1 hcm
  rw [<-dn',<-dd'] at r3 r4 r5 r6 r7
  rw [<-dn'] at r2
  obtain ⟨w1,w2,w3⟩:=within o1 o2 hx.2.2.2.2.2.1 hx.2.2.2.2.2.2.2.1 r3 r4 r5 r6 r7 z2
  have e1:=zjv hc i0 hlt
  have e2:=zmy hc i0 hlt w1 w2 w3
  rw [e1,e2]
  refine ⟨⟨i0,hlt⟩,by omega,⟨i0,hlt⟩,⟨by decide,by decide,h1,h2⟩,⟨k0,by omega,by decide,by decide⟩,⟨o2,r1,by omega⟩,⟨i0,hlt⟩,⟨by omega,by omega,by omega,by omega,r3,by omega,r5,by omega⟩,by omega,fun h=>absurd rfl h,fun _=>⟨fun h=>absurd rfl h,fun _=>⟨fun h=>absurd rfl h,fun _=>⟨fun h=>absurd rfl h,fun _=>⟨⟨by omega,by omega⟩,⟨by omega,by omega⟩,by simp only [qdz];omega⟩⟩⟩⟩⟩
 .rw [tb1,tb2]
  refine ⟨⟨by omega,fun x hx=>by have:=hall x hx;omega⟩,by omega,fun _=>⟨fun _=>⟨fun _=>⟨by omega,qw1 rfl,trivial⟩,fun h=>absurd rfl h⟩,fun h=>absurd rfl h⟩,fun h=>by cases h⟩
end Go.Proofs.YtpbliaccnbgapaaGreatDoor
