import Derived.Test.YtbopmiclcimjgaaGreatDoorOksA
import Derived.Test.YtbopmiclcimjgaaGreatDoorVcsF
namespace Go.Proofs.YtbopmiclcimjgaaGreatDoor
open Go Go.E2 Go.E3
set_option maxRecDepth 100000
theorem zqd {w:ZB} {s:Sign} {e:Int} (h:zc w=(s,e)):qh w s.Kind s.Value s.Place s.Acc s.Color s.Stem s.Oblique s.Last s.MensMax s.MensMod s.MensTem s.MensPro s.Stroke s.N s.D s.ClefStep s.ClefLine e:=by
 unfold qh
 rw [h]
 simp
theorem qb8 {w:ZB} (h:qd0 w=none):qh w 0 0 0 0 false 0 false false 0 0 0 0 false 0 0 0 0 3:=zqd (s:=sg0) (by rw [zc,h];rfl)
theorem qjr {w:ZB} {s:Sign} (h:qd0 w=some s):(zn s≠0->qh w 0 0 0 0 false 0 false false 0 0 0 0 false 0 0 0 0 (zn s))/\
  (zn s=0->qh w s.Kind s.Value s.Place s.Acc s.Color s.Stem s.Oblique s.Last s.MensMax s.MensMod s.MensTem s.MensPro s.Stroke s.N s.D s.ClefStep s.ClefLine 0):=
 ⟨fun h1=>zqd (s:=sg0) (by rw [zc,h,fin,if_neg h1]),fun h1=>zqd (by rw [zc,h,fin,if_pos h1])⟩
theorem qgk (s:ZB) (c:Int):ln (qu s c).1<=ln s:=by
 unfold qu
 split
 .simp only [fr,ln,List.length_drop];omega
 .exact Int.le_refl _
theorem q5t {s:ZB} {i:Int} (h0:0<=i) (h:i<ln s) (hb:(48<=bx s i/\bx s i<=57)∨(i=0/\bx s i=45)):hdE s i=hdE s (i+1):=by
 conv=>lhs;rw [hdE]
 rw [dif_pos ⟨h0,h⟩,if_pos]
 rcases hb with hb | hb
 .exact .inl (by simp [qeo,hb.1,hb.2])
 .exact .inr hb
theorem qh7 {s:ZB} {i:Int} (h:ln s<=i∨(¬ (48<=bx s i/\bx s i<=57)/\¬ (i=0/\bx s i=45))):hdE s i=i:=by
 rw [hdE]
 split
 .rename_i h1
  rw [if_neg]
  rcases h with h | h
  .omega
  .rintro (h2 | h2)
   .simp only [qeo,zA,decide_eq_true_eq] at h2;exact h.1 h2
   .exact h.2 h2
 .rfl
theorem q5w {w s:ZB}:z9 w 0 s:=⟨⟨Int.le_refl _,zb s,rfl⟩⟩
theorem zis {w s:ZB} {x:Int} (h:z9 w x s) (h1:x<ln s) (h2:48<=bx s x) (h3:bx s x<=57):z9 w (x+1) s:=by
 obtain ⟨a,b,c⟩:=h.out
 exact ⟨⟨by omega,by omega,by rw [<-q5t a h1 (.inl ⟨h2,h3⟩)];exact c⟩⟩
theorem zit {w s:ZB} {x:Int} (h:z9 w x s) (h1:x<ln s) (h2:x=0) (h3:bx s x=45):z9 w (x+1) s:=by
 obtain ⟨a,b,c⟩:=h.out
 exact ⟨⟨by omega,by omega,by rw [<-q5t a h1 (.inr ⟨h2,h3⟩)];exact c⟩⟩
theorem ziu {w s:ZB} {x:Int} (h:z9 w x s) (h1:ln s<=x):jb w x s:=by
 obtain ⟨a,b,c⟩:=h.out
 exact ⟨⟨a,b,by rw [<-c,qh7 (.inl h1)]⟩⟩
theorem zo8 {w s:ZB} {x:Int} (h:z9 w x s) (h1:bx s x<48) (h2:bx s x≠45):jb w x s:=by
 obtain ⟨a,b,c⟩:=h.out
 exact ⟨⟨a,b,by rw [<-c,qh7 (.inr ⟨by omega,by omega⟩)]⟩⟩
theorem zo7 {w s:ZB} {x:Int} (h:z9 w x s) (h1:57<bx s x):jb w x s:=by
 obtain ⟨a,b,c⟩:=h.out
 exact ⟨⟨a,b,by rw [<-c,qh7 (.inr ⟨by omega,by omega⟩)]⟩⟩
theorem ziv {w s:ZB} {x:Int} (h:z9 w x s) (h1:bx s x<48) (h2:x≠0):jb w x s:=by
 obtain ⟨a,b,c⟩:=h.out
 exact ⟨⟨a,b,by rw [<-c,qh7 (.inr ⟨by omega,by omega⟩)]⟩⟩
theorem zso {w s:ZB} (h:(qu s 98).2=true):jt w (qu s 98).1 (-1) s:=⟨⟨by simp [qop,h],by simp [qop,h],qgk _ _⟩⟩
theorem zsp {w s:ZB} (h:(qu s 98).2=false) (h1:(qu s 35).2=true):jt w (qu s 35).1 1 s:=⟨⟨by simp [qop,h,h1],by simp [qop,h,h1],qgk _ _⟩⟩
theorem zsq {w s:ZB} (h:(qu s 98).2=false) (h1:(qu s 35).2=false) (h2:(qu s 110).2=true):jt w (qu s 110).1 2 s:=⟨⟨by simp [qop,h,h1,h2],by simp [qop,h,h1,h2],qgk _ _⟩⟩
theorem zsr {w s:ZB} (h:(qu s 98).2=false) (h1:(qu s 35).2=false) (h2:(qu s 110).2=false):jt w s 0 s:=⟨⟨by simp [qop,h,h1,h2],by simp [qop,h,h1,h2],Int.le_refl _⟩⟩
theorem zt2 {w s:ZB} (h:(qu s 94).2=true):qbt w (qu s 94).1 1 s:=⟨⟨by simp [qsy,h],by simp [qsy,h],qgk _ _⟩⟩
theorem zt3 {w s:ZB} (h:(qu s 94).2=false) (h1:(qu s 118).2=true):qbt w (qu s 118).1 2 s:=⟨⟨by simp [qsy,h,h1],by simp [qsy,h,h1],qgk _ _⟩⟩
theorem zt4 {w s:ZB} (h:(qu s 94).2=false) (h1:(qu s 118).2=false) (h2:(qu s 62).2=true):qbt w (qu s 62).1 3 s:=⟨⟨by simp [qsy,h,h1,h2],by simp [qsy,h,h1,h2],qgk _ _⟩⟩
theorem zt5 {w s:ZB} (h:(qu s 94).2=false) (h1:(qu s 118).2=false) (h2:(qu s 62).2=false):qbt w s 0 s:=⟨⟨by simp [qsy,h,h1,h2],by simp [qsy,h,h1,h2],Int.le_refl _⟩⟩
section
variable {w:ZB} (n0:w≠[]) (n1:w≠[46]) (n2:w≠[91]) (n3:w≠[116,117,114,110]) (n4:w≠[115,105,103])
 include n0 n1 n2 n3 n4
theorem zku (h:bx w 0=114):qd0 w=q65 (fr w 1):=by rw [qd0,if_neg n0,if_neg n1,if_neg n2,if_neg n3,if_neg n4,if_pos h]
theorem zkv (h:bx w 0=116):qd0 w=qzd (fr w 1):=by rw [qd0,if_neg n0,if_neg n1,if_neg n2,if_neg n3,if_neg n4,if_neg (by omega),if_pos h]
theorem zkt (h:bx w 0=40):qd0 w=qy1 (fr w 1):=by rw [qd0,if_neg n0,if_neg n1,if_neg n2,if_neg n3,if_neg n4,if_neg (by omega),if_neg (by omega),if_pos h]
theorem zks (h:bx w 0=64):qd0 w=qwg (fr w 1):=by rw [qd0,if_neg n0,if_neg n1,if_neg n2,if_neg n3,if_neg n4,if_neg (by omega),if_neg (by omega),if_neg (by omega),if_pos h]
theorem zkq (h:bx w 0=38):qd0 w=qy2 8 (fr w 1):=by rw [qd0,if_neg n0,if_neg n1,if_neg n2,if_neg n3,if_neg n4,if_neg (by omega),if_neg (by omega),if_neg (by omega),if_neg (by omega),if_pos h]
theorem zcw (h:bx w 0=93):qd0 w=qy2 10 (fr w 1):=by rw [qd0,if_neg n0,if_neg n1,if_neg n2,if_neg n3,if_neg n4,if_neg (by omega),if_neg (by omega),if_neg (by omega),if_neg (by omega),if_neg (by omega),if_pos h]
theorem zaf (h1:bx w 0≠114) (h2:bx w 0≠116) (h3:bx w 0≠40) (h4:bx w 0≠64) (h5:bx w 0≠38) (h6:bx w 0≠93):qd0 w=if (jy (upto w 1)).2=0 then q6b w else qsn w:=by
 rw [qd0,if_neg n0,if_neg n1,if_neg n2,if_neg n3,if_neg n4,if_neg h1,if_neg h2,if_neg h3,if_neg h4,if_neg h5,if_neg h6]
end
theorem q6r (s:ZB) (c i k m:Int):ln (qcb s c i k m).1<=ln s/\ln (qcb s c i k m).2.1<=ln s:=by
 fun_induction qcb s c i k m with
 | case1 i k m h hc ih=>exact ih
 | case2 i k m h hc ih=>exact ih
 | case3 i k h=>simp only [upto,fr,ln,List.length_take,List.length_drop];omega
 | case4 i k m h hm=>exact ⟨zb s,zb s⟩
theorem zkb (s:ZB) (c:Int):ln (qa1 s c).1<=ln s/\ln (qa1 s c).2.1<=ln s:=q6r s c 0 0 0
theorem q2v {w u:ZB} {b:Bool} (hl:ln u<=1000) (hr:qd0 w=if 0<ln u/\bx u (ln u-1)=41/\(kc (upto u (ln u-1))).2=0 then
  some (Sign.mk 5 0 0 0 false 0 false false (kc (upto u (ln u-1))).1.1 (kc (upto u (ln u-1))).1.2.1 (kc (upto u (ln u-1))).1.2.2.1 (kc (upto u (ln u-1))).1.2.2.2 b 0 0 0 0) else none) :
  (u=[]->qh w 0 0 0 0 false 0 false false 0 0 0 0 false 0 0 0 0 3)/\
  (u≠[]->I64 (ln u-1)/\Wn (ln u-1) (ln u)/\(bx u (ln u-1)≠41->qh w 0 0 0 0 false 0 false false 0 0 0 0 false 0 0 0 0 3)/\
    (bx u (ln u-1)=41->I64 (ln u-1)/\((0:Int)<=ln u-1/\ln u-1<=ln u)/\True/\((kc (upto u (ln u-1))).2≠0->qh w 0 0 0 0 false 0 false false 0 0 0 0 false 0 0 0 0 3)/\
      ((kc (upto u (ln u-1))).2=0->True/\(zn (Sign.mk 5 0 0 0 false 0 false false (kc (upto u (ln u-1))).1.1 (kc (upto u (ln u-1))).1.2.1 (kc (upto u (ln u-1))).1.2.2.1 (kc (upto u (ln u-1))).1.2.2.2 b 0 0 0 0)≠0->
        qh w 0 0 0 0 false 0 false false 0 0 0 0 false 0 0 0 0 (zn (Sign.mk 5 0 0 0 false 0 false false (kc (upto u (ln u-1))).1.1 (kc (upto u (ln u-1))).1.2.1 (kc (upto u (ln u-1))).1.2.2.1 (kc (upto u (ln u-1))).1.2.2.2 b 0 0 0 0)))/\
        (zn (Sign.mk 5 0 0 0 false 0 false false (kc (upto u (ln u-1))).1.1 (kc (upto u (ln u-1))).1.2.1 (kc (upto u (ln u-1))).1.2.2.1 (kc (upto u (ln u-1))).1.2.2.2 b 0 0 0 0)=0->
        qh w 5 0 0 0 false 0 false false (kc (upto u (ln u-1))).1.1 (kc (upto u (ln u-1))).1.2.1 (kc (upto u (ln u-1))).1.2.2.1 (kc (upto u (ln u-1))).1.2.2.2 b 0 0 0 0 0)))):=by
 refine ⟨fun h=>qb8 (by rw [hr,if_neg];rintro ⟨h1,_⟩;rw [h] at h1;exact absurd h1 (by decide)),fun h=>?_⟩
 have hp:=qki h
 refine ⟨by omega,by omega,fun h1=>qb8 (by rw [hr,if_neg];exact fun hh=>h1 hh.2.1),fun h1=>⟨by omega,by omega,trivial,fun h2=>qb8 (by rw [hr,if_neg];exact fun hh=>h2 hh.2.2),fun h2=>⟨trivial,qjr ?_⟩⟩⟩
 rw [hr,if_pos ⟨hp,h1,h2⟩]
set_option maxHeartbeats 8000000 in
theorem zgw (a0:ZB) (hp:ln a0<=1000):qvr a0:=by
 unfold qvr
 dsimp only
 have b0:bx ([98,35,110]:ZB) 0=98:=rfl
 have b1:bx ([98,35,110]:ZB) 1=35:=rfl
 have b2:bx ([98,35,110]:ZB) 2=110:=rfl
 have c0:bx ([94,118,62]:ZB) 0=94:=rfl
 have c1:bx ([94,118,62]:ZB) 1=118:=rfl
 have c2:bx ([94,118,62]:ZB) 2=62:=rfl
 have d0:bx ([67,70,71]:ZB) 0=67:=rfl
 have d1':bx ([67,70,71]:ZB) 1=70:=rfl
 have d2:bx ([67,70,71]:ZB) 2=71:=rfl
 have e0:ix ([-1,1,2]:List Int) 0 = -1:=rfl
 have e1:ix ([-1,1,2]:List Int) 1=1:=rfl
 have e2:ix ([-1,1,2]:List Int) 2=2:=rfl
 have g0:ix ([0,3,4]:List Int) 0=0:=rfl
 have g1:ix ([0,3,4]:List Int) 1=3:=rfl
 have g2:ix ([0,3,4]:List Int) 2=4:=rfl
 have q1:ln ([98,35,110]:ZB)=3:=rfl
 have q2:ln ([94,118,62]:ZB)=3:=rfl
 have q3:ln ([67,70,71]:ZB)=3:=rfl
 have q4:ln ([-1,1,2]:List Int)=3:=rfl
 have q5:ln ([0,3,4]:List Int)=3:=rfl
 simp only [b0,b1,b2,c0,c1,c2,d0,d1',d2,e0,e1,e2,g0,g1,g2,q1,q2,q3,q4,q5]
 clear b0 b1 b2 c0 c1 c2 d0 d1' d2 e0 e1 e2 g0 g1 g2 q1 q2 q3 q4 q5
 refine ⟨fun h=>qb8 (by rw [qd0,if_pos h]),fun n0=>⟨fun h=>⟨trivial,qjr (by subst h;rfl)⟩,fun n1=>⟨fun h=>⟨trivial,qjr (by subst h;rfl)⟩,fun n2=>⟨fun h=>⟨trivial,qjr (by subst h;rfl)⟩,fun n3=>⟨fun h=>⟨trivial,qjr (by subst h;rfl)⟩,fun n4=>?_⟩⟩⟩⟩⟩
 have hpos:=qki n0
 have hf:ln (fr a0 1)=ln a0-1:=qmu (by omega) (by omega)
 refine ⟨⟨Int.le_refl _,hpos⟩,fun h=>⟨⟨by omega,by omega⟩,trivial,?_⟩,fun m0=>⟨fun h=>⟨⟨by omega,by omega⟩,⟨q5w,fun x7 hi=>?_⟩,fun x7 hi=>?_⟩,fun m1=>⟨fun h=>⟨⟨by omega,by omega⟩,?_⟩,fun m2=>⟨fun h=>⟨⟨by omega,by omega⟩,?_⟩,fun m3=>⟨fun h=>⟨⟨by omega,by omega⟩,by omega,?_⟩,fun m4=>⟨fun h=>⟨⟨by omega,by omega⟩,by omega,?_⟩,fun m5=>⟨⟨by omega,by omega⟩,trivial,fun hv=>⟨⟨by omega,by omega⟩,⟨q5w,fun x7 hi=>?_⟩,fun x7 hi=>?_⟩,fun hv=>?_⟩⟩⟩⟩⟩⟩⟩
 .have hr:=zku n0 n1 n2 n3 n4 h
  exact ⟨fun h1=>qb8 (by rw [hr,q65,if_neg h1]),fun h1=>⟨trivial,qjr (by rw [hr,q65,if_pos h1])⟩⟩
 .have hb:=hi.out
  unhygienic (repeat' (first | exact trivial | (with_reducible apply And.intro) | intro))
  all_goals first
   | omega
   | (with_reducible exact zis hi ‹_› ‹_› ‹_›)
   | (with_reducible exact zit hi ‹_› ‹_› ‹_›)
   | (with_reducible exact ziu hi ‹_›)
   | (with_reducible exact zo8 hi ‹_› ‹_›)
   | (with_reducible exact ziv hi ‹_› ‹_›)
   | (with_reducible exact zo7 hi ‹_›)
   | (simp only [jd];omega)
 .obtain ⟨y0,y1,y2⟩:=hi.out
  have hr:=zkv n0 n1 n2 n3 n4 h
  have hu:ln (upto (fr a0 1) x7)=x7:=q2q y0 y1
  refine ⟨⟨y0,y1⟩,by omega,⟨y0,y1⟩,trivial,trivial,trivial,?_,fun x9 x10 hi2=>⟨by omega,?_,fun x12 x13 hi3=>⟨by omega,by omega,?_⟩⟩⟩
  .unhygienic (repeat' (first | exact trivial | (with_reducible exact rfl) | (with_reducible apply And.intro) | intro))
   all_goals first
    | omega
    | (with_reducible exact zso ‹_›)
    | (with_reducible exact zsp ‹_› ‹_›)
    | (with_reducible exact zsq ‹_› ‹_› ‹_›)
    | (with_reducible exact zsr ‹_› ‹_› ‹_›)
  .unhygienic (repeat' (first | exact trivial | (with_reducible exact rfl) | (with_reducible apply And.intro) | intro))
   all_goals first
    | omega
    | (with_reducible exact zt2 ‹_›)
    | (with_reducible exact zt3 ‹_› ‹_›)
    | (with_reducible exact zt4 ‹_› ‹_› ‹_›)
    | (with_reducible exact zt5 ‹_› ‹_› ‹_›)
  .obtain ⟨z0,z1,_⟩:=hi2.out
   obtain ⟨u0,u1,_⟩:=hi3.out
   subst y2;subst z0;subst z1;subst u0;subst u1
   refine ⟨fun h1=>⟨fun h2=>qb8 ?_,fun h2=>⟨trivial,qjr ?_⟩⟩,fun h1=>qb8 ?_⟩
   .rw [hr];unfold qzd hdF;exact if_neg fun hh=>h2 hh.2
   .rw [hr];unfold qzd hdF;exact if_pos ⟨h1,h2⟩
   .rw [hr];unfold qzd hdF;exact if_neg fun hh=>by rw [h1] at hh;cases hh.1
 .have hr:=zkt n0 n1 n2 n3 n4 h
  by_cases hb:0<ln (fr a0 1)/\bx (fr a0 1) (ln (fr a0 1)-1)=124
  .have hr':qd0 a0=_:=hr
   simp only [qy1,decide_eq_true hb,if_true] at hr'
   have hne:fr a0 1≠[]:=by intro he;rw [he] at hb;exact absurd hb.1 (by decide)
   have hu:ln (upto (fr a0 1) (ln (fr a0 1)-1))<=1000:=by rw [q2q (by omega) (by omega)];omega
   refine ⟨fun _=>⟨by omega,by omega,fun _=>⟨by omega,by omega,q2v hu hr'⟩,fun h1=>absurd hb.2 h1⟩,fun h1=>absurd h1 hne⟩
  .have hr':qd0 a0=_:=hr
   simp only [qy1,decide_eq_false hb,Bool.false_eq_true,if_false] at hr'
   have hu:ln (fr a0 1)<=1000:=by omega
   refine ⟨fun hne=>⟨by have:=qki hne;omega,by have:=qki hne;omega,fun h1=>absurd ⟨qki hne,h1⟩ hb,fun _=>q2v hu hr'⟩,fun _=>q2v hu hr'⟩
 .have hr:=zks n0 n1 n2 n3 n4 h
  have t1:=qgk (fr a0 1) 67
  have t2:=qgk (fr a0 1) 70
  have t3:=qgk (fr a0 1) 71
  refine ⟨trivial,trivial,trivial,by omega,by omega,fun h1=>⟨by omega,by omega,fun h2=>qb8 (by rw [hr];simp [qwg,h1,h2]),fun h2=>⟨trivial,qjr (by rw [hr];simp [qwg,h1,h2])⟩⟩,fun h1=>?_⟩
  refine ⟨by omega,by omega,fun h3=>⟨by omega,by omega,fun h2=>qb8 (by rw [hr];simp [qwg,h1,h2,h3]),fun h2=>⟨trivial,qjr (by rw [hr];simp [qwg,h1,h2,h3])⟩⟩,fun h3=>?_⟩
  refine ⟨by omega,by omega,fun h4=>⟨by omega,by omega,fun h2=>qb8 (by rw [hr];simp [qwg,h1,h2,h3,h4]),fun h2=>⟨trivial,qjr (by rw [hr];simp [qwg,h1,h2,h3,h4])⟩⟩,fun h4=>qb8 (by rw [hr];simp [qwg,h1,h3,h4])⟩
 .have hr:=zkq n0 n1 n2 n3 n4 h
  exact ⟨fun h1=>qb8 (by rw [hr,qy2,if_neg (by rw [h1];simp)]),fun h1=>⟨trivial,qjr (by rw [hr,qy2,if_pos h1])⟩⟩
 .have hr:=zcw n0 n1 n2 n3 n4 h
  exact ⟨fun h1=>qb8 (by rw [hr,qy2,if_neg (by rw [h1];simp)]),fun h1=>⟨trivial,qjr (by rw [hr,qy2,if_pos h1])⟩⟩
 .have hb:=hi.out
  unhygienic (repeat' (first | exact trivial | (with_reducible apply And.intro) | intro))
  all_goals first
   | omega
   | (with_reducible exact zis hi ‹_› ‹_› ‹_›)
   | (with_reducible exact zit hi ‹_› ‹_› ‹_›)
   | (with_reducible exact ziu hi ‹_›)
   | (with_reducible exact zo8 hi ‹_› ‹_›)
   | (with_reducible exact ziv hi ‹_› ‹_›)
   | (with_reducible exact zo7 hi ‹_›)
   | (simp only [jd];omega)
 .obtain ⟨y0,y1,y2⟩:=hi.out
  have hr:qd0 a0=q6b a0:=by rw [zaf n0 n1 n2 n3 n4 m0 m1 m2 m3 m4 m5,if_pos hv]
  have hu:ln (upto (fr a0 1) x7)=x7:=q2q y0 y1
  refine ⟨⟨y0,y1⟩,by omega,⟨y0,y1⟩,trivial,trivial,trivial,?_,fun x9 x10 hi2=>⟨by omega,?_⟩⟩
  .unhygienic (repeat' (first | exact trivial | (with_reducible exact rfl) | (with_reducible apply And.intro) | intro))
   all_goals first
    | omega
    | (with_reducible exact zso ‹_›)
    | (with_reducible exact zsp ‹_› ‹_›)
    | (with_reducible exact zsq ‹_› ‹_› ‹_›)
    | (with_reducible exact zsr ‹_› ‹_› ‹_›)
  .obtain ⟨z0,z1,_⟩:=hi2.out
   subst y2;subst z0;subst z1
   refine ⟨fun h1=>⟨fun h2=>qb8 ?_,fun h2=>⟨trivial,qjr ?_⟩⟩,fun h1=>qb8 ?_⟩
   .rw [hr];unfold q6b hdF;exact if_neg fun hh=>h2 hh.2
   .rw [hr];unfold q6b hdF;exact if_pos ⟨h1,h2⟩
   .rw [hr];unfold q6b hdF;exact if_neg fun hh=>by rw [h1] at hh;cases hh.1
 .have hr:qd0 a0=qsn a0:=by rw [zaf n0 n1 n2 n3 n4 m0 m1 m2 m3 m4 m5,if_neg hv]
  obtain ⟨p1,p2⟩:=zkb a0 47
  refine ⟨by omega,by omega,by omega,fun h1=>⟨fun h2=>⟨fun h3=>qb8 ?_,fun h3=>⟨trivial,qjr ?_⟩⟩,fun h2=>qb8 ?_⟩,fun h1=>qb8 ?_⟩
  .rw [hr];unfold qsn;exact if_neg fun hh=>by rw [h3] at hh;cases hh.2.2
  .rw [hr];unfold qsn;exact if_pos ⟨h1,h2,h3⟩
  .rw [hr];unfold qsn;exact if_neg fun hh=>by rw [h2] at hh;cases hh.2.1
  .rw [hr];unfold qsn;exact if_neg fun hh=>by rw [h1] at hh;cases hh.1
end Go.Proofs.YtbopmiclcimjgaaGreatDoor
