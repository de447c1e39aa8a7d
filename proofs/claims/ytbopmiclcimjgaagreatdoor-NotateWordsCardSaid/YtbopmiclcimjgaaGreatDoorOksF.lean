/- THE CONDITION of the specification's reading of a word holds. -/
import Derived.Test.YtbopmiclcimjgaaGreatDoorOksA
import Derived.Test.YtbopmiclcimjgaaGreatDoorVcsF
namespace Go.Proofs.YtbopmiclcimjgaaGreatDoor
open Go Go.E2 Go.E3
set_option maxRecDepth 100000

theorem zil {w:List UInt8} {s:Sign} {e:Int} (h:qu w=(s,e)):qh w s.Kind s.Value s.Place s.Acc s.Color s.Stem s.Oblique s.Last s.MensMax s.MensMod s.MensTem s.MensPro s.Stroke s.N s.D s.ClefStep s.ClefLine e:=by
  unfold qh
  rw [h]
  simp
theorem qba {w:List UInt8} (h:qc4 w=none):qh w 0 0 0 0 false 0 false false 0 0 0 0 false 0 0 0 0 3:=zil (s:=sg0) (by rw [qu,h];rfl)
theorem qic {w:List UInt8} {s:Sign} (h:qc4 w=some s):(zh s≠0->qh w 0 0 0 0 false 0 false false 0 0 0 0 false 0 0 0 0 (zh s))/\
    (zh s=0->qh w s.Kind s.Value s.Place s.Acc s.Color s.Stem s.Oblique s.Last s.MensMax s.MensMod s.MensTem s.MensPro s.Stroke s.N s.D s.ClefStep s.ClefLine 0):=
  ⟨fun h1=>zil (s:=sg0) (by rw [qu,h,fin,if_neg h1]),fun h1=>zil (by rw [qu,h,fin,if_pos h1])⟩

/-! ### The head of a note -/
theorem qfj (s:List UInt8) (c:Int):ln (qe s c).1<=ln s:=by
  unfold qe
  split
  . simp only [fr,ln,List.length_drop];omega
  . exact Int.le_refl _
theorem q0x {s:List UInt8} {i:Int} (h0:0<=i) (h:i<ln s) (hb:(48<=bx s i/\bx s i<=57)∨(i=0/\bx s i=45)):hdE s i=hdE s (i+1):=by
  conv=>lhs;rw [hdE]
  rw [dif_pos ⟨h0,h⟩,if_pos]
  rcases hb with hb | hb
  . exact .inl (by simp [qdr,hb.1,hb.2])
  . exact .inr hb
theorem qgy {s:List UInt8} {i:Int} (h:ln s<=i∨(¬ (48<=bx s i/\bx s i<=57)/\¬ (i=0/\bx s i=45))):hdE s i=i:=by
  rw [hdE]
  split
  . rename_i h1
    rw [if_neg]
    rcases h with h | h
    . omega
    . rintro (h2 | h2)
      . simp only [qdr,Bool.and_eq_true,decide_eq_true_eq] at h2;exact h.1 h2
      . exact h.2 h2
  . rfl
theorem q01 {w s:List UInt8}:z5 w 0 s:=⟨⟨Int.le_refl _,kb s,rfl⟩⟩
theorem zbv {w s:List UInt8} {x:Int} (h:z5 w x s) (h1:x<ln s) (h2:48<=bx s x) (h3:bx s x<=57):z5 w (x+1) s:=by
  obtain ⟨a,b,c⟩:=h.out
  exact ⟨⟨by omega,by omega,by rw [<-q0x a h1 (.inl ⟨h2,h3⟩)];exact c⟩⟩
theorem zbw {w s:List UInt8} {x:Int} (h:z5 w x s) (h1:x<ln s) (h2:x=0) (h3:bx s x=45):z5 w (x+1) s:=by
  obtain ⟨a,b,c⟩:=h.out
  exact ⟨⟨by omega,by omega,by rw [<-q0x a h1 (.inr ⟨h2,h3⟩)];exact c⟩⟩
theorem zbx {w s:List UInt8} {x:Int} (h:z5 w x s) (h1:ln s<=x):kk w x s:=by
  obtain ⟨a,b,c⟩:=h.out
  exact ⟨⟨a,b,by rw [<-c,qgy (.inl h1)]⟩⟩
theorem zht {w s:List UInt8} {x:Int} (h:z5 w x s) (h1:bx s x<48) (h2:bx s x≠45):kk w x s:=by
  obtain ⟨a,b,c⟩:=h.out
  exact ⟨⟨a,b,by rw [<-c,qgy (.inr ⟨by omega,by omega⟩)]⟩⟩
theorem zhs {w s:List UInt8} {x:Int} (h:z5 w x s) (h1:57<bx s x):kk w x s:=by
  obtain ⟨a,b,c⟩:=h.out
  exact ⟨⟨a,b,by rw [<-c,qgy (.inr ⟨by omega,by omega⟩)]⟩⟩
theorem zby {w s:List UInt8} {x:Int} (h:z5 w x s) (h1:bx s x<48) (h2:x≠0):kk w x s:=by
  obtain ⟨a,b,c⟩:=h.out
  exact ⟨⟨a,b,by rw [<-c,qgy (.inr ⟨by omega,by omega⟩)]⟩⟩
theorem zkk {w s:List UInt8} (h:(qe s 98).2=true):jb w (qe s 98).1 (-1) s:=⟨⟨by simp [qmq,h],by simp [qmq,h],qfj _ _⟩⟩
theorem zkl {w s:List UInt8} (h:(qe s 98).2=false) (h1:(qe s 35).2=true):jb w (qe s 35).1 1 s:=⟨⟨by simp [qmq,h,h1],by simp [qmq,h,h1],qfj _ _⟩⟩
theorem zkm {w s:List UInt8} (h:(qe s 98).2=false) (h1:(qe s 35).2=false) (h2:(qe s 110).2=true):jb w (qe s 110).1 2 s:=⟨⟨by simp [qmq,h,h1,h2],by simp [qmq,h,h1,h2],qfj _ _⟩⟩
theorem zkn {w s:List UInt8} (h:(qe s 98).2=false) (h1:(qe s 35).2=false) (h2:(qe s 110).2=false):jb w s 0 s:=⟨⟨by simp [qmq,h,h1,h2],by simp [qmq,h,h1,h2],Int.le_refl _⟩⟩
theorem zl3 {w s:List UInt8} (h:(qe s 94).2=true):qa0 w (qe s 94).1 1 s:=⟨⟨by simp [qqd,h],by simp [qqd,h],qfj _ _⟩⟩
theorem zl4 {w s:List UInt8} (h:(qe s 94).2=false) (h1:(qe s 118).2=true):qa0 w (qe s 118).1 2 s:=⟨⟨by simp [qqd,h,h1],by simp [qqd,h,h1],qfj _ _⟩⟩
theorem zl5 {w s:List UInt8} (h:(qe s 94).2=false) (h1:(qe s 118).2=false) (h2:(qe s 62).2=true):qa0 w (qe s 62).1 3 s:=⟨⟨by simp [qqd,h,h1,h2],by simp [qqd,h,h1,h2],qfj _ _⟩⟩
theorem zl6 {w s:List UInt8} (h:(qe s 94).2=false) (h1:(qe s 118).2=false) (h2:(qe s 62).2=false):qa0 w s 0 s:=⟨⟨by simp [qqd,h,h1,h2],by simp [qqd,h,h1,h2],Int.le_refl _⟩⟩

/-! ### By the first byte -/
section
variable {w:List UInt8} (n0:w≠[]) (n1:w≠[46]) (n2:w≠[91]) (n3:w≠[116,117,114,110]) (n4:w≠[115,105,103])
 include n0 n1 n2 n3 n4
theorem zdu (h:bx w 0=114):qc4 w=q14 (fr w 1):=by rw [qc4,if_neg n0,if_neg n1,if_neg n2,if_neg n3,if_neg n4,if_pos h]
theorem zdv (h:bx w 0=116):qc4 w=qvy (fr w 1):=by rw [qc4,if_neg n0,if_neg n1,if_neg n2,if_neg n3,if_neg n4,if_neg (by omega),if_pos h]
theorem zdt (h:bx w 0=40):qc4 w=qvm (fr w 1):=by rw [qc4,if_neg n0,if_neg n1,if_neg n2,if_neg n3,if_neg n4,if_neg (by omega),if_neg (by omega),if_pos h]
theorem zds (h:bx w 0=64):qc4 w=qs8 (fr w 1):=by rw [qc4,if_neg n0,if_neg n1,if_neg n2,if_neg n3,if_neg n4,if_neg (by omega),if_neg (by omega),if_neg (by omega),if_pos h]
theorem zdq (h:bx w 0=38):qc4 w=qvn 8 (fr w 1):=by rw [qc4,if_neg n0,if_neg n1,if_neg n2,if_neg n3,if_neg n4,if_neg (by omega),if_neg (by omega),if_neg (by omega),if_neg (by omega),if_pos h]
theorem q7c (h:bx w 0=93):qc4 w=qvn 10 (fr w 1):=by rw [qc4,if_neg n0,if_neg n1,if_neg n2,if_neg n3,if_neg n4,if_neg (by omega),if_neg (by omega),if_neg (by omega),if_neg (by omega),if_neg (by omega),if_pos h]
theorem q4x (h1:bx w 0≠114) (h2:bx w 0≠116) (h3:bx w 0≠40) (h4:bx w 0≠64) (h5:bx w 0≠38) (h6:bx w 0≠93):qc4 w=if (jf (upto w 1)).2=0 then q1d w else qp5 w:=by
  rw [qc4,if_neg n0,if_neg n1,if_neg n2,if_neg n3,if_neg n4,if_neg h1,if_neg h2,if_neg h3,if_neg h4,if_neg h5,if_neg h6]
end

theorem q1t (s:List UInt8) (c i k m:Int):ln (qbe s c i k m).1<=ln s/\ln (qbe s c i k m).2.1<=ln s:=by
  fun_induction qbe s c i k m with
  | case1 i k m h hc ih=>exact ih
  | case2 i k m h hc ih=>exact ih
  | case3 i k h=>simp only [upto,fr,ln,List.length_take,List.length_drop];omega
  | case4 i k m h hm=>exact ⟨kb s,kb s⟩
theorem zdd (s:List UInt8) (c:Int):ln (qad s c).1<=ln s/\ln (qad s c).2.1<=ln s:=q1t s c 0 0 0

/-- A mensuration in its brackets, without the stroke. -/
theorem qyk {w u:List UInt8} {b:Bool} (hl:ln u<=300) (hr:qc4 w=if 0<ln u/\bx u (ln u-1)=41/\(za (upto u (ln u-1))).2=0 then
    some (Sign.mk 5 0 0 0 false 0 false false (za (upto u (ln u-1))).1.1 (za (upto u (ln u-1))).1.2.1 (za (upto u (ln u-1))).1.2.2.1 (za (upto u (ln u-1))).1.2.2.2 b 0 0 0 0) else none) :
    (u=[]->qh w 0 0 0 0 false 0 false false 0 0 0 0 false 0 0 0 0 3)/\
    (u≠[]->I64 (ln u-1)/\Wn (ln u-1) (ln u)/\(bx u (ln u-1)≠41->qh w 0 0 0 0 false 0 false false 0 0 0 0 false 0 0 0 0 3)/\
      (bx u (ln u-1)=41->I64 (ln u-1)/\((0:Int)<=ln u-1/\ln u-1<=ln u)/\True/\((za (upto u (ln u-1))).2≠0->qh w 0 0 0 0 false 0 false false 0 0 0 0 false 0 0 0 0 3)/\
        ((za (upto u (ln u-1))).2=0->True/\(zh (Sign.mk 5 0 0 0 false 0 false false (za (upto u (ln u-1))).1.1 (za (upto u (ln u-1))).1.2.1 (za (upto u (ln u-1))).1.2.2.1 (za (upto u (ln u-1))).1.2.2.2 b 0 0 0 0)≠0->
          qh w 0 0 0 0 false 0 false false 0 0 0 0 false 0 0 0 0 (zh (Sign.mk 5 0 0 0 false 0 false false (za (upto u (ln u-1))).1.1 (za (upto u (ln u-1))).1.2.1 (za (upto u (ln u-1))).1.2.2.1 (za (upto u (ln u-1))).1.2.2.2 b 0 0 0 0)))/\
          (zh (Sign.mk 5 0 0 0 false 0 false false (za (upto u (ln u-1))).1.1 (za (upto u (ln u-1))).1.2.1 (za (upto u (ln u-1))).1.2.2.1 (za (upto u (ln u-1))).1.2.2.2 b 0 0 0 0)=0->
          qh w 5 0 0 0 false 0 false false (za (upto u (ln u-1))).1.1 (za (upto u (ln u-1))).1.2.1 (za (upto u (ln u-1))).1.2.2.1 (za (upto u (ln u-1))).1.2.2.2 b 0 0 0 0 0)))):=by
  refine ⟨fun h=>qba (by rw [hr,if_neg];rintro ⟨h1,_⟩;rw [h] at h1;exact absurd h1 (by decide)),fun h=>?_⟩
  have hp:=qi1 h
  refine ⟨by omega,by omega,fun h1=>qba (by rw [hr,if_neg];exact fun hh=>h1 hh.2.1),fun h1=>⟨by omega,by omega,trivial,fun h2=>qba (by rw [hr,if_neg];exact fun hh=>h2 hh.2.2),fun h2=>⟨trivial,qic ?_⟩⟩⟩
  rw [hr,if_pos ⟨hp,h1,h2⟩]

set_option maxHeartbeats 8000000 in
theorem zae (a0:List UInt8) (hp:ln a0<=300):qsk a0:=by
  unfold qsk
  have b0:bx ([98,35,110]:List UInt8) 0=98:=rfl
  have b1:bx ([98,35,110]:List UInt8) 1=35:=rfl
  have b2:bx ([98,35,110]:List UInt8) 2=110:=rfl
  have c0:bx ([94,118,62]:List UInt8) 0=94:=rfl
  have c1:bx ([94,118,62]:List UInt8) 1=118:=rfl
  have c2:bx ([94,118,62]:List UInt8) 2=62:=rfl
  have d0:bx ([67,70,71]:List UInt8) 0=67:=rfl
  have d1':bx ([67,70,71]:List UInt8) 1=70:=rfl
  have d2:bx ([67,70,71]:List UInt8) 2=71:=rfl
  have e0:ix ([-1,1,2]:List Int) 0 = -1:=rfl
  have e1:ix ([-1,1,2]:List Int) 1=1:=rfl
  have e2:ix ([-1,1,2]:List Int) 2=2:=rfl
  have g0:ix ([0,3,4]:List Int) 0=0:=rfl
  have g1:ix ([0,3,4]:List Int) 1=3:=rfl
  have g2:ix ([0,3,4]:List Int) 2=4:=rfl
  have q1:ln ([98,35,110]:List UInt8)=3:=rfl
  have q2:ln ([94,118,62]:List UInt8)=3:=rfl
  have q3:ln ([67,70,71]:List UInt8)=3:=rfl
  have q4:ln ([-1,1,2]:List Int)=3:=rfl
  have q5:ln ([0,3,4]:List Int)=3:=rfl
  simp only [b0,b1,b2,c0,c1,c2,d0,d1',d2,e0,e1,e2,g0,g1,g2,q1,q2,q3,q4,q5]
  clear b0 b1 b2 c0 c1 c2 d0 d1' d2 e0 e1 e2 g0 g1 g2 q1 q2 q3 q4 q5
  refine ⟨fun h=>qba (by rw [qc4,if_pos h]),fun n0=>⟨fun h=>⟨trivial,qic (by subst h;rfl)⟩,fun n1=>⟨fun h=>⟨trivial,qic (by subst h;rfl)⟩,fun n2=>⟨fun h=>⟨trivial,qic (by subst h;rfl)⟩,fun n3=>⟨fun h=>⟨trivial,qic (by subst h;rfl)⟩,fun n4=>?_⟩⟩⟩⟩⟩
  have hpos:=qi1 n0
  have hf:ln (fr a0 1)=ln a0-1:=qt7 (by omega) (by omega)
  refine ⟨⟨Int.le_refl _,hpos⟩,fun h=>⟨⟨by omega,by omega⟩,trivial,?_⟩,fun m0=>⟨fun h=>⟨⟨by omega,by omega⟩,⟨q01,fun x7 hi=>?_⟩,fun x7 hi=>?_⟩,fun m1=>⟨fun h=>⟨⟨by omega,by omega⟩,?_⟩,fun m2=>⟨fun h=>⟨⟨by omega,by omega⟩,?_⟩,fun m3=>⟨fun h=>⟨⟨by omega,by omega⟩,by omega,?_⟩,fun m4=>⟨fun h=>⟨⟨by omega,by omega⟩,by omega,?_⟩,fun m5=>⟨⟨by omega,by omega⟩,trivial,fun hv=>⟨⟨by omega,by omega⟩,⟨q01,fun x7 hi=>?_⟩,fun x7 hi=>?_⟩,fun hv=>?_⟩⟩⟩⟩⟩⟩⟩
  . have hr:=zdu n0 n1 n2 n3 n4 h
    exact ⟨fun h1=>qba (by rw [hr,q14,if_neg h1]),fun h1=>⟨trivial,qic (by rw [hr,q14,if_pos h1])⟩⟩
  . have hb:=hi.out
    unhygienic (repeat' (first | exact trivial | (with_reducible apply And.intro) | intro))
    all_goals first
      | omega
      | (with_reducible exact zbv hi (by assumption) (by assumption) (by assumption))
      | (with_reducible exact zbw hi (by assumption) (by assumption) (by assumption))
      | (with_reducible exact zbx hi (by assumption))
      | (with_reducible exact zht hi (by assumption) (by assumption))
      | (with_reducible exact zby hi (by assumption) (by assumption))
      | (with_reducible exact zhs hi (by assumption))
      | (simp only [kp];omega)
  . obtain ⟨y0,y1,y2⟩:=hi.out
    have hr:=zdv n0 n1 n2 n3 n4 h
    have hu:ln (upto (fr a0 1) x7)=x7:=qyf y0 y1
    refine ⟨⟨y0,y1⟩,by omega,⟨y0,y1⟩,trivial,trivial,trivial,?_,fun x9 x10 hi2=>⟨by omega,?_,fun x12 x13 hi3=>⟨by omega,by omega,?_⟩⟩⟩
    . unhygienic (repeat' (first | exact trivial | (with_reducible exact rfl) | (with_reducible apply And.intro) | intro))
      all_goals first
        | omega
        | (with_reducible exact zkk (by assumption))
        | (with_reducible exact zkl (by assumption) (by assumption))
        | (with_reducible exact zkm (by assumption) (by assumption) (by assumption))
        | (with_reducible exact zkn (by assumption) (by assumption) (by assumption))
    . unhygienic (repeat' (first | exact trivial | (with_reducible exact rfl) | (with_reducible apply And.intro) | intro))
      all_goals first
        | omega
        | (with_reducible exact zl3 (by assumption))
        | (with_reducible exact zl4 (by assumption) (by assumption))
        | (with_reducible exact zl5 (by assumption) (by assumption) (by assumption))
        | (with_reducible exact zl6 (by assumption) (by assumption) (by assumption))
    . obtain ⟨z0,z1,_⟩:=hi2.out
      obtain ⟨u0,u1,_⟩:=hi3.out
      subst y2;subst z0;subst z1;subst u0;subst u1
      refine ⟨fun h1=>⟨fun h2=>qba ?_,fun h2=>⟨trivial,qic ?_⟩⟩,fun h1=>qba ?_⟩
      . rw [hr];unfold qvy hdF;exact if_neg fun hh=>h2 hh.2
      . rw [hr];unfold qvy hdF;exact if_pos ⟨h1,h2⟩
      . rw [hr];unfold qvy hdF;exact if_neg fun hh=>by rw [h1] at hh;cases hh.1
  . have hr:=zdt n0 n1 n2 n3 n4 h
    by_cases hb:0<ln (fr a0 1)/\bx (fr a0 1) (ln (fr a0 1)-1)=124
    . have hr':qc4 a0=_:=hr
      simp only [qvm,decide_eq_true hb,if_true] at hr'
      have hne:fr a0 1≠[]:=by intro he;rw [he] at hb;exact absurd hb.1 (by decide)
      have hu:ln (upto (fr a0 1) (ln (fr a0 1)-1))<=300:=by rw [qyf (by omega) (by omega)];omega
      refine ⟨fun _=>⟨by omega,by omega,fun _=>⟨by omega,by omega,qyk hu hr'⟩,fun h1=>absurd hb.2 h1⟩,fun h1=>absurd h1 hne⟩
    . have hr':qc4 a0=_:=hr
      simp only [qvm,decide_eq_false hb,Bool.false_eq_true,if_false] at hr'
      have hu:ln (fr a0 1)<=300:=by omega
      refine ⟨fun hne=>⟨by have:=qi1 hne;omega,by have:=qi1 hne;omega,fun h1=>absurd ⟨qi1 hne,h1⟩ hb,fun _=>qyk hu hr'⟩,fun _=>qyk hu hr'⟩
  . have hr:=zds n0 n1 n2 n3 n4 h
    have t1:=qfj (fr a0 1) 67
    have t2:=qfj (fr a0 1) 70
    have t3:=qfj (fr a0 1) 71
    refine ⟨trivial,trivial,trivial,by omega,by omega,fun h1=>⟨by omega,by omega,fun h2=>qba (by rw [hr];simp [qs8,h1,h2]),fun h2=>⟨trivial,qic (by rw [hr];simp [qs8,h1,h2])⟩⟩,fun h1=>?_⟩
    refine ⟨by omega,by omega,fun h3=>⟨by omega,by omega,fun h2=>qba (by rw [hr];simp [qs8,h1,h2,h3]),fun h2=>⟨trivial,qic (by rw [hr];simp [qs8,h1,h2,h3])⟩⟩,fun h3=>?_⟩
    refine ⟨by omega,by omega,fun h4=>⟨by omega,by omega,fun h2=>qba (by rw [hr];simp [qs8,h1,h2,h3,h4]),fun h2=>⟨trivial,qic (by rw [hr];simp [qs8,h1,h2,h3,h4])⟩⟩,fun h4=>qba (by rw [hr];simp [qs8,h1,h3,h4])⟩
  . have hr:=zdq n0 n1 n2 n3 n4 h
    exact ⟨fun h1=>qba (by rw [hr,qvn,if_neg (by rw [h1];simp)]),fun h1=>⟨trivial,qic (by rw [hr,qvn,if_pos h1])⟩⟩
  . have hr:=q7c n0 n1 n2 n3 n4 h
    exact ⟨fun h1=>qba (by rw [hr,qvn,if_neg (by rw [h1];simp)]),fun h1=>⟨trivial,qic (by rw [hr,qvn,if_pos h1])⟩⟩
  . have hb:=hi.out
    unhygienic (repeat' (first | exact trivial | (with_reducible apply And.intro) | intro))
    all_goals first
      | omega
      | (with_reducible exact zbv hi (by assumption) (by assumption) (by assumption))
      | (with_reducible exact zbw hi (by assumption) (by assumption) (by assumption))
      | (with_reducible exact zbx hi (by assumption))
      | (with_reducible exact zht hi (by assumption) (by assumption))
      | (with_reducible exact zby hi (by assumption) (by assumption))
      | (with_reducible exact zhs hi (by assumption))
      | (simp only [kp];omega)
  . obtain ⟨y0,y1,y2⟩:=hi.out
    have hr:qc4 a0=q1d a0:=by rw [q4x n0 n1 n2 n3 n4 m0 m1 m2 m3 m4 m5,if_pos hv]
    have hu:ln (upto (fr a0 1) x7)=x7:=qyf y0 y1
    refine ⟨⟨y0,y1⟩,by omega,⟨y0,y1⟩,trivial,trivial,trivial,?_,fun x9 x10 hi2=>⟨by omega,?_⟩⟩
    . unhygienic (repeat' (first | exact trivial | (with_reducible exact rfl) | (with_reducible apply And.intro) | intro))
      all_goals first
        | omega
        | (with_reducible exact zkk (by assumption))
        | (with_reducible exact zkl (by assumption) (by assumption))
        | (with_reducible exact zkm (by assumption) (by assumption) (by assumption))
        | (with_reducible exact zkn (by assumption) (by assumption) (by assumption))
    . obtain ⟨z0,z1,_⟩:=hi2.out
      subst y2;subst z0;subst z1
      refine ⟨fun h1=>⟨fun h2=>qba ?_,fun h2=>⟨trivial,qic ?_⟩⟩,fun h1=>qba ?_⟩
      . rw [hr];unfold q1d hdF;exact if_neg fun hh=>h2 hh.2
      . rw [hr];unfold q1d hdF;exact if_pos ⟨h1,h2⟩
      . rw [hr];unfold q1d hdF;exact if_neg fun hh=>by rw [h1] at hh;cases hh.1
  . have hr:qc4 a0=qp5 a0:=by rw [q4x n0 n1 n2 n3 n4 m0 m1 m2 m3 m4 m5,if_neg hv]
    obtain ⟨p1,p2⟩:=zdd a0 47
    refine ⟨by omega,by omega,by omega,fun h1=>⟨fun h2=>⟨fun h3=>qba ?_,fun h3=>⟨trivial,qic ?_⟩⟩,fun h2=>qba ?_⟩,fun h1=>qba ?_⟩
    . rw [hr];unfold qp5;exact if_neg fun hh=>by rw [h3] at hh;cases hh.2.2
    . rw [hr];unfold qp5;exact if_pos ⟨h1,h2,h3⟩
    . rw [hr];unfold qp5;exact if_neg fun hh=>by rw [h2] at hh;cases hh.2.1
    . rw [hr];unfold qp5;exact if_neg fun hh=>by rw [h1] at hh;cases hh.1
end Go.Proofs.YtbopmiclcimjgaaGreatDoor
