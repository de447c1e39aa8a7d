/- THE CONDITIONS of the functions that write a sign hold. -/
import Derived.Test.YtbopmiclcimjgaaGreatDoorOksA
import Derived.Test.YtbopmiclcimjgaaGreatDoorVcsW
namespace Go.Proofs.YtbopmiclcimjgaaGreatDoor
open Go Go.E2 Go.E3
set_option maxRecDepth 100000

/-- What is known of a valid sign. -/
theorem zcw {s:Sign} (h:zh s=0):1<=s.Kind/\s.Kind<=12/\qws s/\(s.Kind=5->jy s.MensMax s.MensMod s.MensTem s.MensPro=0)/\zt s/\¬ (s.Oblique=true/\s.Last=true):=by
  unfold zh at h
  split at h
  . cases h
  . rename_i h1
    split at h
    . cases h
    . rename_i h2
      split at h
      . cases h
      . rename_i h3
        split at h
        . cases h
        . rename_i h4
          split at h
          . cases h
          . rename_i h5
            refine ⟨by omega,by omega,Decidable.not_not.1 h2,fun hk=>?_,Decidable.not_not.1 h4,h5⟩
            by_cases hm:jy s.MensMax s.MensMod s.MensTem s.MensPro=0
            . exact hm
            . exact absurd ⟨hk,hm⟩ h3
theorem q2q {s:Sign} (h:zh s=0):zk s=(qb3 s,0):=by rw [zk,if_pos h]
theorem qo3 {s:Sign} (h:zh s≠0):zk s=([],zh s):=by rw [zk,if_neg h]
theorem q7j {a b c d:Int} (h:jy a b c d=0):z6 a b c d=(qp a b c d,0):=by rw [z6,if_pos h]
theorem q2l (a b c d:Int):(qp a b c d).length<=4:=by
  unfold qp
  have h1:=qr5 a
  have h2:=qr5 b
  have h3:=q7i c
  have h4:=q7b d
  split<;>simp only [List.length_append,List.length_nil]<;>omega
theorem qyi (v:Int):(ltr v).length<=8:=by unfold ltr q81 sub;simp only [List.length_drop,List.length_take,List.length_cons,List.length_nil];omega
theorem zcb {v:Int} (h:1<=v/\v<=8):qi0 v=(ltr v,0):=by rw [qi0,if_neg (by omega)]
theorem zf7 (v:Int):(qi0 v).1.length<=8:=by
  unfold qi0
  split
  . simp
  . exact qyi v
theorem zg6 {k:Int} (h:k=0∨k=3∨k=4):ix ([[67],[],[],[70],[71]]:List (List UInt8)) k=quu k:=by
  rcases h with rfl | rfl | rfl<;>rfl
theorem q2f (k:Int):(quu k).length<=1:=by unfold quu;(repeat' split)<;>simp

set_option maxHeartbeats 4000000 in
theorem zan (a0 a1 a2 a3:Int) (a4:Bool) (a5:Int) (a6 a7:Bool) (a8 a9 a10 a11:Int) (a12:Bool) (a13 a14 a15 a16:Int):qsq a0 a1 a2 a3 a4 a5 a6 a7 a8 a9 a10 a11 a12 a13 a14 a15 a16:=by
  unfold qsq
  refine ⟨trivial,fun h=>⟨by rw [qo3 h],by rw [qo3 h],trivial⟩,fun h=>⟨trivial,?_⟩⟩
  obtain ⟨k1,k2,_,km,kr,_⟩:=zcw h
  have l2:=q0y (Sign.mk a0 a1 a2 a3 a4 a5 a6 a7 a8 a9 a10 a11 a12 a13 a14 a15 a16)
  unfold zt at kr
  simp only at k1 k2 km kr
  simp only [q2q h,qb3]
  have l1:=zf7 a1
  have l3:=q2l a8 a9 a10 a11
  have l4:=qa7 a13
  have l5:=qa7 a14
  have l6:=qa7 a16
  have l7:=q2f a15
  have hl5:ln ([[67],[],[],[70],[71]]:List (List UInt8))=5:=rfl
  have hT:a0=5->z6 a8 a9 a10 a11=(qp a8 a9 a10 a11,0):=fun e=>q7j (km e)
  have hL:a0=1->qi0 a1=(ltr a1,0):=fun e=>zcb (by omega)
  have hL2:a0=2->qi0 a1=(ltr a1,0):=fun e=>zcb (by omega)
  have hS:a0=7->ix ([[67],[],[],[70],[71]]:List (List UInt8)) a15=quu a15:=fun e=>zg6 (by omega)
  clear km
  simp only [qx,List.length_append,List.length_cons,List.length_nil]
  unhygienic (repeat' (first | exact trivial | exact And.intro (by omega) trivial | apply And.intro | intro))
  all_goals try subst_vars
  all_goals first
    | omega
    | (simp only [hT rfl];omega)
    | (simp only [hS rfl];omega)
    | (rw [hL rfl];simp;done)
    | (rw [hL2 rfl];simp;done)
    | (rw [hT rfl];simp [ju];done)
    | (rw [hS rfl];simp;done)
    | (simp;done)
    | (simp [*];done)

theorem zcf {v:Int} (h:1<=v/\v<=8):[UInt8.ofNat (Int.toNat (bx ([88,76,66,83,77,81,70,90]:List UInt8) (v-1)))]=ltr v/\U8 (bx ([88,76,66,83,77,81,70,90]:List UInt8) (v-1)):=by
  have hc:v=1∨v=2∨v=3∨v=4∨v=5∨v=6∨v=7∨v=8:=by omega
  rcases hc with rfl | rfl | rfl | rfl | rfl | rfl | rfl | rfl<;>exact ⟨rfl,by decide⟩
theorem zd3 {k:Int} (h:0<k/\k<=3):sub ([32,94,118,62]:List UInt8) k (k+1)=qmh k:=by
  have hc:k=1∨k=2∨k=3:=by omega
  rcases hc with rfl | rfl | rfl<;>rfl
theorem q9u {k:Int} (h:¬ 0<k) (h0:0<=k):qmh k=[]:=by
  obtain rfl:k=0:=by omega
  rfl
theorem ze2 {k:Int} (h:k=0∨k=3∨k=4):[UInt8.ofNat (Int.toNat (bx ([67,46,46,70,71]:List UInt8) k))]=quu k/\U8 (bx ([67,46,46,70,71]:List UInt8) k):=by
  rcases h with rfl | rfl | rfl<;>exact ⟨rfl,by decide⟩
theorem qd5 (a:Int):q78 a=acA a++acB a++acC a:=by
  unfold q78 acA acB acC
  by_cases h1:a = -1
  . simp [h1]
  . by_cases h2:a=1
    . simp [h2]
    . simp [h1,h2]
theorem q5f (a:Int):(acA a).length<=1:=by unfold acA;split<;>simp
theorem q5g (a:Int):(acB a).length<=1:=by unfold acB;split<;>simp
theorem q5h (a:Int):(acC a).length<=1:=by unfold acC;split<;>simp

theorem zlq (a1 a2 a3:Int) (a4:Bool) (a5:Int) (a6 a7:Bool) (a8 a9 a10 a11:Int) (a12:Bool) (a13 a14 a15 a16:Int):qb3 (Sign.mk 1 a1 a2 a3 a4 a5 a6 a7 a8 a9 a10 a11 a12 a13 a14 a15 a16)=ltr a1++(zb a2++(acA a3++acB a3++acC a3)++qvh a4):=by
  simp [qb3,qd1,j6,qd5]
theorem zlr (a1 a2 a3:Int) (a4:Bool) (a5:Int) (a6 a7:Bool) (a8 a9 a10 a11:Int) (a12:Bool) (a13 a14 a15 a16:Int):qb3 (Sign.mk 2 a1 a2 a3 a4 a5 a6 a7 a8 a9 a10 a11 a12 a13 a14 a15 a16)=[114]++ltr a1:=by
  simp [qb3,qd1,j6,qd5]
theorem zls (a1 a2 a3:Int) (a4:Bool) (a5:Int) (a6 a7:Bool) (a8 a9 a10 a11:Int) (a12:Bool) (a13 a14 a15 a16:Int):qb3 (Sign.mk 3 a1 a2 a3 a4 a5 a6 a7 a8 a9 a10 a11 a12 a13 a14 a15 a16)=[46]:=by
  simp [qb3,qd1,j6,qd5]
theorem zlt (a1 a2 a3:Int) (a4:Bool) (a5:Int) (a6 a7:Bool) (a8 a9 a10 a11:Int) (a12:Bool) (a13 a14 a15 a16:Int):qb3 (Sign.mk 4 a1 a2 a3 a4 a5 a6 a7 a8 a9 a10 a11 a12 a13 a14 a15 a16)=[116]++(zb a2++(acA a3++acB a3++acC a3)++qvh a4)++qmh a5++ju a6 126++ju a7 33:=by
  simp [qb3,qd1,j6,qd5]
theorem zlu (a1 a2 a3:Int) (a4:Bool) (a5:Int) (a6 a7:Bool) (a8 a9 a10 a11:Int) (a12:Bool) (a13 a14 a15 a16:Int):qb3 (Sign.mk 5 a1 a2 a3 a4 a5 a6 a7 a8 a9 a10 a11 a12 a13 a14 a15 a16)=[40]++qp a8 a9 a10 a11++[41]++ju a12 124:=by
  simp [qb3,qd1,j6,qd5]
theorem zlv (a1 a2 a3:Int) (a4:Bool) (a5:Int) (a6 a7:Bool) (a8 a9 a10 a11:Int) (a12:Bool) (a13 a14 a15 a16:Int):qb3 (Sign.mk 6 a1 a2 a3 a4 a5 a6 a7 a8 a9 a10 a11 a12 a13 a14 a15 a16)=zb a13++[47]++zb a14:=by
  simp [qb3,qd1,j6,qd5]
theorem zlw (a1 a2 a3:Int) (a4:Bool) (a5:Int) (a6 a7:Bool) (a8 a9 a10 a11:Int) (a12:Bool) (a13 a14 a15 a16:Int):qb3 (Sign.mk 7 a1 a2 a3 a4 a5 a6 a7 a8 a9 a10 a11 a12 a13 a14 a15 a16)=[64]++quu a15++zb a16:=by
  simp [qb3,qd1,j6,qd5]
theorem zlx (a1 a2 a3:Int) (a4:Bool) (a5:Int) (a6 a7:Bool) (a8 a9 a10 a11:Int) (a12:Bool) (a13 a14 a15 a16:Int):qb3 (Sign.mk 8 a1 a2 a3 a4 a5 a6 a7 a8 a9 a10 a11 a12 a13 a14 a15 a16)=[38]++zb a13:=by
  simp [qb3,qd1,j6,qd5]
theorem zly (a1 a2 a3:Int) (a4:Bool) (a5:Int) (a6 a7:Bool) (a8 a9 a10 a11:Int) (a12:Bool) (a13 a14 a15 a16:Int):qb3 (Sign.mk 9 a1 a2 a3 a4 a5 a6 a7 a8 a9 a10 a11 a12 a13 a14 a15 a16)=[91]:=by
  simp [qb3,qd1,j6,qd5]
theorem zju (a1 a2 a3:Int) (a4:Bool) (a5:Int) (a6 a7:Bool) (a8 a9 a10 a11:Int) (a12:Bool) (a13 a14 a15 a16:Int):qb3 (Sign.mk 10 a1 a2 a3 a4 a5 a6 a7 a8 a9 a10 a11 a12 a13 a14 a15 a16)=[93]++zb a13:=by
  simp [qb3,qd1,j6,qd5]
theorem zjv (a1 a2 a3:Int) (a4:Bool) (a5:Int) (a6 a7:Bool) (a8 a9 a10 a11:Int) (a12:Bool) (a13 a14 a15 a16:Int):qb3 (Sign.mk 11 a1 a2 a3 a4 a5 a6 a7 a8 a9 a10 a11 a12 a13 a14 a15 a16)=[116,117,114,110]:=by
  simp [qb3,qd1,j6,qd5]
theorem zjw (a1 a2 a3:Int) (a4:Bool) (a5:Int) (a6 a7:Bool) (a8 a9 a10 a11:Int) (a12:Bool) (a13 a14 a15 a16:Int):qb3 (Sign.mk 12 a1 a2 a3 a4 a5 a6 a7 a8 a9 a10 a11 a12 a13 a14 a15 a16)=[115,105,103]:=by
  simp [qb3,qd1,j6,qd5]
set_option maxHeartbeats 8000000 in
theorem zak (a0 a1 a2 a3:Int) (a4:Bool) (a5:Int) (a6 a7:Bool) (a8 a9 a10 a11:Int) (a12:Bool) (a13 a14 a15 a16:Int):qsp a0 a1 a2 a3 a4 a5 a6 a7 a8 a9 a10 a11 a12 a13 a14 a15 a16:=by
  unfold qsp
  refine ⟨trivial,fun h=>⟨by rw [qo3 h],by rw [qo3 h],trivial⟩,fun h=>?_⟩
  obtain ⟨k1,k2,_,km,kr,_⟩:=zcw h
  unfold zt at kr
  simp only at k1 k2 km kr
  have hV:a0=1∨a0=2->1<=a1/\a1<=8:=by omega
  have hP:a0=1∨a0=4->-4<=a2/\a2<=12:=by omega
  have hS:a0=4->0<=a5/\a5<=3:=by omega
  have h6:a0=6->1<=a13/\a13<=100/\1<=a14/\a14<=100:=by omega
  have h7:a0=7->(a15=0∨a15=3∨a15=4)/\1<=a16/\a16<=5:=by omega
  have h8:a0=8∨a0=10->0<=a13/\a13<=4:=by omega
  clear kr
  simp only [q2q h,qx,List.length_append,List.length_cons,List.length_nil,ln,List.nil_append,qb8,qb9,qca,qcb,qcc,zbt,forall_eq]
  clear h
  refine ⟨by omega,fun e=>by omega,fun e=>?_,fun e=>?_,fun e=>?_,fun e=>?_,fun e=>?_,fun e=>?_,fun e=>?_,fun e=>?_,fun e=>?_,fun e=>?_,fun e=>?_,fun e=>?_,trivial⟩
  . subst e
    obtain ⟨b1,b2⟩:=zcf (hV (.inl rfl))
    have r1:=hV (.inl rfl)
    have r2:=hP (.inl rfl)
    have l1:=qyi a1
    have l2:=qa7 a2
    have m1:=q5f a3
    have m2:=q5g a3
    have m3:=q5h a3
    clear hV hP hS h6 h7 h8 km k1 k2
    simp only [b1,zlq]
    unhygienic (repeat' (first | exact trivial | (with_reducible exact rfl) | (with_reducible apply And.intro) | intro))
    all_goals first
      | omega
      | (subst_vars;simp [acA,acB,acC,qvh,ju];done)
      | (simp [*,acA,acB,acC,qvh,ju];done)
  . subst e
    obtain ⟨b1,b2⟩:=zcf (hV (.inr rfl))
    have r1:=hV (.inr rfl)
    have l1:=qyi a1
    clear hV hP hS h6 h7 h8 km k1 k2
    simp only [b1,zlr]
    unhygienic (repeat' (first | exact trivial | (with_reducible exact rfl) | (with_reducible apply And.intro) | intro))
    all_goals first
      | omega
      | (subst_vars;simp [ju];done)
      | (simp [*,ju];done)
  . subst e
    clear hV hP hS h6 h7 h8 km k1 k2
    simp only [zls]
    unhygienic (repeat' (first | exact trivial | (with_reducible exact rfl) | (with_reducible apply And.intro) | intro))
    all_goals first
      | omega
      | (subst_vars;simp [ju];done)
      | (simp [*,ju];done)
  . subst e
    have r2:=hP (.inr rfl)
    have r3:=hS rfl
    have l2:=qa7 a2
    have m1:=q5f a3
    have m2:=q5g a3
    have m3:=q5h a3
    have m4:=zci a6 126
    have l9:=q2e a5
    have hst:0<a5->sub ([32,94,118,62]:List UInt8) a5 (a5+1)=qmh a5:=fun e=>zd3 ⟨e,r3.2⟩
    have hst0:a5<=0->qmh a5=[]:=fun e=>q9u (by omega) r3.1
    clear hV hP hS h6 h7 h8 km k1 k2
    simp only [zlt]
    unhygienic (repeat' (first | exact trivial | (with_reducible exact rfl) | (with_reducible apply And.intro) | intro))
    all_goals first
      | omega
      | (rw [hst (by assumption)];omega)
      | (rw [hst (by assumption)];done)
      | (rw [hst0 (by assumption)];simp;done)
      | (subst_vars;simp [acA,acB,acC,qvh,ju];done)
      | (simp [*,acA,acB,acC,qvh,ju];done)
  . subst e
    have hT:=q7j (km rfl)
    have l3:=q2l a8 a9 a10 a11
    clear hV hP hS h6 h7 h8 km k1 k2
    simp only [hT,zlu]
    unhygienic (repeat' (first | exact trivial | (with_reducible exact rfl) | (with_reducible apply And.intro) | intro))
    all_goals first
      | omega
      | (subst_vars;simp [ju];done)
      | (simp [*,ju];done)
  . subst e
    have r6:=h6 rfl
    have l4:=qa7 a13
    have l5:=qa7 a14
    clear hV hP hS h6 h7 h8 km k1 k2
    simp only [zlv]
    unhygienic (repeat' (first | exact trivial | (with_reducible exact rfl) | (with_reducible apply And.intro) | intro))
    all_goals first
      | omega
      | (subst_vars;simp [ju];done)
      | (simp [*,ju];done)
  . subst e
    have r7:=h7 rfl
    obtain ⟨b1,b2⟩:=ze2 r7.1
    have l6:=qa7 a16
    have l7:=q2f a15
    clear hV hP hS h6 h7 h8 km k1 k2
    simp only [b1,zlw]
    unhygienic (repeat' (first | exact trivial | (with_reducible exact rfl) | (with_reducible apply And.intro) | intro))
    all_goals first
      | omega
      | (subst_vars;simp [ju];done)
      | (simp [*,ju];done)
  . subst e
    have r8:=h8 (.inl rfl)
    have l4:=qa7 a13
    clear hV hP hS h6 h7 h8 km k1 k2
    simp only [zlx]
    unhygienic (repeat' (first | exact trivial | (with_reducible exact rfl) | (with_reducible apply And.intro) | intro))
    all_goals first
      | omega
      | (subst_vars;simp [ju];done)
      | (simp [*,ju];done)
  . subst e
    clear hV hP hS h6 h7 h8 km k1 k2
    simp only [zly]
    unhygienic (repeat' (first | exact trivial | (with_reducible exact rfl) | (with_reducible apply And.intro) | intro))
    all_goals first
      | omega
      | (subst_vars;simp [ju];done)
      | (simp [*,ju];done)
  . subst e
    have r8:=h8 (.inr rfl)
    have l4:=qa7 a13
    clear hV hP hS h6 h7 h8 km k1 k2
    simp only [zju]
    unhygienic (repeat' (first | exact trivial | (with_reducible exact rfl) | (with_reducible apply And.intro) | intro))
    all_goals first
      | omega
      | (subst_vars;simp [ju];done)
      | (simp [*,ju];done)
  . subst e
    clear hV hP hS h6 h7 h8 km k1 k2
    simp only [zjv]
    unhygienic (repeat' (first | exact trivial | (with_reducible exact rfl) | (with_reducible apply And.intro) | intro))
    all_goals first
      | omega
      | (subst_vars;simp [ju];done)
      | (simp [*,ju];done)
  . subst e
    clear hV hP hS h6 h7 h8 km k1 k2
    simp only [zjw]
    unhygienic (repeat' (first | exact trivial | (with_reducible exact rfl) | (with_reducible apply And.intro) | intro))
    all_goals first
      | omega
      | (subst_vars;simp [ju];done)
      | (simp [*,ju];done)
end Go.Proofs.YtbopmiclcimjgaaGreatDoor
