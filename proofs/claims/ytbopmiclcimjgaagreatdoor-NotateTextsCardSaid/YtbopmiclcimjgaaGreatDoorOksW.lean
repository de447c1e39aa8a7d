/- THE CONDITIONS of the functions that write a sign hold. -/
import Derived.Test.YtbopmiclcimjgaaGreatDoorOksA
import Derived.Test.YtbopmiclcimjgaaGreatDoorVcsW
namespace Go.Proofs.YtbopmiclcimjgaaGreatDoor
open Go Go.E2 Go.E3
set_option maxRecDepth 100000

/-- What is known of a valid sign. -/
theorem q8q {s:Sign} (h:qa8 s=0):1<=s.Kind/\s.Kind<=12/\que s/\(s.Kind=5->jf s.MensMax s.MensMod s.MensTem s.MensPro=0)/\zi s/\¬ (s.Oblique=true/\s.Last=true):=by
  unfold qa8 at h
  split at h
  . cases h
  . rename_i h1
    split at h
    . cases h
    . rename_i h2
      split at h
      . cases h
      . rename_i h3
        split at h
        . cases h
        . rename_i h4
          split at h
          . cases h
          . rename_i h5
            refine ⟨by omega,by omega,Decidable.not_not.1 h2,fun hk=>?_,Decidable.not_not.1 h4,h5⟩
            by_cases hm:jf s.MensMax s.MensMod s.MensTem s.MensPro=0
            . exact hm
            . exact absurd ⟨hk,hm⟩ h3
theorem qzv {s:Sign} (h:qa8 s=0):qq s=(qax s,0):=by rw [qq,if_pos h]
theorem qm4 {s:Sign} (h:qa8 s≠0):qq s=([],qa8 s):=by rw [qq,if_neg h]
theorem q3w {a b c d:Int} (h:jf a b c d=0):zs a b c d=(qj a b c d,0):=by rw [zs,if_pos h]
theorem qso (a b c d:Int):(qj a b c d).length<=4:=by
  unfold qj
  have h1:=qp3 a
  have h2:=qp3 b
  have h3:=q3v c
  have h4:=q3o d
  split<;>simp only [List.length_append,List.length_nil]<;>omega
theorem qml (v:Int):(ltr v).length<=8:=by unfold ltr zdx sub;simp only [List.length_drop,List.length_take,List.length_cons,List.length_nil];omega
theorem q75 {v:Int} (h:1<=v/\v<=8):qhf v=(ltr v,0):=by rw [qhf,if_neg (by omega)]
theorem zbi (v:Int):(qhf v).1.length<=8:=by
  unfold qhf
  split
  . simp
  . exact qml v
theorem zca {k:Int} (h:k=0∨k=3∨k=4):ix ([[67],[],[],[70],[71]]:List (List UInt8)) k=qmy k:=by
  rcases h with rfl | rfl | rfl<;>rfl
theorem qzn (k:Int):(qmy k).length<=1:=by unfold qmy;(repeat' split)<;>simp

set_option maxHeartbeats 4000000 in
theorem q6x (a0 a1 a2 a3:Int) (a4:Bool) (a5:Int) (a6 a7:Bool) (a8 a9 a10 a11:Int) (a12:Bool) (a13 a14 a15 a16:Int):qqo a0 a1 a2 a3 a4 a5 a6 a7 a8 a9 a10 a11 a12 a13 a14 a15 a16:=by
  unfold qqo
  refine ⟨trivial,fun h=>⟨by rw [qm4 h],by rw [qm4 h],trivial⟩,fun h=>⟨trivial,?_⟩⟩
  obtain ⟨k1,k2,_,km,kr,_⟩:=q8q h
  have l2:=qmd (Sign.mk a0 a1 a2 a3 a4 a5 a6 a7 a8 a9 a10 a11 a12 a13 a14 a15 a16)
  unfold zi at kr
  simp only at k1 k2 km kr
  simp only [qzv h,qax]
  have l1:=zbi a1
  have l3:=qso a8 a9 a10 a11
  have l4:=k7 a13
  have l5:=k7 a14
  have l6:=k7 a16
  have l7:=qzn a15
  have hl5:ln ([[67],[],[],[70],[71]]:List (List UInt8))=5:=rfl
  have hT:a0=5->zs a8 a9 a10 a11=(qj a8 a9 a10 a11,0):=fun e=>q3w (km e)
  have hL:a0=1->qhf a1=(ltr a1,0):=fun e=>q75 (by omega)
  have hL2:a0=2->qhf a1=(ltr a1,0):=fun e=>q75 (by omega)
  have hS:a0=7->ix ([[67],[],[],[70],[71]]:List (List UInt8)) a15=qmy a15:=fun e=>zca (by omega)
  clear km
  simp only [qn,List.length_append,List.length_cons,List.length_nil]
  unhygienic (repeat' (first | exact trivial | exact And.intro (by omega) trivial | apply And.intro | intro))
  all_goals try subst_vars
  all_goals first
    | omega
    | (simp only [hT rfl];omega)
    | (simp only [hS rfl];omega)
    | (rw [hL rfl];simp;done)
    | (rw [hL2 rfl];simp;done)
    | (rw [hT rfl];simp [j3];done)
    | (rw [hS rfl];simp;done)
    | (simp;done)
    | (simp [*];done)

theorem q79 {v:Int} (h:1<=v/\v<=8):[UInt8.ofNat (Int.toNat (bx ([88,76,66,83,77,81,70,90]:List UInt8) (v-1)))]=ltr v/\U8 (bx ([88,76,66,83,77,81,70,90]:List UInt8) (v-1)):=by
  have hc:v=1∨v=2∨v=3∨v=4∨v=5∨v=6∨v=7∨v=8:=by omega
  rcases hc with rfl | rfl | rfl | rfl | rfl | rfl | rfl | rfl<;>exact ⟨rfl,by decide⟩
theorem q9k {k:Int} (h:0<k/\k<=3):sub ([32,94,118,62]:List UInt8) k (k+1)=qkj k:=by
  have hc:k=1∨k=2∨k=3:=by omega
  rcases hc with rfl | rfl | rfl<;>rfl
theorem q51 {k:Int} (h:¬ 0<k) (h0:0<=k):qkj k=[]:=by
  obtain rfl:k=0:=by omega
  rfl
theorem zaf {k:Int} (h:k=0∨k=3∨k=4):[UInt8.ofNat (Int.toNat (bx ([67,46,46,70,71]:List UInt8) k))]=qmy k/\U8 (bx ([67,46,46,70,71]:List UInt8) k):=by
  rcases h with rfl | rfl | rfl<;>exact ⟨rfl,by decide⟩
theorem qdd (a:Int):q4i a=acA a++acB a++acC a:=by
  unfold q4i acA acB acC
  by_cases h1:a = -1
  . simp [h1]
  . by_cases h2:a=1
    . simp [h2]
    . simp [h1,h2]
theorem q2f (a:Int):(acA a).length<=1:=by unfold acA;split<;>simp
theorem q2g (a:Int):(acB a).length<=1:=by unfold acB;split<;>simp
theorem q2h (a:Int):(acC a).length<=1:=by unfold acC;split<;>simp

theorem zfu (a1 a2 a3:Int) (a4:Bool) (a5:Int) (a6 a7:Bool) (a8 a9 a10 a11:Int) (a12:Bool) (a13 a14 a15 a16:Int):qax (Sign.mk 1 a1 a2 a3 a4 a5 a6 a7 a8 a9 a10 a11 a12 a13 a14 a15 a16)=ltr a1++(qu a2++(acA a3++acB a3++acC a3)++qs7 a4):=by
  simp [qax,qc0,jm,qdd]
theorem zfv (a1 a2 a3:Int) (a4:Bool) (a5:Int) (a6 a7:Bool) (a8 a9 a10 a11:Int) (a12:Bool) (a13 a14 a15 a16:Int):qax (Sign.mk 2 a1 a2 a3 a4 a5 a6 a7 a8 a9 a10 a11 a12 a13 a14 a15 a16)=[114]++ltr a1:=by
  simp [qax,qc0,jm,qdd]
theorem zfw (a1 a2 a3:Int) (a4:Bool) (a5:Int) (a6 a7:Bool) (a8 a9 a10 a11:Int) (a12:Bool) (a13 a14 a15 a16:Int):qax (Sign.mk 3 a1 a2 a3 a4 a5 a6 a7 a8 a9 a10 a11 a12 a13 a14 a15 a16)=[46]:=by
  simp [qax,qc0,jm,qdd]
theorem zfx (a1 a2 a3:Int) (a4:Bool) (a5:Int) (a6 a7:Bool) (a8 a9 a10 a11:Int) (a12:Bool) (a13 a14 a15 a16:Int):qax (Sign.mk 4 a1 a2 a3 a4 a5 a6 a7 a8 a9 a10 a11 a12 a13 a14 a15 a16)=[116]++(qu a2++(acA a3++acB a3++acC a3)++qs7 a4)++qkj a5++j3 a6 126++j3 a7 33:=by
  simp [qax,qc0,jm,qdd]
theorem zfy (a1 a2 a3:Int) (a4:Bool) (a5:Int) (a6 a7:Bool) (a8 a9 a10 a11:Int) (a12:Bool) (a13 a14 a15 a16:Int):qax (Sign.mk 5 a1 a2 a3 a4 a5 a6 a7 a8 a9 a10 a11 a12 a13 a14 a15 a16)=[40]++qj a8 a9 a10 a11++[41]++j3 a12 124:=by
  simp [qax,qc0,jm,qdd]
theorem zfz (a1 a2 a3:Int) (a4:Bool) (a5:Int) (a6 a7:Bool) (a8 a9 a10 a11:Int) (a12:Bool) (a13 a14 a15 a16:Int):qax (Sign.mk 6 a1 a2 a3 a4 a5 a6 a7 a8 a9 a10 a11 a12 a13 a14 a15 a16)=qu a13++[47]++qu a14:=by
  simp [qax,qc0,jm,qdd]
theorem zf0 (a1 a2 a3:Int) (a4:Bool) (a5:Int) (a6 a7:Bool) (a8 a9 a10 a11:Int) (a12:Bool) (a13 a14 a15 a16:Int):qax (Sign.mk 7 a1 a2 a3 a4 a5 a6 a7 a8 a9 a10 a11 a12 a13 a14 a15 a16)=[64]++qmy a15++qu a16:=by
  simp [qax,qc0,jm,qdd]
theorem zf1 (a1 a2 a3:Int) (a4:Bool) (a5:Int) (a6 a7:Bool) (a8 a9 a10 a11:Int) (a12:Bool) (a13 a14 a15 a16:Int):qax (Sign.mk 8 a1 a2 a3 a4 a5 a6 a7 a8 a9 a10 a11 a12 a13 a14 a15 a16)=[38]++qu a13:=by
  simp [qax,qc0,jm,qdd]
theorem zf2 (a1 a2 a3:Int) (a4:Bool) (a5:Int) (a6 a7:Bool) (a8 a9 a10 a11:Int) (a12:Bool) (a13 a14 a15 a16:Int):qax (Sign.mk 9 a1 a2 a3 a4 a5 a6 a7 a8 a9 a10 a11 a12 a13 a14 a15 a16)=[91]:=by
  simp [qax,qc0,jm,qdd]
theorem zeh (a1 a2 a3:Int) (a4:Bool) (a5:Int) (a6 a7:Bool) (a8 a9 a10 a11:Int) (a12:Bool) (a13 a14 a15 a16:Int):qax (Sign.mk 10 a1 a2 a3 a4 a5 a6 a7 a8 a9 a10 a11 a12 a13 a14 a15 a16)=[93]++qu a13:=by
  simp [qax,qc0,jm,qdd]
theorem zei (a1 a2 a3:Int) (a4:Bool) (a5:Int) (a6 a7:Bool) (a8 a9 a10 a11:Int) (a12:Bool) (a13 a14 a15 a16:Int):qax (Sign.mk 11 a1 a2 a3 a4 a5 a6 a7 a8 a9 a10 a11 a12 a13 a14 a15 a16)=[116,117,114,110]:=by
  simp [qax,qc0,jm,qdd]
theorem zej (a1 a2 a3:Int) (a4:Bool) (a5:Int) (a6 a7:Bool) (a8 a9 a10 a11:Int) (a12:Bool) (a13 a14 a15 a16:Int):qax (Sign.mk 12 a1 a2 a3 a4 a5 a6 a7 a8 a9 a10 a11 a12 a13 a14 a15 a16)=[115,105,103]:=by
  simp [qax,qc0,jm,qdd]
set_option maxHeartbeats 8000000 in
theorem q6u (a0 a1 a2 a3:Int) (a4:Bool) (a5:Int) (a6 a7:Bool) (a8 a9 a10 a11:Int) (a12:Bool) (a13 a14 a15 a16:Int):qqn a0 a1 a2 a3 a4 a5 a6 a7 a8 a9 a10 a11 a12 a13 a14 a15 a16:=by
  unfold qqn
  refine ⟨trivial,fun h=>⟨by rw [qm4 h],by rw [qm4 h],trivial⟩,fun h=>?_⟩
  obtain ⟨k1,k2,_,km,kr,_⟩:=q8q h
  unfold zi at kr
  simp only at k1 k2 km kr
  have hV:a0=1∨a0=2->1<=a1/\a1<=8:=by omega
  have hP:a0=1∨a0=4->-4<=a2/\a2<=12:=by omega
  have hS:a0=4->0<=a5/\a5<=3:=by omega
  have h6:a0=6->1<=a13/\a13<=100/\1<=a14/\a14<=100:=by omega
  have h7:a0=7->(a15=0∨a15=3∨a15=4)/\1<=a16/\a16<=5:=by omega
  have h8:a0=8∨a0=10->0<=a13/\a13<=4:=by omega
  clear kr
  simp only [qzv h,qn,List.length_append,List.length_cons,List.length_nil,ln,List.nil_append,qbl,qbm,qbn,qbo,qbp,q7u,forall_eq]
  clear h
  refine ⟨by omega,fun e=>by omega,fun e=>?_,fun e=>?_,fun e=>?_,fun e=>?_,fun e=>?_,fun e=>?_,fun e=>?_,fun e=>?_,fun e=>?_,fun e=>?_,fun e=>?_,fun e=>?_,trivial⟩
  . subst e
    obtain ⟨b1,b2⟩:=q79 (hV (.inl rfl))
    have r1:=hV (.inl rfl)
    have r2:=hP (.inl rfl)
    have l1:=qml a1
    have l2:=k7 a2
    have m1:=q2f a3
    have m2:=q2g a3
    have m3:=q2h a3
    clear hV hP hS h6 h7 h8 km k1 k2
    simp only [b1,zfu]
    unhygienic (repeat' (first | exact trivial | (with_reducible exact rfl) | (with_reducible apply And.intro) | intro))
    all_goals first
      | omega
      | (subst_vars;simp [acA,acB,acC,qs7,j3];done)
      | (simp [*,acA,acB,acC,qs7,j3];done)
  . subst e
    obtain ⟨b1,b2⟩:=q79 (hV (.inr rfl))
    have r1:=hV (.inr rfl)
    have l1:=qml a1
    clear hV hP hS h6 h7 h8 km k1 k2
    simp only [b1,zfv]
    unhygienic (repeat' (first | exact trivial | (with_reducible exact rfl) | (with_reducible apply And.intro) | intro))
    all_goals first
      | omega
      | (subst_vars;simp [j3];done)
      | (simp [*,j3];done)
  . subst e
    clear hV hP hS h6 h7 h8 km k1 k2
    simp only [zfw]
    unhygienic (repeat' (first | exact trivial | (with_reducible exact rfl) | (with_reducible apply And.intro) | intro))
    all_goals first
      | omega
      | (subst_vars;simp [j3];done)
      | (simp [*,j3];done)
  . subst e
    have r2:=hP (.inr rfl)
    have r3:=hS rfl
    have l2:=k7 a2
    have m1:=q2f a3
    have m2:=q2g a3
    have m3:=q2h a3
    have m4:=qmm a6 126
    have l9:=qsm a5
    have hst:0<a5->sub ([32,94,118,62]:List UInt8) a5 (a5+1)=qkj a5:=fun e=>q9k ⟨e,r3.2⟩
    have hst0:a5<=0->qkj a5=[]:=fun e=>q51 (by omega) r3.1
    clear hV hP hS h6 h7 h8 km k1 k2
    simp only [zfx]
    unhygienic (repeat' (first | exact trivial | (with_reducible exact rfl) | (with_reducible apply And.intro) | intro))
    all_goals first
      | omega
      | (rw [hst (by assumption)];omega)
      | (rw [hst (by assumption)];done)
      | (rw [hst0 (by assumption)];simp;done)
      | (subst_vars;simp [acA,acB,acC,qs7,j3];done)
      | (simp [*,acA,acB,acC,qs7,j3];done)
  . subst e
    have hT:=q3w (km rfl)
    have l3:=qso a8 a9 a10 a11
    clear hV hP hS h6 h7 h8 km k1 k2
    simp only [hT,zfy]
    unhygienic (repeat' (first | exact trivial | (with_reducible exact rfl) | (with_reducible apply And.intro) | intro))
    all_goals first
      | omega
      | (subst_vars;simp [j3];done)
      | (simp [*,j3];done)
  . subst e
    have r6:=h6 rfl
    have l4:=k7 a13
    have l5:=k7 a14
    clear hV hP hS h6 h7 h8 km k1 k2
    simp only [zfz]
    unhygienic (repeat' (first | exact trivial | (with_reducible exact rfl) | (with_reducible apply And.intro) | intro))
    all_goals first
      | omega
      | (subst_vars;simp [j3];done)
      | (simp [*,j3];done)
  . subst e
    have r7:=h7 rfl
    obtain ⟨b1,b2⟩:=zaf r7.1
    have l6:=k7 a16
    have l7:=qzn a15
    clear hV hP hS h6 h7 h8 km k1 k2
    simp only [b1,zf0]
    unhygienic (repeat' (first | exact trivial | (with_reducible exact rfl) | (with_reducible apply And.intro) | intro))
    all_goals first
      | omega
      | (subst_vars;simp [j3];done)
      | (simp [*,j3];done)
  . subst e
    have r8:=h8 (.inl rfl)
    have l4:=k7 a13
    clear hV hP hS h6 h7 h8 km k1 k2
    simp only [zf1]
    unhygienic (repeat' (first | exact trivial | (with_reducible exact rfl) | (with_reducible apply And.intro) | intro))
    all_goals first
      | omega
      | (subst_vars;simp [j3];done)
      | (simp [*,j3];done)
  . subst e
    clear hV hP hS h6 h7 h8 km k1 k2
    simp only [zf2]
    unhygienic (repeat' (first | exact trivial | (with_reducible exact rfl) | (with_reducible apply And.intro) | intro))
    all_goals first
      | omega
      | (subst_vars;simp [j3];done)
      | (simp [*,j3];done)
  . subst e
    have r8:=h8 (.inr rfl)
    have l4:=k7 a13
    clear hV hP hS h6 h7 h8 km k1 k2
    simp only [zeh]
    unhygienic (repeat' (first | exact trivial | (with_reducible exact rfl) | (with_reducible apply And.intro) | intro))
    all_goals first
      | omega
      | (subst_vars;simp [j3];done)
      | (simp [*,j3];done)
  . subst e
    clear hV hP hS h6 h7 h8 km k1 k2
    simp only [zei]
    unhygienic (repeat' (first | exact trivial | (with_reducible exact rfl) | (with_reducible apply And.intro) | intro))
    all_goals first
      | omega
      | (subst_vars;simp [j3];done)
      | (simp [*,j3];done)
  . subst e
    clear hV hP hS h6 h7 h8 km k1 k2
    simp only [zej]
    unhygienic (repeat' (first | exact trivial | (with_reducible exact rfl) | (with_reducible apply And.intro) | intro))
    all_goals first
      | omega
      | (subst_vars;simp [j3];done)
      | (simp [*,j3];done)
end Go.Proofs.YtbopmiclcimjgaaGreatDoor
