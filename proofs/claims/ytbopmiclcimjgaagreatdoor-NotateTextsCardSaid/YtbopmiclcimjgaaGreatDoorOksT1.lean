/- THE CONDITIONS of the functions on names and parts hold. Printed from the book seat's (pick.py). -/
import Derived.Test.YtbopmiclcimjgaaGreatDoorVcsT
namespace Go.Proofs.YtbopmiclcimjgaaGreatDoor
open Go Go.E2 Go.E3
set_option maxRecDepth 100000
theorem qul (b:Int):qkc b=true↔((97<=b/\b<=122)∨(48<=b/\b<=57)∨b=45):=by
  simp only [qkc,qp7,Bool.or_eq_true,Bool.and_eq_true,decide_eq_true_eq];omega
theorem quk (s:List UInt8):jb s=true↔(1<=ln s/\ln s<=20/\97<=bx s 0/\bx s 0<=122/\∀ j,0<=j->j<ln s->qkc (bx s j)=true):=by
  simp only [jb,qp7,Bool.and_eq_true,decide_eq_true_eq,List.all_eq_true]
  constructor
  . rintro ⟨⟨⟨h1,h2⟩,h3,h4⟩,h5⟩
    exact ⟨h1,h2,h3,h4,fun j h0 h=>h5 _ (zdu h0 h)⟩
  . rintro ⟨h1,h2,h3,h4,h5⟩
    refine ⟨⟨⟨h1,h2⟩,h3,h4⟩,fun b hb=>?_⟩
    obtain ⟨i,i0,i1,rfl⟩:=zdz hb
    exact h5 i i0 i1
theorem qv5 {s:List UInt8} (h:1<=ln s/\ln s<=20/\97<=bx s 0/\bx s 0<=122/\∀ j,0<=j->j<ln s->qkc (bx s j)=true):true=jb s:=((quk s).2 h).symm
theorem qmo {s:List UInt8} (h:¬ (1<=ln s/\ln s<=20/\97<=bx s 0/\bx s 0<=122/\∀ j,0<=j->j<ln s->qkc (bx s j)=true)):false=jb s:=by
  cases hb:jb s with
  | false=>rfl
  | true=>exact absurd ((quk s).1 hb) h
theorem qum {s:List UInt8} {i:Int} (h:∀ j,0<=j->j<i->qkc (bx s j)=true) (hi:(97<=bx s i/\bx s i<=122)∨(48<=bx s i/\bx s i<=57)∨bx s i=45):∀ j,0<=j->j<i+1->qkc (bx s j)=true:=by
  intro j h0 hj
  by_cases he:j=i
  . subst he;exact (qul _).2 hi
  . exact h j h0 (by omega)
theorem qyv {s:List UInt8} {i:Int} (h0:0<=i) (h:i<ln s) (hi:¬ ((97<=bx s i/\bx s i<=122)∨(48<=bx s i/\bx s i<=57)∨bx s i=45)):false=jb s:=
  qmo fun hh=>hi ((qul _).1 (hh.2.2.2.2 i h0 h))
theorem q6h (a0:List UInt8) (hp:ln a0<=9223372036854775806):qqf a0:=by
  unfold qqf
  have hn:=qbc a0
  unhygienic (repeat' (first | exact trivial | exact And.intro (by omega) trivial | apply And.intro | intro))
  all_goals try simp only [jz,zw] at *
  all_goals first
    | omega
    | exact ⟨by omega,by omega,fun j h0 h=>absurd h (by omega)⟩
    | (refine qmo fun hh=>?_;omega)
    | (exact qum a_4.2.2 (by omega) j (by assumption) (by assumption))
    | (obtain ⟨i0,i1,i2⟩:=a_4;exact qyv i0 (by assumption) (by omega))
    | (obtain ⟨i0,i1,i2⟩:=a_4;exact qv5 ⟨by omega,by omega,by omega,by omega,fun j h0 h=>i2 j h0 (by omega)⟩)
theorem q6e (a0:List UInt8) (hp:ln a0<=9223372036854775806):qqe a0:=by
  unfold qqe
  have hn:=qbc a0
  have he:a0=[]->ln a0=0:=fun h=>by rw [h];rfl
  have he':a0≠[]->1<=ln a0:=fun h=>by
    rcases Nat.eq_zero_or_pos a0.length with h' | h'
    . exact absurd (List.length_eq_zero_iff.1 h') h
    . simp only [ln];omega
  unhygienic (repeat' (first | exact trivial | exact And.intro (by omega) trivial | apply And.intro | intro))
  all_goals try simp only [jy,zv] at *
  all_goals first
    | omega
    | exact ⟨by omega,by omega,fun j h0 h=>absurd h (by omega)⟩
    | (have h1:=he' (by assumption);omega)
    | (have h1:=he (by assumption);refine qmo fun hh=>?_;omega)
    | (refine qmo fun hh=>?_;omega)
    | (exact qum a.2.2 (by omega) j (by assumption) (by assumption))
    | (obtain ⟨i0,i1,i2⟩:=a;exact qyv i0 (by assumption) (by omega))
    | (obtain ⟨i0,i1,i2⟩:=a;exact qv5 ⟨by omega,by omega,by omega,by omega,fun j h0 h=>i2 j h0 (by omega)⟩)
    | skip
  . have h1:=he' a_2
    by_cases hx:bx a0 0<=122
    . rw [decide_eq_true hx]
      exact qv5 ⟨by omega,by omega,by omega,hx,fun j h0 h=>a.2.2 j h0 (by omega)⟩
    . rw [decide_eq_false hx]
      exact qmo fun hh=>by omega
theorem qz5 (a0:List UInt8) (a1:List Sign) (hp:ln a0<=1000000000/\ln a1<=1000000000):qkm a0 a1:=by
  unfold qkm
  simp only [qmw]
  unhygienic (repeat' (first | exact trivial | exact And.intro (by omega) trivial | apply And.intro | intro))
  all_goals try simp only [qa1,j4] at *
  all_goals first
    | omega
    | skip
  all_goals grind [qo,qxs,q2n,q2m,qrd,q65,ins]
theorem qz2 (a0:List UInt8) (a1:List Sign) (hp:ln a0<=1000000000/\ln a1<=1000000000):qkl a0 a1:=by
  unfold qkl
  simp only [qmw]
  unhygienic (repeat' (first | exact trivial | exact And.intro (by omega) trivial | apply And.intro | intro))
  all_goals try simp only [kp,zg] at *
  all_goals first
    | omega
    | skip
  all_goals grind [qo,qxs,q2n,q2m,qrd,q65,ins]
theorem qw7 (a0:List Sign) (hp:ln a0<=10000000):qol a0:=
  ⟨by simp only [qn,ln,List.length_nil] at *;omega,by simp,trivial⟩
theorem q0g (a0:List UInt8) (a1:List Sign) (hp:ln a1<=10000000):qqg a0 a1:=⟨hp,rfl,rfl,trivial⟩
theorem q5x {a b:List Sign} (h:a=b):qhr a b=true:=decide_eq_true h
theorem qzi {a b:List Sign} (h:a≠b):qhr a b=false:=decide_eq_false h
theorem q9f {a b:Sign} (h1:a.Kind=b.Kind) (h2:a.Value=b.Value) (h3:a.Place=b.Place) (h4:a.Acc=b.Acc) (h5:a.Color=b.Color) (h6:a.Stem=b.Stem) (h7:a.Oblique=b.Oblique) (h8:a.Last=b.Last) (h9:a.MensMax=b.MensMax) (h10:a.MensMod=b.MensMod) (h11:a.MensTem=b.MensTem) (h12:a.MensPro=b.MensPro) (h13:a.Stroke=b.Stroke) (h14:a.N=b.N) (h15:a.D=b.D) (h16:a.ClefStep=b.ClefStep) (h17:a.ClefLine=b.ClefLine):a=b:=by
  cases a;cases b;simp_all
theorem qvk (a0 a1:List Sign) (hp:ln a0<=10000000):qlq a0 a1:=by
  refine ⟨fun h=>⟨(qzi fun he=>h (by rw [he])).symm,trivial⟩,fun hl=>⟨⟨by omega,qbc _,fun j j0 j1=>by omega⟩,fun x ⟨i0,i1,i2⟩=>⟨fun h=>⟨⟨i0,h⟩,⟨i0,by omega⟩,fun hc=>⟨(qzi fun he=>?_).symm,trivial⟩,fun hc=>⟨by omega,⟨by omega,by omega,fun j j0 j1=>?_⟩,?_⟩⟩,fun h=>⟨(q5x (qyr hl fun j j0 j1=>i2 j j0 (by omega))).symm,trivial⟩⟩⟩⟩
  . subst he;simp at hc
  . by_cases he:j=x
    . subst he
      obtain ⟨h1,h2,h3,h4,h5,h6,h7,h8,h9,h10,h11,h12,h13,h14,h15,h16,h17⟩:=hc
      exact q9f h1 h2 h3 h4 h5 h6 h7 h8 h9 h10 h11 h12 h13 h14 h15 h16 h17
    . exact i2 j j0 (by omega)
  . simp only [qcu];omega
theorem qxd (a0:List UInt8) (a1:List Sign) (a2:List UInt8) (a3:List Sign) (hp:ln a1<=10000000):qoo a0 a1 a2 a3:=by
  refine ⟨fun h=>⟨hp,?_,trivial⟩,fun h=>⟨?_,trivial⟩⟩
  . simp only [qhr,z7,h,true_and]
  . simp [z7,h]
end Go.Proofs.YtbopmiclcimjgaaGreatDoor
