import Derived.Test.YtbopmiclcimjgaaGreatDoorVcsT
namespace Go.Proofs.YtbopmiclcimjgaaGreatDoor
open Go Go.E2 Go.E3
set_option maxRecDepth 100000
theorem q0o (b:Int):qn9 b=true↔((97<=b/\b<=122)∨(48<=b/\b<=57)∨b=45):=by
 simp only [qn9,qu9,Bool.or_eq_true,zA,decide_eq_true_eq];omega
theorem q0n (s:ZB):jg s=true↔(1<=ln s/\ln s<=20/\97<=bx s 0/\bx s 0<=122/\∀ j,0<=j->j<ln s->qn9 (bx s j)=true):=by
 simp only [jg,qu9,zA,decide_eq_true_eq,List.all_eq_true]
 constructor
 .rintro ⟨⟨⟨h1,h2⟩,h3,h4⟩,h5⟩
  exact ⟨h1,h2,h3,h4,fun j h0 h=>h5 _ (qr6 h0 h)⟩
 .rintro ⟨h1,h2,h3,h4,h5⟩
  refine ⟨⟨⟨h1,h2⟩,h3,h4⟩,fun b hb=>?_⟩
  obtain ⟨i,i0,i1,rfl⟩:=q2u hb
  exact h5 i i0 i1
theorem q2x {s:ZB} (h:1<=ln s/\ln s<=20/\97<=bx s 0/\bx s 0<=122/\∀ j,0<=j->j<ln s->qn9 (bx s j)=true):true=jg s:=((q0n s).2 h).symm
theorem qqr {s:ZB} (h:¬ (1<=ln s/\ln s<=20/\97<=bx s 0/\bx s 0<=122/\∀ j,0<=j->j<ln s->qn9 (bx s j)=true)):false=jg s:=by
 cases hb:jg s with
 | false=>rfl
 | true=>exact absurd ((q0n s).1 hb) h
theorem q0p {s:ZB} {i:Int} (h:∀ j,0<=j->j<i->qn9 (bx s j)=true) (hi:(97<=bx s i/\bx s i<=122)∨(48<=bx s i/\bx s i<=57)∨bx s i=45):∀ j,0<=j->j<i+1->qn9 (bx s j)=true:=by
 intro j h0 hj
 by_cases he:j=i
 .subst he;exact (q0o _).2 hi
 .exact h j h0 (by omega)
theorem q57 {s:ZB} {i:Int} (h0:0<=i) (h:i<ln s) (hi:¬ ((97<=bx s i/\bx s i<=122)∨(48<=bx s i/\bx s i<=57)∨bx s i=45)):false=jg s:=
 qqr fun hh=>hi ((q0o _).1 (hh.2.2.2.2 i h0 h))
theorem zgg (a0:ZB) (hp:ln a0<=9223372036854775806):qvi a0:=by
 unfold qvi
 have hn:=zb a0
 unhygienic (repeat' (first | exact trivial | exact And.intro (by omega) trivial | apply And.intro | intro))
 all_goals try simp only [qbc,kz] at *
 all_goals first
  | omega
  | exact ⟨by omega,by omega,fun j h0 h=>absurd h (by omega)⟩
  | (refine qqr fun hh=>?_;omega)
  | (exact q0p a_4.2.2 (by omega) j ‹_› ‹_›)
  | (obtain ⟨i0,i1,i2⟩:=a_4;exact q57 i0 ‹_› (by omega))
  | (obtain ⟨i0,i1,i2⟩:=a_4;exact q2x ⟨by omega,by omega,by omega,by omega,fun j h0 h=>i2 j h0 (by omega)⟩)
theorem zgd (a0:ZB) (hp:ln a0<=9223372036854775806):qvh a0:=by
 unfold qvh
 have hn:=zb a0
 have he:a0=[]->ln a0=0:=fun h=>by rw [h];rfl
 have he':a0≠[]->1<=ln a0:=fun h=>by
  rcases Nat.eq_zero_or_pos a0.length with h' | h'
  .exact absurd (List.length_eq_zero_iff.1 h') h
  .simp only [ln];omega
 unhygienic (repeat' (first | exact trivial | exact And.intro (by omega) trivial | apply And.intro | intro))
 all_goals try simp only [qbb,ky] at *
 all_goals first
  | omega
  | exact ⟨by omega,by omega,fun j h0 h=>absurd h (by omega)⟩
  | (have h1:=he' ‹_›;omega)
  | (have h1:=he ‹_›;refine qqr fun hh=>?_;omega)
  | (refine qqr fun hh=>?_;omega)
  | (exact q0p a.2.2 (by omega) j ‹_› ‹_›)
  | (obtain ⟨i0,i1,i2⟩:=a;exact q57 i0 ‹_› (by omega))
  | (obtain ⟨i0,i1,i2⟩:=a;exact q2x ⟨by omega,by omega,by omega,by omega,fun j h0 h=>i2 j h0 (by omega)⟩)
  | skip
 .have h1:=he' a_2
  by_cases hx:bx a0 0<=122
  .rw [decide_eq_true hx]
   exact q2x ⟨by omega,by omega,by omega,hx,fun j h0 h=>a.2.2 j h0 (by omega)⟩
  .rw [decide_eq_false hx]
   exact qqr fun hh=>by omega
theorem q71 (a0:ZB) (a1:List Sign) (hp:ln a0<=1000000000/\ln a1<=1000000000):qoi a0 a1:=by
 unfold qoi
 simp only [qq3]
 unhygienic (repeat' (first | exact trivial | exact And.intro (by omega) trivial | apply And.intro | intro))
 all_goals try simp only [qcn,qbd] at *
 all_goals first
  | omega
  | skip
 all_goals grind [zo,qwf,q19,q18,qtp,zhc,ins]
theorem q7y (a0:ZB) (a1:List Sign) (hp:ln a0<=1000000000/\ln a1<=1000000000):qoh a0 a1:=by
 unfold qoh
 dsimp only
 simp only [qq3]
 unhygienic (repeat' (first | exact trivial | exact And.intro (by omega) trivial | apply And.intro | intro))
 all_goals try simp only [j8,zu] at *
 all_goals first
  | omega
  | skip
 all_goals grind [zo,qwf,q19,q18,qtp,zhc,ins]
theorem zfx {a b:List Sign} (h:a=b):qkx a b=true:=decide_eq_true h
theorem q7c {a b:List Sign} (h:a≠b):qkx a b=false:=decide_eq_false h
theorem zk1 {a b:Sign} (h1:a.Kind=b.Kind) (h2:a.Value=b.Value) (h3:a.Place=b.Place) (h4:a.Acc=b.Acc) (h5:a.Color=b.Color) (h6:a.Stem=b.Stem) (h7:a.Oblique=b.Oblique) (h8:a.Last=b.Last) (h9:a.MensMax=b.MensMax) (h10:a.MensMod=b.MensMod) (h11:a.MensTem=b.MensTem) (h12:a.MensPro=b.MensPro) (h13:a.Stroke=b.Stroke) (h14:a.N=b.N) (h15:a.D=b.D) (h16:a.ClefStep=b.ClefStep) (h17:a.ClefLine=b.ClefLine):a=b:=by
 cases a;cases b;simp_all
theorem q1y (a0 a1:List Sign) (hp:ln a0<=10000000):qps a0 a1:=by
 refine ⟨fun h=>⟨(q7c fun he=>h (by rw [he])).symm,trivial⟩,fun hl=>⟨⟨by omega,zb _,fun j j0 j1=>by omega⟩,fun x ⟨i0,i1,i2⟩=>⟨fun h=>⟨⟨i0,h⟩,⟨i0,by omega⟩,fun hc=>⟨(q7c fun he=>?_).symm,trivial⟩,fun hc=>⟨by omega,⟨by omega,by omega,fun j j0 j1=>?_⟩,?_⟩⟩,fun h=>⟨(zfx (q50 hl fun j j0 j1=>i2 j j0 (by omega))).symm,trivial⟩⟩⟩⟩
 .subst he;simp at hc
 .by_cases he:j=x
  .subst he
   obtain ⟨h1,h2,h3,h4,h5,h6,h7,h8,h9,h10,h11,h12,h13,h14,h15,h16,h17⟩:=hc
   exact zk1 h1 h2 h3 h4 h5 h6 h7 h8 h9 h10 h11 h12 h13 h14 h15 h16 h17
  .exact i2 j j0 (by omega)
 .simp only [qeh];omega
theorem q37 (a0:ZB) (a1:List Sign) (a2:ZB) (a3:List Sign) (hp:ln a1<=10000000):qte a0 a1 a2 a3:=by
 refine ⟨fun h=>⟨hp,?_,trivial⟩,fun h=>⟨?_,trivial⟩⟩
 .simp only [qkx,jj,h,true_and]
 .simp [jj,h]
end Go.Proofs.YtbopmiclcimjgaaGreatDoor
