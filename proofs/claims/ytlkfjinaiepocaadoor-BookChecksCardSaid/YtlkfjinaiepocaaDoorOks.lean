/- THE CONDITIONS of the functions on signs and parts hold. -/
import Derived.Test.YtlkfjinaiepocaaDoorVcs
namespace Go.Proofs.YtlkfjinaiepocaaDoor
open Go Go.E2 Go.E3
set_option maxRecDepth 100000
section
theorem qyf (b:Int):qno b=true↔((97<=b/\b<=122)∨(48<=b/\b<=57)∨b=45):=by
 simp only [qno,qti,Bool.or_eq_true,zA,decide_eq_true_eq];omega
theorem qye (s:ZB):kh s=true↔(1<=ln s/\ln s<=20/\97<=bx s 0/\bx s 0<=122/\∀ j,0<=j->j<ln s->qno (bx s j)=true):=by
 simp only [kh,qti,zA,decide_eq_true_eq,List.all_eq_true]
 constructor
 .rintro ⟨⟨⟨h1,h2⟩,h3,h4⟩,h5⟩
  exact ⟨h1,h2,h3,h4,fun j h0 h=>h5 _ (zm h0 h)⟩
 .rintro ⟨h1,h2,h3,h4,h5⟩
  refine ⟨⟨⟨h1,h2⟩,h3,h4⟩,fun b hb=>?_⟩
  obtain ⟨i,i0,i1,rfl⟩:=zjl hb
  exact h5 i i0 i1
theorem qz9 {s:ZB} (h:1<=ln s/\ln s<=20/\97<=bx s 0/\bx s 0<=122/\∀ j,0<=j->j<ln s->qno (bx s j)=true):true=kh s:=((qye s).2 h).symm
theorem qp2 {s:ZB} (h:¬ (1<=ln s/\ln s<=20/\97<=bx s 0/\bx s 0<=122/\∀ j,0<=j->j<ln s->qno (bx s j)=true)):false=kh s:=by
 cases hb:kh s with
 | false=>rfl
 | true=>exact absurd ((qye s).1 hb) h
theorem qyg {s:ZB} {i:Int} (h:∀ j,0<=j->j<i->qno (bx s j)=true) (hi:(97<=bx s i/\bx s i<=122)∨(48<=bx s i/\bx s i<=57)∨bx s i=45):∀ j,0<=j->j<i+1->qno (bx s j)=true:=by
 intro j h0 hj
 by_cases he:j=i
 .subst he;exact (qyf _).2 hi
 .exact h j h0 (by omega)
theorem q26 {s:ZB} {i:Int} (h0:0<=i) (h:i<ln s) (hi:¬ ((97<=bx s i/\bx s i<=122)∨(48<=bx s i/\bx s i<=57)∨bx s i=45)):false=kh s:=
 qp2 fun hh=>hi ((qyf _).1 (hh.2.2.2.2 i h0 h))
theorem za7 (a0:ZB) (hp:ln a0<=9223372036854775806):qtv a0:=by
 unfold qtv
 have hn:=qf a0
 unhygienic (repeat' (first | exact trivial | exact And.intro (by omega) trivial | apply And.intro | intro))
 all_goals try simp only [qa0,z6] at *
 all_goals first
  | omega
  | exact ⟨by omega,by omega,fun j h0 h=>absurd h (by omega)⟩
  | (refine qp2 fun hh=>?_;omega)
  | (exact qyg a_4.2.2 (by omega) j ‹_› ‹_›)
  | (obtain ⟨i0,i1,i2⟩:=a_4;exact q26 i0 ‹_› (by omega))
  | (obtain ⟨i0,i1,i2⟩:=a_4;exact qz9 ⟨by omega,by omega,by omega,by omega,fun j h0 h=>i2 j h0 (by omega)⟩)
theorem za4 (a0:ZB) (hp:ln a0<=9223372036854775806):qtu a0:=by
 unfold qtu
 have hn:=qf a0
 have he:a0=[]->ln a0=0:=fun h=>by rw [h];rfl
 have he':a0≠[]->1<=ln a0:=fun h=>by
  rcases Nat.eq_zero_or_pos a0.length with h' | h'
  .exact absurd (List.length_eq_zero_iff.1 h') h
  .simp only [ln];omega
 unhygienic (repeat' (first | exact trivial | exact And.intro (by omega) trivial | apply And.intro | intro))
 all_goals try simp only [qaz,z5] at *
 all_goals first
  | omega
  | exact ⟨by omega,by omega,fun j h0 h=>absurd h (by omega)⟩
  | (have h1:=he' ‹_›;omega)
  | (have h1:=he ‹_›;refine qp2 fun hh=>?_;omega)
  | (refine qp2 fun hh=>?_;omega)
  | (exact qyg a.2.2 (by omega) j ‹_› ‹_›)
  | (obtain ⟨i0,i1,i2⟩:=a;exact q26 i0 ‹_› (by omega))
  | (obtain ⟨i0,i1,i2⟩:=a;exact qz9 ⟨by omega,by omega,by omega,by omega,fun j h0 h=>i2 j h0 (by omega)⟩)
  | skip
 .have h1:=he' a_2
  by_cases hx:bx a0 0<=122
  .rw [decide_eq_true hx]
   exact qz9 ⟨by omega,by omega,by omega,hx,fun j h0 h=>a.2.2 j h0 (by omega)⟩
  .rw [decide_eq_false hx]
   exact qp2 fun hh=>by omega
theorem q7y (a0 a1 a2 a3:Int):qqm a0 a1 a2 a3:=by
 unfold qqm
 unhygienic (repeat' (first | exact trivial | apply And.intro | intro))
 all_goals try simp only [jv,zj] at *
 all_goals first
  | omega
  | (unfold qdm;split<;>omega)
theorem q4c (a0 a1 a2 a3:Int):qny a0 a1 a2 a3:=by
 have h0:ix [a0,a1,a2,a3] 0=a0:=rfl
 have h1:ix [a0,a1,a2,a3] 1=a1:=rfl
 have h2:ix [a0,a1,a2,a3] 2=a2:=rfl
 have h3:ix [a0,a1,a2,a3] 3=a3:=rfl
 have hl:ln [a0,a1,a2,a3]=4:=rfl
 have hb:∀ i,0<=i->i<4->ix [a0,a1,a2,a3] i≠2->ix [a0,a1,a2,a3] i≠3->qdm a0 a1 a2 a3=12:=by
  intro i i0 i1 n2 n3
  have:i=0∨i=1∨i=2∨i=3:=by omega
  unfold qdm
  rcases this with rfl | rfl | rfl | rfl
  all_goals rw [zF (by omega)]
 have hg:(∀ j,0<=j->j<4->(ix [a0,a1,a2,a3] j=2∨ix [a0,a1,a2,a3] j=3))->qdm a0 a1 a2 a3=0:=by
  intro h
  have q0:=h 0 (by omega) (by omega)
  have q1:=h 1 (by omega) (by omega)
  have q2:=h 2 (by omega) (by omega)
  have q3:=h 3 (by omega) (by omega)
  unfold qdm
  rw [zT (by omega)]
 have hx:∀ i,(∀ j,0<=j->j<i->(ix [a0,a1,a2,a3] j=2∨ix [a0,a1,a2,a3] j=3))->(ix [a0,a1,a2,a3] i=2∨ix [a0,a1,a2,a3] i=3)->∀ j,0<=j->j<i+1->(ix [a0,a1,a2,a3] j=2∨ix [a0,a1,a2,a3] j=3):=by
  intro i h hi j j0 j1
  by_cases he:j=i
  .rw [he];exact hi
  .exact h j j0 (by omega)
 unfold qny
 unhygienic (repeat' (first | exact trivial | exact And.intro (by omega) trivial | apply And.intro | intro))
 all_goals try simp only [qc3,qcd,zkq] at *
 all_goals first
  | omega
  | exact ⟨by omega,by omega,fun j h0 h=>absurd h (by omega)⟩
  | (exact hx _ a.2.2 (by omega) j ‹_› ‹_›)
  | (obtain ⟨i0,i1,i2⟩:=a;exact (hb _ i0 (by omega) ‹_› ‹_›).symm)
  | (obtain ⟨i0,i1,i2⟩:=a;exact (hg fun j j0 j1=>i2 j j0 (by omega)).symm)
theorem zhj (a0 a1 a2 a3:Int) (a4:Bool) (a5:Int) (a6 a7:Bool) (a8 a9 a10 a11:Int) (a12:Bool) (a13 a14 a15 a16:Int):q03 a0 a1 a2 a3 a4 a5 a6 a7 a8 a9 a10 a11 a12 a13 a14 a15 a16:=by
 unfold q03
 dsimp only
 simp only [kg]
 unhygienic (repeat' (first | exact trivial | apply And.intro | intro))
 all_goals simp_all
theorem q9x (a0 a1 a2 a3:Int) (a4:Bool) (a5:Int) (a6 a7:Bool) (a8 a9 a10 a11:Int) (a12:Bool) (a13 a14 a15 a16:Int):qrj a0 a1 a2 a3 a4 a5 a6 a7 a8 a9 a10 a11 a12 a13 a14 a15 a16:=by
 unfold qrj
 dsimp only
 unhygienic (repeat' (first | exact trivial | apply And.intro | intro))
 all_goals grind (splits:=40) [qd4]
theorem zer (a0 a1 a2 a3:Int) (a4:Bool) (a5:Int) (a6 a7:Bool) (a8 a9 a10 a11:Int) (a12:Bool) (a13 a14 a15 a16:Int):qy5 a0 a1 a2 a3 a4 a5 a6 a7 a8 a9 a10 a11 a12 a13 a14 a15 a16:=by
 unfold qy5
 dsimp only
 unhygienic (repeat' (first | exact trivial | apply And.intro | intro))
 all_goals try omega
 all_goals grind (splits:=40) [qgb,q21,qdm,kg]
theorem q4k (a0:ZB) (a1:List Sign) (hp:ln a0<=1000000000/\ln a1<=1000000000):qn0 a0 a1:=by
 unfold qn0
 try simp only [qv6]
 unhygienic (repeat' (first | exact trivial | exact And.intro (by omega) trivial | apply And.intro | intro))
 all_goals try simp only [qbx,qa1] at *
 all_goals first
  | omega
  | skip
 all_goals grind [ze,qpd,qtg,qtf,qpm,zbu,ins]
theorem q4h (a0:ZB) (a1:List Sign) (hp:ln a0<=1000000000/\ln a1<=1000000000):qnz a0 a1:=by
 unfold qnz
 dsimp only
 try simp only [qv6]
 unhygienic (repeat' (first | exact trivial | exact And.intro (by omega) trivial | apply And.intro | intro))
 all_goals try simp only [jo,zl] at *
 all_goals first
  | omega
  | skip
 all_goals grind [ze,qpd,qtg,qtf,qpm,zbu,ins]
end
section
theorem q1h (a0:List Sign) (hp:ln a0<=10000000):qr1 a0:=
 ⟨by simp only [jg,ln,List.length_nil] at *;omega,by simp,trivial⟩
theorem q97 {a b:List Sign} (h:a=b):qck a b=true:=decide_eq_true h
theorem q3u {a b:List Sign} (h:a≠b):qck a b=false:=decide_eq_false h
theorem zdz {a b:Sign} (h1:a.Kind=b.Kind) (h2:a.Value=b.Value) (h3:a.Place=b.Place) (h4:a.Acc=b.Acc) (h5:a.Color=b.Color) (h6:a.Stem=b.Stem) (h7:a.Oblique=b.Oblique) (h8:a.Last=b.Last) (h9:a.MensMax=b.MensMax) (h10:a.MensMod=b.MensMod) (h11:a.MensTem=b.MensTem) (h12:a.MensPro=b.MensPro) (h13:a.Stroke=b.Stroke) (h14:a.N=b.N) (h15:a.D=b.D) (h16:a.ClefStep=b.ClefStep) (h17:a.ClefLine=b.ClefLine):a=b:=by
 cases a;cases b;simp_all
theorem qo4 (a0 a1:List Sign) (hp:ln a0<=10000000):qo3 a0 a1:=by
 refine ⟨fun h=>⟨(q3u fun he=>h (by rw [he])).symm,trivial⟩,fun hl=>⟨⟨by omega,qf _,fun j j0 j1=>by omega⟩,fun x ⟨i0,i1,i2⟩=>⟨fun h=>⟨⟨i0,h⟩,⟨i0,by omega⟩,fun hc=>⟨(q3u fun he=>?_).symm,trivial⟩,fun hc=>⟨by omega,⟨by omega,by omega,fun j j0 j1=>?_⟩,?_⟩⟩,fun h=>⟨(q97 (qmb hl fun j j0 j1=>i2 j j0 (by omega))).symm,trivial⟩⟩⟩⟩
 .subst he;simp at hc
 .by_cases he:j=x
  .subst he
   obtain ⟨h1,h2,h3,h4,h5,h6,h7,h8,h9,h10,h11,h12,h13,h14,h15,h16,h17⟩:=hc
   exact zdz h1 h2 h3 h4 h5 h6 h7 h8 h9 h10 h11 h12 h13 h14 h15 h16 h17
  .exact i2 j j0 (by omega)
 .simp only [qce];omega
theorem q1p (a0:ZB) (a1:List Sign) (a2:ZB) (a3:List Sign) (hp:ln a1<=10000000):qr2 a0 a1 a2 a3:=by
 refine ⟨fun h=>⟨hp,?_,trivial⟩,fun h=>⟨?_,trivial⟩⟩
 .simp only [qck,kj,h,true_and]
 .simp [kj,h]
theorem q0s (a0:List Sign) (a1:Int) (a2:Bool) (a3:Int) (a4:List Sign) (a5:Int) (a6:Bool) (a7:Int) (hp:ln a0<=10000000):qqc a0 a1 a2 a3 a4 a5 a6 a7:=by
 refine ⟨fun h1=>⟨fun h2=>⟨fun h3=>⟨hp,?_,trivial⟩,fun h3=>⟨?_,trivial⟩⟩,fun h2=>⟨?_,trivial⟩⟩,fun h1=>⟨?_,trivial⟩⟩
 .simp only [qck,qdp,Staff.mk.injEq,h1,h2,h3,and_true]
 .simp [qdp,h3]
 .simp [qdp,h2]
 .simp [qdp,h1]
theorem q94 (a0:ZB) (a1:List Page) (a2:ZB) (a3:List Page) (hp:ln a1<=500/\okB a1):qrm a0 a1 a2 a3:=by
 have no:¬ (a0=a2/\a1=a3)->false=qhk a0 a1 a2 a3:=fun h=>(decide_eq_false h).symm
 have yes:a0=a2->a1=a3->true=qhk a0 a1 a2 a3:=fun h h'=>(decide_eq_true ⟨h,h'⟩).symm
 have page_ext:∀ p q:Page,p.Staves=q.Staves->p=q:=fun p q h=>by cases p;cases q;simp_all
 have hs:∀ i,0<=i->i<ln a1->ln (ix a1 i).Staves<=1000000000/\∀ s ∈ (ix a1 i).Staves,ln s.Signs<=10000000:=fun i h0 h=>hp.2 _ (zm h0 h)
 unfold qrm
 simp only [qrq]
 refine ⟨fun h=>⟨no fun hh=>h hh.1,trivial⟩,fun hn=>⟨fun h=>⟨no fun hh=>h (by rw [hh.2]),trivial⟩,fun hl=>⟨⟨by omega,qf _,fun j j0 j1=>by omega⟩,fun x ⟨i0,i1,i2⟩=>⟨fun h=>⟨⟨i0,h⟩,⟨i0,by omega⟩,fun hc=>⟨no fun hh=>hc (by rw [hh.2]),trivial⟩,fun hc=>
  ⟨⟨by omega,qf _,fun j j0 j1=>by omega⟩,fun y ⟨k0,k1,k2⟩=>⟨⟨i0,h⟩,fun hy=>⟨⟨i0,h⟩,⟨k0,hy⟩,⟨i0,by omega⟩,⟨k0,by omega⟩,(hs x i0 h).2 _ (zm k0 hy),fun hd=>⟨no fun hh=>?_,trivial⟩,fun hd=>⟨?_,trivial,trivial,trivial,trivial,⟨by omega,by omega,fun j j0 j1=>?_⟩,?_⟩⟩,fun hy=>⟨?_,trivial,trivial,trivial,trivial,⟨by omega,by omega,fun j j0 j1=>?_⟩,?_⟩⟩⟩⟩,
  fun h=>⟨yes hn (qmb hl fun j j0 j1=>i2 j j0 (by omega)),trivial⟩⟩⟩⟩⟩
 .rw [hh.2] at hd;simp [qdp] at hd
 .have:=(hs x i0 h).1;omega
 .by_cases he:j=y
  .subst he;exact of_decide_eq_true hd
  .exact k2 j j0 (by omega)
 .simp only [qg0];omega
 .omega
 .by_cases he:j=x
  .subst he
   exact page_ext _ _ (qmb hc fun m m0 m1=>k2 m m0 (by omega))
  .exact i2 j j0 (by omega)
 .simp only [qgz];omega
end
section
theorem za0 (a0:List Sign) (hp:ln a0<=10000000):q1c a0:=by
 intro b hb
 refine ⟨fun h=>⟨(hb h).symm,trivial⟩,fun _=>⟨?_,by simp,trivial⟩⟩
 simp only [jg,ln,List.length_nil] at *;omega
theorem zgk (a0 a1:List Sign) (hp:ln a0<=1/\ln a1<=1):q69 a0 a1:=
 ⟨by omega,qbf (by omega),rfl,trivial⟩
theorem zbo (a0 a1:List Sign) (a2 a3 a4 a5:Int) (a6:Bool) (a7:Int) (a8 a9:Bool) (a10 a11 a12 a13:Int) (a14:Bool) (a15 a16 a17 a18:Int):qt4 a0 a1 a2 a3 a4 a5 a6 a7 a8 a9 a10 a11 a12 a13 a14 a15 a16 a17 a18:=by
 unfold qt4 qao
 dsimp only
 unhygienic (repeat' (first | exact trivial | apply And.intro | intro))
 all_goals simp_all
theorem q8s (a0:List Sign) (hp:ln a0<=1000000000):qxp a0:=by
 have hz:∀ i,0<=i->i<ln a0->kk (fr a0 i)=if (ix a0 i).Kind=1∨(ix a0 i).Kind=4 then (true,(ix a0 i).Place) else kk (fr a0 (i+1)):=fun i h0 h=>by
  rw [je h0 h,kk]
 have he:∀ i,ln a0<=i->kk (fr a0 i)=(false,0):=fun i h=>by rw [qbj h];rfl
 refine ⟨⟨by omega,qf _,by rw [qal]⟩,fun x ⟨i0,i1,i2⟩=>⟨fun h=>⟨⟨i0,h⟩,fun k=>?_,fun k=>⟨fun k'=>?_,fun k'=>⟨by omega,⟨by omega,by omega,?_⟩,?_⟩⟩⟩,fun h=>?_⟩⟩
 .rw [<-i2,hz x i0 h,zT (.inl k)];exact ⟨rfl,rfl,trivial⟩
 .rw [<-i2,hz x i0 h,zT (.inr k')];exact ⟨rfl,rfl,trivial⟩
 .rw [<-i2,hz x i0 h,zF (by omega)]
 .simp only [qgx];omega
 .rw [<-i2,he x h];exact ⟨rfl,rfl,trivial⟩
theorem q8x (a0:List Sign) (a1:Int) (hp:0<=a1/\a1<=ln a0/\ln a0<=1000000000):qxu a0 a1:=by
 have hz:∀ i,0<=i->i<ln a0->kk (fr a0 i)=if (ix a0 i).Kind=1∨(ix a0 i).Kind=4 then (true,(ix a0 i).Place) else kk (fr a0 (i+1)):=fun i h0 h=>by
  rw [je h0 h,kk]
 have he:∀ i,ln a0<=i->kk (fr a0 i)=(false,0):=fun i h=>by rw [qbj h];rfl
 refine ⟨⟨hp.1,hp.2.1,rfl⟩,fun x ⟨i0,i1,i2⟩=>⟨fun h=>⟨⟨i0,h⟩,fun k=>⟨⟨i0,h⟩,?_⟩,fun k=>⟨⟨i0,h⟩,fun k'=>⟨⟨i0,h⟩,?_⟩,fun k'=>⟨by omega,⟨by omega,by omega,?_⟩,?_⟩⟩⟩,fun h=>?_⟩⟩
 .rw [<-i2,hz x i0 h,zT (.inl k)];exact ⟨rfl,rfl,trivial⟩
 .rw [<-i2,hz x i0 h,zT (.inr k')];exact ⟨rfl,rfl,trivial⟩
 .rw [<-i2,hz x i0 h,zF (by omega)]
 .simp only [qgy];omega
 .rw [<-i2,he x h];exact ⟨rfl,rfl,trivial⟩
theorem zhd (a0:List Sign) (hp:ln a0<=1000000000):q7n a0:=by
 refine ⟨⟨by omega,qf _,by rw [qal];rfl⟩,fun x ⟨i0,i1,i2⟩=>⟨fun h=>⟨⟨i0,h⟩,fun k=>⟨?_,trivial⟩,fun k=>⟨by omega,⟨by omega,by omega,?_⟩,?_⟩⟩,fun h=>⟨?_,trivial⟩⟩⟩
 .rw [<-i2,qjv i0 h,zT k]
 .rw [<-i2,qjv i0 h,zF k]
 .simp only [qjr];omega
 .rw [<-i2,qwg h]
theorem zck (a0:List Sign) (a1:Int) (hp:0<=a1/\a1<=ln a0/\ln a0<=1000000000):qvf a0 a1:=by
 unfold qvf
 try simp only [qv6]
 refine ⟨⟨by omega,hp.1,rfl⟩,fun c k i ⟨i0,i1,i2⟩=>⟨fun h=>⟨⟨i0,by omega⟩,fun k7=>⟨⟨i0,by omega⟩,trivial,by omega,⟨by omega,by omega,?_⟩,?_⟩,fun k7=>⟨fun k8=>⟨⟨i0,by omega⟩,trivial,by omega,⟨by omega,by omega,?_⟩,?_⟩,fun k8=>⟨by omega,⟨by omega,by omega,?_⟩,?_⟩⟩⟩,fun h=>⟨?_,?_,trivial⟩⟩⟩
 .rw [qku i0,<-i2,qao,zT k7]
 .simp only [qau];omega
 .rw [qku i0,<-i2,qao,zF k7,zT k8]
 .simp only [qau];omega
 .rw [qku i0,<-i2,qao,zF k7,zF k8]
 .simp only [qau];omega
 .have:=q85 a0 i
  rw [<-i2] at this
  exact qbf (by dsimp only at this;omega)
 .have:i=a1:=by omega
  subst this
  unfold qpx
  rw [<-i2]
theorem q5g (a0:List Sign) (hp:ln a0<=1000000000):qoe a0:=by
 have hgs:∀ i to,tT a0 to=tT a0 (i+1)->¬ (to<ln a0/\(ix a0 (to-1)).Kind=4/\(ix a0 (to-1)).Last=false)->gE a0 i=if to<ln a0/\(ix a0 to).Kind=3 then to+1 else to:=by
  intro i to h h'
  unfold gE
  rw [<-h,qtm h']
 have hts:∀ to,to<ln a0->(ix a0 (to-1)).Kind=4->(ix a0 (to-1)).Last=false->tT a0 to=tT a0 (to+1):=fun to h1 h2 h3=>q01 ⟨h1,h2,h3⟩
 have hg:∀ (g:List Group) i j,i<ln a0->g++qj8 a0 i=zw a0->gE a0 i=j->(g++[Group.mk i j])++qj8 a0 j=zw a0:=fun g i j h h1 h2=>by
  subst h2
  rw [List.append_assoc,<-h1,qu6 h];rfl
 have hge:∀ (g:List Group) i,ln a0<=i->g++qj8 a0 i=zw a0->g=zw a0:=fun g i h h1=>by
  rw [qzv h,zJ] at h1;exact h1
 have hsn:∀ (g:List Group) (a:Group),ln (g++[a])=ln g+1:=fun g a=>qz4 g a
 have hsh:∀ (g:List Group) (a:Group),ln g+1<=1000000000->jg (g.length + [a].length):=fun g a h=>qb4 h
 have hn:=qf a0
 have hz:([]:List Group)++qj8 a0 0=zw a0:=rfl
 have hz0:ln ([]:List Group)=0:=rfl
 have ht1:∀ i,0<=i->(ix a0 i).Kind≠4->¬ (i+1<ln a0/\(ix a0 (i+1-1)).Kind=4/\(ix a0 (i+1-1)).Last=false):=fun i h0 h=>by
  rw [show i+1-1=i by omega];exact fun hh=>h hh.2.1
 unfold qoe
 dsimp only
 unhygienic (repeat' (first | exact trivial | exact And.intro (by omega) trivial | apply And.intro | intro))
 all_goals try simp only [zt,qx,qee,qfo] at *
 all_goals first
  | omega
  | skip
 all_goals grind
end
section
variable {nm n:ZB} {l s c k:List Sign} {w h m:Int} {page:List Staff} {pages:List Page}
end
section
variable {nm n:ZB} {l:List Sign} {w h g k i m:Int} {page:List Staff} {pages:List Page}
end
section
set_option maxHeartbeats 4000000 in
theorem zeu (a0 a1 a2 a3:Int) (a4:Bool) (a5:Int) (a6 a7:Bool) (a8 a9 a10 a11:Int) (a12:Bool) (a13 a14 a15 a16:Int):qy6 a0 a1 a2 a3 a4 a5 a6 a7 a8 a9 a10 a11 a12 a13 a14 a15 a16:=by
 unfold qy6
 unhygienic (repeat' (first | exact trivial | apply And.intro | intro))
 all_goals try omega
 all_goals grind (splits:=40) [qgb,q21,qd4,qdm]
end
end Go.Proofs.YtlkfjinaiepocaaDoor
namespace Go.Proofs.YtlkfjinaiepocaaDoor
open Go Go.E2 Go.E3
set_option maxRecDepth 100000
section
theorem qbs {α β:Type} {f:α->List β} {c:Int} (hc:0<=c):∀ {l:List α},(∀ a ∈ l,ln (f a)<=c)->ln (l.flatMap f)<=c * ln l
 | [],_=>by simp [ln]
 | a::l,h=>by
  have h1:=h a zC
  have h2:=qbs hc (l:=l) fun b hb=>h b (zG _ hb)
  rw [List.flatMap_cons,zp,qbb,Int.mul_add,Int.mul_one]
  omega
theorem qc6 {g:List Page} (h:smB g):ln (qa g)<=250000/\∀ s ∈ qa g,ln s.Signs<=500:=by
 refine ⟨?_,fun s hs=>?_⟩
 .have:=qbs (c:=500) (by decide) (l:=g) (f:=fun p=>p.Staves) fun p hp=>(h.2 p hp).1
  have h1:=h.1
  have:ln (qa g)<=500 * ln g:=this
  omega
 .obtain ⟨p,hp,hs⟩:=List.mem_flatMap.1 hs
  exact (h.2 p hp).2 s hs
theorem qj9 {s:Staff} (h:qil s):ln (qeg s)=ln s.Signs-s.Lead:=qsk h.1 h.2
theorem qgc {l:List Staff} (h:∀ s ∈ l,ln s.Signs<=500/\qil s):ln (zh l)<=500 * ln l:=qbs (by decide) fun s hs=>by
 rw [qj9 (h s hs).2]
 have:=(h s hs).1
 have:=(h s hs).2.1
 omega
theorem q0y {g:List Page} (h:smB g) (hl:qk g):ln (qt g)<=125000000:=by
 have h1:=qc6 h
 have:=qgc (l:=qa g) fun s hs=>⟨h1.2 s hs,hl s hs⟩
 have:ln (qt g)<=500 * ln (qa g):=this
 omega
theorem qju (l:List Page) (p:Page):qa (l++[p])=qa l++p.Staves:=by simp [qa]
theorem qex (l:List Staff) (s:Staff):zh (l++[s])=zh l++qeg s:=by simp [zh]
theorem qyp (l m:List Staff):zh (l++m)=zh l++zh m:=by simp [zh]
theorem q9t (l m:List Page):qt (l++m)=qt l++qt m:=by simp [qt,zh,qa]
theorem qcv {α:Type} {l:List α} {i:Int} {a:α} (h:a ∈ upto l i):a ∈ l:=List.mem_of_mem_take h
theorem q0z {g:List Page} {i:Int} (h:smB g):smB (upto g i):=⟨by
  have:ln (upto g i)<=ln g:=by
   have:=List.length_take_le' i.toNat g
   simp only [ln,upto];omega
  have:=h.1
  omega,fun p hp=>h.2 p (qcv hp)⟩
theorem zah (a0:ZB) (a1:List Page) (hp:smB a1):qrr a0 a1:=by
 unfold qrr
 refine ⟨⟨zK 0,qf _,by rw [zq];rfl⟩,fun x0 x1 ⟨h1,h2,h3⟩=>⟨fun h=>?_,fun h=>⟨by rw [h3,js h],trivial⟩⟩⟩
 have hs:=(qc6 (q0z (i:=x1) hp)).1
 rw [<-h3] at hs
 have hq:=(hp.2 _ (zm h1 h)).1
 have h500:=hp.1
 refine ⟨⟨h1,h⟩,qbf (by omega),⟨by omega,by omega⟩,rfl,rfl,⟨by omega,by omega,?_⟩,?_⟩
 .rw [zi h1 h,qju,h3]
 .show (ln a1-(x1+1)).toNat<(ln a1-x1).toNat;omega
theorem zg2 (a0:ZB) (a1:List Page) (hp:smB a1/\qk a1):q0h a0 a1:=by
 obtain ⟨hp,hl⟩:=hp
 have hst:=qc6 hp
 unfold q0h
 refine ⟨hp,⟨zK 0,qf _,rfl,by rw [zq];rfl⟩,fun x0 x1 x2 ⟨h1,h2,h3,h4⟩=>⟨fun h=>?_,fun h=>⟨h3,by rw [h4,js h];rfl,trivial⟩⟩⟩
 have hm:=zm h1 h
 have hL:=hl _ hm
 have hb:=qgc (l:=upto (qa a1) x0) fun s hs=>⟨hst.2 s (qcv hs),hl s (qcv hs)⟩
 rw [<-h4,qdv h1 h2] at hb
 have hq:ln (fr (ix (qa a1) x0).Signs (ix (qa a1) x0).Lead)=_:=qj9 hL
 have h5:=hst.2 _ hm
 have h6:=hst.1
 have h7:=hL.1
 refine ⟨⟨h1,h⟩,hL,qbf (by omega),⟨by omega,by omega⟩,rfl,rfl,rfl,⟨by omega,by omega,h3,?_⟩,?_⟩
 .rw [zi h1 h,qex,h4];rfl
 .show (ln (qa a1)-(x0+1)).toNat<(ln (qa a1)-x0).toNat;omega
theorem zdb (a0:ZB) (a1:List Page) (a2:Int) (hp:smB a1/\qk a1/\(0:Int)<=a2/\(a2:Int)<=1000000000000):qvq a0 a1 a2:=by
 obtain ⟨hp,hl,ha,hb⟩:=hp
 have hst:=qc6 hp
 unfold qvq
 dsimp only
 refine ⟨hp,⟨zK 0,qf _,ha,zK _,by rw [qal];rfl⟩,fun x0 x1 ⟨h1,h2,h3,h4,h5⟩=>⟨fun h=>?_,fun h=>⟨by rw [<-h5,qbj h];rfl,trivial⟩⟩⟩
 have hm:=zm h1 h
 have hL:=hl _ hm
 have h6:=hst.2 _ hm
 have h7:=hL.1
 have h8:=hL.2
 have hs:=hst.1
 rw [je h1 h] at h5
 simp only [qvo] at h5
 refine ⟨⟨h1,h⟩,⟨by omega,by omega⟩,⟨by omega,by omega⟩,fun hc=>⟨?_,trivial⟩,fun hc=>⟨⟨by omega,by omega⟩,rfl,rfl,⟨by omega,by omega,by omega,by omega,?_⟩,?_⟩⟩
 .rw [<-h5,zT hc]
 .rw [<-h5,zF (by omega)]
 .show (ln (qa a1)-(x1+1)).toNat<(ln (qa a1)-x1).toNat;omega
theorem qol {α:Type} [Inhabited α] {a b:List α} (hl:ln a=ln b) (h:∀ j,0<=j->j<ln a->ix a j=ix b j):a=b:=by
 refine List.ext_getElem (by simp only [ln] at hl;omega) fun i h1 h2=>?_
 have:=h (i:Int) (by omega) (by simp only [ln];omega)
 rw [qvc h1,qvc h2] at this
 exact this
set_option maxHeartbeats 4000000 in
theorem zac (a0:List Sign) (a1:Int) (a2:Bool) (a3:Int) (a4 a5:List Sign) (hp:ln a0<=500/\ln a4<=1/\ln a5<=1):qrp a0 a1 a2 a3 a4 a5:=by
 unfold qrp
 dsimp only
 refine ⟨fun h=>⟨?_,trivial⟩,fun h=>⟨fun h'=>⟨?_,trivial⟩,fun h'=>⟨fun h2=>⟨?_,trivial⟩,fun h2=>⟨⟨h',by omega⟩,⟨hp.2.1,hp.2.2⟩,fun h3=>⟨?_,trivial⟩,fun h3=>⟨⟨zK 0,qf _,fun j a b=>by omega⟩,fun x4 ⟨g1,g2,g3⟩=>⟨fun g=>?_,fun g=>⟨?_,trivial⟩⟩⟩⟩⟩⟩⟩
 .unfold zk;rw [zT h]
 .unfold zk;rw [zF (show ¬ 60<ln a0 by omega),zT h']
 .unfold zk;rw [zF (show ¬ 60<ln a0 by omega),zF (show ¬ a1<0 by omega),zT h2]
 .unfold zk
  rw [zF (show ¬ 60<ln a0 by omega),zF (show ¬ a1<0 by omega),zF (show ¬ ln a0<=a1 by omega),zF]
  intro he
  have he:upto a0 a1=a4++a5:=he
  exact h3 (by rw [he])
 .have hu:=qdv h' (show a1<=ln a0 by omega)
  refine ⟨⟨g1,g⟩,⟨g1,by omega⟩,fun hn=>⟨?_,trivial⟩,fun he=>⟨⟨by omega,by omega⟩,rfl,rfl,rfl,rfl,rfl,rfl,⟨by omega,by omega,fun j j0 j1=>?_⟩,?_⟩⟩
  .unfold zk
   rw [zF (show ¬ 60<ln a0 by omega),zF (show ¬ a1<0 by omega),zF (show ¬ ln a0<=a1 by omega),zF]
   intro he
   have he:upto a0 a1=a4++a5:=he
   rw [he] at hn
   simp at hn
  .by_cases hj:j=x4
   .subst hj
    exact (q3w _ _).1 he
   .exact g3 j j0 (by omega)
  .show (ln (upto a0 a1)-(x4+1)).toNat<(ln (upto a0 a1)-x4).toNat;omega
 .unfold zk
  rw [zF (show ¬ 60<ln a0 by omega),zF (show ¬ a1<0 by omega),zF (show ¬ ln a0<=a1 by omega),zT]
  show upto a0 a1=a4++a5
  exact qol h3 fun j j0 j1=>g3 j j0 (by omega)
end
end Go.Proofs.YtlkfjinaiepocaaDoor
namespace Go.Proofs.YtlkfjinaiepocaaDoor
open Go Go.E2 Go.E3
set_option maxRecDepth 100000
section
theorem q16 {l:List Sign} {i:Int} (h:0<=i):0<=(qhi l i).2/\(qhi l i).2<=ln l:=by
 by_cases hc:i<ln l
 .by_cases he:qpm l i=0
  .rw [qpd hc he]
   exact q16 (by omega)
  .rw [qtg hc he]
   exact ⟨h,by show i<=ln l;omega⟩
 .rw [qtf (by omega)]
  exact ⟨zK _,qf _⟩
 termination_by (ln l-i).toNat
 decreasing_by omega
theorem q8u (nm:ZB) (l:List Sign):0<=(ze nm l).2/\(ze nm l).2<=ln l:=by
 have:=qf l
 unfold ze
 split
 .exact ⟨zK _,this⟩
 .split
  .exact ⟨zK _,this⟩
  .exact q16 (zK _)
section
variable {a0:ZB} {a1:List Page} {x1 x y n a e:Int} {l:List Sign}
theorem gw0 (h:qaj a0 a1 x):0<=x/\x<=ln (qt a1):=⟨h.get.1,h.get.2.1⟩
theorem gw1 (h:zb a0 a1 x):0<=x/\x<=ln (qt a1):=⟨h.get.1,h.get.2.1⟩
theorem gw2 (h:j6 a0 a1 y x):x+1<=y/\y<=ln (qt a1):=⟨h.get.1,h.get.2.1⟩
theorem gw3 (h:jl a0 a1 a n):0<=n/\n<=ln (qa a1)/\a=ln (zh (upto (qa a1) n)):=⟨h.get.1,h.get.2.1,h.get.2.2.1⟩
theorem w_e (hc:(ze a0 (qt a1)).1≠0):qbn a0 a1=((ze a0 (qt a1)).1,jm a1 (ze a0 (qt a1)).2):=by unfold qbn;rw [zT hc]
theorem w_t (hc:(ze a0 (qt a1)).1=0) (h:qaj a0 a1 x) (hx:x<ln (qt a1)) (hk:(ix (qt a1) x).Kind=11):qbn a0 a1=(8,jm a1 x):=by
 obtain ⟨h1,h2,h3⟩:=h
 rw [qjv h1 hx,zT hk] at h3
 unfold qbn
 rw [zF (by simp [hc]),<-h3,zT h1]
theorem w_n (hc:(ze a0 (qt a1)).1=0) (h:qaj a0 a1 x) (hx:ln (qt a1)<=x):qbn a0 a1=if (ql6 a1 (qt a1) 0).1≠0 then ql6 a1 (qt a1) 0 else qn4 (qt a1) (qa a1) 0 0:=by
 obtain ⟨h1,h2,h3⟩:=h
 rw [qwg hx] at h3
 unfold qbn
 rw [zF (by simp [hc]),zF (by omega)]
theorem w0s (h:qaj a0 a1 x) (hx:x<ln (qt a1)) (hk:(ix (qt a1) x).Kind≠11):qaj a0 a1 (x+1):=by
 obtain ⟨h1,h2,h3⟩:=h
 rw [qjv h1 hx,zF hk] at h3
 exact ⟨by omega,by omega,h3⟩
theorem w00:qaj a0 a1 0:=⟨zK 0,qf _,by rw [qal];rfl⟩
theorem w10:zb a0 a1 0:=⟨zK 0,qf _,rfl⟩
theorem w20 (hx:x<ln (qt a1)):j6 a0 a1 (x+1) x:=⟨zK _,by omega,rfl⟩
theorem w2s (h:j6 a0 a1 y x) (hy:y<ln (qt a1)) (hk:(ix (qt a1) (y-1)).Kind=4) (hl:(ix (qt a1) (y-1)).Last=false):j6 a0 a1 (y+1) x:=by
 obtain ⟨h1,h2,h3⟩:=h
 exact ⟨by omega,by omega,by rw [<-h3,q01 ⟨hy,hk,hl⟩]⟩
theorem stA (h:ln l<=y):¬ (y<ln l/\(ix l (y-1)).Kind=4/\(ix l (y-1)).Last=false):=fun hh=>by omega
theorem stB (h:(ix l (y-1)).Last=true):¬ (y<ln l/\(ix l (y-1)).Kind=4/\(ix l (y-1)).Last=false):=fun hh=>by rw [h] at hh;cases hh.2.2
theorem stC (h:(ix l (y-1)).Kind≠4):¬ (y<ln l/\(ix l (y-1)).Kind=4/\(ix l (y-1)).Last=false):=fun hh=>h hh.2.1
theorem qzu (h:j6 a0 a1 y x) (hs:¬ (y<ln (qt a1)/\(ix (qt a1) (y-1)).Kind=4/\(ix (qt a1) (y-1)).Last=false)) (hy:y<ln (qt a1)) (hk:(ix (qt a1) y).Kind=3):gE (qt a1) x=y+1:=by
 obtain ⟨h1,h2,h3⟩:=h
 rw [qtm hs] at h3
 unfold gE
 rw [<-h3,zT ⟨hy,hk⟩]
theorem q62 (h:j6 a0 a1 y x) (hs:¬ (y<ln (qt a1)/\(ix (qt a1) (y-1)).Kind=4/\(ix (qt a1) (y-1)).Last=false)) (hk:ln (qt a1)<=y∨(ix (qt a1) y).Kind≠3):gE (qt a1) x=y:=by
 obtain ⟨h1,h2,h3⟩:=h
 rw [qtm hs] at h3
 unfold gE
 rw [<-h3,zF]
 rintro ⟨q1,q2⟩
 rcases hk with hk | hk
 .omega
 .exact hk q2
theorem w1s (h1:zb a0 a1 x) (hx:x<ln (qt a1)) (hg:gE (qt a1) x=e) (ho:jm a1 x=jm a1 (e-1)):zb a0 a1 e:=by
 obtain ⟨q1,q2,q3⟩:=h1
 have:=qni hx
 rw [hg] at this
 exact ⟨by omega,by omega,by rw [<-q3,qx4 hx (by rw [hg];exact ho),hg]⟩
theorem w1m (h1:zb a0 a1 x) (hx:x<ln (qt a1)) (hg:gE (qt a1) x=e):qi a0 a1 e<qi a0 a1 x:=by
 have:=qni hx
 rw [hg] at this
 simp only [qi];omega
theorem w1b (hc:(ze a0 (qt a1)).1=0) (h0:qaj a0 a1 x1) (h0e:ln (qt a1)<=x1) (h1:zb a0 a1 x) (hx:x<ln (qt a1)) (hg:gE (qt a1) x=e) (ho:jm a1 x≠jm a1 (e-1)):qbn a0 a1=(6,jm a1 x):=by
 have h:ql6 a1 (qt a1) 0=(6,jm a1 x):=by rw [<-h1.get.2.2,q2w hx (by rw [hg];exact ho)]
 rw [w_n hc h0 h0e,h];exact zT (show (6:Int)≠0 by decide)
theorem w_c (hc:(ze a0 (qt a1)).1=0) (h0:qaj a0 a1 x1) (h0e:ln (qt a1)<=x1) (h1:zb a0 a1 x) (hx:ln (qt a1)<=x):qbn a0 a1=qn4 (qt a1) (qa a1) 0 0:=by
 have h:ql6 a1 (qt a1) 0=(0,0):=by rw [<-h1.get.2.2,q2x hx]
 rw [w_n hc h0 h0e,h];exact zF (show ¬ ((0:Int)≠0) by decide)
theorem w30:jl a0 a1 0 0:=⟨zK 0,qf _,by rw [zq];rfl,by rw [qal]⟩
theorem w3n (hl:qk a1) (h:jl a0 a1 a n) (hn:n<ln (qa a1)):a+(ln (ix (qa a1) n).Signs-(ix (qa a1) n).Lead)=ln (zh (upto (qa a1) (n+1)))/\a+(ln (ix (qa a1) n).Signs-(ix (qa a1) n).Lead)<=ln (qt a1)/\0<=a/\0<=ln (ix (qa a1) n).Signs-(ix (qa a1) n).Lead:=by
 obtain ⟨h1,h2,h3,h4⟩:=h
 have hL:=hl _ (zm h1 hn)
 have e1:ln (zh (upto (qa a1) (n+1)))=a+(ln (ix (qa a1) n).Signs-(ix (qa a1) n).Lead):=by
  rw [zi h1 hn,qex,zp,qj9 hL,h3]
 have e2:qt a1=zh (upto (qa a1) (n+1))++zh (fr (qa a1) (n+1)):=by
  rw [<-qyp,qt]
  congr 1
  simp [upto,fr]
 have e3:=qf (zh (fr (qa a1) (n+1)))
 have e4:=qf (zh (upto (qa a1) n))
 refine ⟨e1.symm,?_,by omega,by have:=hL.2;omega⟩
 rw [e2,zp]
 omega
theorem w3s (hl:qk a1) (h:jl a0 a1 a n) (hn:n<ln (qa a1)) (hc:(ix (qa a1) n).Catch=(kk (fr (qt a1) (a+(ln (ix (qa a1) n).Signs-(ix (qa a1) n).Lead)))).1) (hd:(ix (qa a1) n).Custos=(kk (fr (qt a1) (a+(ln (ix (qa a1) n).Signs-(ix (qa a1) n).Lead)))).2) :
  jl a0 a1 (a+(ln (ix (qa a1) n).Signs-(ix (qa a1) n).Lead)) (n+1):=by
 have h0:=w3n hl h hn
 obtain ⟨h1,h2,h3,h4⟩:=h
 rw [je h1 hn] at h4
 simp only [qn4] at h4
 rw [zT ⟨hc,hd⟩] at h4
 exact ⟨by omega,by omega,h0.1,h4⟩
theorem w3b (h:jl a0 a1 a n) (hn:n<ln (qa a1)) (hw:qbn a0 a1=qn4 (qt a1) (qa a1) 0 0) (hc:(ix (qa a1) n).Catch≠(kk (fr (qt a1) (a+(ln (ix (qa a1) n).Signs-(ix (qa a1) n).Lead)))).1∨(ix (qa a1) n).Custos≠(kk (fr (qt a1) (a+(ln (ix (qa a1) n).Signs-(ix (qa a1) n).Lead)))).2) :
  qbn a0 a1=(3,n):=by
 obtain ⟨h1,h2,h3,h4⟩:=h
 rw [je h1 hn] at h4
 simp only [qn4] at h4
 rw [zF] at h4
 .rw [hw,<-h4]
 .rintro ⟨q1,q2⟩
  rcases hc with hc | hc
  .exact hc q1
  .exact hc q2
theorem w3e (h:jl a0 a1 a n) (hn:ln (qa a1)<=n) (hw:qbn a0 a1=qn4 (qt a1) (qa a1) 0 0):qbn a0 a1=(0,0):=by
 rw [hw,<-h.get.2.2.2,qbj hn]
 rfl
theorem p1 {p:Int×Int} {u v:Int} (h:p=(u,v)):u=p.1:=by rw [h]
theorem p2 {p:Int×Int} {u v:Int} (h:p=(u,v)):v=p.2:=by rw [h]
end
set_option maxHeartbeats 8000000 in
theorem zej (a0:ZB) (a1:List Page) (hp:ln a0<=1000000000/\smB a1/\qk a1):qwi a0 a1:=by
 obtain ⟨hq,hs,hl⟩:=hp
 have hb:=q0y hs hl
 have hcb:=q8u a0 (qt a1)
 have hst:=(qc6 hs).1
 have hfr:∀ i:Int,ln (fr (qt a1) i)<=ln (qt a1):=fun i=>by simp only [ln,fr,List.length_drop];omega
 have hsg:∀ i,0<=i->i<ln (qa a1)->ln (ix (qa a1) i).Signs<=500/\0<=(ix (qa a1) i).Lead:=fun i h h'=>⟨(qc6 hs).2 _ (zm h h'),(hl _ (zm h h')).1⟩
 have hcz:(ze a0 (qt a1)).1=0∨(ze a0 (qt a1)).1≠0:=by omega
 unfold qwi
 dsimp only
 unhygienic (repeat' (first | with_reducible exact trivial | with_reducible rfl | with_reducible exact hs | with_reducible exact hl | apply And.intro | intro))
 all_goals first
  | with_reducible exact w00
  | with_reducible exact w10
  | with_reducible exact w30
  | omega
  | (have h0:=gw0 ‹_›;omega)
  | (have h1:=gw1 ‹_›;omega)
  | (have h1:=gw1 ‹_›;have h2:=gw2 ‹_›;omega)
  | (have h3:=gw3 ‹_›;omega)
  | (have h3:=gw3 ‹_›;have h4:=w3n hl ‹_› ‹_›;have h5:=hsg _ h3.1 ‹_›;omega)
  | (have h4:=hfr (x9+(ln (ix (qa a1) x10).Signs-(ix (qa a1) x10).Lead));omega)
  | (have h4:=hfr (x7+(ln (ix (qa a1) x8).Signs-(ix (qa a1) x8).Lead));omega)
  | with_reducible exact p1 (w_e ‹_›)
  | with_reducible exact p2 (w_e ‹_›)
  | with_reducible exact p1 (w_t ‹_› ‹_› ‹_› ‹_›)
  | with_reducible exact p2 (w_t ‹_› ‹_› ‹_› ‹_›)
  | with_reducible exact w0s ‹_› ‹_› ‹_›
  | with_reducible exact w20 ‹_›
  | with_reducible exact w2s ‹_› ‹_› ‹_› ‹_›
  | with_reducible exact w1s ‹_› ‹_› (by first
    | exact qzu ‹_› (by first | exact stB ‹_› | exact stC ‹_›) ‹_› ‹_›
    | exact q62 ‹_› (by first | exact stA ‹_› | exact stB ‹_› | exact stC ‹_›) (by first | exact .inl ‹_› | exact .inr ‹_›)) ‹_›
  | with_reducible exact w1m ‹_› ‹_› (by first
    | exact qzu ‹_› (by first | exact stB ‹_› | exact stC ‹_›) ‹_› ‹_›
    | exact q62 ‹_› (by first | exact stA ‹_› | exact stB ‹_› | exact stC ‹_›) (by first | exact .inl ‹_› | exact .inr ‹_›))
  | with_reducible exact p1 (w1b ‹_› ‹_› ‹_› ‹_› ‹_› (by first
    | exact qzu ‹_› (by first | exact stB ‹_› | exact stC ‹_›) ‹_› ‹_›
    | exact q62 ‹_› (by first | exact stA ‹_› | exact stB ‹_› | exact stC ‹_›) (by first | exact .inl ‹_› | exact .inr ‹_›)) ‹_›)
  | with_reducible exact p2 (w1b ‹_› ‹_› ‹_› ‹_› ‹_› (by first
    | exact qzu ‹_› (by first | exact stB ‹_› | exact stC ‹_›) ‹_› ‹_›
    | exact q62 ‹_› (by first | exact stA ‹_› | exact stB ‹_› | exact stC ‹_›) (by first | exact .inl ‹_› | exact .inr ‹_›)) ‹_›)
  | with_reducible exact w3s hl ‹_› ‹_› ‹_› ‹_›
  | with_reducible exact p1 (w3b ‹_› ‹_› (w_c ‹_› ‹_› ‹_› ‹_› ‹_›) (by first | exact .inl ‹_› | exact .inr ‹_›))
  | with_reducible exact p2 (w3b ‹_› ‹_› (w_c ‹_› ‹_› ‹_› ‹_› ‹_›) (by first | exact .inl ‹_› | exact .inr ‹_›))
  | with_reducible exact p1 (w3e ‹_› ‹_› (w_c ‹_› ‹_› ‹_› ‹_› ‹_›))
  | with_reducible exact p2 (w3e ‹_› ‹_› (w_c ‹_› ‹_› ‹_› ‹_› ‹_›))
  | (simp only [qh8];omega)
  | (simp only [qdx];omega)
  | (simp only [qdy];omega)
  | skip
end
end Go.Proofs.YtlkfjinaiepocaaDoor
namespace Go.Proofs.YtlkfjinaiepocaaDoor
open Go Go.E2 Go.E3
set_option maxRecDepth 100000
section
theorem qjt {s:Staff} {c k:List Sign} (h:zk s c k=0):qil s:=by
 unfold zk at h
 split at h
 .omega
 .split at h
  .omega
  .split at h
   .omega
   .exact ⟨by omega,by omega⟩
theorem qp7:∀ {l:List Staff} {f:List Sign×List Sign} {n j:Int},(qbi f n j l).1=0->∀ s ∈ l,qil s
 | [],_,_,_,_,s,hs=>by cases hs
 | a::l,f,n,j,h,s,hs=>by
  simp only [qbi] at h
  split at h
  .simp at h
  .split at h
   .rename_i h1;exact absurd h h1
   .rename_i h1
    rcases zD.1 hs with hs | hs
    .subst hs;exact qjt (Decidable.not_not.1 h1)
    .exact qp7 h s hs
theorem q30 (p:Page) (g:List Page):qa (p::g)=p.Staves++qa g:=rfl
theorem qkl:∀ {g:List Page} {f:List Sign×List Sign} {n:Int} {em:Bool},(qaw f n em g).1=0->qk g
 | [],_,_,_,_=>fun s hs=>by cases hs
 | p::g,f,n,em,h=>by
  intro s hs
  rw [q30] at hs
  simp only [qaw] at h
  split at h
  .rename_i he
   rw [he] at hs
   exact qkl h s (by simpa using hs)
  .split at h
   .rename_i h1;exact absurd h h1
   .rename_i h1
    rcases List.mem_append.1 hs with hs | hs
    .exact qp7 (Decidable.not_not.1 h1) s hs
    .exact qkl h s hs
theorem qds {nm:ZB} {g:List Page} (h:(qq nm g).1=0):qk g:=by
 unfold qq at h
 split at h
 .simp at h
 .split at h
  .rename_i h1;exact absurd h h1
  .rename_i h1
   exact qkl (Decidable.not_not.1 h1)
section
variable {a0:ZB} {a1:List Page} {n m j i x e:Int} {c k c' k':List Sign} {em:Bool}
theorem gc0 (h:kz a0 a1 n em i c k):0<=i/\i<=ln a1/\0<=n/\n<=500 * i/\ln c<=1/\ln k<=1:=⟨h.get.1,h.get.2.1,h.get.2.2.1,h.get.2.2.2.1,h.get.2.2.2.2.1,h.get.2.2.2.2.2.1⟩
theorem gc1 (h:ju a0 a1 n j c k em i):0<=j/\j<=ln (ix a1 i).Staves/\0<=n/\n<=500 * i+j/\ln c<=1/\ln k<=1:=⟨h.get.1,h.get.2.1,h.get.2.2.1,h.get.2.2.2.1,h.get.2.2.2.2.1,h.get.2.2.2.2.2.1⟩
theorem gc2 (h:qar a0 a1 x c k n em i j):0<=x/\x<=ln (qeg (ix (ix a1 i).Staves j))/\ln c<=1/\ln k<=1:=⟨h.get.1,h.get.2.1,h.get.2.2.1,h.get.2.2.2.1⟩
theorem zlg (h:qar a0 a1 x c k n em i j):x<=ln (fr (ix (ix a1 i).Staves j).Signs (ix (ix a1 i).Staves j).Lead):=h.get.2.1
theorem c00:kz a0 a1 0 false 0 ([]:List Sign) ([]:List Sign):=
 ⟨zK 0,qf _,zK 0,by omega,by simp [ln],by simp [ln],(by rw [zq];intro s h;cases h),by rw [qal]⟩
theorem qvg (h:qk (upto a1 i)) (h0:0<=i) (hi:i<ln a1) (hp:∀ s ∈ (ix a1 i).Staves,qil s):qk (upto a1 (i+1)):=by
 rw [zi h0 hi]
 intro s hs
 rw [qju] at hs
 rcases List.mem_append.1 hs with hs | hs
 .exact h s hs
 .exact hp s hs
theorem ln0 {α:Type} {l:List α} (h:ln l=0):l=[]:=by
 cases l with
 | nil=>rfl
 | cons a l=>rw [qbb] at h;have:=qf l;omega
theorem c0e (h:kz a0 a1 n em i c k) (hi:i<ln a1) (he:ln (ix a1 i).Staves=0):kz a0 a1 n true (i+1) c k:=by
 obtain ⟨h1,h2,h3,h4,h5,h6,h7,h8⟩:=h
 have he:=ln0 he
 refine ⟨by omega,by omega,h3,by omega,h5,h6,qvg h7 h1 hi (by rw [he];intro s hs;cases hs),?_⟩
 rw [je h1 hi] at h8
 rw [<-h8]
 simp only [qaw]
 rw [zT he]
theorem c10 (h:kz a0 a1 n em i c k) (hi:i<ln a1) (he:ln (ix a1 i).Staves≠0):ju a0 a1 n 0 c k em i:=by
 obtain ⟨h1,h2,h3,h4,h5,h6,h7,h8⟩:=h
 refine ⟨zK 0,qf _,h3,by omega,h5,h6,(by rw [zq];intro s hs;cases hs),?_⟩
 rw [qal,<-h8,je h1 hi,qr6]
 intro hh
 rw [hh] at he
 exact he rfl
theorem c1x (h:ju a0 a1 n j c k em i) (hj:j<ln (ix a1 i).Staves) (h12:12<=j):qaw ([],[]) 0 false a1=(11,n,false):=by
 obtain ⟨h1,h2,h3,h4,h5,h6,h7,h8⟩:=h
 rw [<-h8,je h1 hj]
 simp only [qbi]
 rw [zT h12]
 rfl
theorem c1s (h:ju a0 a1 n j c k em i) (hj:j<ln (ix a1 i).Staves) (h12:j<12) (hs:zk (Staff.mk (ix (ix a1 i).Staves j).Signs (ix (ix a1 i).Staves j).Lead (ix (ix a1 i).Staves j).Catch (ix (ix a1 i).Staves j).Custos) c k≠0) :
  qaw ([],[]) 0 false a1=(zk (Staff.mk (ix (ix a1 i).Staves j).Signs (ix (ix a1 i).Staves j).Lead (ix (ix a1 i).Staves j).Catch (ix (ix a1 i).Staves j).Custos) c k,n,false):=by
 obtain ⟨h1,h2,h3,h4,h5,h6,h7,h8⟩:=h
 rw [qrq] at hs ⊢
 rw [<-h8,je h1 hj]
 simp only [qbi]
 rw [zF (by omega),zT hs]
 unfold qxt
 rw [zT hs]
theorem c20 (h:ju a0 a1 n j c k em i) (hj:j<ln (ix a1 i).Staves) (h12:j<12) (hs:zk (Staff.mk (ix (ix a1 i).Staves j).Signs (ix (ix a1 i).Staves j).Lead (ix (ix a1 i).Staves j).Catch (ix (ix a1 i).Staves j).Custos) c k=0) :
  qar a0 a1 0 c k n em i j:=by
 obtain ⟨h1,h2,h3,h4,h5,h6,h7,h8⟩:=h
 rw [qrq] at hs
 refine ⟨zK 0,qf _,h5,h6,?_⟩
 rw [<-h8,je h1 hj,qal]
 simp only [qbi]
 rw [zF (by omega),zF (by simp [hs])]
theorem c2s (h:qar a0 a1 x c k n em i j) (hx:x<ln (fr (ix (ix a1 i).Staves j).Signs (ix (ix a1 i).Staves j).Lead)) {s:Sign} (hs:s=ix (fr (ix (ix a1 i).Staves j).Signs (ix (ix a1 i).Staves j).Lead) x) :
  qar a0 a1 (x+1) (qao c k s).1 (qao c k s).2 n em i j:=by
 obtain ⟨h1,h2,h3,h4,h5⟩:=h
 subst hs
 have hx':x<ln (qeg (ix (ix a1 i).Staves j)):=hx
 have ha:=qxm (s:=ix (fr (ix (ix a1 i).Staves j).Signs (ix (ix a1 i).Staves j).Lead) x) h3 h4
 refine ⟨by omega,by omega,ha.1,ha.2,?_⟩
 rw [je h1 hx'] at h5
 exact h5
theorem c21 (h1:ju a0 a1 n j c' k' em i) (hj:j<ln (ix a1 i).Staves) (hs:zk (Staff.mk (ix (ix a1 i).Staves j).Signs (ix (ix a1 i).Staves j).Lead (ix (ix a1 i).Staves j).Catch (ix (ix a1 i).Staves j).Custos) c' k'=0)
  (h:qar a0 a1 x c k n em i j) (hx:ln (fr (ix (ix a1 i).Staves j).Signs (ix (ix a1 i).Staves j).Lead)<=x):ju a0 a1 (n+1) (j+1) c k em i:=by
 obtain ⟨q1,q2,q3,q4,q5,q6,q7,q8⟩:=h1
 obtain ⟨g1,g2,g3,g4,g5⟩:=h
 refine ⟨by omega,by omega,by omega,by omega,g3,g4,?_,?_⟩
 .rw [zi q1 hj]
  intro s hm
  rcases List.mem_append.1 hm with hm | hm
  .exact q7 s hm
  .rw [List.mem_singleton.1 hm];exact qjt hs
 .rw [qbj (show ln (qeg (ix (ix a1 i).Staves j))<=x from hx)] at g5
  exact g5
theorem c1e (h0:kz a0 a1 m em i c' k') (hi:i<ln a1) (hst:ln (ix a1 i).Staves<=500) (h:ju a0 a1 n j c k em i) (hj:ln (ix a1 i).Staves<=j):kz a0 a1 n em (i+1) c k:=by
 obtain ⟨p1,p2,p3,p4,p5,p6,p7,p8⟩:=h0
 obtain ⟨q1,q2,q3,q4,q5,q6,q7,q8⟩:=h
 refine ⟨by omega,by omega,q3,by omega,q5,q6,qvg p7 p1 hi (by rw [js hj] at q7;exact q7),?_⟩
 rw [qbj hj] at q8
 rw [<-q8]
 rfl
theorem q6o (h:kz a0 a1 n em i c k) (hi:ln a1<=i):qaw ([],[]) 0 false a1=(0,n,em):=by
 rw [<-h.get.2.2.2.2.2.2.2,qbj hi];rfl
theorem c0l (h:kz a0 a1 n em i c k) (hi:ln a1<=i):qk a1:=by
 have:=h.get.2.2.2.2.2.2.1
 rw [js hi] at this
 exact this
theorem ze0 (hn:kh a0=true) (h:qaw ([],[]) 0 false a1=(e,n,em)) (he:e≠0):qq a0 a1=(e,n):=by
 unfold qq
 rw [zF (by simp [hn]),h,zT he]
theorem zka (hn:kh a0=true) (h:qaw ([],[]) 0 false a1=(0,n,em)) (he:em=true):qq a0 a1=(2,n):=by
 unfold qq
 rw [zF (by simp [hn]),h,zF (show ¬ ((0:Int)≠0) by decide),zT he]
theorem zkb (hn:kh a0=true) (h:qaw ([],[]) 0 false a1=(0,n,em)) (he:em=false):qq a0 a1=qbn a0 a1:=by
 unfold qq
 rw [zF (by simp [hn]),h,zF (show ¬ ((0:Int)≠0) by decide),zF (by simp [he])]
theorem ze1 (hn:kh a0=false):qq a0 a1=(7,0):=by unfold qq;rw [zT hn]
theorem pr1 {α β:Type} {p q:α×β} (h:p=q):q.1=p.1:=by rw [h]
theorem pr2 {α β:Type} {p q:α×β} (h:p=q):q.2=p.2:=by rw [h]
end
set_option maxHeartbeats 4000000 in
theorem q7v (a0:ZB) (a1:List Page) (hp:ln a0<=1000000000/\smB a1):qql a0 a1:=by
 obtain ⟨hq,hs⟩:=hp
 have hpg:∀ i,0<=i->i<ln a1->ln (ix a1 i).Staves<=500:=fun i h h'=>(hs.2 _ (zm h h')).1
 have hsg:∀ i j,0<=i->i<ln a1->0<=j->j<ln (ix a1 i).Staves->ln (ix (ix a1 i).Staves j).Signs<=500:=fun i j h h' g g'=>(hs.2 _ (zm h h')).2 _ (zm g g')
 have hl:=hs.1
 unfold qql
 dsimp only
 refine ⟨by omega,fun hn=>⟨p1 (ze1 hn),p2 (ze1 hn),trivial⟩,fun hn=>⟨c00,fun x1 x2 x3 x4 x5 h0=>⟨fun hi=>?_,fun hi=>?_⟩⟩⟩
 .have g0:=gc0 h0
  refine ⟨⟨by omega,hi⟩,fun he=>⟨⟨by omega,by omega⟩,rfl,rfl,c0e h0 hi he,by simp only [qby];omega⟩,fun he=>⟨c10 h0 hi he,fun x9 x10 x11 x12 h1=>⟨fun hj=>?_,fun hj=>?_⟩⟩⟩
  .have g1:=gc1 h1
   have gs:=hsg x3 x10 g0.1 hi g1.1 hj
   have gp:=hpg x3 g0.1 hi
   refine ⟨⟨by omega,hj⟩,fun h12=>⟨p1 (ze0 hn (c1x h1 hj h12) (by decide)),p2 (ze0 hn (c1x h1 hj h12) (by decide)),trivial⟩,fun h12=>⟨⟨gs,g1.2.2.2.2⟩,fun hx=>⟨p1 (ze0 hn (c1s h1 hj h12 hx) hx),p2 (ze0 hn (c1s h1 hj h12 hx) hx),trivial⟩,fun hx=>⟨qjt hx,c20 h1 hj h12 hx,fun x17 x18 x19 h2=>⟨fun hy=>?_,fun hy=>?_⟩⟩⟩⟩
   .have g2:=gc2 h2
    have g2':=zlg h2
    have hlen:ln (fr (ix (ix a1 x3).Staves x10).Signs (ix (ix a1 x3).Staves x10).Lead)<=500:=by
     have hL:=qjt hx
     have:=qsk hL.1 hL.2
     have h5:0<=(ix (ix a1 x3).Staves x10).Lead:=hL.1
     have h6:ln (fr (ix (ix a1 x3).Staves x10).Signs (ix (ix a1 x3).Staves x10).Lead)=ln (ix (ix a1 x3).Staves x10).Signs-(ix (ix a1 x3).Staves x10).Lead:=this
     omega
    exact ⟨⟨by omega,hy⟩,trivial,⟨by omega,by omega⟩,rfl,rfl,rfl,rfl,rfl,rfl,rfl,c2s h2 hy rfl,by
     have:x17<ln (qeg (ix (ix a1 x3).Staves x10)):=hy
     simp only [qgo];omega⟩
   .exact ⟨⟨by omega,by omega⟩,⟨by omega,by omega⟩,rfl,rfl,rfl,c21 h1 hj hx h2 hy,by simp only [qgn];omega⟩
  .have gp:=hpg x3 g0.1 hi
   exact ⟨⟨by omega,by omega⟩,rfl,rfl,c1e h0 hi gp h1 hj,by simp only [qby];omega⟩
 .exact ⟨fun he=>⟨p1 (zka hn (q6o h0 hi) he),p2 (zka hn (q6o h0 hi) he),trivial⟩,fun he=>⟨⟨hq,hs,c0l h0 hi⟩,pr1 (zkb hn (q6o h0 hi) he),pr2 (zkb hn (q6o h0 hi) he),trivial⟩⟩
theorem zau (a0:ZB) (a1:List Page) (hp:ln a0<=1000000000/\smB a1):qtp a0 a1:=by
 unfold qtp j5
 refine ⟨hp,fun h=>?_,fun h=>⟨⟨hp.2,qds h⟩,?_⟩⟩
 .rw [zT h];exact ⟨rfl,rfl,rfl,trivial⟩
 .rw [zF (by simp [h])];exact ⟨rfl,rfl,rfl,trivial⟩
end
end Go.Proofs.YtlkfjinaiepocaaDoor
namespace Go.Proofs.YtlkfjinaiepocaaDoor
open Go Go.E2 Go.E3
set_option maxRecDepth 100000
section
theorem qvy (r:Bool) (l:List Sign) (s:Sign):qhb r (l++[s])=if s.Kind=1∨s.Kind=4∨s.Kind=2 then decide (s.Kind=2) else qhb r l:=by
 unfold qhb
 rw [List.foldl_append]
 rfl
theorem q90 (r:Bool) (l m:List Sign):qhb r (l++m)=qhb (qhb r l) m:=by
 unfold qhb
 rw [List.foldl_append]
theorem q02 {a:Int} {q:Bool} {p:Page} {g:List Page} (h:g≠[]):qam a q (p::g)=((a+ln (zh p.Staves))::(qam (a+ln (zh p.Staves)) (qhb q (zh p.Staves)) g).1,qhb q (zh p.Staves)::(qam (a+ln (zh p.Staves)) (qhb q (zh p.Staves)) g).2):=by
 simp only [qam,zF h]
section
variable {a0:ZB} {a1:List Page} {s:List Int} {r:List Bool} {a i j x a2:Int} {q q2:Bool}
theorem gt0 (h:zy a0 a1 s r a q i):0<=i/\i<=ln a1/\ln s<=i/\ln r<=i:=⟨h.get.1,h.get.2.1,h.get.2.2.1,h.get.2.2.2.1⟩
theorem gt1 (h:jw a0 a1 a q j s r i):0<=j/\j<=ln (ix a1 i).Staves:=⟨h.get.1,h.get.2.1⟩
theorem t00:zy a0 a1 ([]:List Int) ([]:List Bool) (-1) false 0:=⟨zK 0,qf _,by simp [ln],by simp [ln],by rw [zq];rfl,by rw [qal];rfl⟩
theorem t10 (h:zy a0 a1 s r a q i):jw a0 a1 a q 0 s r i:=by
 obtain ⟨h1,h2,h3,h4,h5,h6⟩:=h
 exact ⟨zK 0,qf _,a,q,by rw [zq];simp [zh,ln],by rw [zq];rfl,h5,h6⟩
theorem t20 (h:jw a0 a1 a q j s r i):zz a0 a1 a q 0 s r i j:=by
 obtain ⟨h1,h2,a',q',h3,h4,h5,h6⟩:=h
 exact ⟨zK 0,qf _,a',q',by omega,by rw [zq];exact h4,h5,h6⟩
theorem gt2 (hs:smB a1) (hl:qk a1) (h0:zy a0 a1 s r a2 q2 i) (hi:i<ln a1) (h1:0<=j/\j<ln (ix a1 i).Staves) (h:zz a0 a1 a q x s r i j):0<=x/\x<=ln (qeg (ix (ix a1 i).Staves j))/\x<=500/\-1<=a/\a<=200000000:=by
 have g:=gt0 h0
 obtain ⟨h2,h3,a',q',h4,h5,h6,h7⟩:=h
 have hm:=zm g.1 hi
 have hm2:=zm h1.1 h1.2
 have hL:∀ s ∈ (ix a1 i).Staves,qil s:=fun s hs=>hl s (List.mem_flatMap.2 ⟨_,hm,hs⟩)
 have hS:=hs.2 _ hm
 have e1:=qj9 (hL _ hm2)
 have e2:=hS.2 _ hm2
 have e3:=(hL _ hm2).1
 have e4:=qgc (l:=upto (ix a1 i).Staves j) fun s hs=>⟨hS.2 s (qcv hs),hL s (qcv hs)⟩
 have e5:=qdv h1.1 (Int.le_of_lt h1.2)
 have e6:=q0y (g:=upto a1 i) (q0z hs) fun s hs=>by
  obtain ⟨p,hp,hs⟩:=List.mem_flatMap.1 hs
  exact hl s (List.mem_flatMap.2 ⟨p,qcv hp,hs⟩)
 have e7:=qf (qt (upto a1 i))
 have e8:=qf (zh (upto (ix a1 i).Staves j))
 have e9:=hS.1
 omega
theorem t2a (h:zz a0 a1 a q x s r i j) (hx:x<ln (fr (ix (ix a1 i).Staves j).Signs (ix (ix a1 i).Staves j).Lead))
  (hk:(ix (fr (ix (ix a1 i).Staves j).Signs (ix (ix a1 i).Staves j).Lead) x).Kind=1∨(ix (fr (ix (ix a1 i).Staves j).Signs (ix (ix a1 i).Staves j).Lead) x).Kind=4∨(ix (fr (ix (ix a1 i).Staves j).Signs (ix (ix a1 i).Staves j).Lead) x).Kind=2) :
  zz a0 a1 (a+1) (decide ((ix (fr (ix (ix a1 i).Staves j).Signs (ix (ix a1 i).Staves j).Lead) x).Kind=2)) (x+1) s r i j:=by
 obtain ⟨h2,h3,a',q',h4,h5,h6,h7⟩:=h
 have hx':x<ln (qeg (ix (ix a1 i).Staves j)):=hx
 refine ⟨by omega,by omega,a',q',by omega,?_,h6,h7⟩
 rw [zi h2 hx',qvy]
 exact (zT hk).symm
theorem t2b (h:zz a0 a1 a q x s r i j) (hx:x<ln (fr (ix (ix a1 i).Staves j).Signs (ix (ix a1 i).Staves j).Lead))
  (hk:¬ ((ix (fr (ix (ix a1 i).Staves j).Signs (ix (ix a1 i).Staves j).Lead) x).Kind=1∨(ix (fr (ix (ix a1 i).Staves j).Signs (ix (ix a1 i).Staves j).Lead) x).Kind=4∨(ix (fr (ix (ix a1 i).Staves j).Signs (ix (ix a1 i).Staves j).Lead) x).Kind=2)) :
  zz a0 a1 (a+1) q (x+1) s r i j:=by
 obtain ⟨h2,h3,a',q',h4,h5,h6,h7⟩:=h
 have hx':x<ln (qeg (ix (ix a1 i).Staves j)):=hx
 refine ⟨by omega,by omega,a',q',by omega,?_,h6,h7⟩
 rw [zi h2 hx',qvy]
 rw [h5]
 exact (zF hk).symm
theorem t2m {q3:Bool} {a3:Int} (hx:x<ln (fr (ix (ix a1 i).Staves j).Signs (ix (ix a1 i).Staves j).Lead)):jc a0 a1 a3 q3 (x+1) s r i j<jc a0 a1 a q x s r i j:=by
 have hx':x<ln (qeg (ix (ix a1 i).Staves j)):=hx
 simp only [jc];omega
theorem t21 (h1:0<=j/\j<ln (ix a1 i).Staves) (h:zz a0 a1 a q x s r i j) (hx:ln (fr (ix (ix a1 i).Staves j).Signs (ix (ix a1 i).Staves j).Lead)<=x):jw a0 a1 a q (j+1) s r i:=by
 obtain ⟨h2,h3,a',q',h4,h5,h6,h7⟩:=h
 have hx':ln (qeg (ix (ix a1 i).Staves j))<=x:=hx
 refine ⟨by omega,by omega,a',q',?_,?_,h6,h7⟩
 .rw [zi h1.1 h1.2,qex,zp];omega
 .rw [zi h1.1 h1.2,qex,q90,h5,js hx']
theorem qvr (h0:0<=i) (hi:i<ln a1):qt (upto a1 (i+1))=qt (upto a1 i)++zh (ix a1 i).Staves:=by
 rw [zi h0 hi,q9t]
 simp [qt,qa]
theorem t1a (h0:zy a0 a1 s r a2 q2 i) (hi:i+1<ln a1) (h:jw a0 a1 a q j s r i) (hj:ln (ix a1 i).Staves<=j):zy a0 a1 (s++[a]) (r++[q]) a q (i+1):=by
 have g:=gt0 h0
 obtain ⟨h1,h2,a',q',h3,h4,h5,h6⟩:=h
 rw [js hj] at h3 h4
 have hc:fr a1 (i+1)≠[]:=by
  intro hh
  have:=qsk (l:=a1) (i:=i+1) (by omega) (by omega)
  rw [hh] at this
  simp [ln] at this
  simp only [ln] at hi
  omega
 refine ⟨by omega,by omega,by rw [qz4];omega,by rw [qz4];omega,by rw [qvr g.1 (by omega),zp];omega,?_⟩
 rw [je g.1 (by omega),q02 hc,<-h3,<-h4] at h6
 rw [<-h6]
 simp [zbm]
theorem t1b (h0:zy a0 a1 s r a2 q2 i) (hi:i<ln a1) (hi':ln a1<=i+1) (h:jw a0 a1 a q j s r i) (hj:ln (ix a1 i).Staves<=j):zy a0 a1 s r a q (i+1):=by
 have g:=gt0 h0
 obtain ⟨h1,h2,a',q',h3,h4,h5,h6⟩:=h
 rw [js hj] at h3 h4
 refine ⟨by omega,by omega,by omega,by omega,by rw [qvr g.1 hi,zp];omega,?_⟩
 rw [je g.1 hi,qbj hi'] at h6
 rw [qbj hi',<-h6]
 simp [qam]
theorem t0e (h:zy a0 a1 s r a q i) (hi:ln a1<=i):(s,r)=qam (-1) false a1:=by
 rw [<-h.get.2.2.2.2.2,qbj hi]
 simp [zbm,qam]
end
set_option maxHeartbeats 4000000 in
theorem q8d (a0:ZB) (a1:List Page) (hp:ln a0<=1000000000/\smB a1):qqt a0 a1:=by
 have hs:=hp.2
 have hl':=hs.1
 have hpg:∀ i,0<=i->i<ln a1->ln (ix a1 i).Staves<=500:=fun i h h'=>(hs.2 _ (zm h h')).1
 unfold qqt zx
 dsimp only
 refine ⟨hp,fun h=>?_,fun h=>⟨t00,fun x1 x2 x3 x4 x5 h0=>⟨fun hi=>?_,fun hi=>?_⟩⟩⟩
 .rw [zT h];exact ⟨rfl,rfl,rfl,trivial⟩
 .have hl:=qds h
  have g0:=gt0 h0
  have gp:=hpg x5 g0.1 hi
  refine ⟨⟨g0.1,hi⟩,t10 h0,fun x8 x9 x10 h1=>⟨fun hj=>?_,fun hj=>?_⟩⟩
  .have g1:=gt1 h1
   have hL:=hl _ (List.mem_flatMap.2 ⟨_,zm g0.1 hi,zm g1.1 hj⟩)
   refine ⟨⟨g1.1,hj⟩,hL,t20 h1,fun x13 x14 x15 h2=>⟨fun hx=>?_,fun hx=>?_⟩⟩
   .have g2:=gt2 hs hl h0 hi ⟨g1.1,hj⟩ h2
    refine ⟨⟨g2.1,hx⟩,⟨by omega,by omega⟩,fun k=>⟨⟨by omega,by omega⟩,rfl,rfl,rfl,rfl,rfl,rfl,rfl,t2a h2 hx (.inl k),t2m hx⟩,fun k=>⟨fun k'=>⟨⟨by omega,by omega⟩,rfl,rfl,rfl,rfl,rfl,rfl,rfl,t2a h2 hx (.inr (.inl k')),t2m hx⟩,fun k'=>⟨fun k''=>⟨⟨by omega,by omega⟩,rfl,rfl,rfl,rfl,rfl,rfl,rfl,t2a h2 hx (.inr (.inr k'')),t2m hx⟩,fun k''=>⟨⟨by omega,by omega⟩,rfl,rfl,rfl,rfl,rfl,rfl,rfl,t2b h2 hx ?_,t2m hx⟩⟩⟩⟩
    rintro (q | q | q)
    .exact k q
    .exact k' q
    .exact k'' q
   .exact ⟨⟨by omega,by omega⟩,rfl,rfl,rfl,t21 ⟨g1.1,hj⟩ h2 hx,by simp only [qgv];omega⟩
  .have l1:∀ {α:Type} (l:List α),((l.length:Nat):Int)=ln l:=fun _=>rfl
   refine ⟨⟨by omega,by omega⟩,fun hn=>⟨trivial,qbf (by have:=l1 x1;simp [ln] at *;omega),trivial,qbf (by simp [ln] at *;omega),⟨by omega,by omega⟩,rfl,rfl,t1a h0 hn h1 hj,by simp only [qbz];omega⟩,fun hn=>⟨⟨by omega,by omega⟩,rfl,rfl,t1b h0 hi hn h1 hj,by simp only [qbz];omega⟩⟩
 .rw [zF (by simp [h])]
  have e:=t0e h0 hi
  exact ⟨pr1 e.symm,pr2 e.symm,rfl,trivial⟩
end
end Go.Proofs.YtlkfjinaiepocaaDoor
namespace Go.Proofs.YtlkfjinaiepocaaDoor
open Go Go.E2 Go.E3
set_option maxRecDepth 100000
theorem q56 (a0:ZB) (a1:List Page) (hp:smB a1):qov a0 a1:=by
 have hl:=hp.1
 have hst:∀ i,ln (qa (upto a1 i))<=250000:=fun i=>(qc6 (q0z hp)).1
 have hpg:∀ i,0<=i->i<ln a1->ln (ix a1 i).Staves<=500:=fun i h h'=>(hp.2 _ (zm h h')).1
 unfold qov
 refine ⟨⟨zK 0,qf _,by rw [zq];rfl,by rw [zq];rfl,by rw [zq];rfl⟩,fun x0 x1 x2 x3 h0=>?_⟩
 obtain ⟨g1,g2,rfl,rfl,rfl⟩:=h0.get
 refine ⟨fun hi=>⟨⟨zK 0,qf _,by rw [zq,zJ],by rw [zq];simp [qvl],by rw [zq];simp [qlz]⟩,fun x6 x7 x8 x9 h1=>?_⟩,fun hi=>by rw [js hi];exact ⟨rfl,rfl,rfl,trivial⟩⟩
 obtain ⟨k1,k2,rfl,rfl,rfl⟩:=h1.get
 have hs:=hst x3
 have hq:=hpg x3 g1 hi
 have hu:=qdv k1 k2
 have hui:=qdv g1 (Int.le_of_lt hi)
 refine ⟨⟨g1,hi⟩,fun hk=>⟨⟨g1,hi⟩,⟨k1,hk⟩,trivial,qb4 (by rw [zp];omega),trivial,qb4 (by rw [zp,qor,q3a];omega),trivial,qb4 (by rw [zp,qe9,qum];omega),⟨by omega,by omega⟩,rfl,rfl,⟨by omega,by omega,?_,?_,?_⟩,by simp only [qfq];omega⟩,
  fun hk=>⟨⟨by omega,by omega⟩,rfl,rfl,⟨by omega,by omega,?_,?_,?_⟩,by simp only [qfp];omega⟩⟩
 .rw [zi k1 hk,List.append_assoc]
 .rw [zi k1 hk,q9l,List.append_assoc]
 .rw [zi k1 hk,qxs,List.append_assoc,hu,Int.zero_add]
 .rw [zi g1 hi,qju,js hk]
 .rw [zi g1 hi,qsr,js hk,hui,Int.zero_add]
 .rw [zi g1 hi,qp8,js hk]
theorem zdx (a0 a1:List Sign) (hp:ln a0<=10000000):q3t a0 a1:=qo4 a0 a1 hp
theorem zh8 (a0:List Int) (a1:Int) (hp:ln a0<=1000000000):q4v a0 a1:=by
 unfold q4v atO
 refine ⟨fun h=>?_,fun h=>⟨fun h2=>?_,fun h2=>⟨⟨h,h2⟩,?_⟩⟩⟩
 .rw [zT (.inl h)];exact ⟨rfl,trivial⟩
 .rw [zT (.inr h2)];exact ⟨rfl,trivial⟩
 .rw [zF (by omega)];exact ⟨rfl,trivial⟩
theorem q1m (a0 a1:List Int) (hp:ln a0<=1000000000):qls a0 a1:=by
 unfold qls qkc
 refine ⟨fun h=>⟨(decide_eq_false fun e=>h (by rw [e])).symm,trivial⟩,fun h=>⟨⟨zK 0,qf _,fun j h h'=>by omega⟩,fun x h1=>?_⟩⟩
 obtain ⟨q1,q2,q3⟩:=h1.get
 refine ⟨fun hx=>⟨⟨q1,hx⟩,⟨q1,by omega⟩,fun hne=>⟨(decide_eq_false fun e=>hne (by rw [e])).symm,trivial⟩,fun he=>⟨⟨by omega,by omega⟩,⟨by omega,by omega,fun j h h'=>?_⟩,by simp only [qen];omega⟩⟩,fun hx=>⟨(decide_eq_true (qol h fun j h h'=>q3 j h (by omega))).symm,trivial⟩⟩
 by_cases hj:j=x
 .subst hj;exact he
 .exact q3 j h (by omega)
theorem qy9 (a0 a1:List Bool) (hp:ln a0<=1000000000):qkj a0 a1:=by
 unfold qkj qkd
 refine ⟨fun h=>⟨(decide_eq_false fun e=>h (by rw [e])).symm,trivial⟩,fun h=>⟨⟨zK 0,qf _,fun j h h'=>by omega⟩,fun x h1=>?_⟩⟩
 obtain ⟨q1,q2,q3⟩:=h1.get
 refine ⟨fun hx=>⟨⟨q1,hx⟩,⟨q1,by omega⟩,fun hne=>⟨(decide_eq_false fun e=>hne (by rw [e])).symm,trivial⟩,fun he=>⟨⟨by omega,by omega⟩,⟨by omega,by omega,fun j h h'=>?_⟩,by simp only [qdw];omega⟩⟩,fun hx=>⟨(decide_eq_true (qol h fun j h h'=>q3 j h (by omega))).symm,trivial⟩⟩
 by_cases hj:j=x
 .subst hj;exact he
 .exact q3 j h (by omega)
theorem zjp (a0:ZB) (a1:List Page) (hp:smB a1):q5s a0 a1:=by
 have hl:=hp.1
 have hpg:∀ i,0<=i->i<ln a1->ln (ix a1 i).Staves<=500:=fun i h h'=>(hp.2 _ (zm h h')).1
 have hsg:∀ i j,0<=i->i<ln a1->0<=j->j<ln (ix a1 i).Staves->ln (ix (ix a1 i).Staves j).Signs<=500:=fun i j h h' g g'=>(hp.2 _ (zm h h')).2 _ (zm g g')
 unfold q5s
 refine ⟨⟨zK 0,qf _,rfl,(zq _).symm⟩,fun x0 x1 x2 h0=>?_⟩
 obtain ⟨g1,g2,rfl,rfl⟩:=h0.get
 refine ⟨fun hi=>⟨⟨zK 0,qf _,(zq _).symm⟩,fun x5 x6 h1=>?_⟩,fun hi=>⟨rfl,by rw [js hi],trivial⟩⟩
 obtain ⟨k1,k2,rfl⟩:=h1.get
 have hq:=hpg x0 g1 hi
 have hu:=qdv k1 k2
 have hui:=qdv g1 (Int.le_of_lt hi)
 refine ⟨⟨g1,hi⟩,fun hk=>⟨⟨g1,hi⟩,⟨k1,hk⟩,?_,trivial,qb4 (by omega),⟨by omega,by omega⟩,rfl,rfl,rfl,rfl,rfl,⟨by omega,by omega,(zi k1 hk).symm⟩,by simp only [qk4];omega⟩,
  fun hk=>⟨trivial,qb4 (by omega),⟨by omega,by omega⟩,rfl,rfl,rfl,⟨by omega,by omega,rfl,?_⟩,by simp only [qk3];omega⟩⟩
 .have:=hsg x0 x5 g1 hi k1 hk
  show ln (ix (ix a1 x0).Staves x5).Signs<=10000000
  omega
 .rw [zi g1 hi,js hk]
theorem q7c {a0:ZB} {a1:List Page} (h:¬ (ln a0<=100/\ln a1<=20/\q9i a1/\ln (wrS (qa a1))<=600)):false=qes a0 a1:=(decide_eq_false h).symm
theorem zen {g:List Page} (h:q9i g) (hl:ln g<=20):ln (wrS (qa g))<=21000:=by
 have h1:ln (qa g)<=15 * ln g:=qbs (by decide) fun p hp=>(h p hp).1
 have h2:ln (wrS (qa g))<=70 * ln (qa g):=qbs (by decide) fun s hs=>by
  obtain ⟨p,hp,hs⟩:=List.mem_flatMap.1 hs
  exact (h p hp).2 s hs
 omega
theorem zco (a0:ZB) (a1:List Page) (hp:ln a0<=9223372036854775807/\ln a1<=9223372036854775807/\∀ p ∈ a1,ln p.Staves<=9223372036854775807/\∀ s ∈ p.Staves,ln s.Signs<=9223372036854775807):qvj a0 a1:=by
 unfold qvj
 refine ⟨fun h=>⟨q7c fun hc=>by omega,trivial⟩,fun hn=>⟨fun h=>⟨q7c fun hc=>by omega,trivial⟩,fun hl=>⟨⟨zK 0,qf _,(by rw [zq];intro p hp;cases hp),by rw [zq];rfl⟩,fun x2 x3 h0=>?_⟩⟩⟩
 obtain ⟨g1,g2,g3,rfl⟩:=h0.get
 have hw:=zen g3 (by rw [qdv g1 g2];omega)
 refine ⟨fun hi=>⟨⟨g1,hi⟩,fun hb=>⟨q7c fun hc=>by have:=(hc.2.2.1 _ (zm g1 hi)).1;omega,trivial⟩,fun hb=>⟨⟨zK 0,qf _,(by rw [zq];intro p hp;cases hp),by rw [zq];simp [wrS,ln]⟩,fun x7 x8 h1=>?_⟩⟩,fun hi=>⟨?_,trivial⟩⟩
 .obtain ⟨k1,k2,k3,rfl⟩:=h1.get
  have hu:ln (wrS (upto (ix a1 x3).Staves x8))<=70 * ln (upto (ix a1 x3).Staves x8):=qbs (by decide) k3
  rw [qdv k1 k2] at hu
  refine ⟨⟨g1,hi⟩,fun hk=>⟨⟨g1,hi⟩,⟨k1,hk⟩,fun hb2=>⟨q7c fun hc=>by have:=(hc.2.2.1 _ (zm g1 hi)).2 _ (zm k1 hk);omega,trivial⟩,fun hb2=>⟨⟨g1,hi⟩,⟨k1,hk⟩,?_,⟨by omega,by omega⟩,rfl,rfl,⟨by omega,by omega,?_,?_⟩,by simp only [qh7];omega⟩⟩,
   fun hk=>⟨⟨by omega,by omega⟩,rfl,rfl,⟨by omega,by omega,?_,?_⟩,by simp only [qh6];omega⟩⟩
  .have a:=qf (wrS (qa (upto a1 x3)))
   have b:=qf (wrS (upto (ix a1 x3).Staves x8))
   have c:=qf (ix (ix a1 x3).Staves x8).Signs
   exact ⟨by omega,by omega⟩
  .rw [zi k1 hk]
   intro s hs
   rcases List.mem_append.1 hs with hs | hs
   .exact k3 s hs
   .rw [List.mem_singleton.1 hs];exact hb2
  .rw [zi k1 hk]
   have:wrS (upto (ix a1 x3).Staves x8++[ix (ix a1 x3).Staves x8])=wrS (upto (ix a1 x3).Staves x8)++(ix (ix a1 x3).Staves x8).Signs:=by simp [wrS]
   rw [this,zp]
   omega
  .rw [js hk] at k3
   rw [zi g1 hi]
   intro p hp
   rcases List.mem_append.1 hp with hp | hp
   .exact g3 p hp
   .rw [List.mem_singleton.1 hp];exact ⟨hb,k3⟩
  .rw [zi g1 hi,qju,js hk]
   have:wrS (qa (upto a1 x3)++(ix a1 x3).Staves)=wrS (qa (upto a1 x3))++wrS (ix a1 x3).Staves:=by simp [wrS]
   rw [this,zp]
 .rw [js hi] at g3 ⊢
  exact decide_eq_decide.2 ⟨fun q=>⟨hn,hl,g3,q⟩,fun q=>q.2.2.2⟩
end Go.Proofs.YtlkfjinaiepocaaDoor
namespace Go.Proofs.YtlkfjinaiepocaaDoor
open Go Go.E2 Go.E3
set_option maxRecDepth 100000
theorem qns (l:List Staff) (n:Int):ln (zh (upto l n))<=ln (zh l):=by
 have e:l=upto l n++fr l n:=(List.take_append_drop _ _).symm
 have h:=zp (zh (upto l n)) (zh (fr l n))
 rw [<-qyp,<-e] at h
 have:=qf (zh (fr l n))
 omega
section
variable {a0:ZB} {a1:List Sign} {a2:List Int} {a3:List Staff} {v:Int}
theorem zla (h:(ze a0 a1).1≠0):j3 a0 a1 a2 a3=((ze a0 a1).1,atO a2 (ze a0 a1).2):=by unfold j3;rw [zT h]
theorem zlc (h:(ze a0 a1).1=0) (ht:0<=qf0 a1):j3 a0 a1 a2 a3=(8,atO a2 (qf0 a1)):=by unfold j3;rw [zF (by simp [h]),zT ht]
theorem zlb (h:(ze a0 a1).1=0) (ht:qf0 a1<0) (hg:qs9 a2 (zw a1)=(6,v)):j3 a0 a1 a2 a3=(6,v):=by unfold j3;rw [zF (by simp [h]),zF (by omega),hg,zT (show (6:Int)≠0 by decide)]
theorem zls (h:(ze a0 a1).1=0) (ht:qf0 a1<0) (hg:qs9 a2 (zw a1)=(0,0)):j3 a0 a1 a2 a3=qn4 a1 a3 0 0:=by unfold j3;rw [zF (by simp [h]),zF (by omega),hg,zF (by decide)]
end
theorem zap (a0:ZB) (a1:List Sign) (a2:List Int) (a3:List Staff) (hp:ln a0<=1000000000/\qto a1 a2 a3):qru a0 a1 a2 a3:=by
 obtain ⟨hn,hO,hP,hL,hS⟩:=hp
 have hG:=q87 a1
 have h1:ln a1<=125000000:=by
  have:=qgc hS
  rw [hP];omega
 have hgl:=hG.len
 unfold qru
 refine ⟨⟨hn,by omega⟩,fun hc=>⟨by omega,p1 (zla hc),p2 (zla hc),trivial⟩,fun hc=>⟨by omega,fun ht=>⟨by omega,p1 (zlc hc ht),p2 (zlc hc ht),trivial⟩,fun ht=>⟨by omega,⟨zK 0,qf _,by rw [qal]⟩,fun x2 h0=>?_⟩⟩⟩
 obtain ⟨q1,q2,q3⟩:=h0.get
 refine ⟨fun hx=>?_,fun hx=>?_⟩
 .have hb:=hG.bd x2 q1 hx
  have hg:=qni hb.2.1
  rw [<-hb.2.2.1] at hg
  rw [je q1 hx] at q3
  refine ⟨⟨q1,hx⟩,⟨hb.1,by omega⟩,⟨q1,hx⟩,⟨by omega,by omega⟩,⟨by omega,by omega⟩,fun hne=>⟨⟨q1,hx⟩,⟨hb.1,by omega⟩,?_⟩,fun he=>⟨⟨by omega,by omega⟩,rfl,rfl,⟨by omega,by omega,?_⟩,by simp only [qg1];omega⟩⟩
  .have hv:qs9 a2 (zw a1)=(6,ix a2 (ix (zw a1) x2).fro):=by
    rw [<-q3]
    simp only [qs9]
    rw [zF hne]
   exact ⟨p1 (zlb hc ht hv),p2 (zlb hc ht hv),trivial⟩
  .rw [<-q3]
   simp only [qs9]
   rw [zT he]
 .rw [qbj hx] at q3
  have hw:=zls (a3:=a3) hc ht q3.symm
  refine ⟨⟨zK 0,qf _,by rw [zq];rfl,by rw [qal]⟩,fun x5 x6 h2=>?_⟩
  obtain ⟨m1,m2,rfl,m4⟩:=h2.get
  have e0:=qf (zh (upto a3 x6))
  have e1:=qns a3 x6
  rw [<-hP] at e1
  refine ⟨fun hx6=>?_,fun hx6=>?_⟩
  .have hs:=hS _ (zm m1 hx6)
   have hl:=hs.2
   have hl1:0<=(ix a3 x6).Lead:=hl.1
   have hl2:(ix a3 x6).Lead<=ln (ix a3 x6).Signs:=hl.2
   have e:ln (zh (upto a3 x6))+ln (ix a3 x6).Signs-(ix a3 x6).Lead=ln (zh (upto a3 x6))+(ln (ix a3 x6).Signs-(ix a3 x6).Lead):=by omega
   have e2:ln (zh (upto a3 x6))+(ln (ix a3 x6).Signs-(ix a3 x6).Lead)=ln (zh (upto a3 (x6+1))):=by rw [zi m1 hx6,qex,zp,qj9 hl]
   have e3:=qns a3 (x6+1)
   rw [<-hP] at e3
   rw [je m1 hx6] at m4
   simp only [qn4] at m4
   have hno:¬ ((ix a3 x6).Catch=(qbg a1 (ln (zh (upto a3 x6))+(ln (ix a3 x6).Signs-(ix a3 x6).Lead))).1/\(ix a3 x6).Custos=(qbg a1 (ln (zh (upto a3 x6))+(ln (ix a3 x6).Signs-(ix a3 x6).Lead))).2)->j3 a0 a1 a2 a3=(3,x6):=by
    intro h
    rw [zF h] at m4
    rw [hw,<-m4]
   refine ⟨⟨m1,hx6⟩,⟨by omega,by omega⟩,⟨m1,hx6⟩,⟨by omega,by omega⟩,⟨by omega,by omega,by omega⟩,⟨m1,hx6⟩,fun k=>?_,fun k=>⟨⟨m1,hx6⟩,fun k'=>?_,fun k'=>⟨⟨by omega,by omega⟩,rfl,rfl,?_,by simp only [qg2];omega⟩⟩⟩
   .rw [e] at k
    have:=hno fun h=>k h.1
    exact ⟨p1 this,p2 this,trivial⟩
   .rw [e] at k'
    have:=hno fun h=>k' h.2
    exact ⟨p1 this,p2 this,trivial⟩
   .rw [e] at k k' ⊢
    rw [zT ⟨k,k'⟩] at m4
    exact ⟨by omega,by omega,e2,m4⟩
  .rw [qbj hx6] at m4
   have hz:j3 a0 a1 a2 a3=(0,0):=by rw [hw,<-m4];rfl
   exact ⟨p1 hz,p2 hz,trivial⟩
theorem q33 {l:List Sign} {i k:Int} (h0:0<=i) (h1:i<=k) (h2:k<ln l):sub l i (k+1)=sub l i k++[ix l k]:=by
 rw [qmn h0 (by omega),qmn h0 h1,show k+1-i=k-i+1 by omega,zi (by omega) (by rw [qsk h0 (by omega)];omega),zhz h0 (by omega),show i+(k-i)=k by omega]
theorem q00 {l:List Sign} {i k:Int} (h0:0<=i) (h1:i<=k) (h2:ln l<=k) (hi:i<=ln l):sub l i k=fr l i:=by
 rw [qmn h0 h1,js (by rw [qsk h0 hi];omega)]
theorem q32 {l:List Sign} {i:Int} (h0:0<=i):sub l i i=[]:=by rw [qmn h0 (zK i),Int.sub_self];rfl
theorem q9q (n:Int) (l:List Sign) (s:Sign):qln n (l++[s])=qln n l++[n]:=by simp [qln]
theorem zc9 (n:Int) (l:List Sign):ln (qln n l)=ln l:=by simp [qln,ln]
section
variable {a0:ZB} {a1:List Page} {o:List Int} {i e:Int} {nm:ZB} {S:List Sign}
theorem qzm (h:qcn a0 a1 o i nm S) (hi:i<ln (qa a1)):qfy ([],[]) 0 (qa a1) (zf a1) =
  if 12<=ix (zf a1) i then (11,i) else if zk (ix (qa a1) i) (j8 ([],[]) S).1 (j8 ([],[]) S).2≠0 then (zk (ix (qa a1) i) (j8 ([],[]) S).1 (j8 ([],[]) S).2,i)
  else qfy (j8 (j8 ([],[]) S) (qeg (ix (qa a1) i))) (i+1) (fr (qa a1) (i+1)) (fr (zf a1) (i+1)):=by
 have hl:=qe9 a1
 obtain ⟨h1,h2,h3,h4,h5,h6,h7⟩:=h.get
 rw [<-h7,je h1 hi,je h1 (by omega)]
 rfl
theorem ze2 (h:qcn a0 a1 o i nm S) (hi:i<ln (qa a1)) (h12:ix (zf a1) i<12) (hs:zk (ix (qa a1) i) (j8 ([],[]) S).1 (j8 ([],[]) S).2=e) (he:e≠0):qfy ([],[]) 0 (qa a1) (zf a1)=(e,i):=by
 rw [qzm h hi,zF (by omega),hs,zT he]
theorem zkc (h:qcn a0 a1 o i nm S) (hi:i<ln (qa a1)) (h12:ix (zf a1) i<12) (hs:zk (ix (qa a1) i) (j8 ([],[]) S).1 (j8 ([],[]) S).2=0) :
  qfy (j8 ([],[]) (S++qeg (ix (qa a1) i))) (i+1) (fr (qa a1) (i+1)) (fr (zf a1) (i+1))=qfy ([],[]) 0 (qa a1) (zf a1):=by
 rw [qzm h hi,zF (by omega),zF (by simp [hs]),q5b]
theorem qwv (hn:kh a0=true) (h:qfy ([],[]) 0 (qa a1) (zf a1)=(e,i)) (he:e≠0):qq a0 a1=(e,i):=by
 rw [<-qui]
 unfold qzk
 rw [zF (by simp [hn]),h,zT he]
theorem zlf (hn:kh a0=true) (h:qfy ([],[]) 0 (qa a1) (zf a1)=(0,i)):qq a0 a1=if a1.any (fun p=>decide (p.Staves=[]))=true then (2,ln (qa a1)) else j3 a0 (qt a1) (qlb 0 (qa a1)) (qa a1):=by
 rw [<-qui]
 unfold qzk
 rw [zF (by simp [hn]),h,zF (show ¬ ((0:Int)≠0) by decide)]
end
set_option maxHeartbeats 4000000 in
theorem q71 (a0:ZB) (a1:List Page) (hp:ln a0<=1000000000/\smB a1):qqn a0 a1:=by
 obtain ⟨hq,hs⟩:=hp
 have hst:=qc6 hs
 have hl:=hs.1
 have hlen:=qe9 a1
 unfold qqn
 refine ⟨by omega,fun hn=>⟨p1 (ze1 hn),p2 (ze1 hn),trivial⟩,fun hn=>⟨hs,⟨zK 0,qf _,rfl,by rw [zq];rfl,by rw [zq];rfl,(by rw [zq];intro s h;cases h),by rw [qal,qal];rfl⟩,fun x1 x2 x3 x4 h0=>?_⟩⟩
 have h0':=h0
 obtain ⟨g1,g2,rfl,rfl,rfl,g6,g7⟩:=h0.get
 have hup:∀ s ∈ upto (qa a1) x2,ln s.Signs<=500/\qil s:=fun s h=>⟨hst.2 s (qcv h),(g6 s h).1,Int.le_of_lt (g6 s h).2⟩
 have hS:=qgc hup
 have hui:=qdv g1 g2
 have hSn:=qf (zh (upto (qa a1) x2))
 have hOl:=qvp (upto (qa a1) x2) 0
 refine ⟨fun hi=>?_,fun hi=>?_⟩
 .have hm:=hst.2 _ (zm g1 hi)
  refine ⟨⟨g1,by omega⟩,fun h12=>?_,fun h12=>⟨⟨g1,hi⟩,fun h60=>?_,fun h60=>⟨⟨g1,hi⟩,fun hl0=>?_,fun hl0=>⟨⟨g1,hi⟩,⟨g1,hi⟩,fun hl1=>?_,fun hl1=>⟨⟨g1,hi⟩,⟨g1,hi⟩,⟨hl0,by omega⟩,⟨hSn,zK _,by omega⟩,?_,fun h6=>?_,fun h6=>⟨⟨g1,hi⟩,⟨zK _,by omega,rfl,?_,?_⟩,fun x12 x13 x14 x15 h1=>?_⟩⟩⟩⟩⟩⟩
  .have hc:=qzm h0' hi
   rw [zT h12] at hc
   exact ⟨p1 (qwv hn hc (by decide)),p2 (qwv hn hc (by decide)),trivial⟩
  .have hc:=ze2 (e:=11) h0' hi h12 (by unfold zk;rw [zT h60]) (by decide)
   exact ⟨p1 (qwv hn hc (by decide)),p2 (qwv hn hc (by decide)),trivial⟩
  .have hc:=ze2 (e:=2) h0' hi h12 (by unfold zk;rw [zF (by omega),zT hl0]) (by decide)
   exact ⟨p1 (qwv hn hc (by decide)),p2 (qwv hn hc (by decide)),trivial⟩
  .have hc:=ze2 (e:=2) h0' hi h12 (by unfold zk;rw [zF (by omega),zF (by omega),zT hl1]) (by decide)
   exact ⟨p1 (qwv hn hc (by decide)),p2 (qwv hn hc (by decide)),trivial⟩
  .rw [qdv hl0 (by omega)];omega
  .have h6':upto (ix (qa a1) x2).Signs (ix (qa a1) x2).Lead≠(j8 ([],[]) (zh (upto (qa a1) x2))).1++(j8 ([],[]) (zh (upto (qa a1) x2))).2:=by
    rw [<-q22]
    exact of_decide_eq_false h6
   have hc:=ze2 (e:=6) h0' hi h12 (by unfold zk;rw [zF (by omega),zF (by omega),zF (by omega),zF h6']) (by decide)
   exact ⟨p1 (qwv hn hc (by decide)),p2 (qwv hn hc (by decide)),trivial⟩
  .rw [q32 hl0,zJ]
  .rw [q32 hl0];simp [qln]
  .have h6':upto (ix (qa a1) x2).Signs (ix (qa a1) x2).Lead=(j8 ([],[]) (zh (upto (qa a1) x2))).1++(j8 ([],[]) (zh (upto (qa a1) x2))).2:=by
    rw [<-q22]
    exact of_decide_eq_true h6
   have hsg:zk (ix (qa a1) x2) (j8 ([],[]) (zh (upto (qa a1) x2))).1 (j8 ([],[]) (zh (upto (qa a1) x2))).2=0:=by unfold zk;rw [zF (by omega),zF (by omega),zF (by omega),zT h6']
   obtain ⟨k1,k2,rfl,rfl,rfl⟩:=h1.get
   have hsub:=zji hl0 k1 k2
   refine ⟨⟨g1,hi⟩,fun hk=>⟨⟨g1,hi⟩,⟨by omega,hk⟩,trivial,qb4 (by rw [zp];omega),trivial,qb4 (by rw [zp,zc9];omega),⟨by omega,by omega⟩,rfl,rfl,⟨by omega,by omega,rfl,?_,?_⟩,by simp only [qgq];omega⟩,
    fun hk=>⟨⟨by omega,by omega⟩,rfl,rfl,⟨by omega,by omega,rfl,?_,?_,?_,?_⟩,by simp only [qgp];omega⟩⟩
   .rw [q33 hl0 k1 hk,List.append_assoc]
   .rw [q33 hl0 k1 hk,q9q,List.append_assoc]
   .rw [q00 hl0 k1 hk (by omega),zi g1 hi,qex];rfl
   .rw [q00 hl0 k1 hk (by omega),zi g1 hi,qyn,hui,Int.zero_add];rfl
   .rw [zi g1 hi]
    intro s h
    rcases List.mem_append.1 h with h | h
    .exact g6 s h
    .rw [List.mem_singleton.1 h];exact ⟨hl0,hl1⟩
   .rw [q00 hl0 k1 hk (by omega)]
    exact zkc h0' hi h12 hsg
 .rw [js hi] at g6 hOl hS ⊢
  rw [qbj hi,qbj (by omega)] at g7
  have hT:qfy ([],[]) 0 (qa a1) (zf a1)=(0,x2):=by rw [<-g7];rfl
  have hc:=zlf hn hT
  refine ⟨⟨zK 0,qf _,(by rw [zq];intro p h;cases h)⟩,fun x7 h2=>?_⟩
  obtain ⟨q1,q2,q3⟩:=h2.get
  refine ⟨fun hx=>⟨⟨q1,hx⟩,fun he=>?_,fun he=>⟨⟨by omega,by omega⟩,rfl,rfl,rfl,rfl,⟨by omega,by omega,?_⟩,by simp only [qgr];omega⟩⟩,fun hx=>⟨⟨hq,hOl,rfl,hst.1,fun s h=>⟨hst.2 s h,(g6 s h).1,Int.le_of_lt (g6 s h).2⟩⟩,?_⟩⟩
  .rw [zT (List.any_eq_true.2 ⟨_,zm q1 hx,decide_eq_true (ln0 he)⟩)] at hc
   exact ⟨p1 hc,p2 hc,trivial⟩
  .rw [zi q1 hx]
   intro p h
   rcases List.mem_append.1 h with h | h
   .exact q3 p h
   .rw [List.mem_singleton.1 h]
    intro hh
    rw [hh] at he
    exact he rfl
  .rw [js hx] at q3
   rw [zF (by
    intro h
    obtain ⟨p,hp,hh⟩:=List.any_eq_true.1 h
    exact q3 p hp (of_decide_eq_true hh))] at hc
   exact ⟨pr1 hc,pr2 hc,trivial⟩
theorem zax (a0:ZB) (a1:List Page) (hp:ln a0<=1000000000/\smB a1):qtq a0 a1:=by
 have hst:=qc6 hp.2
 unfold qtq j5
 refine ⟨hp,fun h=>?_,fun h=>⟨hp.2,⟨zK 0,qf _,rfl,by rw [zq];rfl⟩,fun x1 x2 x3 h0=>?_⟩⟩
 .rw [zT h];exact ⟨rfl,rfl,rfl,trivial⟩
 .have hl:=qds h
  obtain ⟨g1,g2,rfl,rfl⟩:=h0.get
  have hS:=qgc (l:=upto (qa a1) x1) fun s hh=>⟨hst.2 s (qcv hh),hl s (qcv hh)⟩
  have hui:=qdv g1 g2
  refine ⟨fun hi=>?_,fun hi=>?_⟩
  .have hL:=hl _ (zm g1 hi)
   have hm:=hst.2 _ (zm g1 hi)
   have ho:=qj9 hL
   have hL1:0<=(ix (qa a1) x1).Lead:=hL.1
   refine ⟨⟨g1,hi⟩,⟨g1,hi⟩,hL,qbf (by show ln (zh (upto (qa a1) x1))+ln (qeg (ix (qa a1) x1))<=1000000000;omega),⟨by omega,by omega⟩,rfl,rfl,rfl,⟨by omega,by omega,rfl,?_⟩,by simp only [qh5,qha];omega⟩
   rw [zi g1 hi,qex];rfl
  .rw [zF (by simp [h]),js hi]
   exact ⟨rfl,rfl,rfl,trivial⟩
end Go.Proofs.YtlkfjinaiepocaaDoor
namespace Go.Proofs.YtlkfjinaiepocaaDoor
open Go Go.E2 Go.E3
set_option maxRecDepth 100000
theorem q4 {p:Int×Int×Int×Int} {a b c d:Int} (h:p=(a,b,c,d)):a=p.1/\b=p.2.1/\c=p.2.2.1/\d=p.2.2.2/\True:=by subst h;exact ⟨rfl,rfl,rfl,rfl,trivial⟩
section
variable {a0:ZB} {a1:List Page} {a2:Int}
theorem zkt (h:(qq a0 a1).1≠0):za a0 a1 a2=(0,0,0,(qq a0 a1).1):=by unfold za;rw [zT h]
theorem zjt (h:(qq a0 a1).1=0) (hx:a2<0):za a0 a1 a2=(0,0,0,2):=by unfold za;rw [zF (by simp [h]),zT hx]
theorem zg5 (h:(qq a0 a1).1=0) (hx:0<=a2):za a0 a1 a2=qvt (qa a1) (qbc 0 a1) (zf a1) a2:=by unfold za;rw [zF (by simp [h]),zF (by omega)]
end
theorem q8a (a0:ZB) (a1:List Page) (a2:Int) (hp:ln a0<=1000000000/\smB a1/\I64 a2):qqr a0 a1 a2:=by
 have hst:=qc6 hp.2.1
 have hl1:=qor a1 0
 have hl2:=qe9 a1
 unfold qqr
 refine ⟨⟨hp.1,hp.2.1⟩,fun h=>q4 (zkt h),fun h=>⟨hp.2.1,⟨zK 0,qf _,zK 0,by omega,fun ha=>⟨ha,by rw [qal,qal,qal,Int.sub_zero]⟩⟩,fun x1 x2 h0=>?_⟩⟩
 have hL:=qds h
 obtain ⟨g1,g2,g3,g4,g5⟩:=h0.get
 refine ⟨fun hi=>⟨fun ha=>?_,fun ha=>q4 (zjt h ha)⟩,fun hi=>?_⟩
 .have hm:=hst.2 _ (zm g1 hi)
  have hl:=hL _ (zm g1 hi)
  have hl3:0<=(ix (qa a1) x2).Lead:=hl.1
  have hl4:(ix (qa a1) x2).Lead<=ln (ix (qa a1) x2).Signs:=hl.2
  have g6:=g5 ha
  rw [je g1 hi,je g1 (by omega:x2<ln (qbc 0 a1)),je g1 (by omega:x2<ln (zf a1))] at g6
  simp only [qvt] at g6
  refine ⟨⟨g1,hi⟩,⟨g1,hi⟩,⟨by omega,by omega⟩,⟨by omega,by omega⟩,fun hlt=>⟨⟨g1,by omega⟩,⟨g1,by omega⟩,⟨g1,hi⟩,⟨by omega,by omega⟩,⟨by omega,by omega⟩,q4 ?_⟩,fun hge=>⟨⟨by omega,by omega⟩,⟨by omega,by omega⟩,rfl,rfl,⟨by omega,by omega,by omega,by omega,fun _=>⟨hge,?_⟩⟩,by simp only [qgu];omega⟩⟩
  .rw [zg5 h ha,<-g6.2,zT (by omega),show (ix (qa a1) x2).Lead+a2-x1=(ix (qa a1) x2).Lead+(a2-x1) by omega]
  .rw [<-g6.2,zF (by omega),show a2-(x1+(ln (ix (qa a1) x2).Signs-(ix (qa a1) x2).Lead))=a2-x1-(ln (ix (qa a1) x2).Signs-(ix (qa a1) x2).Lead) by omega]
 .by_cases ha:a2<0
  .exact q4 (zjt h ha)
  .have g6:=g5 (by omega)
   rw [qbj hi,qbj (by omega),qbj (by omega)] at g6
   exact q4 (by rw [zg5 h (by omega),<-g6.2];rfl)
theorem q77 (a0:ZB) (a1:List Page) (a2:Int) (hp:ln a0<=1000000000/\smB a1/\I64 a2):qqq a0 a1 a2:=by
 have hs:=hp.2.1
 have hl:=hs.1
 have h64:=hp.2.2
 have h64':a2<=9223372036854775807:=h64.2
 have hpg:∀ i,0<=i->i<ln a1->ln (ix a1 i).Staves<=500:=fun i h h'=>(hs.2 _ (zm h h')).1
 have hsg:∀ i j,0<=i->i<ln a1->0<=j->j<ln (ix a1 i).Staves->ln (ix (ix a1 i).Staves j).Signs<=500:=fun i j h h' g g'=>(hs.2 _ (zm h h')).2 _ (zm g g')
 unfold qqq
 refine ⟨⟨hp.1,hs⟩,fun h=>q4 (zkt h),fun h=>⟨fun ha=>⟨⟨zK 0,qf _,ha,zK _,by rw [qal]⟩,fun x2 x3 h0=>?_⟩,fun ha=>q4 (zjt h ha)⟩⟩
 have hL:=qds h
 obtain ⟨g1,g2,g3,g4,g5⟩:=h0.get
 refine ⟨fun hi=>⟨⟨g1,hi⟩,⟨zK 0,qf _,g3,g4,?_⟩,fun x6 x7 h1=>?_⟩,fun hi=>?_⟩
 .rw [qal,<-g5,je g1 hi];rfl
 .have gp:=hpg x3 g1 hi
  obtain ⟨k1,k2,k3,k4,k5⟩:=h1.get
  refine ⟨fun hk=>?_,fun hk=>⟨⟨by omega,by omega⟩,rfl,rfl,⟨by omega,by omega,k3,k4,?_⟩,by simp only [qgs];omega⟩⟩
  .have hm:=hsg x3 x7 g1 hi k1 hk
   have hle:=hL _ (List.mem_flatMap.2 ⟨_,zm g1 hi,zm k1 hk⟩)
   have hl3:0<=(ix (ix a1 x3).Staves x7).Lead:=hle.1
   have hl4:(ix (ix a1 x3).Staves x7).Lead<=ln (ix (ix a1 x3).Staves x7).Signs:=hle.2
   rw [je k1 hk] at k5
   simp only [qvl,List.map_cons,qlz,List.cons_append,qvt] at k5
   refine ⟨⟨k1,hk⟩,⟨by omega,by omega⟩,fun hlt=>⟨⟨by omega,by omega⟩,q4 ?_⟩,fun hge=>⟨⟨by omega,by omega⟩,⟨by omega,by omega⟩,⟨by omega,by omega⟩,rfl,rfl,rfl,⟨by omega,by omega,by omega,by omega,?_⟩,by simp only [qgt];omega⟩⟩
   .rw [zT hlt] at k5
    rw [zg5 h (by omega),<-k5,Int.add_comm]
   .rw [zF (by omega)] at k5
    exact k5
  .rw [qbj hk] at k5
   exact k5
 .rw [qbj hi] at g5
  exact q4 (by rw [zg5 h (by omega),<-g5];rfl)
section
variable {a0:ZB} {a1:List Page} {s:List Int} {r:List Bool} {a i j x:Int} {q:Bool}
theorem zlh (hs:smB a1) (hl:qk a1) (h0:0<=i) (hi:i<ln a1) (h:jw a0 a1 a q j s r i):-1<=a/\a<=200000000:=by
 obtain ⟨h1,h2,a',q',h3,h4,h5,h6⟩:=h
 have hm:=zm h0 hi
 have hL:∀ s ∈ (ix a1 i).Staves,qil s:=fun s hs=>hl s (List.mem_flatMap.2 ⟨_,hm,hs⟩)
 have hS:=hs.2 _ hm
 have e4:=qgc (l:=upto (ix a1 i).Staves j) fun s hs=>⟨hS.2 s (qcv hs),hL s (qcv hs)⟩
 have e5:=qdv h1 h2
 have e6:=q0y (g:=upto a1 i) (q0z hs) fun s hs=>by
  obtain ⟨p,hp,hs⟩:=List.mem_flatMap.1 hs
  exact hl s (List.mem_flatMap.2 ⟨p,qcv hp,hs⟩)
 have e7:=qf (qt (upto a1 i))
 have e8:=qf (zh (upto (ix a1 i).Staves j))
 have e9:=hS.1
 omega
end
set_option maxHeartbeats 4000000 in
theorem q8g (a0:ZB) (a1:List Page) (hp:ln a0<=1000000000/\smB a1):qqu a0 a1:=by
 have hs:=hp.2
 have hl':=hs.1
 have hpg:∀ i,0<=i->i<ln a1->ln (ix a1 i).Staves<=500:=fun i h h'=>(hs.2 _ (zm h h')).1
 unfold qqu zx
 refine ⟨hp,fun h=>?_,fun h=>⟨(t00:zy a0 a1 [] [] (-1) false 0),fun x1 x2 x3 x4 x5 h0=>⟨fun hi=>?_,fun hi=>?_⟩⟩⟩
 .rw [zT h];exact ⟨rfl,rfl,rfl,trivial⟩
 .have hl:=qds h
  have g0:=gt0 h0
  have gp:=hpg x5 g0.1 hi
  refine ⟨t10 h0,fun x8 x9 x10 h1=>⟨⟨g0.1,hi⟩,fun hj=>?_,fun hj=>?_⟩⟩
  .have g1:=gt1 h1
   have hL:=hl _ (List.mem_flatMap.2 ⟨_,zm g0.1 hi,zm g1.1 hj⟩)
   have hL0:0<=(ix (ix a1 x5).Staves x10).Lead:=hL.1
   have hL1:(ix (ix a1 x5).Staves x10).Lead<=ln (ix (ix a1 x5).Staves x10).Signs:=hL.2
   have hlen:=qsk hL0 hL1
   have hsg:ln (ix (ix a1 x5).Staves x10).Signs<=500:=(hs.2 _ (zm g0.1 hi)).2 _ (zm g1.1 hj)
   refine ⟨⟨g0.1,hi⟩,⟨g1.1,hj⟩,⟨zK _,by rw [Int.sub_self];exact t20 h1⟩,fun x13 x14 x15 h2=>⟨fun hx=>?_,fun hx=>?_⟩⟩
   .obtain ⟨h2a,h2b⟩:=h2.get
    have g2:=gt2 hs hl h0 hi ⟨g1.1,hj⟩ h2b
    have hx':x15-(ix (ix a1 x5).Staves x10).Lead<ln (fr (ix (ix a1 x5).Staves x10).Signs (ix (ix a1 x5).Staves x10).Lead):=by omega
    have ei:ix (fr (ix (ix a1 x5).Staves x10).Signs (ix (ix a1 x5).Staves x10).Lead) (x15-(ix (ix a1 x5).Staves x10).Lead)=ix (ix (ix a1 x5).Staves x10).Signs x15:=by
     rw [zhz hL0 (by omega)];congr 1;omega
    have mk:∀ b,zz a0 a1 (x13-1+1) b (x15-(ix (ix a1 x5).Staves x10).Lead+1) x1 x2 x5 x10->qbu a0 a1 (x13+1) b (x15+1) x1 x2 x5 x10:=by
     intro b hb
     refine ⟨by omega,?_⟩
     rw [show x13+1-1=x13-1+1 by omega,show x15+1-(ix (ix a1 x5).Staves x10).Lead=x15-(ix (ix a1 x5).Staves x10).Lead+1 by omega]
     exact hb
    have ta:=fun hk=>t2a h2b hx' hk
    have tb:=fun hk=>t2b h2b hx' hk
    rw [ei] at ta tb
    have hm:∀ b,jd a0 a1 (x13+1) b (x15+1) x1 x2 x5 x10<jd a0 a1 x13 x14 x15 x1 x2 x5 x10:=fun b=>by simp only [jd];omega
    refine ⟨⟨by omega,by omega⟩,⟨by omega,hx⟩,fun k=>⟨⟨by omega,by omega⟩,rfl,rfl,rfl,rfl,rfl,rfl,?_,hm _⟩,fun k=>⟨fun k'=>⟨⟨by omega,by omega⟩,rfl,rfl,rfl,rfl,rfl,rfl,?_,hm _⟩,fun k'=>⟨fun k''=>⟨⟨by omega,by omega⟩,rfl,rfl,rfl,rfl,rfl,rfl,?_,hm _⟩,fun k''=>⟨⟨by omega,by omega⟩,rfl,rfl,rfl,rfl,rfl,rfl,?_,hm _⟩⟩⟩⟩
    .have:=ta (.inl k)
     rw [decide_eq_false (by omega)] at this
     exact mk _ this
    .have:=ta (.inr (.inl k'))
     rw [decide_eq_false (by omega)] at this
     exact mk _ this
    .have:=ta (.inr (.inr k''))
     rw [decide_eq_true k''] at this
     exact mk _ this
    .exact mk _ (tb fun hh=>by rcases hh with hh | hh | hh;exact k hh;exact k' hh;exact k'' hh)
   .obtain ⟨h2a,h2b⟩:=h2.get
    exact ⟨⟨by omega,by omega⟩,rfl,rfl,t21 ⟨g1.1,hj⟩ h2b (by omega),by simp only [qgw];omega⟩
  .have gb:=zlh hs hl g0.1 hi h1
   have l1:∀ {α:Type} (l:List α),((l.length:Nat):Int)=ln l:=fun _=>rfl
   refine ⟨⟨by omega,by omega⟩,fun hn=>⟨⟨by omega,by omega⟩,trivial,qbf (by have:=l1 x1;simp [ln] at *;omega),trivial,qbf (by simp [ln] at *;omega),⟨by omega,by omega⟩,rfl,rfl,?_,by simp only [qb0];omega⟩,fun hn=>⟨⟨by omega,by omega⟩,rfl,rfl,t1b h0 hi hn h1 hj,by simp only [qb0];omega⟩⟩
   exact t1a h0 hn h1 hj
 .rw [zF (by simp [h])]
  have e:=t0e h0 hi
  exact ⟨pr1 e.symm,pr2 e.symm,rfl,trivial⟩
theorem q6h:∀ {g:List Page} {b:Bool},(∀ p ∈ g,ln p.Staves<=500/\∀ s ∈ p.Staves,ln s.Signs<=500)->ln (qnc b g)<=250001 * ln g
 | [],_,_=>by simp [qnc,ln]
 | p::g,b,h=>by
  have ih:=q6h (g:=g) (b:=true) fun p hp=>h p (zG _ hp)
  have hp:=h p zC
  have h1:ln (wrS p.Staves)<=500 * ln p.Staves:=qbs (by decide) hp.2
  have h2:ln (if b=true then [zd6] else [])<=1:=by cases b<;>simp [ln]
  rw [qnc,zp,zp,qbb]
  omega
section
variable {a0 nm:ZB} {a1:List Page} {S:List Sign} {i k:Int}
theorem zeb (hs:smB a1) (h:qai a0 a1 i nm S):ln S<=125000500:=by
 have h1:=q6h (b:=false) hs.2
 have h2:=hs.1
 have h3:=h.get.2.2.2
 rw [<-h3,zp] at h1
 have:=qf (qnc (decide (0<i)) (fr a1 i))
 omega
theorem q04 (hs:smB a1) (h:jk a0 a1 k nm S i):ln S<=125000500:=by
 have h1:=q6h (b:=false) hs.2
 have h2:=hs.1
 have h3:=h.get.2.2.2
 rw [<-h3,zp] at h1
 have:=qf (wrS (fr (ix a1 i).Staves k)++qnc true (fr a1 (i+1)))
 omega
theorem zk6:qai a0 a1 0 a0 []:=⟨zK 0,qf _,rfl,by rw [qal];rfl⟩
theorem zk9 (h:qai a0 a1 i nm S) (hi:i<ln a1) (hz:0<i):jk a0 a1 0 nm (S++[zd6]) i:=by
 obtain ⟨h1,h2,h3,h4⟩:=h.get
 refine ⟨zK 0,qf _,h3,?_⟩
 rw [qal,<-h4,je h1 hi,decide_eq_true hz]
 simp [qnc]
theorem zk8 (h:qai a0 a1 i nm S) (hi:i<ln a1) (hz:i<=0):jk a0 a1 0 nm S i:=by
 obtain ⟨h1,h2,h3,h4⟩:=h.get
 refine ⟨zK 0,qf _,h3,?_⟩
 rw [qal,<-h4,je h1 hi,decide_eq_false (by omega)]
 simp [qnc]
theorem zhm (h:jk a0 a1 k nm S i) (hk:k<ln (ix a1 i).Staves):jk a0 a1 (k+1) nm (S++(ix (ix a1 i).Staves k).Signs) i:=by
 obtain ⟨h1,h2,h3,h4⟩:=h.get
 refine ⟨by omega,by omega,h3,?_⟩
 rw [<-h4,je h1 hk]
 simp [wrS]
theorem zhl (h0:0<=i) (hi:i<ln a1) (h:jk a0 a1 k nm S i) (hk:ln (ix a1 i).Staves<=k):qai a0 a1 (i+1) nm S:=by
 obtain ⟨h1,h2,h3,h4⟩:=h.get
 refine ⟨by omega,by omega,h3,?_⟩
 rw [qbj hk] at h4
 rw [<-h4,decide_eq_true (by omega)]
 rfl
theorem zk7 (h:qai a0 a1 i nm S) (hi:ln a1<=i):nm=a0/\S=qnc false a1:=by
 obtain ⟨h1,h2,h3,h4⟩:=h.get
 rw [qbj hi] at h4
 exact ⟨h3,by rw [<-h4];simp [qnc]⟩
end
theorem zbi (a0:ZB) (a1:List Page) (hp:ln a0<=1000000000/\smB a1):qt3 a0 a1:=by
 have hs:=hp.2
 have hl':=hs.1
 have hpg:∀ i,0<=i->i<ln a1->ln (ix a1 i).Staves<=500:=fun i h h'=>(hs.2 _ (zm h h')).1
 have hsg:∀ i j,0<=i->i<ln a1->0<=j->j<ln (ix a1 i).Staves->ln (ix (ix a1 i).Staves j).Signs<=500:=fun i j h h' g g'=>(hs.2 _ (zm h h')).2 _ (zm g g')
 unfold qt3 jb
 refine ⟨hp,fun h=>?_,fun h=>⟨zk6,fun x1 x2 x3 h0=>?_⟩⟩
 .rw [zT h];exact ⟨rfl,rfl,rfl,trivial⟩
 .have g0:0<=x1:=h0.get.1
  have gl:=zeb hs h0
  refine ⟨fun hi=>⟨fun hz=>⟨trivial,qb4 (by omega),zk9 h0 hi hz,fun x7 x8 x9 h1=>?_⟩,fun hz=>⟨zk8 h0 hi hz,fun x7 x8 x9 h1=>?_⟩⟩,fun hi=>?_⟩
  .have gp:=hpg x1 g0 hi
   have k1:0<=x7:=h1.get.1
   have kl:=q04 hs h1
   refine ⟨⟨g0,hi⟩,fun hk=>⟨⟨g0,hi⟩,⟨k1,hk⟩,qbf (by have:=hsg x1 x7 g0 hi k1 hk;omega),⟨by omega,by omega⟩,rfl,rfl,rfl,zhm h1 hk,by simp only [qat];omega⟩,fun hk=>⟨⟨by omega,by omega⟩,rfl,rfl,rfl,zhl g0 hi h1 hk,by simp only [qas];omega⟩⟩
  .have gp:=hpg x1 g0 hi
   have k1:0<=x7:=h1.get.1
   have kl:=q04 hs h1
   refine ⟨⟨g0,hi⟩,fun hk=>⟨⟨g0,hi⟩,⟨k1,hk⟩,qbf (by have:=hsg x1 x7 g0 hi k1 hk;omega),⟨by omega,by omega⟩,rfl,rfl,rfl,zhm h1 hk,by simp only [qat];omega⟩,fun hk=>⟨⟨by omega,by omega⟩,rfl,rfl,rfl,zhl g0 hi h1 hk,by simp only [qas];omega⟩⟩
  .obtain ⟨rfl,rfl⟩:=zk7 h0 hi
   rw [zF (by simp [h])]
   refine ⟨fun hb=>?_,fun hb=>?_⟩
   .rw [zT hb];exact ⟨rfl,rfl,rfl,trivial⟩
   .rw [zF (by omega)];exact ⟨rfl,rfl,rfl,trivial⟩
theorem zbf (a0:ZB) (a1:List Page) (hp:ln a0<=1000000000/\smB a1):qt2 a0 a1:=by
 have hs:=hp.2
 have hl':=hs.1
 have hpg:∀ i,0<=i->i<ln a1->ln (ix a1 i).Staves<=500:=fun i h h'=>(hs.2 _ (zm h h')).1
 have hsg:∀ i j,0<=i->i<ln a1->0<=j->j<ln (ix a1 i).Staves->ln (ix (ix a1 i).Staves j).Signs<=500:=fun i j h h' g g'=>(hs.2 _ (zm h h')).2 _ (zm g g')
 unfold qt2 jb
 refine ⟨hp,fun h=>?_,fun h=>⟨zk6,fun x1 x2 x3 h0=>?_⟩⟩
 .rw [zT h];exact ⟨rfl,rfl,rfl,trivial⟩
 .have g0:0<=x1:=h0.get.1
  have gl:=zeb hs h0
  refine ⟨fun hi=>⟨⟨g0,hi⟩,fun hz=>⟨trivial,qb4 (by omega),zk9 h0 hi hz,fun x7 x8 x9 h1=>?_⟩,fun hz=>⟨zk8 h0 hi hz,fun x7 x8 x9 h1=>?_⟩⟩,fun hi=>?_⟩
  .have gp:=hpg x1 g0 hi
   have k1:0<=x7:=h1.get.1
   have kl:=q04 hs h1
   refine ⟨fun hk=>⟨⟨k1,hk⟩,qbf (by have:=hsg x1 x7 g0 hi k1 hk;omega),⟨by omega,by omega⟩,rfl,rfl,rfl,rfl,zhm h1 hk,by simp only [qcp,qat];omega⟩,fun hk=>⟨⟨by omega,by omega⟩,rfl,rfl,rfl,zhl g0 hi h1 hk,by simp only [qco,qas];omega⟩⟩
  .have gp:=hpg x1 g0 hi
   have k1:0<=x7:=h1.get.1
   have kl:=q04 hs h1
   refine ⟨fun hk=>⟨⟨k1,hk⟩,qbf (by have:=hsg x1 x7 g0 hi k1 hk;omega),⟨by omega,by omega⟩,rfl,rfl,rfl,rfl,zhm h1 hk,by simp only [qcp,qat];omega⟩,fun hk=>⟨⟨by omega,by omega⟩,rfl,rfl,rfl,zhl g0 hi h1 hk,by simp only [qco,qas];omega⟩⟩
  .obtain ⟨rfl,rfl⟩:=zk7 h0 hi
   rw [zF (by simp [h])]
   refine ⟨fun hb=>?_,fun hb=>?_⟩
   .rw [zT hb];exact ⟨rfl,rfl,rfl,trivial⟩
   .rw [zF (by omega)];exact ⟨rfl,rfl,rfl,trivial⟩
end Go.Proofs.YtlkfjinaiepocaaDoor
namespace Go.Proofs.YtlkfjinaiepocaaDoor
open Go Go.E2 Go.E3
set_option maxRecDepth 100000
theorem zcp {a0:ZB} {a1:List Page} (h:qes a0 a1=true):ln a0<=1000000000/\smB a1/\okB a1/\ln (qt a1)<=10000000/\ln a1<=500:=by
 obtain ⟨h1,h2,h3,_⟩:=of_decide_eq_true h
 have hb:∀ p ∈ a1,ln p.Staves<=500/\∀ s ∈ p.Staves,ln s.Signs<=500:=fun p hp=>⟨by have:=(h3 p hp).1;omega,fun s hs=>by have:=(h3 p hp).2 s hs;omega⟩
 refine ⟨by omega,⟨by omega,hb⟩,fun p hp=>⟨by have:=(hb p hp).1;omega,fun s hs=>by have:=(hb p hp).2 s hs;omega⟩,?_,by omega⟩
 have e1:ln (qa a1)<=15 * ln a1:=qbs (by decide) fun p hp=>(h3 p hp).1
 have e2:ln (zh (qa a1))<=70 * ln (qa a1):=qbs (by decide) fun s hs=>by
  obtain ⟨p,hp,hs⟩:=List.mem_flatMap.1 hs
  have:=(h3 p hp).2 s hs
  have e:ln (qeg s)<=ln s.Signs:=by simp only [qeg,fr,ln,List.length_drop];omega
  omega
 show ln (zh (qa a1))<=_
 omega
theorem qs5:∀ (g:List Page) (a:Int) (r:Bool),ln (qam a r g).1<=ln g/\ln (qam a r g).2<=ln g
 | [],_,_=>by simp [qam,ln]
 | p::g,a,r=>by
  by_cases h:g=[]
  .simp only [qam,zT h];exact ⟨by rw [qbb,qz3];have:=qf g;omega,by rw [qbb,qz3];have:=qf g;omega⟩
  .have ih:=qs5 g (a+ln (zh p.Staves)) (qhb r (zh p.Staves))
   simp only [qam,zF h,qbb]
   omega
theorem qz1 (a0:ZB) (a1:List Page) (a2:Int) (hp:ln a0<=9223372036854775807/\ln a1<=9223372036854775807/\(∀ p ∈ a1,ln p.Staves<=9223372036854775807/\∀ s ∈ p.Staves,ln s.Signs<=9223372036854775807)/\I64 a2):qk0 a0 a1 a2:=by
 obtain ⟨q1,q2,q3,q4⟩:=hp
 unfold qk0
 refine ⟨⟨q1,q2,q3⟩,fun _=>⟨trivial,rfl,trivial⟩,fun h=>?_⟩
 obtain ⟨hn,hs,ho,hb,hl⟩:=zcp h
 have hB:ln (j5 a0 a1).2.1<=10000000:=by
  unfold j5
  split
  .simp [ln]
  .exact hb
 have hT:=qs5 a1 (-1) false
 have hT1:ln (zx a0 a1).1<=1000000000:=by
  unfold zx
  split
  .simp [ln]
  .dsimp only;omega
 have hT2:ln (zx a0 a1).2.1<=1000000000:=by
  unfold zx
  split
  .simp [ln]
  .dsimp only;omega
 have hW:ln (jb a0 a1).2.1<=10000000:=by
  unfold jb
  split
  .simp [ln]
  .split
   .simp [ln]
   .dsimp only;omega
 have s1:∀ (n:ZB) (l:List Sign),kj n l n l=true:=fun n l=>decide_eq_true ⟨rfl,rfl⟩
 have s2:∀ l:List Int,qkc l l=true:=fun l=>decide_eq_true rfl
 have s3:∀ l:List Bool,qkd l l=true:=fun l=>decide_eq_true rfl
 have s4:qhk a0 a1 a0 a1=true:=decide_eq_true ⟨rfl,rfl⟩
 refine ⟨hs,⟨hn,hs⟩,⟨hn,hs⟩,fun k=>absurd rfl k,fun _=>⟨fun k=>absurd rfl k,fun _=>⟨⟨hn,hs⟩,⟨hn,hs⟩,hB,fun k=>?_,fun _=>⟨fun k=>absurd rfl k,fun _=>⟨⟨hn,hs,q4⟩,⟨hn,hs,q4⟩,fun k=>absurd rfl k,fun _=>⟨fun k=>absurd rfl k,fun _=>⟨fun k=>absurd rfl k,fun _=>⟨fun k=>absurd rfl k,fun _=>
  ⟨⟨hn,hs⟩,⟨hn,hs⟩,hT1,fun k=>?_,fun _=>⟨hT2,fun k=>?_,fun _=>⟨fun k=>absurd rfl k,fun _=>⟨⟨hn,hs⟩,⟨hn,hs⟩,hW,fun _=>⟨fun _=>⟨⟨hl,ho⟩,fun _=>⟨trivial,rfl,trivial⟩,fun k=>?_⟩,fun k=>absurd rfl k⟩,fun k=>?_⟩⟩⟩⟩⟩⟩⟩⟩⟩⟩⟩⟩
 .rw [s1] at k;cases k
 .rw [s2] at k;cases k
 .rw [s3] at k;cases k
 .rw [s4] at k;cases k
 .rw [s1] at k;cases k
end Go.Proofs.YtlkfjinaiepocaaDoor
