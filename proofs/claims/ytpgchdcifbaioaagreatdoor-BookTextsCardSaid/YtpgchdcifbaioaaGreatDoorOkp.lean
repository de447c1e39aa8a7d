import Derived.Test.YtpgchdcifbaioaaGreatDoorVcs
import Derived.Test.YtpgchdcifbaioaaGreatDoorVct
namespace Go.Proofs.YtpgchdcifbaioaaGreatDoor
open Go Go.E2 Go.E3
set_option maxRecDepth 100000
section
theorem q61 (b:Int):qsb b=true↔((97<=b/\b<=122)∨(48<=b/\b<=57)∨b=45):=by
 simp only [qsb,qzt,Bool.or_eq_true,zA,decide_eq_true_eq];omega
theorem q60 (s:ZB):jh s=true↔(1<=ln s/\ln s<=20/\97<=bx s 0/\bx s 0<=122/\∀ j,0<=j->j<ln s->qsb (bx s j)=true):=by
 simp only [jh,qzt,zA,decide_eq_true_eq,List.all_eq_true];constructor
 .rintro ⟨⟨⟨a,c⟩,d,e⟩,f⟩;exact ⟨a,c,d,e,λj g h=>f _ (qam g h)⟩
 .rintro ⟨a,c,d,e,f⟩;refine ⟨⟨⟨a,c⟩,d,e⟩,λb k=>?_⟩;obtain ⟨i,l,m,rfl⟩:=q2e k;exact f i l m
theorem q9o {s:ZB} (h:1<=ln s/\ln s<=20/\97<=bx s 0/\bx s 0<=122/\∀ j,0<=j->j<ln s->qsb (bx s j)=true):true=jh s:=((q60 s).2 h).symm
theorem qvb {s:ZB} (h:¬ (1<=ln s/\ln s<=20/\97<=bx s 0/\bx s 0<=122/\∀ j,0<=j->j<ln s->qsb (bx s j)=true)):false=jh s:=by
 cases a:jh s with
 | false=>rfl
 | true=>exact absurd ((q60 s).1 a) h
theorem q62 {s:ZB} {i:Int} (h:∀ j,0<=j->j<i->qsb (bx s j)=true) (hi:(97<=bx s i/\bx s i<=122)∨(48<=bx s i/\bx s i<=57)∨bx s i=45):∀ j,0<=j->j<i+1->qsb (bx s j)=true:=by
 intro j a c;by_cases b:j=i
 .subst b;exact (q61 _).2 hi
 .exact h j a (by omega)
theorem zdc {s:ZB} {i:Int} (a:0<=i) (h:i<ln s) (hi:¬ ((97<=bx s i/\bx s i<=122)∨(48<=bx s i/\bx s i<=57)∨bx s i=45)):false=jh s:=
 qvb λb=>hi ((q61 _).1 (b.2.2.2.2 i a h))
theorem zqh (a0:ZB) (f:ln a0<=9223372036854775806):qz8 a0:=by
 unfold qz8;dsimp only;have g:=ln_nonneg a0
 unhygienic (repeat' (first | exact trivial | exact And.intro (by omega) trivial | apply And.intro | intro))
 all_goals try simp only [qb1,jm] at *
 all_goals first
  | omega
  | exact ⟨by omega,by omega,λj b h=>absurd h (by omega)⟩
  | (refine qvb λi=>?_;omega)
  | (exact q62 a_4.2.2 (by omega) j ‹_› ‹_›)
  | (obtain ⟨c,e,d⟩:=a_4;exact zdc c ‹_› (by omega))
  | (obtain ⟨c,e,d⟩:=a_4;exact q9o ⟨by omega,by omega,by omega,by omega,λj b h=>d j b (by omega)⟩)
theorem zqe (a0:ZB) (n:ln a0<=9223372036854775806):qz7 a0:=by
 unfold qz7;dsimp only;have o:=ln_nonneg a0;have l:a0=[]->ln a0=0:=λh=>by rw [h];rfl
 have b:a0≠[]->1<=ln a0:=λh=>by
  rcases Nat.eq_zero_or_pos a0.length with e | e
  .exact absurd (List.length_eq_zero_iff.1 e) h
  .simp only [ln];omega
 unhygienic (repeat' (first | exact trivial | exact And.intro (by omega) trivial | apply And.intro | intro))
 all_goals try simp only [qb0,jl] at *
 all_goals first
  | omega
  | exact ⟨by omega,by omega,λj c h=>absurd h (by omega)⟩
  | (have f:=b ‹_›;omega)
  | (have f:=l ‹_›;refine qvb λg=>?_;omega)
  | (refine qvb λg=>?_;omega)
  | (exact q62 a.2.2 (by omega) j ‹_› ‹_›)
  | (obtain ⟨i,m,k⟩:=a;exact zdc i ‹_› (by omega))
  | (obtain ⟨i,m,k⟩:=a;exact q9o ⟨by omega,by omega,by omega,by omega,λj c h=>k j c (by omega)⟩)
  | skip
 .have f:=b a_2;by_cases d:bx a0 0<=122
  .rw [decide_eq_true d];exact q9o ⟨by omega,by omega,by omega,d,λj c h=>a.2.2 j c (by omega)⟩
  .rw [decide_eq_false d];exact qvb λg=>by omega
theorem zlw (a0 b a2 a3:Int):qv3 a0 b a2 a3:=by
 unfold qv3
 unhygienic (repeat' (first | exact trivial | apply And.intro | intro))
 all_goals try simp only [qa9,ka] at *
 all_goals first
  | omega
  | (unfold qbe;split<;>omega)
theorem zfa (a0 b a2 a3:Int):qsk a0 b a2 a3:=by
 have g:ix [a0,b,a2,a3] 0=a0:=rfl;have p:ix [a0,b,a2,a3] 1=b:=rfl;have q:ix [a0,b,a2,a3] 2=a2:=rfl;have r:ix [a0,b,a2,a3] 3=a3:=rfl;have s:ln [a0,b,a2,a3]=4:=rfl;have k:∀ i,0<=i->i<4->ix [a0,b,a2,a3] i≠2->ix [a0,b,a2,a3] i≠3->qbe a0 b a2 a3=12:=by
  intro i c e t u;have:i=0∨i=1∨i=2∨i=3:=by omega
  unfold qbe;rcases this with rfl | rfl | rfl | rfl
  all_goals rw [zF (by omega)]
 have l:(∀ j,0<=j->j<4->(ix [a0,b,a2,a3] j=2∨ix [a0,b,a2,a3] j=3))->qbe a0 b a2 a3=0:=by
  intro h;have v:=h 0 (by omega) (by omega);have w:=h 1 (by omega) (by omega);have y:=h 2 (by omega) (by omega);have z:=h 3 (by omega) (by omega);unfold qbe;rw [zT (by omega)]
 have m:∀ i,(∀ j,0<=j->j<i->(ix [a0,b,a2,a3] j=2∨ix [a0,b,a2,a3] j=3))->(ix [a0,b,a2,a3] i=2∨ix [a0,b,a2,a3] i=3)->∀ j,0<=j->j<i+1->(ix [a0,b,a2,a3] j=2∨ix [a0,b,a2,a3] j=3):=by
  intro i h hi j d n;by_cases o:j=i
  .rw [o];exact hi
  .exact h j d (by omega)
 unfold qsk;dsimp only
 unhygienic (repeat' (first | exact trivial | exact And.intro (by omega) trivial | apply And.intro | intro))
 all_goals try simp only [qe6,qd2,z7p] at *
 all_goals first
  | omega
  | exact ⟨by omega,by omega,λj g h=>absurd h (by omega)⟩
  | (exact m _ a.2.2 (by omega) j ‹_› ‹_›)
  | (obtain ⟨c,e,f⟩:=a;exact (k _ c (by omega) ‹_› ‹_›).symm)
  | (obtain ⟨c,e,f⟩:=a;exact (l λj d n=>f j d (by omega)).symm)
theorem z1t (a0 h a2 a3:Int) (a4:Bool) (a5:Int) (i j:Bool) (k a9 b c:Int) (a12:Bool) (d e f g:Int):zak a0 h a2 a3 a4 a5 i j k a9 b c a12 d e f g:=by
 unfold zak;dsimp only;simp only [jr]
 unhygienic (repeat' (first | exact trivial | apply And.intro | intro))
 all_goals simp_all
theorem zor (a0 h a2 a3:Int) (a4:Bool) (a5:Int) (i j:Bool) (k a9 b c:Int) (a12:Bool) (d e f g:Int):qxb a0 h a2 a3 a4 a5 i j k a9 b c a12 d e f g:=by
 unfold qxb;dsimp only
 unhygienic (repeat' (first | exact trivial | apply And.intro | intro))
 all_goals grind (splits:=40) [qdg]
theorem zxp (a0 h a2 a3:Int) (a4:Bool) (a5:Int) (i j:Bool) (k a9 b c:Int) (a12:Bool) (d e f g:Int):q8c a0 h a2 a3 a4 a5 i j k a9 b c a12 d e f g:=by
 unfold q8c;dsimp only
 unhygienic (repeat' (first | exact trivial | apply And.intro | intro))
 all_goals try omega
 all_goals grind (splits:=40) [zg,q18,qbe,jr]
theorem zfi (a0:ZB) (b:List Sign) (c:ln a0<=1000000000/\ln b<=1000000000):qsm a0 b:=by
 unfold qsm;dsimp only
 try simp only [q3j]
 unhygienic (repeat' (first | exact trivial | exact And.intro (by omega) trivial | apply And.intro | intro))
 all_goals try simp only [qdq,qb2] at *
 all_goals first
  | omega
  | skip
 all_goals grind [z8,quh,qzm,qzl,qqc,zrm,ins]
theorem zff (a0:ZB) (b:List Sign) (c:ln a0<=1000000000/\ln b<=1000000000):qsl a0 b:=by
 unfold qsl;dsimp only
 try simp only [q3j]
 unhygienic (repeat' (first | exact trivial | exact And.intro (by omega) trivial | apply And.intro | intro))
 all_goals try simp only [qaz,kb] at *
 all_goals first
  | omega
  | skip
 all_goals grind [z8,quh,qzm,qzl,qqc,zrm,ins]
end
section
theorem zo4 {a b:List Sign} (h:a=b):qfl a b=true:=decide_eq_true h
theorem zee {a b:List Sign} (h:a≠b):qfl a b=false:=decide_eq_false h
theorem zwf {a b:Sign} (k:a.Kind=b.Kind) (l:a.Value=b.Value) (m:a.Place=b.Place) (n:a.Acc=b.Acc) (o:a.Color=b.Color) (p:a.Stem=b.Stem) (q:a.Oblique=b.Oblique) (r:a.Last=b.Last) (s:a.MensMax=b.MensMax) (c:a.MensMod=b.MensMod) (d:a.MensTem=b.MensTem) (e:a.MensPro=b.MensPro) (f:a.Stroke=b.Stroke) (g:a.N=b.N) (h:a.D=b.D) (i:a.ClefStep=b.ClefStep) (j:a.ClefLine=b.ClefLine):a=b:=by
 cases a;cases b;simp_all
theorem qt4 (a0 q:List Sign) (C:ln a0<=10000000):qt3 a0 q:=by
 refine ⟨λh=>⟨(zee λa=>h (by rw [a])).symm,trivial⟩,λr=>⟨⟨by omega,ln_nonneg _,λj b n=>by omega⟩,λx ⟨o,D,p⟩=>⟨λh=>⟨⟨o,h⟩,⟨o,by omega⟩,λc=>⟨(zee λa=>?_).symm,trivial⟩,λc=>⟨by omega,⟨by omega,by omega,λj b n=>?_⟩,?_⟩⟩,λh=>⟨(zo4 (qqp r λj b n=>p j b (by omega))).symm,trivial⟩⟩⟩⟩
 .subst a;simp at c
 .by_cases a:j=x
  .subst a;obtain ⟨s,t,u,v,w,y,z,A,B,d,e,f,g,i,k,l,m⟩:=c;exact zwf s t u v w y z A B d e f g i k l m
  .exact p j b (by omega)
 .simp only [qd5];omega
theorem zaa (a0:List Sign) (d:Int) (a2:Bool) (a3:Int) (a4:List Sign) (a5:Int) (e:Bool) (f:Int) (g:ln a0<=10000000):qvr a0 d a2 a3 a4 a5 e f:=by
 refine ⟨λa=>⟨λb=>⟨λc=>⟨g,?_,trivial⟩,λc=>⟨?_,trivial⟩⟩,λb=>⟨?_,trivial⟩⟩,λa=>⟨?_,trivial⟩⟩
 .simp only [qfl,qh9,Staff.mk.injEq,a,b,c,and_true]
 .simp [qh9,c]
 .simp [qh9,b]
 .simp [qh9,a]
theorem zo1 (a0:ZB) (b:List Page) (a2:ZB) (a3:List Page) (w:ln b<=5000/\okB b):qxf a0 b a2 a3:=by
 have no:¬ (a0=a2/\b=a3)->false=qmi a0 b a2 a3:=λh=>(decide_eq_false h).symm;have k:a0=a2->b=a3->true=qmi a0 b a2 a3:=λh z=>(decide_eq_true ⟨h,z⟩).symm;have a:∀ p q:Page,p.Staves=q.Staves->p=q:=λp q h=>by cases p;cases q;simp_all
 have t:∀ i,0<=i->i<ln b->ln (ix b i).Staves<=1000000000/\∀ s ∈ (ix b i).Staves,ln s.Signs<=10000000:=λi A h=>w.2 _ (qam A h);unfold qxf;simp only [qrt];refine ⟨λh=>⟨no λc=>h c.1,trivial⟩,λB=>⟨λh=>⟨no λc=>h (by rw [c.2]),trivial⟩,λC=>⟨⟨by omega,ln_nonneg _,λj d f=>by omega⟩,λx ⟨e,E,u⟩=>⟨λh=>⟨⟨e,h⟩,⟨e,by omega⟩,λl=>⟨no λc=>l (by rw [c.2]),trivial⟩,λl=>
  ⟨⟨by omega,ln_nonneg _,λj d f=>by omega⟩,λy ⟨n,F,v⟩=>⟨⟨e,h⟩,λo=>⟨⟨e,h⟩,⟨n,o⟩,⟨e,by omega⟩,⟨n,by omega⟩,(t x e h).2 _ (qam n o),λg=>⟨no λc=>?_,trivial⟩,λg=>⟨?_,trivial,trivial,trivial,trivial,⟨by omega,by omega,λj d f=>?_⟩,?_⟩⟩,λo=>⟨?_,trivial,trivial,trivial,trivial,⟨by omega,by omega,λj d f=>?_⟩,?_⟩⟩⟩⟩,
  λh=>⟨k B (qqp C λj d f=>u j d (by omega)),trivial⟩⟩⟩⟩⟩
 .rw [c.2] at g;simp [qh9] at g
 .have:=(t x e h).1;omega
 .by_cases r:j=y
  .subst r;exact of_decide_eq_true g
  .exact v j d (by omega)
 .simp only [qjl];omega
 .omega
 .by_cases r:j=x
  .subst r;exact a _ _ (qqp l λm D G=>v m D (by omega))
  .exact u j d (by omega)
 .simp only [qjk];omega
end
section
theorem zp8 (a0:List Sign) (c:ln a0<=10000000):zav a0:=by
 intro b a;refine ⟨λh=>⟨(a h).symm,trivial⟩,λ_=>⟨?_,by simp,trivial⟩⟩;simp only [qh,ln,List.length_nil] at *;omega
theorem zz1 (a0 a:List Sign) (b:ln a0<=1/\ln a<=1):zkq a0 a:=
 ⟨by omega,kz (by omega),rfl,trivial⟩
theorem zrh (a0 j:List Sign) (a2 a3 a4 a5:Int) (k:Bool) (l:Int) (m a9:Bool) (b c a12 d:Int) (e:Bool) (f g h i:Int):q0l a0 j a2 a3 a4 a5 k l m a9 b c a12 d e f g h i:=by
 unfold q0l qby
 dsimp only
 unhygienic (repeat' (first | exact trivial | apply And.intro | intro))
 all_goals simp_all
theorem zm2 (a0:List Sign) (f:ln a0<=1000000000):q5z a0:=by
 have c:∀ i,0<=i->i<ln a0->jf (fr a0 i)=if (ix a0 i).Kind=1∨(ix a0 i).Kind=4 then (true,(ix a0 i).Place) else jf (fr a0 (i+1)):=λi d h=>by
  rw [j5 d h,jf]
 have e:∀ i,ln a0<=i->jf (fr a0 i)=(false,0):=λi h=>by rw [qcn h];rfl
 refine ⟨⟨by omega,ln_nonneg _,by rw [qc9]⟩,λx ⟨a,g,b⟩=>⟨λh=>⟨⟨a,h⟩,λk=>?_,λk=>⟨λk'=>?_,λk'=>⟨by omega,⟨by omega,by omega,?_⟩,?_⟩⟩⟩,λh=>?_⟩⟩
 .rw [<-b,c x a h,zT (.inl k)];exact ⟨rfl,rfl,trivial⟩
 .rw [<-b,c x a h,zT (.inr k')];exact ⟨rfl,rfl,trivial⟩
 .rw [<-b,c x a h,zF (by omega)]
 .simp only [qji];omega
 .rw [<-b,e x h];exact ⟨rfl,rfl,trivial⟩
theorem zna (a0:List Sign) (c:Int) (e:0<=c/\c<=ln a0/\ln a0<=1000000000):q54 a0 c:=by
 have d:∀ i,0<=i->i<ln a0->jf (fr a0 i)=if (ix a0 i).Kind=1∨(ix a0 i).Kind=4 then (true,(ix a0 i).Place) else jf (fr a0 (i+1)):=λi f h=>by
  rw [j5 f h,jf]
 have g:∀ i,ln a0<=i->jf (fr a0 i)=(false,0):=λi h=>by rw [qcn h];rfl
 refine ⟨⟨e.1,e.2.1,rfl⟩,λx ⟨a,j,b⟩=>⟨λh=>⟨⟨a,h⟩,λk=>⟨⟨a,h⟩,?_⟩,λk=>⟨⟨a,h⟩,λk'=>⟨⟨a,h⟩,?_⟩,λk'=>⟨by omega,⟨by omega,by omega,?_⟩,?_⟩⟩⟩,λh=>?_⟩⟩
 .rw [<-b,d x a h,zT (.inl k)];exact ⟨rfl,rfl,trivial⟩
 .rw [<-b,d x a h,zT (.inr k')];exact ⟨rfl,rfl,trivial⟩
 .rw [<-b,d x a h,zF (by omega)]
 .simp only [qjj];omega
 .rw [<-b,g x h];exact ⟨rfl,rfl,trivial⟩
theorem z1o (a0:List Sign) (c:ln a0<=1000000000):zlh a0:=by
 refine ⟨⟨by omega,ln_nonneg _,by rw [qc9];rfl⟩,λx ⟨a,d,b⟩=>⟨λh=>⟨⟨a,h⟩,λk=>⟨?_,trivial⟩,λk=>⟨by omega,⟨by omega,by omega,?_⟩,?_⟩⟩,λh=>⟨?_,trivial⟩⟩⟩
 .rw [<-b,qnh a h,zT k]
 .rw [<-b,qnh a h,zF k]
 .simp only [qm8];omega
 .rw [<-b,q35 h]
theorem zt9 (a0:List Sign) (d:Int) (g:0<=d/\d<=ln a0/\ln a0<=1000000000):q19 a0 d:=by
 unfold q19
 try simp only [q3j]
 refine ⟨⟨by omega,g.1,rfl⟩,λc k i ⟨a,j,b⟩=>⟨λh=>⟨⟨a,by omega⟩,λe=>⟨⟨a,by omega⟩,trivial,by omega,⟨by omega,by omega,?_⟩,?_⟩,λe=>⟨λf=>⟨⟨a,by omega⟩,trivial,by omega,⟨by omega,by omega,?_⟩,?_⟩,λf=>⟨by omega,⟨by omega,by omega,?_⟩,?_⟩⟩⟩,λh=>⟨?_,?_,trivial⟩⟩⟩
 .rw [qop a,<-b,qby,zT e]
 .simp only [qbw];omega
 .rw [qop a,<-b,qby,zF e,zT f]
 .simp only [qbw];omega
 .rw [qop a,<-b,qby,zF e,zF f]
 .simp only [qbw];omega
 .have:=zni a0 i;rw [<-b] at this;exact kz (by dsimp only at this;omega)
 .have:i=d:=by omega
  subst this;unfold qu4;rw [<-b]
theorem zg9 (a0:List Sign) (r:ln a0<=1000000000):qtb a0:=by
 have d:∀ i to,tT a0 to=tT a0 (i+1)->¬ (to<ln a0/\(ix a0 (to-1)).Kind=4/\(ix a0 (to-1)).Last=false)->gE a0 i=if to<ln a0/\(ix a0 to).Kind=3 then to+1 else to:=by
  intro i to h e;unfold gE;rw [<-h,qz0 e]
 have f:∀ to,to<ln a0->(ix a0 (to-1)).Kind=4->(ix a0 (to-1)).Last=false->tT a0 to=tT a0 (to+1):=λto b c k=>zaj ⟨b,c,k⟩;have s:∀ (g:List Group) i j,i<ln a0->g++qn5 a0 i=qaq a0->gE a0 i=j->(g++[Group.mk i j])++qn5 a0 j=qaq a0:=λg i j h b c=>by
  subst c;rw [List.append_assoc,<-b,q1t h];rfl
 have l:∀ (g:List Group) i,ln a0<=i->g++qn5 a0 i=qaq a0->g=qaq a0:=λg i h b=>by
  rw [q88 h,zJ] at b;exact b
 have m:∀ (g:List Group) (a:Group),ln (g++[a])=ln g+1:=λg a=>qca g a;have n:∀ (g:List Group) (a:Group),ln g+1<=1000000000->qh (g.length + [a].length):=λg a h=>kk (by omega);have t:=ln_nonneg a0;have u:([]:List Group)++qn5 a0 0=qaq a0:=rfl;have o:ln ([]:List Group)=0:=rfl;have p:∀ i,0<=i->(ix a0 i).Kind≠4->¬ (i+1<ln a0/\(ix a0 (i+1-1)).Kind=4/\(ix a0 (i+1-1)).Last=false):=λi v h=>by
  rw [show i+1-1=i by omega];exact λq=>h q.2.1
 unfold qtb;dsimp only
 unhygienic (repeat' (first | exact trivial | exact And.intro (by omega) trivial | apply And.intro | intro))
 all_goals try simp only [ja,zd,qgj,qh1] at *
 all_goals first
  | omega
  | skip
 all_goals grind
end
section
variable {nm n:ZB} {l s c k:List Sign} {w h m:Int} {page:List Staff} {pages:List Page}
end
section
variable {nm n:ZB} {l:List Sign} {w h g k i m:Int} {page:List Staff} {pages:List Page}
end
section
set_option maxHeartbeats 4000000 in
theorem zxs (a0 h a2 a3:Int) (a4:Bool) (a5:Int) (i j:Bool) (k a9 b c:Int) (a12:Bool) (d e f g:Int):q8d a0 h a2 a3 a4 a5 i j k a9 b c a12 d e f g:=by
 unfold q8d
 unhygienic (repeat' (first | exact trivial | apply And.intro | intro))
 all_goals try omega
 all_goals grind (splits:=40) [zg,q18,qdg,qbe]
end
section
theorem qeb {α β:Type} {f:α->List β} {c:Int} (d:0<=c):∀ {l:List α},(∀ a ∈ l,ln (f a)<=c)->ln (l.flatMap f)<=c * ln l
 | [],_=>by simp [ln]
 | a::l,h=>by
  have g:=h a zC;have i:=qeb d (l:=l) λb e=>h b (zG _ e);rw [List.flatMap_cons,qj,zh,Int.mul_add,Int.mul_one];omega
theorem qhl {g:List Page} (h:smB g):ln (qa g)<=50000/\∀ s ∈ qa g,ln s.Signs<=5000:=by
 refine ⟨h.1.2,λs a=>?_⟩;obtain ⟨p,b,a⟩:=List.mem_flatMap.1 a;exact (h.2 p b).2 s a
theorem qvh {s:Staff} (h:qpt s):ln (qj0 s)=ln s.Signs-s.Lead:=qkg h.1 h.2
theorem qrm {l:List Staff} (h:∀ s ∈ l,ln s.Signs<=5000/\qpt s):ln (qat l)<=5000 * ln l:=qeb (by decide) λs a=>by
 rw [qvh (h s a).2];have:=(h s a).1;have:=(h s a).2.1;omega
theorem z09 {g:List Page} (h:smB g) (b:qy g):ln (ze g)<=250000000:=by
 have c:=qhl h;have:=qrm (l:=qa g) λs a=>⟨c.2 s a,b s a⟩;have:ln (ze g)<=5000 * ln (qa g):=this;omega
theorem qne (l:List Page) (p:Page):qa (l++[p])=qa l++p.Staves:=by simp [qa]
theorem qo7 (l:List Staff) (s:Staff):qat (l++[s])=qat l++qj0 s:=by simp [qat]
theorem q7d (l m:List Staff):qat (l++m)=qat l++qat m:=by simp [qat]
theorem qva {α:Type} {l:List α} {i:Int} {a:α} (h:a ∈ upto l i):a ∈ l:=List.mem_of_mem_take h
theorem zwj {g:List Page} {i:Int} (h:smB g):smB (upto g i):=⟨by
  have:ln (upto g i)<=ln g:=by
   have:=List.length_take_le' i.toNat g;simp only [ln,upto];omega
  have b:=h.1;have c:ln (qa g)=ln (qa (upto g i))+ln (qa (fr g i)):=by
   have e:g=upto g i++fr g i:=(List.take_append_drop _ _).symm
   conv=>lhs;rw [e]
   simp only [qa,List.flatMap_append,qj]
  have d:=ln_nonneg (qa (fr g i));exact ⟨by omega,by omega⟩,λp a=>h.2 p (qva a)⟩
theorem zpo (a0:ZB) (a:List Page) (b:smB a):qxk a0 a:=by
 unfold qxk;refine ⟨⟨zK 0,ln_nonneg _,by rw [k6];rfl⟩,λg x1 ⟨c,j,d⟩=>⟨λh=>?_,λh=>⟨by rw [d,j9 h],trivial⟩⟩⟩;have f:=(qhl (zwj (i:=x1) b)).1;rw [<-d] at f;have k:=(b.2 _ (qam c h)).1;have e:=b.1;refine ⟨⟨c,h⟩,kz (by omega),⟨by omega,by omega⟩,rfl,rfl,⟨by omega,by omega,?_⟩,?_⟩
 .rw [ke c h,qne,d]
 .show (ln a-(x1+1)).toNat<(ln a-x1).toNat;omega
theorem z0x (a0:ZB) (a:List Page) (d:smB a/\qy a):q9z a0 a:=by
 obtain ⟨d,i⟩:=d;have b:=qhl d;unfold q9z;dsimp only;refine ⟨d,⟨zK 0,ln_nonneg _,rfl,by rw [k6];rfl⟩,λc x1 p ⟨e,n,j,f⟩=>⟨λh=>?_,λh=>⟨j,by rw [f,j9 h];rfl,trivial⟩⟩⟩;have k:=qam e h;have g:=i _ k;have o:=qrm (l:=upto (qa a) c) λs m=>⟨b.2 s (qva m),i s (qva m)⟩;rw [<-f,qda e n] at o;have q:ln (fr (ix (qa a) c).Signs (ix (qa a) c).Lead)=_:=qvh g;have r:=b.2 _ k;have t:=b.1;have u:=g.1;refine ⟨⟨e,h⟩,g,kz (by omega),⟨by omega,by omega⟩,rfl,rfl,rfl,⟨by omega,by omega,j,?_⟩,?_⟩
 .rw [ke e h,qo7,f];rfl
 .show (ln (qa a)-(c+1)).toNat<(ln (qa a)-c).toNat;omega
theorem zu6 (a0:ZB) (a:List Page) (a2:Int) (d:smB a/\qy a/\(0:Int)<=a2/\(a2:Int)<=1000000000000):q2q a0 a a2:=by
 obtain ⟨d,j,k,l⟩:=d;have b:=qhl d;unfold q2q;dsimp only;refine ⟨d,⟨zK 0,ln_nonneg _,k,zK _,by rw [qc9];rfl⟩,λm x1 ⟨e,n,o,p,c⟩=>⟨λh=>?_,λh=>⟨by rw [<-c,qcn h];rfl,trivial⟩⟩⟩;have f:=qam e h;have g:=j _ f;have q:=b.2 _ f;have r:=g.1;have s:=g.2;have t:=b.1;rw [j5 e h] at c;simp only [q2o] at c;refine ⟨⟨e,h⟩,⟨by omega,by omega⟩,⟨by omega,by omega⟩,λi=>⟨?_,trivial⟩,λi=>⟨⟨by omega,by omega⟩,rfl,rfl,⟨by omega,by omega,by omega,by omega,?_⟩,?_⟩⟩
 .rw [<-c,zT i]
 .rw [<-c,zF (by omega)]
 .show (ln (qa a)-(x1+1)).toNat<(ln (qa a)-x1).toNat;omega
theorem zhi {α:Type} [Inhabited α] {a b:List α} (c:ln a=ln b) (h:∀ j,0<=j->j<ln a->ix a j=ix b j):a=b:=by
 refine List.ext_getElem (by simp only [ln] at c;omega) λi d e=>?_;have:=h (i:Int) (by omega) (by simp only [ln];omega);rw [q16 d,q16 e] at this;exact this
set_option maxHeartbeats 4000000 in
theorem zpa (a0:List Sign) (c:Int) (a2:Bool) (a3:Int) (a4 a5:List Sign) (l:ln a0<=5000/\ln a4<=1/\ln a5<=1):qxg a0 c a2 a3 a4 a5:=by
 unfold qxg;dsimp only;refine ⟨λh=>⟨?_,trivial⟩,λh=>⟨λe=>⟨?_,trivial⟩,λe=>⟨λm=>⟨?_,trivial⟩,λm=>⟨⟨e,by omega⟩,⟨l.2.1,l.2.2⟩,λf=>⟨?_,trivial⟩,λf=>⟨⟨zK 0,ln_nonneg _,λj a b=>by omega⟩,λi ⟨g1,r,n⟩=>⟨λg=>?_,λg=>⟨?_,trivial⟩⟩⟩⟩⟩⟩⟩
 .unfold kj;rw [zT h]
 .unfold kj;rw [zF (show ¬ 60<ln a0 by omega),zT e]
 .unfold kj;rw [zF (show ¬ 60<ln a0 by omega),zF (show ¬ c<0 by omega),zT m]
 .unfold kj;rw [zF (show ¬ 60<ln a0 by omega),zF (show ¬ c<0 by omega),zF (show ¬ ln a0<=c by omega),zF];intro d;have d:upto a0 c=a4++a5:=d;exact f (by rw [d])
 .have s:=qda e (show c<=ln a0 by omega);refine ⟨⟨g1,g⟩,⟨g1,by omega⟩,λo=>⟨?_,trivial⟩,λd=>⟨⟨by omega,by omega⟩,rfl,rfl,rfl,rfl,rfl,rfl,⟨by omega,by omega,λj k p=>?_⟩,?_⟩⟩
  .unfold kj;rw [zF (show ¬ 60<ln a0 by omega),zF (show ¬ c<0 by omega),zF (show ¬ ln a0<=c by omega),zF];intro d;have d:upto a0 c=a4++a5:=d;rw [d] at o;simp at o
  .by_cases q:j=i
   .subst q;exact (zei _ _).1 d
   .exact n j k (by omega)
  .show (ln (upto a0 c)-(i+1)).toNat<(ln (upto a0 c)-i).toNat;omega
 .unfold kj;rw [zF (show ¬ 60<ln a0 by omega),zF (show ¬ c<0 by omega),zF (show ¬ ln a0<=c by omega),zT];show upto a0 c=a4++a5;exact zhi f λj k p=>n j k (by omega)
end
section
theorem zbs {l:List Sign} {i:Int} (h:0<=i):0<=(qig l i).2/\(qig l i).2<=ln l:=by
 by_cases a:i<ln l
 .by_cases b:qqc l i=0
  .rw [quh a b];exact zbs (by omega)
  .rw [qzm a b];exact ⟨h,by show i<=ln l;omega⟩
 .rw [qzl (by omega)];exact ⟨zK _,ln_nonneg _⟩
 termination_by (ln l-i).toNat
 decreasing_by omega
theorem zm4 (nm:ZB) (l:List Sign):0<=(z8 nm l).2/\(z8 nm l).2<=ln l:=by
 have:=ln_nonneg l;unfold z8;split
 .exact ⟨zK _,this⟩
 .split
  .exact ⟨zK _,this⟩
  .exact zbs (zK _)
section
variable {a0:ZB} {a1:List Page} {x1 x y n a e:Int} {l:List Sign}
theorem gw0 (h:qbk a0 a1 x):0<=x/\x<=ln (ze a1):=⟨h.get.1,h.get.2.1⟩
theorem gw1 (h:zk a0 a1 x):0<=x/\x<=ln (ze a1):=⟨h.get.1,h.get.2.1⟩
theorem gw2 (h:qbd a0 a1 y x):x+1<=y/\y<=ln (ze a1):=⟨h.get.1,h.get.2.1⟩
theorem gw3 (h:qax a0 a1 a n):0<=n/\n<=ln (qa a1)/\a=ln (qat (upto (qa a1) n)):=⟨h.get.1,h.get.2.1,h.get.2.2.1⟩
theorem w_e (a:(z8 a0 (ze a1)).1≠0):qc6 a0 a1=((z8 a0 (ze a1)).1,qdn a1 (z8 a0 (ze a1)).2):=by unfold qc6;rw [zT a]
theorem w_t (c:(z8 a0 (ze a1)).1=0) (h:qbk a0 a1 x) (d:x<ln (ze a1)) (e:(ix (ze a1) x).Kind=11):qc6 a0 a1=(8,qdn a1 x):=by
 obtain ⟨a,f,b⟩:=h;rw [qnh a d,zT e] at b;unfold qc6;rw [zF (by simp [c]),<-b,zT a]
theorem w_n (a:(z8 a0 (ze a1)).1=0) (h:qbk a0 a1 x) (b:ln (ze a1)<=x):qc6 a0 a1=if (qqh a1 (ze a1) 0).1≠0 then qqh a1 (ze a1) 0 else qp5 (ze a1) (qa a1) 0 0:=by
 obtain ⟨d,e,c⟩:=h;rw [q35 b] at c;unfold qc6;rw [zF (by simp [a]),zF (by omega)]
theorem w0s (h:qbk a0 a1 x) (b:x<ln (ze a1)) (c:(ix (ze a1) x).Kind≠11):qbk a0 a1 (x+1):=by
 obtain ⟨d,e,a⟩:=h;rw [qnh d b,zF c] at a;exact ⟨by omega,by omega,a⟩
theorem w00:qbk a0 a1 0:=⟨zK 0,ln_nonneg _,by rw [qc9];rfl⟩
theorem z9q:zk a0 a1 0:=⟨zK 0,ln_nonneg _,rfl⟩
theorem w20 (a:x<ln (ze a1)):qbd a0 a1 (x+1) x:=⟨zK _,by omega,rfl⟩
theorem w2s (h:qbd a0 a1 y x) (a:y<ln (ze a1)) (b:(ix (ze a1) (y-1)).Kind=4) (c:(ix (ze a1) (y-1)).Last=false):qbd a0 a1 (y+1) x:=by
 obtain ⟨e,f,d⟩:=h;exact ⟨by omega,by omega,by rw [<-d,zaj ⟨a,b,c⟩]⟩
theorem stA (h:ln l<=y):¬ (y<ln l/\(ix l (y-1)).Kind=4/\(ix l (y-1)).Last=false):=λa=>by omega
theorem stB (h:(ix l (y-1)).Last=true):¬ (y<ln l/\(ix l (y-1)).Kind=4/\(ix l (y-1)).Last=false):=λa=>by rw [h] at a;cases a.2.2
theorem stC (h:(ix l (y-1)).Kind≠4):¬ (y<ln l/\(ix l (y-1)).Kind=4/\(ix l (y-1)).Last=false):=λa=>h a.2.1
theorem q86 (h:qbd a0 a1 y x) (b:¬ (y<ln (ze a1)/\(ix (ze a1) (y-1)).Kind=4/\(ix (ze a1) (y-1)).Last=false)) (c:y<ln (ze a1)) (d:(ix (ze a1) y).Kind=3):gE (ze a1) x=y+1:=by
 obtain ⟨e,f,a⟩:=h;rw [qz0 b] at a;unfold gE;rw [<-a,zT ⟨c,d⟩]
theorem zj7 (h:qbd a0 a1 y x) (c:¬ (y<ln (ze a1)/\(ix (ze a1) (y-1)).Kind=4/\(ix (ze a1) (y-1)).Last=false)) (a:ln (ze a1)<=y∨(ix (ze a1) y).Kind≠3):gE (ze a1) x=y:=by
 obtain ⟨e,f,b⟩:=h;rw [qz0 c] at b;unfold gE;rw [<-b,zF];rintro ⟨g,d⟩;rcases a with a | a
 .omega
 .exact a d
theorem w1s (c:zk a0 a1 x) (b:x<ln (ze a1)) (a:gE (ze a1) x=e) (d:qdn a1 x=qdn a1 (e-1)):zk a0 a1 e:=by
 obtain ⟨g,h,f⟩:=c;have:=qr8 b;rw [a] at this;exact ⟨by omega,by omega,by rw [<-f,q6i b (by rw [a];exact d),a]⟩
theorem w1m (c:zk a0 a1 x) (a:x<ln (ze a1)) (b:gE (ze a1) x=e):qt a0 a1 e<qt a0 a1 x:=by
 have:=qr8 a;rw [b] at this;simp only [qt];omega
theorem w1b (b:(z8 a0 (ze a1)).1=0) (c:qbk a0 a1 x1) (a:ln (ze a1)<=x1) (d:zk a0 a1 x) (f:x<ln (ze a1)) (g:gE (ze a1) x=e) (i:qdn a1 x≠qdn a1 (e-1)):qc6 a0 a1=(6,qdn a1 x):=by
 have h:qqh a1 (ze a1) 0=(6,qdn a1 x):=by rw [<-d.get.2.2,zcv f (by rw [g];exact i)]
 rw [w_n b c a,h];exact zT (show (6:Int)≠0 by decide)
theorem w_c (b:(z8 a0 (ze a1)).1=0) (c:qbk a0 a1 x1) (a:ln (ze a1)<=x1) (d:zk a0 a1 x) (e:ln (ze a1)<=x):qc6 a0 a1=qp5 (ze a1) (qa a1) 0 0:=by
 have h:qqh a1 (ze a1) 0=(0,0):=by rw [<-d.get.2.2,zcw e]
 rw [w_n b c a,h];exact zF (show ¬ ((0:Int)≠0) by decide)
theorem w30:qax a0 a1 0 0:=⟨zK 0,ln_nonneg _,by rw [k6];rfl,by rw [qc9]⟩
theorem w3n (e:qy a1) (h:qax a0 a1 a n) (b:n<ln (qa a1)):a+(ln (ix (qa a1) n).Signs-(ix (qa a1) n).Lead)=ln (qat (upto (qa a1) (n+1)))/\a+(ln (ix (qa a1) n).Signs-(ix (qa a1) n).Lead)<=ln (ze a1)/\0<=a/\0<=ln (ix (qa a1) n).Signs-(ix (qa a1) n).Lead:=by
 obtain ⟨c,j,f,k⟩:=h;have d:=e _ (qam c b);have g:ln (qat (upto (qa a1) (n+1)))=a+(ln (ix (qa a1) n).Signs-(ix (qa a1) n).Lead):=by
  rw [ke c b,qo7,qj,qvh d,f]
 have i:ze a1=qat (upto (qa a1) (n+1))++qat (fr (qa a1) (n+1)):=by
  rw [<-q7d,ze];congr 1;simp [upto,fr]
 have l:=ln_nonneg (qat (fr (qa a1) (n+1)));have m:=ln_nonneg (qat (upto (qa a1) n));refine ⟨g.symm,?_,by omega,by have:=d.2;omega⟩;rw [i,qj];omega
theorem w3s (d:qy a1) (h:qax a0 a1 a n) (c:n<ln (qa a1)) (e:(ix (qa a1) n).Catch=(jf (fr (ze a1) (a+(ln (ix (qa a1) n).Signs-(ix (qa a1) n).Lead)))).1) (f:(ix (qa a1) n).Custos=(jf (fr (ze a1) (a+(ln (ix (qa a1) n).Signs-(ix (qa a1) n).Lead)))).2) :
  qax a0 a1 (a+(ln (ix (qa a1) n).Signs-(ix (qa a1) n).Lead)) (n+1):=by
 have g:=w3n d h c;obtain ⟨i,j,k,b⟩:=h;rw [j5 i c] at b;simp only [qp5] at b;rw [zT ⟨e,f⟩] at b;exact ⟨by omega,by omega,g.1,b⟩
theorem w3b (h:qax a0 a1 a n) (d:n<ln (qa a1)) (hw:qc6 a0 a1=qp5 (ze a1) (qa a1) 0 0) (b:(ix (qa a1) n).Catch≠(jf (fr (ze a1) (a+(ln (ix (qa a1) n).Signs-(ix (qa a1) n).Lead)))).1∨(ix (qa a1) n).Custos≠(jf (fr (ze a1) (a+(ln (ix (qa a1) n).Signs-(ix (qa a1) n).Lead)))).2) :
  qc6 a0 a1=(3,n):=by
 obtain ⟨e,i,j,c⟩:=h;rw [j5 e d] at c;simp only [qp5] at c;rw [zF] at c
 .rw [hw,<-c]
 .rintro ⟨f,g⟩;rcases b with b | b
  .exact b f
  .exact b g
theorem w3e (h:qax a0 a1 a n) (b:ln (qa a1)<=n) (hw:qc6 a0 a1=qp5 (ze a1) (qa a1) 0 0):qc6 a0 a1=(0,0):=by
 rw [hw,<-h.get.2.2.2,qcn b];rfl
theorem p1 {p:Int×Int} {u v:Int} (h:p=(u,v)):u=p.1:=by rw [h]
theorem p2 {p:Int×Int} {u v:Int} (h:p=(u,v)):v=p.2:=by rw [h]
end
set_option maxHeartbeats 8000000 in
theorem zxc (a0:ZB) (b:List Page) (l:ln a0<=1000000000/\smB b/\qy b):q4a a0 b:=by
 obtain ⟨q,e,c⟩:=l;have r:=z09 e c;have m:=zm4 a0 (ze b);have n:=(qhl e).1;have d:∀ i:Int,ln (fr (ze b) i)<=ln (ze b):=λi=>by simp only [ln,fr,List.length_drop];omega
 have f:∀ i,0<=i->i<ln (qa b)->ln (ix (qa b) i).Signs<=5000/\0<=(ix (qa b) i).Lead:=λi h g=>⟨(qhl e).2 _ (qam h g),(c _ (qam h g)).1⟩;have o:(z8 a0 (ze b)).1=0∨(z8 a0 (ze b)).1≠0:=by omega
 unfold q4a;dsimp only
 unhygienic (repeat' (first | with_reducible exact trivial | with_reducible rfl | with_reducible exact e | with_reducible exact c | apply And.intro | intro))
 all_goals first
  | with_reducible exact w00
  | with_reducible exact z9q
  | with_reducible exact w30
  | omega
  | (have s:=gw0 ‹_›;omega)
  | (have p:=gw1 ‹_›;omega)
  | (have p:=gw1 ‹_›;have t:=gw2 ‹_›;omega)
  | (have j:=gw3 ‹_›;omega)
  | (have j:=gw3 ‹_›;have k:=w3n c ‹_› ‹_›;have u:=f _ j.1 ‹_›;omega)
  | (have k:=d (x9+(ln (ix (qa b) x10).Signs-(ix (qa b) x10).Lead));omega)
  | (have k:=d (x7+(ln (ix (qa b) x8).Signs-(ix (qa b) x8).Lead));omega)
  | with_reducible exact p1 (w_e ‹_›)
  | with_reducible exact p2 (w_e ‹_›)
  | with_reducible exact p1 (w_t ‹_› ‹_› ‹_› ‹_›)
  | with_reducible exact p2 (w_t ‹_› ‹_› ‹_› ‹_›)
  | with_reducible exact w0s ‹_› ‹_› ‹_›
  | with_reducible exact w20 ‹_›
  | with_reducible exact w2s ‹_› ‹_› ‹_› ‹_›
  | with_reducible exact w1s ‹_› ‹_› (by first
    | exact q86 ‹_› (by first | exact stB ‹_› | exact stC ‹_›) ‹_› ‹_›
    | exact zj7 ‹_› (by first | exact stA ‹_› | exact stB ‹_› | exact stC ‹_›) (by first | exact .inl ‹_› | exact .inr ‹_›)) ‹_›
  | with_reducible exact w1m ‹_› ‹_› (by first
    | exact q86 ‹_› (by first | exact stB ‹_› | exact stC ‹_›) ‹_› ‹_›
    | exact zj7 ‹_› (by first | exact stA ‹_› | exact stB ‹_› | exact stC ‹_›) (by first | exact .inl ‹_› | exact .inr ‹_›))
  | with_reducible exact p1 (w1b ‹_› ‹_› ‹_› ‹_› ‹_› (by first
    | exact q86 ‹_› (by first | exact stB ‹_› | exact stC ‹_›) ‹_› ‹_›
    | exact zj7 ‹_› (by first | exact stA ‹_› | exact stB ‹_› | exact stC ‹_›) (by first | exact .inl ‹_› | exact .inr ‹_›)) ‹_›)
  | with_reducible exact p2 (w1b ‹_› ‹_› ‹_› ‹_› ‹_› (by first
    | exact q86 ‹_› (by first | exact stB ‹_› | exact stC ‹_›) ‹_› ‹_›
    | exact zj7 ‹_› (by first | exact stA ‹_› | exact stB ‹_› | exact stC ‹_›) (by first | exact .inl ‹_› | exact .inr ‹_›)) ‹_›)
  | with_reducible exact w3s c ‹_› ‹_› ‹_› ‹_›
  | with_reducible exact p1 (w3b ‹_› ‹_› (w_c ‹_› ‹_› ‹_› ‹_› ‹_›) (by first | exact .inl ‹_› | exact .inr ‹_›))
  | with_reducible exact p2 (w3b ‹_› ‹_› (w_c ‹_› ‹_› ‹_› ‹_› ‹_›) (by first | exact .inl ‹_› | exact .inr ‹_›))
  | with_reducible exact p1 (w3e ‹_› ‹_› (w_c ‹_› ‹_› ‹_› ‹_› ‹_›))
  | with_reducible exact p2 (w3e ‹_› ‹_› (w_c ‹_› ‹_› ‹_› ‹_› ‹_›))
  | (simp only [qk8];omega)
  | (simp only [qf0];omega)
  | (simp only [qf1];omega)
  | skip
end
section
theorem qq5 {s:Staff} {c k:List Sign} (h:kj s c k=0):qpt s:=by
 unfold kj at h;split at h
 .omega
 .split at h
  .omega
  .split at h
   .omega
   .exact ⟨by omega,by omega⟩
section
variable {a0:ZB} {a1:List Page} {n m j i x e:Int} {c k c' k':List Sign} {em:Bool}
theorem gc0 (h:qae a0 a1 n em i c k):0<=i/\i<=ln a1/\0<=n/\n<=5000 * i/\ln c<=1/\ln k<=1:=⟨h.get.1,h.get.2.1,h.get.2.2.1,h.get.2.2.2.1,h.get.2.2.2.2.1,h.get.2.2.2.2.2.1⟩
theorem gc1 (h:qa8 a0 a1 n j c k em i):0<=j/\j<=ln (ix a1 i).Staves/\0<=n/\n<=5000 * i+j/\ln c<=1/\ln k<=1:=⟨h.get.1,h.get.2.1,h.get.2.2.1,h.get.2.2.2.1,h.get.2.2.2.2.1,h.get.2.2.2.2.2.1⟩
theorem gc2 (h:qbs a0 a1 x c k n em i j):0<=x/\x<=ln (qj0 (ix (ix a1 i).Staves j))/\ln c<=1/\ln k<=1:=⟨h.get.1,h.get.2.1,h.get.2.2.1,h.get.2.2.2.1⟩
theorem z8u (h:qbs a0 a1 x c k n em i j):x<=ln (fr (ix (ix a1 i).Staves j).Signs (ix (ix a1 i).Staves j).Lead):=h.get.2.1
theorem c00:qae a0 a1 0 false 0 ([]:List Sign) ([]:List Sign):=
 ⟨zK 0,ln_nonneg _,zK 0,by omega,by simp [ln],by simp [ln],(by rw [k6];intro s h;cases h),by rw [qc9]⟩
theorem q2a (h:qy (upto a1 i)) (b:0<=i) (hi:i<ln a1) (c:∀ s ∈ (ix a1 i).Staves,qpt s):qy (upto a1 (i+1)):=by
 rw [ke b hi];intro s a;rw [qne] at a;rcases List.mem_append.1 a with a | a
 .exact h s a
 .exact c s a
theorem ln0 {α:Type} {l:List α} (h:ln l=0):l=[]:=by
 cases l with
 | nil=>rfl
 | cons a l=>rw [zh] at h;have:=ln_nonneg l;omega
theorem c0e (h:qae a0 a1 n em i c k) (hi:i<ln a1) (a:ln (ix a1 i).Staves=0):qae a0 a1 n true (i+1) c k:=by
 obtain ⟨b,m,e,o,f,g,j,d⟩:=h;have a:=ln0 a;refine ⟨by omega,by omega,e,by omega,f,g,q2a j b hi (by rw [a];intro s l;cases l),?_⟩;rw [j5 b hi] at d;rw [<-d];simp only [qbz];rw [zT a]
theorem c10 (h:qae a0 a1 n em i c k) (hi:i<ln a1) (he:ln (ix a1 i).Staves≠0):qa8 a0 a1 n 0 c k em i:=by
 obtain ⟨a,l,b,m,d,e,o,f⟩:=h;refine ⟨zK 0,ln_nonneg _,b,by omega,d,e,(by rw [k6];intro s g;cases g),?_⟩;rw [qc9,<-f,j5 a hi,qx9];intro j;rw [j] at he;exact he rfl
theorem c1x (h:qa8 a0 a1 n j c k em i) (b:j<ln (ix a1 i).Staves) (a:12<=j):qbz ([],[]) 0 false a1=(11,n,false):=by
 obtain ⟨d,f,g,l,m,o,p,e⟩:=h;rw [<-e,j5 d b];simp only [qch];rw [zT a];rfl
theorem c1s (h:qa8 a0 a1 n j c k em i) (b:j<ln (ix a1 i).Staves) (d:j<12) (a:kj (Staff.mk (ix (ix a1 i).Staves j).Signs (ix (ix a1 i).Staves j).Lead (ix (ix a1 i).Staves j).Catch (ix (ix a1 i).Staves j).Custos) c k≠0) :
  qbz ([],[]) 0 false a1=(kj (Staff.mk (ix (ix a1 i).Staves j).Signs (ix (ix a1 i).Staves j).Lead (ix (ix a1 i).Staves j).Catch (ix (ix a1 i).Staves j).Custos) c k,n,false):=by
 obtain ⟨e,g,l,m,o,p,q,f⟩:=h;rw [qrt] at a ⊢;rw [<-f,j5 e b];simp only [qch];rw [zF (by omega),zT a];unfold q53;rw [zT a]
theorem c20 (h:qa8 a0 a1 n j c k em i) (b:j<ln (ix a1 i).Staves) (d:j<12) (a:kj (Staff.mk (ix (ix a1 i).Staves j).Signs (ix (ix a1 i).Staves j).Lead (ix (ix a1 i).Staves j).Catch (ix (ix a1 i).Staves j).Custos) c k=0) :
  qbs a0 a1 0 c k n em i j:=by
 obtain ⟨e,m,o,p,f,g,q,l⟩:=h;rw [qrt] at a;refine ⟨zK 0,ln_nonneg _,f,g,?_⟩;rw [<-l,j5 e b,qc9];simp only [qch];rw [zF (by omega),zF (by simp [a])]
theorem c2s (h:qbs a0 a1 x c k n em i j) (e:x<ln (fr (ix (ix a1 i).Staves j).Signs (ix (ix a1 i).Staves j).Lead)) {s:Sign} (f:s=ix (fr (ix (ix a1 i).Staves j).Signs (ix (ix a1 i).Staves j).Lead) x) :
  qbs a0 a1 (x+1) (qby c k s).1 (qby c k s).2 n em i j:=by
 obtain ⟨g,o,l,m,b⟩:=h;subst f;have a:x<ln (qj0 (ix (ix a1 i).Staves j)):=e;have d:=qwd (s:=ix (fr (ix (ix a1 i).Staves j).Signs (ix (ix a1 i).Staves j).Lead) x) l m;refine ⟨by omega,by omega,d.1,d.2,?_⟩;rw [j5 g a] at b;exact b
theorem c21 (d:qa8 a0 a1 n j c' k' em i) (e:j<ln (ix a1 i).Staves) (f:kj (Staff.mk (ix (ix a1 i).Staves j).Signs (ix (ix a1 i).Staves j).Lead (ix (ix a1 i).Staves j).Catch (ix (ix a1 i).Staves j).Custos) c' k'=0)
  (h:qbs a0 a1 x c k n em i j) (g:ln (fr (ix (ix a1 i).Staves j).Signs (ix (ix a1 i).Staves j).Lead)<=x):qa8 a0 a1 (n+1) (j+1) c k em i:=by
 obtain ⟨l,q,r,t,u,v,m,w⟩:=d;obtain ⟨g1,y,o,p,b⟩:=h;refine ⟨by omega,by omega,by omega,by omega,o,p,?_,?_⟩
 .rw [ke l e];intro s a;rcases List.mem_append.1 a with a | a
  .exact m s a
  .rw [List.mem_singleton.1 a];exact qq5 f
 .rw [qcn (show ln (qj0 (ix (ix a1 i).Staves j))<=x from g)] at b;exact b
theorem c1e (e:qae a0 a1 m em i c' k') (hi:i<ln a1) (f:ln (ix a1 i).Staves<=5000) (h:qa8 a0 a1 n j c k em i) (a:ln (ix a1 i).Staves<=j):qae a0 a1 n em (i+1) c k:=by
 obtain ⟨p1,p2,q,r,s,t,g,u⟩:=e;obtain ⟨v,w,l,x,o,p,b,d⟩:=h;refine ⟨by omega,by omega,l,by omega,o,p,q2a g p1 hi (by rw [j9 a] at b;exact b),?_⟩;rw [qcn a] at d;rw [<-d];rfl
theorem zjf (h:qae a0 a1 n em i c k) (hi:ln a1<=i):qbz ([],[]) 0 false a1=(0,n,em):=by
 rw [<-h.get.2.2.2.2.2.2.2,qcn hi];rfl
theorem c0l (h:qae a0 a1 n em i c k) (hi:ln a1<=i):qy a1:=by
 have:=h.get.2.2.2.2.2.2.1;rw [j9 hi] at this;exact this
theorem zx2 (a:jh a0=true) (h:qbz ([],[]) 0 false a1=(e,n,em)) (he:e≠0):qai a0 a1=(e,n):=by
 unfold qai;rw [zF (by simp [a]),h,zT he]
theorem z6g (a:jh a0=true) (h:qbz ([],[]) 0 false a1=(0,n,em)) (he:em=true):qai a0 a1=(2,n):=by
 unfold qai;rw [zF (by simp [a]),h,zF (show ¬ ((0:Int)≠0) by decide),zT he]
theorem z6h (a:jh a0=true) (h:qbz ([],[]) 0 false a1=(0,n,em)) (he:em=false):qai a0 a1=qc6 a0 a1:=by
 unfold qai;rw [zF (by simp [a]),h,zF (show ¬ ((0:Int)≠0) by decide),zF (by simp [he])]
theorem zx3 (a:jh a0=false):qai a0 a1=(7,0):=by unfold qai;rw [zT a]
theorem pr1 {α β:Type} {p q:α×β} (h:p=q):q.1=p.1:=by rw [h]
theorem pr2 {α β:Type} {p q:α×β} (h:p=q):q.2=p.2:=by rw [h]
end
set_option maxHeartbeats 4000000 in
theorem zlt (a0:ZB) (b:List Page) (y:ln a0<=1000000000/\smB b):qv2 a0 b:=by
 obtain ⟨z,q⟩:=y;have o:∀ i,0<=i->i<ln b->ln (ix b i).Staves<=5000:=λi h s=>(q.2 _ (qam h s)).1;have t:∀ i j,0<=i->i<ln b->0<=j->j<ln (ix b i).Staves->ln (ix (ix b i).Staves j).Signs<=5000:=λi j h s g A=>(q.2 _ (qam h s)).2 _ (qam g A);have G:=q.1;unfold qv2;dsimp only;refine ⟨by omega,λd=>⟨p1 (zx3 d),p2 (zx3 d),trivial⟩,λd=>⟨c00,λx1 H e I J k=>⟨λhi=>?_,λhi=>?_⟩⟩⟩
 .have g0:=gc0 k;refine ⟨⟨by omega,hi⟩,λl=>⟨⟨by omega,by omega⟩,rfl,rfl,c0e k hi l,by simp only [qds];omega⟩,λl=>⟨c10 k hi l,λK a B C n=>⟨λf=>?_,λf=>?_⟩⟩⟩
  .have g1:=gc1 n;have gs:=t e a g0.1 hi g1.1 f;have w:=o e g0.1 hi;refine ⟨⟨by omega,f⟩,λc=>⟨p1 (zx2 d (c1x n f c) (by decide)),p2 (zx2 d (c1x n f c) (by decide)),trivial⟩,λc=>⟨⟨gs,g1.2.2.2.2⟩,λm=>⟨p1 (zx2 d (c1s n f c m) m),p2 (zx2 d (c1s n f c m) m),trivial⟩,λm=>⟨qq5 m,c20 n f c m,λu D E r=>⟨λp=>?_,λp=>?_⟩⟩⟩⟩
   .have L:=gc2 r;have F:=z8u r;have x:ln (fr (ix (ix b e).Staves a).Signs (ix (ix b e).Staves a).Lead)<=5000:=by
     have v:=qq5 m;have:=qkg v.1 v.2;have M:0<=(ix (ix b e).Staves a).Lead:=v.1;have N:ln (fr (ix (ix b e).Staves a).Signs (ix (ix b e).Staves a).Lead)=ln (ix (ix b e).Staves a).Signs-(ix (ix b e).Staves a).Lead:=this;omega
    exact ⟨⟨by omega,p⟩,trivial,⟨by omega,by omega⟩,rfl,rfl,rfl,rfl,rfl,rfl,rfl,c2s r p rfl,by
     have:u<ln (qj0 (ix (ix b e).Staves a)):=p;simp only [qje];omega⟩
   .exact ⟨⟨by omega,by omega⟩,⟨by omega,by omega⟩,rfl,rfl,rfl,c21 n f m r p,by simp only [qjd];omega⟩
  .have w:=o e g0.1 hi;exact ⟨⟨by omega,by omega⟩,rfl,rfl,c1e k hi w n f,by simp only [qds];omega⟩
 .exact ⟨λl=>⟨p1 (z6g d (zjf k hi) l),p2 (z6g d (zjf k hi) l),trivial⟩,λl=>⟨⟨z,q,c0l k hi⟩,pr1 (z6h d (zjf k hi) l),pr2 (z6h d (zjf k hi) l),trivial⟩⟩
end
section
theorem zir (a0:ZB) (b:List Page) (d:smB b):qtw a0 b:=by
 have p:=d.1;have e:∀ i,ln (qa (upto b i))<=50000:=λi=>(qhl (zwj d)).1;have f:∀ i,0<=i->i<ln b->ln (ix b i).Staves<=5000:=λi h k=>(d.2 _ (qam h k)).1;unfold qtw;refine ⟨⟨zK 0,ln_nonneg _,by rw [k6];rfl,by rw [k6];rfl,by rw [k6];rfl⟩,λq x1 r j l=>?_⟩;obtain ⟨g1,s,rfl,rfl,rfl⟩:=l.get;refine ⟨λhi=>⟨⟨zK 0,ln_nonneg _,by rw [k6,zJ],by rw [k6];simp [q9s],by rw [k6];simp [qs0]⟩,λt u v w m=>?_⟩,λhi=>by rw [j9 hi];exact ⟨rfl,rfl,rfl,trivial⟩⟩;obtain ⟨c,n,rfl,rfl,rfl⟩:=m.get;have x:=e j;have y:=f j g1 hi;have o:=qda c n;have g:=qda g1 (Int.le_of_lt hi);refine ⟨⟨g1,hi⟩,λa=>⟨⟨g1,hi⟩,⟨c,a⟩,trivial,kk (by rw [qj];omega),trivial,kk (by rw [qj,q2s,zdg];omega),trivial,kk (by rw [qj,qj1,q06];omega),⟨by omega,by omega⟩,rfl,rfl,⟨by omega,by omega,?_,?_,?_⟩,by simp only [qh3];omega⟩,
  λa=>⟨⟨by omega,by omega⟩,rfl,rfl,⟨by omega,by omega,?_,?_,?_⟩,by simp only [qh2];omega⟩⟩
 .rw [ke c a,List.append_assoc]
 .rw [ke c a,zn8,List.append_assoc]
 .rw [ke c a,q52,List.append_assoc,o,Int.zero_add]
 .rw [ke g1 hi,qne,j9 a]
 .rw [ke g1 hi,qyp,j9 a,g,Int.zero_add]
 .rw [ke g1 hi,qvj,j9 a]
theorem zwa (a0 a:List Sign) (b:ln a0<=10000000):zed a0 a:=qt4 a0 a b
theorem z2w (a0:List Int) (b:Int) (c:ln a0<=1000000000):zgj a0 b:=by
 unfold zgj atO;refine ⟨λh=>?_,λh=>⟨λa=>?_,λa=>⟨⟨h,a⟩,?_⟩⟩⟩
 .rw [zT (.inl h)];exact ⟨rfl,trivial⟩
 .rw [zT (.inr a)];exact ⟨rfl,trivial⟩
 .rw [zF (by omega)];exact ⟨rfl,trivial⟩
theorem zkv {a0:ZB} {a:List Page} (h:¬ (ln a0<=100/\ln a<=20/\zn0 a/\ln (wrS (qa a))<=600)):false=qf9 a0 a:=(decide_eq_false h).symm
theorem zxi {g:List Page} (h:zn0 g) (c:ln g<=20):ln (wrS (qa g))<=21000:=by
 have d:ln (qa g)<=15 * ln g:=qeb (by decide) λp a=>(h p a).1;have e:ln (wrS (qa g))<=70 * ln (qa g):=qeb (by decide) λs b=>by
  obtain ⟨p,a,b⟩:=List.mem_flatMap.1 b;exact (h p a).2 s b
 omega
theorem zue (a0:ZB) (d:List Page) (f:ln a0<=9223372036854775807/\ln d<=9223372036854775807/\∀ p ∈ d,ln p.Staves<=9223372036854775807/\∀ s ∈ p.Staves,ln s.Signs<=9223372036854775807):q2d a0 d:=by
 unfold q2d;dsimp only;refine ⟨λh=>⟨zkv λk=>by omega,trivial⟩,λt=>⟨λh=>⟨zkv λk=>by omega,trivial⟩,λu=>⟨⟨zK 0,ln_nonneg _,(by rw [k6];intro p f;cases f),by rw [k6];rfl⟩,λA e v=>?_⟩⟩⟩;obtain ⟨g1,w,n,rfl⟩:=v.get;have B:=zxi n (by rw [qda g1 w];omega);refine ⟨λhi=>⟨⟨g1,hi⟩,λr=>⟨zkv λk=>by have:=(k.2.2.1 _ (qam g1 hi)).1;omega,trivial⟩,λr=>⟨⟨zK 0,ln_nonneg _,(by rw [k6];intro p f;cases f),by rw [k6];simp [wrS,ln]⟩,λC g x=>?_⟩⟩,λhi=>⟨?_,trivial⟩⟩
 .obtain ⟨j,y,o,rfl⟩:=x.get;have z:ln (wrS (upto (ix d e).Staves g))<=70 * ln (upto (ix d e).Staves g):=qeb (by decide) o;rw [qda j y] at z;refine ⟨⟨g1,hi⟩,λi=>⟨⟨g1,hi⟩,⟨j,i⟩,λl=>⟨zkv λk=>by have:=(k.2.2.1 _ (qam g1 hi)).2 _ (qam j i);omega,trivial⟩,λl=>⟨⟨g1,hi⟩,⟨j,i⟩,?_,⟨by omega,by omega⟩,rfl,rfl,⟨by omega,by omega,?_,?_⟩,by simp only [qk7];omega⟩⟩,
   λi=>⟨⟨by omega,by omega⟩,rfl,rfl,⟨by omega,by omega,?_,?_⟩,by simp only [qk6];omega⟩⟩
  .have a:=ln_nonneg (wrS (qa (upto d e)));have b:=ln_nonneg (wrS (upto (ix d e).Staves g));have c:=ln_nonneg (ix (ix d e).Staves g).Signs;exact ⟨by omega,by omega⟩
  .rw [ke j i];intro s m;rcases List.mem_append.1 m with m | m
   .exact o s m
   .rw [List.mem_singleton.1 m];exact l
  .rw [ke j i];have:wrS (upto (ix d e).Staves g++[ix (ix d e).Staves g])=wrS (upto (ix d e).Staves g)++(ix (ix d e).Staves g).Signs:=by simp [wrS]
   rw [this,qj];omega
  .rw [j9 i] at o;rw [ke g1 hi];intro p f;rcases List.mem_append.1 f with f | f
   .exact n p f
   .rw [List.mem_singleton.1 f];exact ⟨r,o⟩
  .rw [ke g1 hi,qne,j9 i];have:wrS (qa (upto d e)++(ix d e).Staves)=wrS (qa (upto d e))++wrS (ix d e).Staves:=by simp [wrS]
   rw [this,qj]
 .rw [j9 hi] at n ⊢;exact decide_eq_decide.2 ⟨λq=>⟨t,u,n,q⟩,λq=>q.2.2.2⟩
end
section
theorem qse (l:List Staff) (n:Int):ln (qat (upto l n))<=ln (qat l):=by
 have e:l=upto l n++fr l n:=(List.take_append_drop _ _).symm;have h:=qj (qat (upto l n)) (qat (fr l n));rw [<-q7d,<-e] at h;have:=ln_nonneg (qat (fr l n));omega
section
variable {a0:ZB} {a1:List Sign} {a2:List Int} {a3:List Staff} {v:Int}
theorem z8l (h:(z8 a0 a1).1≠0):qd9 a0 a1 a2 a3=((z8 a0 a1).1,atO a2 (z8 a0 a1).2):=by unfold qd9;rw [zT h]
theorem z8n (h:(z8 a0 a1).1=0) (a:0<=qij a1):qd9 a0 a1 a2 a3=(8,atO a2 (qij a1)):=by unfold qd9;rw [zF (by simp [h]),zT a]
theorem z8m (h:(z8 a0 a1).1=0) (b:qij a1<0) (a:qza a2 (qaq a1)=(6,v)):qd9 a0 a1 a2 a3=(6,v):=by unfold qd9;rw [zF (by simp [h]),zF (by omega),a,zT (show (6:Int)≠0 by decide)]
theorem z9r (h:(z8 a0 a1).1=0) (b:qij a1<0) (a:qza a2 (qaq a1)=(0,0)):qd9 a0 a1 a2 a3=qp5 a1 a3 0 0:=by unfold qd9;rw [zF (by simp [h]),zF (by omega),a,zF (by decide)]
end
theorem zp2 (a0:ZB) (c:List Sign) (a2:List Int) (a3:List Staff) (y:ln a0<=1000000000/\qz2 c a2 a3):qxq a0 c a2 a3:=by
 obtain ⟨z,L,p,M,s⟩:=y;have t:=znk c;have N:ln c<=250000000:=by
  have:=qrm s;rw [p];omega
 have A:=t.len;unfold qxq;dsimp only;refine ⟨⟨z,by omega⟩,λd=>⟨by omega,p1 (z8l d),p2 (z8l d),trivial⟩,λd=>⟨by omega,λj=>⟨by omega,p1 (z8n d j),p2 (z8n d j),trivial⟩,λj=>⟨by omega,⟨zK 0,ln_nonneg _,by rw [qc9]⟩,λu B=>?_⟩⟩⟩;obtain ⟨l,O,m⟩:=B.get;refine ⟨λg=>?_,λg=>?_⟩
 .have o:=t.bd u l g;have C:=qr8 o.2.1;rw [<-o.2.2.1] at C;rw [j5 l g] at m;refine ⟨⟨l,g⟩,⟨o.1,by omega⟩,⟨l,g⟩,⟨by omega,by omega⟩,⟨by omega,by omega⟩,λq=>⟨⟨l,g⟩,⟨o.1,by omega⟩,?_⟩,λD=>⟨⟨by omega,by omega⟩,rfl,rfl,⟨by omega,by omega,?_⟩,by simp only [qjm];omega⟩⟩
  .have v:qza a2 (qaq c)=(6,ix a2 (ix (qaq c) u).fro):=by
    rw [<-m];simp only [qza];rw [zF q]
   exact ⟨p1 (z8m d j v),p2 (z8m d j v),trivial⟩
  .rw [<-m];simp only [qza];rw [zT D]
 .rw [qcn g] at m;have w:=z9r (a3:=a3) d j m.symm;refine ⟨⟨zK 0,ln_nonneg _,by rw [k6];rfl,by rw [qc9]⟩,λP a E=>?_⟩;obtain ⟨i,Q,rfl,f⟩:=E.get;have R:=ln_nonneg (qat (upto a3 a));have F:=qse a3 a;rw [<-p] at F;refine ⟨λb=>?_,λb=>?_⟩
  .have G:=s _ (qam i b);have r:=G.2;have H:0<=(ix a3 a).Lead:=r.1;have I:(ix a3 a).Lead<=ln (ix a3 a).Signs:=r.2;have e:ln (qat (upto a3 a))+ln (ix a3 a).Signs-(ix a3 a).Lead=ln (qat (upto a3 a))+(ln (ix a3 a).Signs-(ix a3 a).Lead):=by omega
   have J:ln (qat (upto a3 a))+(ln (ix a3 a).Signs-(ix a3 a).Lead)=ln (qat (upto a3 (a+1))):=by rw [ke i b,qo7,qj,qvh r]
   have K:=qse a3 (a+1);rw [<-p] at K;rw [j5 i b] at f;simp only [qp5] at f;have n:¬ ((ix a3 a).Catch=(qc1 c (ln (qat (upto a3 a))+(ln (ix a3 a).Signs-(ix a3 a).Lead))).1/\(ix a3 a).Custos=(qc1 c (ln (qat (upto a3 a))+(ln (ix a3 a).Signs-(ix a3 a).Lead))).2)->qd9 a0 c a2 a3=(3,a):=by
    intro h;rw [zF h] at f;rw [w,<-f]
   refine ⟨⟨i,b⟩,⟨by omega,by omega⟩,⟨i,b⟩,⟨by omega,by omega⟩,⟨by omega,by omega,by omega⟩,⟨i,b⟩,λk=>?_,λk=>⟨⟨i,b⟩,λk'=>?_,λk'=>⟨⟨by omega,by omega⟩,rfl,rfl,?_,by simp only [qjn];omega⟩⟩⟩
   .rw [e] at k;have:=n λh=>k h.1;exact ⟨p1 this,p2 this,trivial⟩
   .rw [e] at k';have:=n λh=>k' h.2;exact ⟨p1 this,p2 this,trivial⟩
   .rw [e] at k k' ⊢;rw [zT ⟨k,k'⟩] at f;exact ⟨by omega,by omega,J,f⟩
  .rw [qcn b] at f;have x:qd9 a0 c a2 a3=(0,0):=by rw [w,<-f];rfl
   exact ⟨p1 x,p2 x,trivial⟩
theorem zey {l:List Sign} {i k:Int} (a:0<=i) (b:i<=k) (c:k<ln l):sub l i (k+1)=sub l i k++[ix l k]:=by
 rw [qib a (by omega),qib a b,show k+1-i=k-i+1 by omega,ke (by omega) (by rw [qkg a (by omega)];omega),z63 a (by omega),show i+(k-i)=k by omega]
theorem zai {l:List Sign} {i k:Int} (a:0<=i) (b:i<=k) (c:ln l<=k) (hi:i<=ln l):sub l i k=fr l i:=by
 rw [qib a b,j9 (by rw [qkg a hi];omega)]
theorem zex {l:List Sign} {i:Int} (a:0<=i):sub l i i=[]:=by rw [qib a (zK i),Int.sub_self];rfl
theorem zoh (n:Int) (l:List Sign) (s:Sign):qpn n (l++[s])=qpn n l++[n]:=by simp [qpn]
theorem zu4 (n:Int) (l:List Sign):ln (qpn n l)=ln l:=by simp [qpn,ln]
section
variable {a0:ZB} {a1:List Page} {o:List Int} {i e:Int} {nm:ZB} {S:List Sign}
theorem q8s (h:qeo a0 a1 o i nm S) (hi:i<ln (qa a1)):qif ([],[]) 0 (qa a1) (kh a1) =
  if 12<=ix (kh a1) i then (11,i) else if kj (ix (qa a1) i) (qbb ([],[]) S).1 (qbb ([],[]) S).2≠0 then (kj (ix (qa a1) i) (qbb ([],[]) S).1 (qbb ([],[]) S).2,i)
  else qif (qbb (qbb ([],[]) S) (qj0 (ix (qa a1) i))) (i+1) (fr (qa a1) (i+1)) (fr (kh a1) (i+1)):=by
 have c:=qj1 a1;obtain ⟨a,d,e,f,g,j,b⟩:=h.get;rw [<-b,j5 a hi,j5 a (by omega)];rfl
theorem zx6 (h:qeo a0 a1 o i nm S) (hi:i<ln (qa a1)) (a:ix (kh a1) i<12) (b:kj (ix (qa a1) i) (qbb ([],[]) S).1 (qbb ([],[]) S).2=e) (he:e≠0):qif ([],[]) 0 (qa a1) (kh a1)=(e,i):=by
 rw [q8s h hi,zF (by omega),b,zT he]
theorem z6i (h:qeo a0 a1 o i nm S) (hi:i<ln (qa a1)) (a:ix (kh a1) i<12) (b:kj (ix (qa a1) i) (qbb ([],[]) S).1 (qbb ([],[]) S).2=0) :
  qif (qbb ([],[]) (S++qj0 (ix (qa a1) i))) (i+1) (fr (qa a1) (i+1)) (fr (kh a1) (i+1))=qif ([],[]) 0 (qa a1) (kh a1):=by
 rw [q8s h hi,zF (by omega),zF (by simp [b]),zg2]
theorem q4t (a:jh a0=true) (h:qif ([],[]) 0 (qa a1) (kh a1)=(e,i)) (he:e≠0):qai a0 a1=(e,i):=by
 rw [<-q03];unfold q8q;rw [zF (by simp [a]),h,zT he]
theorem z8t (a:jh a0=true) (h:qif ([],[]) 0 (qa a1) (kh a1)=(0,i)):qai a0 a1=if a1.any (λp=>decide (p.Staves=[]))=true then (2,ln (qa a1)) else qd9 a0 (ze a1) (qo6 0 (qa a1)) (qa a1):=by
 rw [<-q03];unfold q8q;rw [zF (by simp [a]),h,zF (show ¬ ((0:Int)≠0) by decide)]
end
set_option maxHeartbeats 4000000 in
theorem zlz (a0:ZB) (c:List Page) (v:ln a0<=1000000000/\smB c):qv4 a0 c:=by
 obtain ⟨J,w⟩:=v;have j:=qhl w;have U:=w.1;have F:=qj1 c;unfold qv4;dsimp only;refine ⟨by omega,λg=>⟨p1 (zx3 g),p2 (zx3 g),trivial⟩,λg=>⟨w,⟨zK 0,ln_nonneg _,rfl,by rw [k6];rfl,by rw [k6];rfl,(by rw [k6];intro s h;cases h),by rw [qc9,qc9];rfl⟩,λx1 d V W G=>?_⟩⟩;have i:=G;obtain ⟨g1,K,rfl,rfl,rfl,n,H⟩:=G.get;have x:∀ s ∈ upto (qa c) d,ln s.Signs<=5000/\qpt s:=λs h=>⟨j.2 s (qva h),(n s h).1,Int.le_of_lt (n s h).2⟩;have L:=qrm x;have y:=qda g1 K;have z:=ln_nonneg (qat (upto (qa c) d));have q:=q2p (upto (qa c) d) 0;refine ⟨λhi=>?_,λhi=>?_⟩
 .have X:=j.2 _ (qam g1 hi);refine ⟨⟨g1,by omega⟩,λf=>?_,λf=>⟨⟨g1,hi⟩,λr=>?_,λr=>⟨⟨g1,hi⟩,λa=>?_,λa=>⟨⟨g1,hi⟩,⟨g1,hi⟩,λk=>?_,λk=>⟨⟨g1,hi⟩,⟨g1,hi⟩,⟨a,by omega⟩,⟨z,zK _,by omega⟩,?_,λA=>?_,λA=>⟨⟨g1,hi⟩,⟨zK _,by omega,rfl,?_,?_⟩,λM N O P Q=>?_⟩⟩⟩⟩⟩⟩
  .have b:=q8s i hi;rw [zT f] at b;exact ⟨p1 (q4t g b (by decide)),p2 (q4t g b (by decide)),trivial⟩
  .have b:=zx6 (e:=11) i hi f (by unfold kj;rw [zT r]) (by decide);exact ⟨p1 (q4t g b (by decide)),p2 (q4t g b (by decide)),trivial⟩
  .have b:=zx6 (e:=2) i hi f (by unfold kj;rw [zF (by omega),zT a]) (by decide);exact ⟨p1 (q4t g b (by decide)),p2 (q4t g b (by decide)),trivial⟩
  .have b:=zx6 (e:=2) i hi f (by unfold kj;rw [zF (by omega),zF (by omega),zT k]) (by decide);exact ⟨p1 (q4t g b (by decide)),p2 (q4t g b (by decide)),trivial⟩
  .rw [qda a (by omega)];omega
  .have l:upto (ix (qa c) d).Signs (ix (qa c) d).Lead≠(qbb ([],[]) (qat (upto (qa c) d))).1++(qbb ([],[]) (qat (upto (qa c) d))).2:=by
    rw [<-zc4];exact of_decide_eq_false A
   have b:=zx6 (e:=6) i hi f (by unfold kj;rw [zF (by omega),zF (by omega),zF (by omega),zF l]) (by decide);exact ⟨p1 (q4t g b (by decide)),p2 (q4t g b (by decide)),trivial⟩
  .rw [zex a,zJ]
  .rw [zex a];simp [qpn]
  .have l:upto (ix (qa c) d).Signs (ix (qa c) d).Lead=(qbb ([],[]) (qat (upto (qa c) d))).1++(qbb ([],[]) (qat (upto (qa c) d))).2:=by
    rw [<-zc4];exact of_decide_eq_true A
   have B:kj (ix (qa c) d) (qbb ([],[]) (qat (upto (qa c) d))).1 (qbb ([],[]) (qat (upto (qa c) d))).2=0:=by unfold kj;rw [zF (by omega),zF (by omega),zF (by omega),zT l]
   obtain ⟨o,R,rfl,rfl,rfl⟩:=Q.get;have I:=qwz a o R;refine ⟨⟨g1,hi⟩,λm=>⟨⟨g1,hi⟩,⟨by omega,m⟩,trivial,kk (by rw [qj];omega),trivial,kk (by rw [qj,zu4];omega),⟨by omega,by omega⟩,rfl,rfl,⟨by omega,by omega,rfl,?_,?_⟩,by simp only [qjg];omega⟩,
    λm=>⟨⟨by omega,by omega⟩,rfl,rfl,⟨by omega,by omega,rfl,?_,?_,?_,?_⟩,by simp only [qjf];omega⟩⟩
   .rw [zey a o m,List.append_assoc]
   .rw [zey a o m,zoh,List.append_assoc]
   .rw [zai a o m (by omega),ke g1 hi,qo7];rfl
   .rw [zai a o m (by omega),ke g1 hi,q69,y,Int.zero_add];rfl
   .rw [ke g1 hi];intro s h;rcases List.mem_append.1 h with h | h
    .exact n s h
    .rw [List.mem_singleton.1 h];exact ⟨a,k⟩
   .rw [zai a o m (by omega)];exact z6i i hi f B
 .rw [j9 hi] at n q L ⊢;rw [qcn hi,qcn (by omega)] at H;have S:qif ([],[]) 0 (qa c) (kh c)=(0,d):=by rw [<-H];rfl
  have b:=z8t g S;refine ⟨⟨zK 0,ln_nonneg _,(by rw [k6];intro p h;cases h)⟩,λY T=>?_⟩;obtain ⟨C,Z,D⟩:=T.get;refine ⟨λt=>⟨⟨C,t⟩,λu=>?_,λu=>⟨⟨by omega,by omega⟩,rfl,rfl,rfl,rfl,⟨by omega,by omega,?_⟩,by simp only [qjh];omega⟩⟩,λt=>⟨⟨J,q,rfl,j.1,λs h=>⟨j.2 s h,(n s h).1,Int.le_of_lt (n s h).2⟩⟩,?_⟩⟩
  .rw [zT (List.any_eq_true.2 ⟨_,qam C t,decide_eq_true (ln0 u)⟩)] at b;exact ⟨p1 b,p2 b,trivial⟩
  .rw [ke C t];intro p h;rcases List.mem_append.1 h with h | h
   .exact D p h
   .rw [List.mem_singleton.1 h];intro E;rw [E] at u;exact u rfl
  .rw [j9 t] at D;rw [zF (by
    intro h;obtain ⟨p,v,E⟩:=List.any_eq_true.1 h;exact D p v (of_decide_eq_true E))] at b
   exact ⟨pr1 b,pr2 b,trivial⟩
end
section
theorem zuf {a0:ZB} {a:List Page} (h:qf9 a0 a=true):ln a0<=1000000000/\smB a/\okB a/\ln (ze a)<=10000000/\ln a<=5000:=by
 obtain ⟨g,i,d,_⟩:=of_decide_eq_true h;have f:∀ p ∈ a,ln p.Staves<=5000/\∀ s ∈ p.Staves,ln s.Signs<=5000:=λp b=>⟨by have:=(d p b).1;omega,λs c=>by have:=(d p b).2 s c;omega⟩;have j:ln (qa a)<=15 * ln a:=qeb (by decide) λp b=>(d p b).1;refine ⟨by omega,⟨⟨by omega,by omega⟩,f⟩,λp b=>⟨by have:=(f p b).1;omega,λs c=>by have:=(f p b).2 s c;omega⟩,?_,by omega⟩;have k:ln (qa a)<=15 * ln a:=qeb (by decide) λp b=>(d p b).1;have l:ln (qat (qa a))<=70 * ln (qa a):=qeb (by decide) λs c=>by
  obtain ⟨p,b,c⟩:=List.mem_flatMap.1 c;have:=(d p b).2 s c;have e:ln (qj0 s)<=ln s.Signs:=by simp only [qj0,fr,ln,List.length_drop];omega
  omega
 show ln (qat (qa a))<=_;omega
end
end Go.Proofs.YtpgchdcifbaioaaGreatDoor
