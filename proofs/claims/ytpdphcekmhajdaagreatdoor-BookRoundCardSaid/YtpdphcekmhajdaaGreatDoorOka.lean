import Derived.Test.YtpdphcekmhajdaaGreatDoorVcs
import Derived.Test.YtpdphcekmhajdaaGreatDoorDall
import Derived.Test.YtpdphcekmhajdaaGreatDoorVct
namespace Go.Proofs.YtpdphcekmhajdaaGreatDoor
open Go Go.E2 Go.E3
set_option maxRecDepth 100000
theorem zf7 (s:Sign):Sign.mk s.Kind s.Value s.Place s.Acc s.Color s.Stem s.Oblique s.Last s.MensMax s.MensMod s.MensTem s.MensPro s.Stroke s.N s.D s.ClefStep s.ClefLine=s:=rfl
theorem q4q (a0 b:ZB):qm7 a0 b:=by
 unfold qm7 qbx;have n0:=ln_nonneg a0;have n1:=ln_nonneg b;refine ⟨λh=>⟨⟨n1,h⟩,λa=>?_,λa=>⟨⟨n1,h⟩,?_,?_,trivial⟩⟩,λh=>?_⟩
 .rw [zF (λc=>a c.2)];exact ⟨rfl,rfl,trivial⟩
 .rw [zT ⟨h,a⟩]
 .rw [zT ⟨h,a⟩]
 .rw [zF (by omega)];exact ⟨rfl,rfl,trivial⟩
section
variable {a0:List ZB} {W:List ZB} {i:Int} {S:List Sign}
theorem sf0:jg a0 0 []:=⟨zK _,ln_nonneg _,rfl,by rw [qfa]⟩
theorem zs8 (b:List ZB):∀ w ∈ qij b,w ∈ b:=by
 intro w a;unfold qij at a;split at a
 .exact List.mem_of_mem_drop (List.mem_of_mem_take a)
 .exact List.mem_of_mem_drop a
theorem zw7 (a0:List ZB):ln (qij a0)<=ln a0:=by
 unfold qij;split
 .simp only [upto,Go.E3.fr,ln,List.length_take,List.length_drop];omega
 .simp only [Go.E3.fr,ln,List.length_drop];omega
theorem q00 (j:qij a0=W) (g:qn0 a0) {a c:Int} {d:Bool} (k:zz a0=(Staff.mk (qmk W []).1 a d c,(qmk W []).2)) (h:jg a0 i S) :
  (i<ln W->Wn i (ln W)/\ln (ix W i)<=1000/\((ze (ix W i)).2≠0->S=(zz a0).1.Signs/\a=(zz a0).1.Lead/\d=(zz a0).1.Catch/\c=(zz a0).1.Custos/\false=(zz a0).2/\True)/\
    ((ze (ix W i)).2=0->True/\qp (S.length + [(ze (ix W i)).1].length)/\I64 (i+1)/\jg a0 (i+1) (S++[(ze (ix W i)).1])/\qaa a0 (i+1) (S++[(ze (ix W i)).1])<qaa a0 i S))/\
  (ln W<=i->S=(zz a0).1.Signs/\a=(zz a0).1.Lead/\d=(zz a0).1.Catch/\c=(zz a0).1.Custos/\true=(zz a0).2/\True):=by
 obtain ⟨e,m,n,b⟩:=h;subst j;rw [k];have o:=zw7 a0;have l:=g.1;refine ⟨λhi=>⟨⟨e,hi⟩,g.2 _ (zs8 a0 _ (qci e hi)),λf=>?_,λf=>?_⟩,λhi=>?_⟩
 .rw [qat e hi] at b;simp only [qmk,zT f] at b;rw [<-b];exact ⟨rfl,rfl,rfl,rfl,rfl,trivial⟩
 .rw [qat e hi] at b;simp only [qmk,f,ne_eq,not_true_eq_false,if_false] at b;exact ⟨trivial,qcj (by omega),⟨by omega,by omega⟩,⟨by omega,by omega,by rw [qb5];omega,b⟩,by simp only [qaa];omega⟩
 .rw [qhb hi] at b;simp only [qmk] at b;rw [<-b];exact ⟨rfl,rfl,rfl,rfl,rfl,trivial⟩
end
theorem zdf (a0:List ZB) (g:qn0 a0):qr9 a0:=by
 unfold qr9;dsimp only;simp only [zf7];have n0:=ln_nonneg a0;have u:=g.1;refine ⟨λh=>?_,λh=>⟨⟨by omega,by omega⟩,λj=>?_,λj=>⟨⟨by omega,by omega⟩,?_,λn=>?_,λn=>⟨⟨by omega,h⟩,λp=>?_,λp=>?_⟩⟩⟩⟩
 .unfold zz;rw [zT h];exact ⟨rfl,rfl,rfl,rfl,rfl,trivial⟩
 .unfold zz;rw [zF (by omega),zT j];exact ⟨rfl,rfl,rfl,rfl,rfl,trivial⟩
 .exact Int.le_trans (g.2 _ (qci (by omega) (by omega))) (by decide)
 .unfold zz;rw [zF (by omega),zF (by rw [j];simp),zT n];exact ⟨rfl,rfl,rfl,rfl,rfl,trivial⟩
 .have v:ln (fr a0 2)=ln a0-2:=qel (by omega) h;have i0:Wn (ln (fr a0 2)-1) (ln (fr a0 2)):=⟨by omega,by omega⟩;have o:I64 (ln (fr a0 2)-1):=⟨by omega,by omega⟩;have c:zz a0=if quj a0=true then (if (q5j a0).2=false then (Staff.mk [] (zb (ix a0 1)).1 false (q5j a0).1,false) else (Staff.mk (qmk (qij a0) []).1 (zb (ix a0 1)).1 true (q5j a0).1,(qmk (qij a0) []).2))
    else (Staff.mk (qmk (qij a0) []).1 (zb (ix a0 1)).1 false 0,(qmk (qij a0) []).2):=by
   unfold zz;rw [zF (by omega),zF (by rw [j];simp),zF (by simp [n])]
  have s:ix (fr a0 2) (ln (fr a0 2)-1) ∈ a0:=List.mem_of_mem_drop (qci i0.1 i0.2);refine ⟨o,i0,trivial,λi=>?_,λi=>?_⟩
  .have e:quj a0=true:=by unfold quj zce;rw [i,decide_eq_true p];rfl
   have k:1<=ln (ix (fr a0 2) (ln (fr a0 2)-1)):=by
    unfold preB at i;simp only [zA,decide_eq_true_eq] at i;exact i.1
   have t:q5j a0=qbo (fr (ix (fr a0 2) (ln (fr a0 2)-1)) 1):=rfl;rw [zT e,t] at c;refine ⟨o,i0,⟨by omega,k⟩,?_,λl=>?_,λl=>⟨o,⟨i0.1,by omega⟩,sf0,λq r hi=>?_⟩⟩
   .have:=g.2 _ s;rw [qel (by omega) k];omega
   .rw [zT l] at c;rw [c,l];exact ⟨rfl,rfl,rfl,rfl,rfl,trivial⟩
   .rw [zF (by simp [l])] at c;have f:qij a0=upto (fr a0 2) (ln (fr a0 2)-1):=by unfold qij;rw [zT e]
    rw [f] at c;obtain ⟨a,m⟩:=q00 f g c hi;rw [l];exact ⟨λb=>⟨(a b).1,(a b).2.1,(a b).2.2.1,λd=>⟨((a b).2.2.2 d).1,((a b).2.2.2 d).2.1,((a b).2.2.2 d).2.2.1,trivial,trivial,trivial,((a b).2.2.2 d).2.2.2⟩⟩,m⟩
  .have e:quj a0=false:=by unfold quj zce;rw [i];simp
   have f:qij a0=fr a0 2:=by unfold qij;rw [zF (by simp [e])]
   rw [zF (by simp [e]),f] at c;refine ⟨sf0,λq r hi=>?_⟩;obtain ⟨a,m⟩:=q00 f g c hi;exact ⟨λb=>⟨(a b).1,(a b).2.1,(a b).2.2.1,λd=>⟨((a b).2.2.2 d).1,((a b).2.2.2 d).2.1,((a b).2.2.2 d).2.2.1,trivial,((a b).2.2.2 d).2.2.2⟩⟩,m⟩
 .have e:quj a0=false:=by unfold quj;rw [decide_eq_false (by omega)];rfl
  have f:qij a0=fr a0 2:=by unfold qij;rw [zF (by simp [e])]
  have c:zz a0=(Staff.mk (qmk (fr a0 2) []).1 (zb (ix a0 1)).1 false 0,(qmk (fr a0 2) []).2):=by
   unfold zz;rw [zF (by omega),zF (by rw [j];simp),zF (by simp [n]),zF (by simp [e]),f]
  refine ⟨sf0,λq r hi=>?_⟩;obtain ⟨a,m⟩:=q00 f g c hi;exact ⟨λb=>⟨(a b).1,(a b).2.1,(a b).2.2.1,λd=>⟨((a b).2.2.2 d).1,((a b).2.2.2 d).2.1,((a b).2.2.2 d).2.2.1,trivial,((a b).2.2.2 d).2.2.2⟩⟩,m⟩
section
variable {t:ZB} {i n:Int} {P g:List Page} {Q:List Staff}
theorem ql4 (h:z8 t=zbt):([]:ZB)=(z8 t).1.1/\([]:List Page)=(z8 t).1.2/\(3:Int)=(z8 t).2.1/\(0:Int)=(z8 t).2.2/\True:=by rw [h];exact ⟨rfl,rfl,rfl,rfl,trivial⟩
theorem zf1 (a:z8 t=zlx t (some g)):((qaw (nmK t) g).2≠0->([]:ZB)=(z8 t).1.1/\([]:List Page)=(z8 t).1.2/\(3:Int)=(z8 t).2.1/\(0:Int)=(z8 t).2.2/\True)/\
  ((qaw (nmK t) g).2=0->((qaw (nmK t) g).1≠t->([]:ZB)=(z8 t).1.1/\([]:List Page)=(z8 t).1.2/\(3:Int)=(z8 t).2.1/\(0:Int)=(z8 t).2.2/\True)/\
    ((qaw (nmK t) g).1=t->nmK t=(z8 t).1.1/\g=(z8 t).1.2/\(0:Int)=(z8 t).2.1/\(0:Int)=(z8 t).2.2/\True)):=by
 simp only [zlx] at a;refine ⟨λh=>ql4 ?_,λh=>⟨λb=>ql4 ?_,λb=>?_⟩⟩
 .rw [a,zF (λc=>h c.1)]
 .rw [a,zF (λc=>b c.2)]
 .rw [a,zT ⟨h,b⟩];exact ⟨rfl,rfl,rfl,rfl,trivial⟩
theorem zwa (h:ln t<=20000):ln (qib t)<=20001:=by
 unfold qib;rw [qn1];have:=List.countP_le_length (p:=λb:UInt8=>decide ((b.toNat:Int)=10)) (l:=t);simp only [ln] at h;omega
theorem zqh {r:ZB} (h:r ∈ qhw t):r ∈ qib t:=by
 unfold qhw sub at h;exact List.mem_of_mem_take (List.mem_of_mem_drop h)
end
theorem zg2 (a0:ZB) (o:okP a0):qt6 a0:=by
 unfold qt6;dsimp only;have q:bx ([10]:ZB) 0=10:=rfl;have r:bx ([32]:ZB) 0=32:=rfl;have z:splitI 10 a0=qib a0:=rfl;have A:sub (qib a0) 1 (ln (qib a0)-2)=qhw a0:=rfl;have B:(qbx (ix (qib a0) 0) ([98,111,111,107,32]:ZB)).1=nmK a0:=rfl;simp only [q,r,z,A,B];have C:1<=ln (qib a0):=zdc _ _;refine ⟨⟨rfl,o.1⟩,⟨by omega,by omega⟩,trivial,λh=>ql4 ?_,λh=>⟨λp=>ql4 ?_,λp=>⟨λx=>ql4 ?_,λx=>?_⟩⟩⟩
 .unfold z8;rw [zT h]
 .unfold z8;rw [zF (by omega),zT p]
 .unfold z8;rw [zF (by omega),zF (by rw [p];simp),zT x]
 .have g:z8 a0=zlx a0 (qx4 (qhw a0)):=by unfold z8;rw [zF (by omega),zF (by rw [p];simp),zF (by omega)]
  have I:=zwa h;have J:ln (qhw a0)<=ln (qib a0):=by
   show ln (sub (qib a0) 1 (ln (qib a0)-2))<=_;rw [qzt (by omega) (by omega) (by omega)];omega
  have m:ln (nmK a0)<=1000000:=by
   have e:ln (ix (qib a0) 0)<=ln a0:=qde (c:=10) (show ix (qib a0) 0 ∈ qib a0 from qci (by omega) (by omega));show ln (qbx (ix (qib a0) 0) qna).1<=1000000;unfold qbx;split
   .simp only [Go.E3.fr,ln,List.length_drop] at *;omega
   .show ln (ix (qib a0) 0)<=_;omega
  have d:∀ i,0<=i->i<ln (qhw a0)->ln (ix (qhw a0) i)<=100000000/\qn0 (splitI 32 (ix (qhw a0) i)):=by
   intro i D hi;have y:=zqh (qci D hi);exact ⟨Int.le_trans (qde y) (by omega),o.2.1 _ y⟩
  refine ⟨⟨by omega,by omega⟩,⟨by omega,by omega,by omega⟩,λj=>⟨⟨by omega,j⟩,λs=>?_,λs=>?_⟩,λj=>?_⟩
  .have a:qx4 (qhw a0)=qw3 (fr (qhw a0) 1) [] []:=by
    have:qhw a0=ix (qhw a0) 0::fr (qhw a0) 1:=by
     have:=qat (l:=qhw a0) (i:=0) (by omega) j;rw [qfa] at this;exact this
    rw [this,qx4,zT s];rfl
   refine ⟨⟨zK _,by omega,rfl,by decide,by decide,a.symm⟩,λE K F G hi=>?_⟩;obtain ⟨i0,L,n,M,N,b⟩:=hi;have O:=ln_nonneg F;have P:=ln_nonneg G;refine ⟨λk=>⟨⟨by omega,k⟩,λt=>?_,λt=>?_⟩,λk=>?_⟩
   .rw [qat (by omega) k] at b;simp only [qw3,zT t] at b;exact ⟨n,trivial,qcj (by omega),⟨by omega,by omega⟩,by trivial,by trivial,⟨by omega,by omega,rfl,by rw [qb5];omega,by simp only [qfp];omega,b⟩,by simp only [qc2];omega⟩
   .obtain ⟨u,v⟩:=d E (by omega) k;rw [qat (by omega) k] at b;simp only [qw3,zF t] at b;refine ⟨⟨rfl,u⟩,v,λw=>ql4 ?_,λw=>⟨⟨by omega,by omega⟩,λH=>by omega,λH=>?_⟩⟩
    .rw [zF (by rw [w];simp)] at b;rw [g,<-b];rfl
    .rw [zT w] at b;exact ⟨⟨by omega,by omega⟩,⟨by omega,by omega⟩,by omega,n,trivial,qcj (by omega),n,⟨by omega,by omega⟩,by trivial,by trivial,⟨by omega,by omega,n,by omega,by rw [qb5];omega,b⟩,by simp only [qc2];omega⟩
   .rw [qhb k] at b;simp only [qw3] at b;rw [<-b] at g;exact ⟨n,trivial,qcj (by omega),⟨m,o.2.2 _ b.symm⟩,zf1 g⟩
  .have a:qx4 (qhw a0)=none:=by
    have:qhw a0=ix (qhw a0) 0::fr (qhw a0) 1:=by
     have:=qat (l:=qhw a0) (i:=0) (by omega) j;rw [qfa] at this;exact this
    rw [this,qx4,zF s]
   have f:z8 a0=zbt:=by rw [g,a];rfl
   obtain ⟨u,v⟩:=d 0 (by omega) j;exact ⟨⟨rfl,u⟩,v,λ_=>ql4 f,λ_=>ql4 f⟩
  .have a:qx4 (qhw a0)=some []:=by rw [zr7 j];rfl
   rw [a] at g;exact ⟨⟨m,o.2.2 _ a⟩,zf1 g⟩
theorem zug (a:UInt8):ln [a]=1:=rfl
theorem zmx {s:ZB} (h:s≠[]):0<ln s:=by
 cases s with
 | nil=>exact absurd rfl h
 | cons a l=>simp only [ln,List.length_cons];omega
theorem q4u (a0 a:ZB):qm8 a0 a:=by
 unfold qm8;have:=ln_nonneg a;refine ⟨λh=>⟨⟨ln_nonneg a,h⟩,?_,trivial⟩,λh=>⟨?_,trivial⟩⟩
 .simp only [preB,h,decide_true,Bool.true_and]
 .simp only [preB,show ¬ ln a<=ln a0 by omega,decide_false,Bool.false_and]
theorem zue (x y:MapIS):zcd XK 24 1 x y=decide (x.key=y.key):=by
 show qhi [(.int .i64 none x.key:PV KT)] [.int .i64 none y.key]=_;rw [Bool.eq_iff_iff];simp [qhi]
theorem qmv (y:MapIS):qhd [] y=y:=rfl
theorem qdv (x:MapIS) (l:List MapIS) (y:MapIS):qhd (x::l) y=bif decide (y.key=x.key) then x else qhd l y:=by
 rw [<-zue];rfl
theorem qu5 (y:MapIS):qig [] y=[y]:=rfl
theorem q0d (x:MapIS) (l:List MapIS) (y:MapIS):qig (x::l) y=bif decide (y.key=x.key) then y::l else x::qig l y:=by
 rw [<-zue];rfl
theorem zrd (a:Int):(qhd (qig (qig ([]:List MapIS) (MapIS.mk 2 ([50]:ZB))) (MapIS.mk 3 ([51]:ZB))) (MapIS.mk a ([]:ZB))).v=zhs a:=by
 simp only [qu5,q0d,qmv,qdv,zhs];by_cases b:a=2
 .simp [b,qdv]
 .by_cases c:a=3
  .simp [c,qdv]
  .simp [b,c,qdv,qmv]
theorem zti (a:Int):(qhd (qig (qig ([]:List MapIS) (MapIS.mk 2 ([67]:ZB))) (MapIS.mk 3 ([79]:ZB))) (MapIS.mk a ([]:ZB))).v=zpb a:=by
 simp only [qu5,q0d,qmv,qdv,zpb];by_cases b:a=2
 .simp [b,qdv]
 .by_cases c:a=3
  .simp [c,qdv]
  .simp [b,c,qdv,qmv]
theorem zs3 (a:Int):(qhd (qig ([]:List MapIS) (MapIS.mk 3 ([46]:ZB))) (MapIS.mk a ([]:ZB))).v=zoi a:=by
 simp only [qu5,qmv,qdv,zoi];by_cases b:a=3
 .simp [b]
 .simp [b]
theorem qw7 (a:Int):(zhs a).length<=1:=by unfold zhs;(repeat' split)<;>simp
theorem zgd (a:Int):(zpb a).length<=1:=by unfold zpb;(repeat' split)<;>simp
theorem zf2 (a:Int):(zoi a).length<=1:=by unfold zoi;(repeat' split)<;>simp
theorem zjp (a0 b a2 a3:Int):qvg a0 b a2 a3:=by
 unfold qvg;dsimp only;simp only [zrd,zti,zs3,qp,List.length_append,List.length_nil];have c:=qw7 a0;have d:=qw7 b;have e:=zgd a2;have f:=zf2 a3
 unhygienic (repeat' (first | exact trivial | exact And.intro (by omega) trivial | apply And.intro | intro))
 all_goals first
  | omega
  | (simp_all [jv];done)
theorem zg8 (a0 b a2 a3:Int):qt7 a0 b a2 a3:=by
 unfold qt7;simp only [ql7]
 unhygienic (repeat' (first | exact trivial | apply And.intro | intro))
 all_goals first
  | (simp_all;done)
  | (unfold qe0 at *;split<;>simp_all)
theorem zud (x y:MapSM):zcd XK 23 1 x y=decide (x.key=y.key):=by
 show qhi [(.str x.key:PV KT)] [.str y.key]=_;rw [Bool.eq_iff_iff];simp [qhi]
theorem qy5 (x:MapSM) (l:List MapSM) (y:MapSM):qmc (x::l) y=bif decide (y.key=x.key) then x else qmc l y:=by
 rw [<-zud];rfl
theorem qzb (x:MapSM) (l:List MapSM) (y:MapSM):qzc (x::l) y=(decide (y.key=x.key) || qzc l y):=by
 rw [<-zud];rfl
def q8d (m:M4):MapSM:=MapSM.mk (txM m) m.1 m.2.1 m.2.2.1 m.2.2.2
def mapM:List MapSM:=allM.map q8d
theorem zl6 (s:ZB):∀ (l:List M4),qzc (l.map q8d) (MapSM.mk s 0 0 0 0)=decide ((qpu s l).2=0)/\
  ((qmc (l.map q8d) (MapSM.mk s 0 0 0 0)).vMax,(qmc (l.map q8d) (MapSM.mk s 0 0 0 0)).vMod,(qmc (l.map q8d) (MapSM.mk s 0 0 0 0)).vTem,(qmc (l.map q8d) (MapSM.mk s 0 0 0 0)).vPro)=(qpu s l).1/\((qpu s l).2=0∨(qpu s l)=((0,0,0,0),3))
 | []=>⟨rfl,rfl,.inr rfl⟩
 | m::l=>by
  obtain ⟨b,c,d⟩:=zl6 s l;by_cases h:txM m=s
  .have a:decide (s=(q8d m).key)=true:=decide_eq_true h.symm;simp only [List.map_cons,qy5,qzb,qpu,zT h,a];exact ⟨by simp,rfl,.inl trivial⟩
  .have a:decide (s=(q8d m).key)=false:=decide_eq_false λe=>h e.symm;simp only [List.map_cons,qy5,qzb,qpu,zF h,a,Bool.false_or,zQ];exact ⟨b,c,d⟩
theorem zr9:qac (qac (qac (qac (qac (qac (qac (qac (qac (qac (qac (qac (qac (qac (qac (qac ([]:List MapSM) (MapSM.mk (jv 2 2 2 2) 2 2 2 2)) (MapSM.mk (jv 2 2 2 3) 2 2 2 3)) (MapSM.mk (jv 2 2 3 2) 2 2 3 2)) (MapSM.mk (jv 2 2 3 3) 2 2 3 3)) (MapSM.mk (jv 2 3 2 2) 2 3 2 2)) (MapSM.mk (jv 2 3 2 3) 2 3 2 3)) (MapSM.mk (jv 2 3 3 2) 2 3 3 2)) (MapSM.mk (jv 2 3 3 3) 2 3 3 3)) (MapSM.mk (jv 3 2 2 2) 3 2 2 2)) (MapSM.mk (jv 3 2 2 3) 3 2 2 3)) (MapSM.mk (jv 3 2 3 2) 3 2 3 2)) (MapSM.mk (jv 3 2 3 3) 3 2 3 3)) (MapSM.mk (jv 3 3 2 2) 3 3 2 2)) (MapSM.mk (jv 3 3 2 3) 3 3 2 3)) (MapSM.mk (jv 3 3 3 2) 3 3 3 2)) (MapSM.mk (jv 3 3 3 3) 3 3 3 3)=mapM:=by
 rfl
theorem zbj (a0:ZB):qrd a0:=by
 unfold qrd;dsimp only;simp only [zr9];obtain ⟨d,c,b⟩:=zl6 a0 allM;simp only [mapM,d];simp only [Prod.ext_iff] at c;obtain ⟨e,f,g,h⟩:=c
 unhygienic (repeat' (first | exact trivial | apply And.intro | intro))
 all_goals unfold qhp
 all_goals first
  | exact e
  | exact f
  | exact g
  | exact h
  | (rcases b with b | b
     .simp_all
     .rw [b])
  | (simp_all;done)
theorem qk7 {s:ZB} {i n:Int} (a:0<=i) (h:i<ln s) (b:48<=bx s i) (c:bx s i<=57) (e:10 * n+(bx s i-48)<=1099511627776):qd5 s i n=qd5 s (i+1) (10 * n+(bx s i-48)):=by
 conv=>lhs;rw [qd5]
 have d:qeu (bx s i)=true:=by simp [qeu,b,c]
 rw [dif_pos ⟨a,h⟩,zT d,zF (by omega)]
theorem zsl {s:ZB} {i n:Int} (a:0<=i) (h:i<ln s) (c:bx s i<48∨57<bx s i):qd5 s i n=(0,false):=by
 rw [qd5];have b:¬ qeu (bx s i)=true:=by simp only [qeu,zA,decide_eq_true_eq];omega
 rw [dif_pos ⟨a,h⟩,zF b]
theorem zsm {s:ZB} {i n:Int} (a:0<=i) (h:i<ln s) (b:48<=bx s i) (c:bx s i<=57) (e:1099511627776<10 * n+(bx s i-48)):qd5 s i n=(0,false):=by
 rw [qd5];have d:qeu (bx s i)=true:=by simp [qeu,b,c]
 rw [dif_pos ⟨a,h⟩,zT d,zT (by omega)]
theorem qxg {s:ZB} {i n:Int} (h:ln s<=i):qd5 s i n=(n,true):=by
 rw [qd5,dif_neg (by omega)]
theorem q9o {s:ZB} (h:s=[]∨(bx s 0=48/\1<ln s)):zb s=(0,false):=by
 unfold zb;rw [zT];rcases h with rfl | h
 .exact .inl rfl
 .exact .inr h
theorem znf {s:ZB} (h:s≠[]) (b:¬ (bx s 0=48/\1<ln s)):qd5 s 0 0=zb s:=by
 unfold zb;rw [zF];have:=zmx h;rintro (a | a)
 .omega
 .exact b a
theorem zii:∀ {s:ZB} {i n:Int},0<=n->n<=1099511627776->0<=(qd5 s i n).1/\(qd5 s i n).1<=1099511627776:=by
 intro s i n b c
 fun_induction qd5 s i n with
 | case1 i n h a d=>simp
 | case2 i n h a d e=>
  have:48<=bx s i:=by simp only [qeu,zA,decide_eq_true_eq] at a;exact a.1
  exact e (by omega) (by omega)
 | case3 i n h a=>simp
 | case4 i n h=>exact ⟨b,c⟩
theorem zwm (s:ZB):0<=(zb s).1/\(zb s).1<=1099511627776:=by
 unfold zb;split
 .simp
 .exact zii (by omega) (by omega)
theorem q9n:∀ {s:ZB} {i n:Int},(qd5 s i n).2=false->(qd5 s i n).1=0:=by
 intro s i n
 fun_induction qd5 s i n with
 | case1 i n h a b=>simp
 | case2 i n h a b c=>exact c
 | case3 i n h a=>simp
 | case4 i n h=>simp
theorem zng {s:ZB} (h:(zb s).2=false):(zb s).1=0:=by
 unfold zb at h ⊢;split
 .rfl
 .rename_i a;rw [zF a] at h;exact q9n h
theorem znd {s:ZB} {i n:Int} (h:qd5 s i n=zb s) (a:0<=i) (b:i<ln s) (d:bx s i<48∨57<bx s i∨1099511627776<10 * n+(bx s i-48)):zb s=(0,false):=by
 rw [<-h];by_cases c:bx s i<48∨57<bx s i
 .exact zsl a b c
 .exact zsm a b (by omega) (by omega) (by omega)
theorem znc {s:ZB} {i n:Int} (h:qd5 s i n=zb s) (a:ln s<=i):zb s=(n,true):=by rw [<-h];exact qxg a
theorem zne {s:ZB} {i n:Int} (h:qd5 s i n=zb s) (a:0<=i) (b:i<ln s) (c:48<=bx s i) (d:bx s i<=57) (e:10 * n+(bx s i-48)<=1099511627776):qd5 s (i+1) (10 * n+(bx s i-48))=zb s:=by
 rw [<-h];exact (qk7 a b c d e).symm
set_option maxHeartbeats 4000000 in
theorem zbf (a0:ZB) (c:ln a0<=1000000):qrc a0:=by
 unfold qrc;simp only [qb9,qdb,and_imp];have b:a0≠[]->0<ln a0:=zmx
 unhygienic (repeat' (first | exact trivial | exact And.intro (by omega) trivial | apply And.intro | intro))
 all_goals first
  | omega
  | (have:=b ‹_›;omega)
  | (rw [q9o (.inl ‹_›)];done)
  | (rw [q9o (.inr ⟨by assumption,by assumption⟩)];done)
  | (rw [znd ‹_› ‹_› ‹_› (by omega)];done)
  | (rw [znc ‹_› ‹_›];done)
  | exact zne ‹_› ‹_› ‹_› ‹_› ‹_› ‹_›
  | exact znf ‹_› (by omega)
  | exact zK _
  | (have:=b ‹_›;omega)
theorem zwr {s:ZB} {c:UInt8}:upto s (ln [c])=[c]↔0<ln s/\bx s 0=c.toNat:=by
 cases s with
 | nil=>simp [upto,ln]
 | cons a l=>
  have:upto (a::l) (ln [c])=[a]:=rfl;rw [this];have e:bx (a::l) 0=(a.toNat:Int):=rfl;rw [e];simp only [List.cons.injEq,and_true,kk];have:=ln_nonneg l;constructor
  .rintro rfl;exact ⟨by omega,rfl⟩
  .rintro ⟨_,h⟩;exact qgc h
theorem zc5 {s:ZB} (h:¬ (0<ln s/\bx s 0=45)):qbo s=zb s:=by rw [qbo,zF h]
theorem q60 {s:ZB} (h:0<ln s/\bx s 0=45) (a:(zb (fr s 1)).2=true) (b:(zb (fr s 1)).1≠0):qbo s=(-(zb (fr s 1)).1,true):=by rw [qbo,zT h,zT ⟨a,b⟩]
theorem zf6 {s:ZB} (h:0<ln s/\bx s 0=45) (a:(zb (fr s 1)).2=false∨(zb (fr s 1)).1=0):qbo s=(0,false):=by
 rw [qbo,zT h,zF];rintro ⟨b,c⟩;rcases a with a | a
 .rw [a] at b;cases b
 .exact c a
theorem zbn (a0:ZB) (d:ln a0<=1000000):qre a0:=by
 unfold qre;dsimp only;have e:ln (fr a0 (ln ([45]:ZB)))<=ln a0:=by simp only [fr,ln,List.length_drop];omega
 have f:=zwm (fr a0 (ln ([45]:ZB)));have b:=@zng a0;have g:ln ([45]:ZB)=1:=rfl;have c:((45:UInt8).toNat:Int)=45:=rfl;have h:=ln_nonneg a0
 unhygienic (repeat' (first | exact trivial | exact And.intro (by omega) trivial | apply And.intro | intro))
 all_goals first
  | omega
  | (rw [ne_eq,zwr] at a_1;rw [zc5 a_1]<;>first | assumption | exact (b ‹_›).symm | (symm;assumption) | rfl)
  | (rw [zwr] at a_1;first | (rw [zf6 a_1 (.inl ‹_›)];done) | (rw [zf6 a_1 (.inr ‹_›)];done) | (rw [q60 a_1 ‹_› ‹_›];done) | (rw [q60 a_1 ‹_› ‹_›];rfl))
  | (rw [zc5 (by omega)]<;>first | assumption | exact (b ‹_›).symm | (symm;assumption) | rfl)
theorem zoa {s:ZB} {c i k m:Int} (a:0<=i) (h:i<ln s) (b:bx s i=c):qfr s c i k m=qfr s c (i+1) i (m+1):=by
 conv=>lhs;rw [qfr]
 rw [dif_pos ⟨a,h⟩,zT b]
theorem ziv {s:ZB} {c i k m:Int} (a:0<=i) (h:i<ln s) (b:bx s i≠c):qfr s c i k m=qfr s c (i+1) k m:=by
 conv=>lhs;rw [qfr]
 rw [dif_pos ⟨a,h⟩,zF b]
theorem zob {s:ZB} {c i k:Int} (h:ln s<=i):qfr s c i k 1=(upto s k,fr s (k+1),true):=by
 rw [qfr,dif_neg (by omega),zT rfl]
theorem q59 {n:Int} (_:0<=n):(qe1 n).length<=3:=by
 unfold qe1;split
 .simp [d1]
 .split
  .simp [d1]
  .simp
theorem qch (n:Int):(qu n).length<=4:=by
 unfold qu;split
 .simp only [List.length_cons];have:=q59 (n:=-n) (by omega);omega
 .have:=q59 (n:=n) (by omega);omega
theorem zqc (a:Int):(qmr a).length<=1:=by unfold qmr;(repeat' split)<;>simp
theorem zql (c:Bool):(q5e c).length<=1:=by unfold q5e;(repeat' split)<;>simp
theorem zap (k:Int):(qhz k).length<=1:=by unfold qhz;(repeat' split)<;>simp
theorem qth (b:Bool) (c:UInt8):(zp b c).length<=1:=by unfold zp;(repeat' split)<;>simp
theorem q81 (s:Sign):(qhf s).length<=6:=by
 unfold qhf;have a:=qch s.Place;have b:=zqc s.Acc;have c:=zql s.Color;simp only [List.length_append];omega
theorem q6e {s:Sign} (h:kh s=0):1<=s.Kind/\s.Kind<=12/\qk4 s/\(s.Kind=5->qe0 s.MensMax s.MensMod s.MensTem s.MensPro=0)/\qei s/\¬ (s.Oblique=true/\s.Last=true):=by
 unfold kh at h;split at h
 .cases h
 .rename_i g;split at h
  .cases h
  .rename_i b;split at h
   .cases h
   .rename_i c;split at h
    .cases h
    .rename_i d;split at h
     .cases h
     .rename_i e;refine ⟨by omega,by omega,Decidable.not_not.1 b,λf=>?_,Decidable.not_not.1 d,e⟩;by_cases a:qe0 s.MensMax s.MensMod s.MensTem s.MensPro=0
      .exact a
      .exact absurd ⟨f,a⟩ c
theorem zpt {s:Sign} (h:kh s=0):qep s=(qam s,0):=by rw [qep,zT h]
theorem za2 {s:Sign} (h:kh s≠0):qep s=([],kh s):=by rw [qep,zF h]
theorem ztj {a b c d:Int} (h:qe0 a b c d=0):ql7 a b c d=(jv a b c d,0):=by rw [ql7,zT h]
theorem zav (a b c d:Int):(jv a b c d).length<=4:=by
 unfold jv;have e:=qw7 a;have f:=qw7 b;have g:=zgd c;have h:=zf2 d
 split<;>simp only [List.length_append,List.length_nil]<;>omega
theorem qxd (v:Int):(ltr v).length<=8:=by unfold ltr zm1 sub;simp only [List.length_drop,List.length_take,List.length_cons,List.length_nil];omega
theorem zo5 (k:Int):(qm2 k).length<=1:=by unfold qm2;(repeat' split)<;>simp
theorem zm0 {v:Int} (h:1<=v/\v<=8):[UInt8.ofNat (Int.toNat (bx ([88,76,66,83,77,81,70,90]:ZB) (v-1)))]=ltr v/\U8 (bx ([88,76,66,83,77,81,70,90]:ZB) (v-1)):=by
 have a:v=1∨v=2∨v=3∨v=4∨v=5∨v=6∨v=7∨v=8:=by omega
 rcases a with rfl | rfl | rfl | rfl | rfl | rfl | rfl | rfl<;>exact ⟨rfl,by decide⟩
theorem zo4 {k:Int} (h:0<k/\k<=3):sub ([32,94,118,62]:ZB) k (k+1)=qhz k:=by
 have a:k=1∨k=2∨k=3:=by omega
 rcases a with rfl | rfl | rfl<;>rfl
theorem zjl {k:Int} (h:¬ 0<k) (a:0<=k):qhz k=[]:=by
 obtain rfl:k=0:=by omega
 rfl
theorem zqk {k:Int} (h:k=0∨k=3∨k=4):[UInt8.ofNat (Int.toNat (bx ([67,46,46,70,71]:ZB) k))]=qm2 k/\U8 (bx ([67,46,46,70,71]:ZB) k):=by
 rcases h with rfl | rfl | rfl<;>exact ⟨rfl,by decide⟩
theorem qf3 (a:Int):qmr a=acA a++acB a++acC a:=by
 unfold qmr acA acB acC;by_cases b:a = -1
 .simp [b]
 .by_cases c:a=1
  .simp [c]
  .simp [b,c]
theorem zdx (a:Int):(acA a).length<=1:=by unfold acA;split<;>simp
theorem zdy (a:Int):(acB a).length<=1:=by unfold acB;split<;>simp
theorem zdz (a:Int):(acC a).length<=1:=by unfold acC;split<;>simp
theorem zzr (g a2 a3:Int) (a4:Bool) (a5:Int) (h i:Bool) (j a9 a b:Int) (a12:Bool) (c d e f:Int):qam (Sign.mk 1 g a2 a3 a4 a5 h i j a9 a b a12 c d e f)=ltr g++(qu a2++(acA a3++acB a3++acC a3)++q5e a4):=by
 simp [qam,qjn,qhf,qf3]
theorem zzs (g a2 a3:Int) (a4:Bool) (a5:Int) (h i:Bool) (j a9 a b:Int) (a12:Bool) (c d e f:Int):qam (Sign.mk 2 g a2 a3 a4 a5 h i j a9 a b a12 c d e f)=[114]++ltr g:=by
 simp [qam,qjn,qhf,qf3]
theorem zzt (g a2 a3:Int) (a4:Bool) (a5:Int) (h i:Bool) (j a9 a b:Int) (a12:Bool) (c d e f:Int):qam (Sign.mk 3 g a2 a3 a4 a5 h i j a9 a b a12 c d e f)=[46]:=by
 simp [qam,qjn,qhf,qf3]
theorem zzu (i a2 a3:Int) (a4:Bool) (a5:Int) (g h:Bool) (j a9 a b:Int) (a12:Bool) (c d e f:Int):qam (Sign.mk 4 i a2 a3 a4 a5 g h j a9 a b a12 c d e f)=[116]++(qu a2++(acA a3++acB a3++acC a3)++q5e a4)++qhz a5++zp g 126++zp h 33:=by
 simp [qam,qjn,qhf,qf3]
theorem zzv (h a2 a3:Int) (a4:Bool) (a5:Int) (i j:Bool) (g a9 a b:Int) (a12:Bool) (c d e f:Int):qam (Sign.mk 5 h a2 a3 a4 a5 i j g a9 a b a12 c d e f)=[40]++jv g a9 a b++[41]++zp a12 124:=by
 simp [qam,qjn,qhf,qf3]
theorem zzw (g a2 a3:Int) (a4:Bool) (a5:Int) (h i:Bool) (j a9 c d:Int) (a12:Bool) (a b e f:Int):qam (Sign.mk 6 g a2 a3 a4 a5 h i j a9 c d a12 a b e f)=qu a++[47]++qu b:=by
 simp [qam,qjn,qhf,qf3]
theorem zzx (g a2 a3:Int) (a4:Bool) (a5:Int) (h i:Bool) (j a9 c d:Int) (a12:Bool) (e f a b:Int):qam (Sign.mk 7 g a2 a3 a4 a5 h i j a9 c d a12 e f a b)=[64]++qm2 a++qu b:=by
 simp [qam,qjn,qhf,qf3]
theorem zzy (g a2 a3:Int) (a4:Bool) (a5:Int) (h i:Bool) (j a9 b c:Int) (a12:Bool) (a d e f:Int):qam (Sign.mk 8 g a2 a3 a4 a5 h i j a9 b c a12 a d e f)=[38]++qu a:=by
 simp [qam,qjn,qhf,qf3]
theorem zzz (g a2 a3:Int) (a4:Bool) (a5:Int) (h i:Bool) (j a9 a b:Int) (a12:Bool) (c d e f:Int):qam (Sign.mk 9 g a2 a3 a4 a5 h i j a9 a b a12 c d e f)=[91]:=by
 simp [qam,qjn,qhf,qf3]
theorem zxo (g a2 a3:Int) (a4:Bool) (a5:Int) (h i:Bool) (j a9 b c:Int) (a12:Bool) (a d e f:Int):qam (Sign.mk 10 g a2 a3 a4 a5 h i j a9 b c a12 a d e f)=[93]++qu a:=by
 simp [qam,qjn,qhf,qf3]
theorem zxp (g a2 a3:Int) (a4:Bool) (a5:Int) (h i:Bool) (j a9 a b:Int) (a12:Bool) (c d e f:Int):qam (Sign.mk 11 g a2 a3 a4 a5 h i j a9 a b a12 c d e f)=[116,117,114,110]:=by
 simp [qam,qjn,qhf,qf3]
theorem zxq (g a2 a3:Int) (a4:Bool) (a5:Int) (h i:Bool) (j a9 a b:Int) (a12:Bool) (c d e f:Int):qam (Sign.mk 12 g a2 a3 a4 a5 h i j a9 a b a12 c d e f)=[115,105,103]:=by
 simp [qam,qjn,qhf,qf3]
set_option maxHeartbeats 8000000 in
theorem zkw (a0 q a2 a3:Int) (a4:Bool) (a5:Int) (y D:Bool) (z a9 r s:Int) (a12:Bool) (b o n p:Int):qxw a0 q a2 a3 a4 a5 y D z a9 r s a12 b o n p:=by
 unfold qxw;dsimp only;refine ⟨trivial,λh=>⟨by rw [za2 h],by rw [za2 h],trivial⟩,λh=>?_⟩;obtain ⟨i,j,_,d,w,_⟩:=q6e h;unfold qei at w;simp only at i j d w;have c:a0=1∨a0=2->1<=q/\q<=8:=by omega
 have f:a0=1∨a0=4->-4<=a2/\a2<=12:=by omega
 have k:a0=4->0<=a5/\a5<=3:=by omega
 have l:a0=6->1<=b/\b<=100/\1<=o/\o<=100:=by omega
 have m:a0=7->(n=0∨n=3∨n=4)/\1<=p/\p<=5:=by omega
 have g:a0=8∨a0=10->0<=b/\b<=4:=by omega
 clear w;simp only [zpt h,qp,List.length_append,List.length_cons,List.length_nil,ln,List.nil_append,qdl,qdm,qdn,qdo,qdp,zme,forall_eq];clear h;refine ⟨by omega,λe=>by omega,λe=>?_,λe=>?_,λe=>?_,λe=>?_,λe=>?_,λe=>?_,λe=>?_,λe=>?_,λe=>?_,λe=>?_,λe=>?_,λe=>?_,trivial⟩
 .subst e;obtain ⟨t,A⟩:=zm0 (c (.inl rfl));have r1:=c (.inl rfl);have E:=f (.inl rfl);have F:=qxd q;have G:=qch a2;have m1:=zdx a3;have m2:=zdy a3;have m3:=zdz a3;clear c f k l m g d i j;simp only [t,zzr]
  unhygienic (repeat' (first | exact trivial | (with_reducible exact rfl) | (with_reducible apply And.intro) | intro))
  all_goals first
   | omega
   | (subst_vars;simp [acA,acB,acC,q5e,zp];done)
   | (simp [*,acA,acB,acC,q5e,zp];done)
 .subst e;obtain ⟨t,A⟩:=zm0 (c (.inr rfl));have r1:=c (.inr rfl);have F:=qxd q;clear c f k l m g d i j;simp only [t,zzs]
  unhygienic (repeat' (first | exact trivial | (with_reducible exact rfl) | (with_reducible apply And.intro) | intro))
  all_goals first
   | omega
   | (subst_vars;simp [zp];done)
   | (simp [*,zp];done)
 .subst e;clear c f k l m g d i j;simp only [zzt]
  unhygienic (repeat' (first | exact trivial | (with_reducible exact rfl) | (with_reducible apply And.intro) | intro))
  all_goals first
   | omega
   | (subst_vars;simp [zp];done)
   | (simp [*,zp];done)
 .subst e;have E:=f (.inr rfl);have B:=k rfl;have G:=qch a2;have m1:=zdx a3;have m2:=zdy a3;have m3:=zdz a3;have K:=qth y 126;have L:=zap a5;have u:0<a5->sub ([32,94,118,62]:ZB) a5 (a5+1)=qhz a5:=λe=>zo4 ⟨e,B.2⟩;have v:a5<=0->qhz a5=[]:=λe=>zjl (by omega) B.1;clear c f k l m g d i j;simp only [zzu]
  unhygienic (repeat' (first | exact trivial | (with_reducible exact rfl) | (with_reducible apply And.intro) | intro))
  all_goals first
   | omega
   | (rw [u ‹_›];omega)
   | (rw [u ‹_›];done)
   | (rw [v ‹_›];simp;done)
   | (subst_vars;simp [acA,acB,acC,q5e,zp];done)
   | (simp [*,acA,acB,acC,q5e,zp];done)
 .subst e;have H:=ztj (d rfl);have M:=zav z a9 r s;clear c f k l m g d i j;simp only [H,zzv]
  unhygienic (repeat' (first | exact trivial | (with_reducible exact rfl) | (with_reducible apply And.intro) | intro))
  all_goals first
   | omega
   | (subst_vars;simp [zp];done)
   | (simp [*,zp];done)
 .subst e;have N:=l rfl;have C:=qch b;have O:=qch o;clear c f k l m g d i j;simp only [zzw]
  unhygienic (repeat' (first | exact trivial | (with_reducible exact rfl) | (with_reducible apply And.intro) | intro))
  all_goals first
   | omega
   | (subst_vars;simp [zp];done)
   | (simp [*,zp];done)
 .subst e;have I:=m rfl;obtain ⟨t,A⟩:=zqk I.1;have P:=qch p;have Q:=zo5 n;clear c f k l m g d i j;simp only [t,zzx]
  unhygienic (repeat' (first | exact trivial | (with_reducible exact rfl) | (with_reducible apply And.intro) | intro))
  all_goals first
   | omega
   | (subst_vars;simp [zp];done)
   | (simp [*,zp];done)
 .subst e;have J:=g (.inl rfl);have C:=qch b;clear c f k l m g d i j;simp only [zzy]
  unhygienic (repeat' (first | exact trivial | (with_reducible exact rfl) | (with_reducible apply And.intro) | intro))
  all_goals first
   | omega
   | (subst_vars;simp [zp];done)
   | (simp [*,zp];done)
 .subst e;clear c f k l m g d i j;simp only [zzz]
  unhygienic (repeat' (first | exact trivial | (with_reducible exact rfl) | (with_reducible apply And.intro) | intro))
  all_goals first
   | omega
   | (subst_vars;simp [zp];done)
   | (simp [*,zp];done)
 .subst e;have J:=g (.inr rfl);have C:=qch b;clear c f k l m g d i j;simp only [zxo]
  unhygienic (repeat' (first | exact trivial | (with_reducible exact rfl) | (with_reducible apply And.intro) | intro))
  all_goals first
   | omega
   | (subst_vars;simp [zp];done)
   | (simp [*,zp];done)
 .subst e;clear c f k l m g d i j;simp only [zxp]
  unhygienic (repeat' (first | exact trivial | (with_reducible exact rfl) | (with_reducible apply And.intro) | intro))
  all_goals first
   | omega
   | (subst_vars;simp [zp];done)
   | (simp [*,zp];done)
 .subst e;clear c f k l m g d i j;simp only [zxq]
  unhygienic (repeat' (first | exact trivial | (with_reducible exact rfl) | (with_reducible apply And.intro) | intro))
  all_goals first
   | omega
   | (subst_vars;simp [zp];done)
   | (simp [*,zp];done)
theorem zjm (k:Int):(qm2 k).length<=1:=by unfold qm2;(repeat' split)<;>simp
theorem qdx (l m:ZB) {i j k:Nat} (a:l.length<=i) (b:m.length<=j) (h:i+j<=k):(l++m).length<=k:=by rw [List.length_append];omega
theorem zpd (s:Sign):(qjn s).length<=10:=
 qdx _ _ (qdx _ _ (qdx _ _ (qdx _ _ (i:=1) (zN _) (q81 s) (zN 7)) (zap _) (zN 8)) (qth _ _) (zN 9)) (qth _ _) (zN 10)
theorem zjt (s:Sign):(qam s).length<=30:=by
 unfold qam;split
 .exact qdx _ _ (qxd _) (q81 s) (by decide)
 split
 .exact qdx _ _ (i:=1) (zN _) (qxd _) (by decide)
 split
 .decide
 split
 .exact zR (zpd s) (by decide)
 split
 .exact qdx _ _ (qdx _ _ (qdx _ _ (i:=1) (zN _) (zav _ _ _ _) (zN 5)) (j:=1) (zN _) (zN 6)) (qth _ _) (by decide)
 split
 .exact qdx _ _ (qdx _ _ (qch _) (j:=1) (zN _) (zN 5)) (qch _) (by decide)
 split
 .exact qdx _ _ (qdx _ _ (i:=1) (zN _) (zjm _) (zN 2)) (qch _) (by decide)
 split
 .exact qdx _ _ (i:=1) (zN _) (qch _) (by decide)
 split
 .decide
 split
 .exact qdx _ _ (i:=1) (zN _) (qch _) (by decide)
 split<;>decide
theorem zps (s:Sign):(qep s).1.length<=30:=by
 unfold qep;split
 .exact zjt s
 .exact Nat.zero_le _
theorem ztr (s:Sign):0<=ln (qep s).1/\ln (qep s).1<=30:=by
 have:=zps s;simp only [ln];omega
theorem qzm (n:Int):ln (qu n)<=4:=by have:=qch n;simp only [ln];omega
theorem q51 (b:UInt8):ln [b]=1:=rfl
theorem qtb:∀ {l:List ZB},(∀ w ∈ l,ln w<=30)->ln (qaz l [32])<=31 * ln l
 | [],_=>by decide
 | [x],h=>by have:=h x zC;simp only [qaz,kk,qfp];omega
 | x::y::l,h=>by
  have c:=h x zC;have d:=qtb (l:=y::l) λw b=>h w (zG _ b);rw [qaz,qm,qm,q51,kk (a:=x)];omega
theorem ztt {l:List Sign}:∀ w ∈ qe6 l,ln w<=30:=by
 intro w a;obtain ⟨x,_,rfl⟩:=List.mem_map.1 a;exact (ztr x).2
theorem zdr {n:Int} {l:List Sign}:∀ w ∈ [q0z,qu n]++qe6 l,ln w<=30:=by
 intro w a;rcases List.mem_append.1 a with a | a
 .rcases zD.1 a with rfl | a
  .decide
  .rw [List.mem_singleton.1 a];have:=qzm n;omega
 .exact ztt w a
theorem zpx {n c:Int} {l:List Sign}:∀ w ∈ ([q0z,qu n]++qe6 l)++[[126]++qu c],ln w<=30:=by
 intro w a;rcases List.mem_append.1 a with a | a
 .exact zdr w a
 .rw [List.mem_singleton.1 a,qm,q51];have:=qzm c;omega
theorem ze2 {n:Int} {l:List Sign}:ln ([q0z,qu n]++qe6 l)=2+ln l:=by rw [qm];simp only [qe6,ln,List.length_map,List.length_cons,List.length_nil];omega
theorem zw3 {s:Staff} (h:ln s.Signs<=60):ln (qu8 s)<=2100:=by
 unfold qu8 qhu;rw [qm,q51];split
 .have a:=qtb (zpx (n:=s.Lead) (c:=s.Custos) (l:=s.Signs));rw [qm,ze2] at a;have:ln [[126]++qu s.Custos]=1:=rfl;omega
 .have a:=qtb (zdr (n:=s.Lead) (l:=s.Signs));rw [ze2] at a;rw [zJ];omega
theorem q6t:∀ {l:List Staff},(∀ s ∈ l,ln s.Signs<=60)->ln (qhy l)<=2100 * ln l
 | [],_=>by decide
 | s::l,h=>by
  have c:=zw3 (h s zC);have d:=q6t λa b=>h a (zG _ b);have e:qhy (s::l)=qu8 s++qhy l:=rfl;rw [e,qm,kk];omega
theorem q6j:∀ {g:List Page},(∀ p ∈ g,ln p.Staves<=12/\∀ s ∈ p.Staves,ln s.Signs<=60)->ln (qla g)<=25300 * ln g
 | [],_=>by decide
 | p::g,h=>by
  obtain ⟨f,a⟩:=h p zC;have i:=q6t a;have j:=q6j λb c=>h b (zG _ c);have e:qla (p::g)=([112,97,103,101,10]++qhy p.Staves)++qla g:=rfl;have d:ln ([112,97,103,101,10]:ZB)=5:=rfl;rw [e,qm,qm,d,kk];omega
theorem q38 {l:List Staff} {s:Staff}:qhy (l++[s])=qhy l++qu8 s:=by simp [qhy]
theorem ziu {g:List Page} {p:Page}:qla (g++[p])=qla g++([112,97,103,101,10]++qhy p.Staves):=by simp [qla]
theorem zoy {l:List Sign} {x:Sign}:qe6 (l++[x])=qe6 l++[(qep x).1]:=by simp [qe6]
theorem zkt (a0:ZB) (b:List Page) (i:ln a0<=1000000/\smB b):qxu a0 b:=by
 unfold qxu;dsimp only;simp only [zf7];have n0:=ln_nonneg a0;have n1:=i.2.1;have S:ln ([98,111,111,107,32]:ZB)=5:=rfl;have T:ln qna=5:=rfl;have U:ln ([112,97,103,101,10]:ZB)=5:=rfl;have V:ln ([101,110,100,10]:ZB)=4:=rfl;have M:ln ([10]:ZB)=1:=rfl;have C:ln ([126]:ZB)=1:=rfl;refine ⟨⟨by omega,i.2⟩,λh=>?_,λh=>⟨qcg (by omega),qcg (by rw [qm];omega),⟨zK _,ln_nonneg _,by rw [qfm];show _=_++[];rw [zJ]⟩,λw d D=>⟨λhi=>?_,λhi=>?_⟩⟩⟩
 .unfold qaw;rw [zT h];exact ⟨rfl,rfl,trivial⟩
 .obtain ⟨N,a⟩:=qh3 h;obtain ⟨i0,E,f⟩:=D;have x:∀ p ∈ upto b d,ln p.Staves<=12/\∀ s ∈ p.Staves,ln s.Signs<=60:=λp i=>⟨(a p (List.mem_of_mem_take i)).1,λs o=>((a p (List.mem_of_mem_take i)).2 s o).1.1⟩;have F:=q6j x;rw [qhj i0 E] at F;have O:ln w<=14000000:=by rw [f,qm,qm,qm];omega
  obtain ⟨g1,G⟩:=a _ (qci i0 hi);refine ⟨⟨i0,hi⟩,qcg (by omega),⟨zK _,ln_nonneg _,by rw [qfm,f];show _=_++(_++[]);rw [zJ]⟩,λP e H=>⟨λq=>?_,λq=>?_⟩⟩
  .obtain ⟨r,I,m⟩:=H;have Q:=q6t (l:=upto (ix b d).Staves e) λs o=>(G s (List.mem_of_mem_take o)).1.1;rw [qhj r I] at Q;have W:ln P<=15000000:=by rw [m,qm,qm,qm,qm,qm];omega
   obtain ⟨⟨X,Y,Z,s4⟩,u1,u2,u3⟩:=G _ (qci r q);have j:upto (ix b d).Staves (e+1)=upto (ix b d).Staves e++[ix (ix b d).Staves e]:=qdg r q;refine ⟨⟨r,q⟩,⟨by omega,by omega⟩,trivial,trivial,⟨zK _,ln_nonneg _,by rw [qfm];rfl⟩,λR y J=>⟨λu=>?_,λu=>?_⟩⟩
   .obtain ⟨v,K,t⟩:=J;have l9:ln R=2+y:=by rw [t,ze2,qhj v K]
    refine ⟨⟨v,u⟩,trivial,trivial,qcj (by omega),⟨by omega,by omega⟩,trivial,trivial,trivial,trivial,trivial,trivial,trivial,⟨by omega,by omega,?_⟩,by simp only [qj4];omega⟩;rw [qdg v u,zoy,t,List.append_assoc]
   .obtain ⟨v,K,t⟩:=J;rw [qea u] at t;subst t;have k:=ze2 (n:=(ix (ix b d).Staves e).Lead) (l:=(ix (ix b d).Staves e).Signs);refine ⟨λz=>?_,λz=>?_⟩
    .have A:=qtb (zpx (n:=(ix (ix b d).Staves e).Lead) (c:=(ix (ix b d).Staves e).Custos) (l:=(ix (ix b d).Staves e).Signs));have q2:=qzm (ix (ix b d).Staves e).Custos;rw [qm,k] at A;have q3:ln [[126]++qu (ix (ix b d).Staves e).Custos]=1:=rfl;have B:qu8 (ix (ix b d).Staves e)=qaz (([q0z,qu (ix (ix b d).Staves e).Lead]++qe6 (ix (ix b d).Staves e).Signs)++[[126]++qu (ix (ix b d).Staves e).Custos]) [32]++[10]:=by
      unfold qu8 qhu;rw [zT z]
     refine ⟨⟨by omega,by omega⟩,qcg (by omega),trivial,qcj (by omega),⟨rfl,by omega⟩,qcg (by omega),qcg (by rw [qm];omega),⟨by omega,by omega⟩,trivial,trivial,trivial,⟨by omega,by omega,?_⟩,by simp only [qdy];omega⟩;rw [j,q38,m,B];simp only [List.append_assoc]
    .have A:=qtb (zdr (n:=(ix (ix b d).Staves e).Lead) (l:=(ix (ix b d).Staves e).Signs));rw [k] at A;have B:qu8 (ix (ix b d).Staves e)=qaz ([q0z,qu (ix (ix b d).Staves e).Lead]++qe6 (ix (ix b d).Staves e).Signs) [32]++[10]:=by
      unfold qu8 qhu;rw [zF (by simp [z]),zJ]
     refine ⟨⟨rfl,by omega⟩,qcg (by omega),qcg (by rw [qm];omega),⟨by omega,by omega⟩,trivial,trivial,trivial,⟨by omega,by omega,?_⟩,by simp only [qdy];omega⟩;rw [j,q38,m,B];simp only [List.append_assoc]
  .obtain ⟨r,I,m⟩:=H;rw [qea q] at m;refine ⟨⟨by omega,by omega⟩,trivial,trivial,⟨by omega,by omega,?_⟩,by simp only [qj3];omega⟩;rw [qdg i0 hi,ziu,m];simp only [List.append_assoc]
 .obtain ⟨N,a⟩:=qh3 h;obtain ⟨i0,E,f⟩:=D;rw [qea hi] at f;have F:=q6j (g:=b) λp i=>⟨(a p i).1,λs o=>((a p i).2 s o).1.1⟩;have O:ln w<=14000000:=by rw [f,qm,qm,qm];omega
  have L:w++[101,110,100,10]=qli a0 b:=by rw [f];rfl
  refine ⟨qcg (by omega),λk=>?_,λk=>?_⟩
  .rw [L] at k;unfold qaw;rw [zF (by simp [h]),zT k];exact ⟨rfl,rfl,trivial⟩
  .rw [L] at k ⊢;unfold qaw;rw [zF (by simp [h]),zF (by omega)];exact ⟨rfl,rfl,trivial⟩
theorem ze1 {s:ZB} {i:Int} (b:0<=i) (h:i<ln s) (a:(48<=bx s i/\bx s i<=57)∨(i=0/\bx s i=45)):hdE s i=hdE s (i+1):=by
 conv=>lhs;rw [hdE]
 rw [dif_pos ⟨b,h⟩,zT];rcases a with a | a
 .exact .inl (by simp [qeu,a.1,a.2])
 .exact .inr a
theorem qp7 {s:ZB} {i:Int} (h:ln s<=i∨(¬ (48<=bx s i/\bx s i<=57)/\¬ (i=0/\bx s i=45))):hdE s i=i:=by
 rw [hdE];split
 .rename_i b;rw [zF];rcases h with h | h
  .omega
  .rintro (a | a)
   .simp only [qeu,zA,decide_eq_true_eq] at a;exact h.1 a
   .exact h.2 a
 .rfl
section
variable {w:ZB} (n0:w≠[]) (n1:w≠[46]) (n2:w≠[91]) (n3:w≠[116,117,114,110]) (n4:w≠[115,105,103])
 include n0 n1 n2 n3 n4
theorem zos (h:bx w 0=114):qdd w=q99 (fr w 1):=by rw [qdd,zF n0,zF n1,zF n2,zF n3,zF n4,zT h]
theorem zot (h:bx w 0=116):qdd w=q64 (fr w 1):=by rw [qdd,zF n0,zF n1,zF n2,zF n3,zF n4,zF (by omega),zT h]
theorem zor (h:bx w 0=40):qdd w=q57 (fr w 1):=by rw [qdd,zF n0,zF n1,zF n2,zF n3,zF n4,zF (by omega),zF (by omega),zT h]
theorem zoq (h:bx w 0=64):qdd w=qyi (fr w 1):=by rw [qdd,zF n0,zF n1,zF n2,zF n3,zF n4,zF (by omega),zF (by omega),zF (by omega),zT h]
theorem zoo (h:bx w 0=38):qdd w=q9m 8 (fr w 1):=by rw [qdd,zF n0,zF n1,zF n2,zF n3,zF n4,zF (by omega),zF (by omega),zF (by omega),zF (by omega),zT h]
theorem zf4 (h:bx w 0=93):qdd w=q9m 10 (fr w 1):=by rw [qdd,zF n0,zF n1,zF n2,zF n3,zF n4,zF (by omega),zF (by omega),zF (by omega),zF (by omega),zF (by omega),zT h]
theorem zc1 (a:bx w 0≠114) (b:bx w 0≠116) (c:bx w 0≠40) (d:bx w 0≠64) (e:bx w 0≠38) (f:bx w 0≠93):qdd w=if (qeq (upto w 1)).2=0 then zih w else q6m w:=by
 rw [qdd,zF n0,zF n1,zF n2,zF n3,zF n4,zF a,zF b,zF c,zF d,zF e,zF f]
end
theorem zvp {w:ZB} {s:Sign} {e:Int} (h:ze w=(s,e)):zn w s.Kind s.Value s.Place s.Acc s.Color s.Stem s.Oblique s.Last s.MensMax s.MensMod s.MensTem s.MensPro s.Stroke s.N s.D s.ClefStep s.ClefLine e:=by
 unfold zn;rw [h];simp
theorem zon {w:ZB} {k:Int} (e:1<=k) (f:k<=12) (a:∀ j,1<=j->j<k->rdK w j=none):∀ (m:Nat) (i:Int),1<=i->i<=k->(k-i).toNat=m->qoa w i=qoa w k:=by
 intro m
 induction m with
 | zero=>intro i hi b c;rw [show i=k by omega]
 | succ m d=>
  intro i hi b c;have:qoa w i=qoa w (i+1):=by
   conv=>lhs;rw [qoa]
   rw [dif_pos ⟨hi,by omega⟩,a i hi (by omega)]
  rw [this];exact d (i+1) (by omega) (by omega) (by omega)
theorem zga {w:ZB} {k:Int} {s:Sign} (h:qc w (k-1)) (c:1<=k) (d:k<=12) (e:rdK w k=some s):ze w=fin (some s):=by
 rw [ze,zon c d (λj a b=>h.out j a (by omega)) _ 1 (by omega) c rfl,qoa,dif_pos ⟨c,d⟩,e]
theorem qwt {w:ZB} (k:Int) {s:Sign} (h:qc w (k-1)) (a:1<=k) (b:k<=12) (c:rdK w k=some s) (d:kh s≠0):zn w 0 0 0 0 false 0 false false 0 0 0 0 false 0 0 0 0 (kh s):=
 zvp (s:=sg0) (by rw [zga h a b c,fin,zF d])
theorem qwu {w:ZB} (k:Int) {a b c d:Int} {e:Bool} {f:Int} {g o:Bool} {m1 m2 m3 m4:Int} {t:Bool} {n1 i j l:Int} (h:qc w (k-1)) (m:1<=k) (n:k<=12) (p:rdK w k=some (Sign.mk a b c d e f g o m1 m2 m3 m4 t n1 i j l)) (q:kh (Sign.mk a b c d e f g o m1 m2 m3 m4 t n1 i j l)=0) :
  zn w a b c d e f g o m1 m2 m3 m4 t n1 i j l 0:=
 zvp (s:=Sign.mk a b c d e f g o m1 m2 m3 m4 t n1 i j l) (by rw [zga h m n p,fin,zT q])
theorem qen {w:ZB} (k:Int) (h:qc w (k-1)) (c:rdK w k=none):qc w k:=⟨λj a b=>by
 by_cases d:j=k
 .rw [d];exact c
 .exact h.out j a (by omega)⟩
theorem zz1 {w:ZB} (h:qc w 12):zn w 0 0 0 0 false 0 false false 0 0 0 0 false 0 0 0 0 3:=zvp (s:=sg0) (by
 rw [ze,zon (w:=w) (k:=12) (by decide) (by decide) (λj a b=>h.out j a (by omega)) _ 1 (by decide) (by decide) rfl,qoa,dif_pos (by decide),h.out 12 (by decide) (by decide)];show fin (qoa w 13)=_;rw [qoa,dif_neg (by decide)];rfl)
theorem zzl (w:ZB) (i:Int) (c:UInt8):preB (fr w i) [c]=tk w i c:=rfl
def pv (p:Prop):Prop:=p
theorem pv.out {p:Prop} (h:pv p):p:=h
theorem ql8 {w:ZB} {i:Int} {c:UInt8} (h:tk w i c=true) (a:0<=i):i<ln w:=by
 simp only [tk,preB,zA,decide_eq_true_eq] at h;have:=h.1;simp only [ln,fr,List.length_drop,List.length_cons,List.length_nil] at this ⊢;omega
section
variable {w m:ZB} {i i0 x k a p v:Int} {b b0 ok c o:Bool} {Q:Prop} {ch:UInt8}
theorem q67:(tk w i ch=true->Q)↔(pv (tk w i ch=true)->(0<=i->i<ln w)->Q):=⟨λh t _=>h t,λh t=>h t (ql8 t)⟩
theorem w0:(jt w m i i0->Q)↔(pv (jt w m i i0)->i0<=i->i<=ln w->ln m<=1->Q):=⟨λh t _ _ _=>h t,λh t=>h t t.out.2.2.1.1 t.out.2.2.1.2 t.out.2.2.2⟩
theorem w1:(zg w i i0->Q)↔(pv (zg w i i0)->i0<=i->i<=ln w->Q):=⟨λh t _ _=>h t,λh t=>h t t.out.1.1 t.out.1.2⟩
theorem w2:(qf w i i0->Q)↔(pv (qf w i i0)->i0<=i->i<=ln w->Q):=⟨λh t _ _=>h t,λh t=>h t t.out.1.1 t.out.1.2⟩
theorem w3:(jh w b b0 ok->Q)↔(pv (b=(b0 || !ok))->Q):=⟨λh t=>h ⟨t⟩,λh t=>h t.out⟩
theorem w4:(qcv w b b0 ok->Q)↔(pv (b=(b0 || !ok))->Q):=⟨λh t=>h ⟨t⟩,λh t=>h t.out⟩
theorem w5:(kf w k i->Q)↔(pv (kf w k i)->0<=k->k<=8->Q):=⟨λh t _ _=>h t,λh t=>h t t.out.1 t.out.2.1⟩
theorem w6:(qca w i b v->Q)↔(pv (qca w i b v)->0<=i->i<=ln w->Q):=⟨λh t _ _=>h t,λh t=>h t t.out.1.1 t.out.1.2⟩
theorem w7:(zx w i a i0->Q)↔(pv (zx w i a i0)->i0<=i->i<=ln w->Q):=⟨λh t _ _=>h t,λh t=>h t t.out.1.1 t.out.1.2⟩
theorem w8:(qcw w i b p a c i0 b0->Q)↔(pv (qcw w i b p a c i0 b0)->i0<=i->i<=ln w->Q):=⟨λh t _ _=>h t,λh t=>h t t.out.1.1 t.out.1.2⟩
theorem w9:(j5 w i k i0->Q)↔(pv (j5 w i k i0)->i0<=i->i<=ln w->Q):=⟨λh t _ _=>h t,λh t=>h t t.out.1.1 t.out.1.2⟩
theorem w10:(qbd w i o i0->Q)↔(pv (qbd w i o i0)->i0<=i->i<=ln w->Q):=⟨λh t _ _=>h t,λh t=>h t t.out.1.1 t.out.1.2⟩
theorem w11:(qbe w i b i0 b0->Q)↔(pv (qbe w i b i0 b0)->i0<=i->i<=ln w->Q):=⟨λh t _ _=>h t,λh t=>h t t.out.1.1 t.out.1.2⟩
theorem w12:(jl w i b k i0->Q)↔(pv (jl w i b k i0)->i0<=i->i<=ln w->Q):=⟨λh t _ _=>h t,λh t=>h t t.out.1.1 t.out.1.2⟩
end
section
variable {w m:ZB} {i i0 x j e k a p v y z:Int} {b b0 ok c o l:Bool} {ch:UInt8}
theorem zyt (h:pv (tk w i 45=true)) (a:0<=i):jt w [45] (i+1) i:=by
 have:=ql8 h a;exact ⟨⟨by rw [qid,zT (pv.out h)],by rw [qid,zT (pv.out h)],⟨by omega,by omega⟩,zK _⟩⟩
theorem zys (h:tk w i 45=false) (hi:i<=ln w):jt w [] i i:=by
 have a:¬ tk w i 45=true:=by rw [h];simp
 exact ⟨⟨by rw [qid,zF a],by rw [qid,zF a],⟨zK _,hi⟩,by decide⟩⟩
theorem qmy (hi:i<=ln w):zg w i i:=⟨⟨zK _,hi⟩,rfl⟩
theorem qqh (h:pv (zg w x i)) (e:0<=i) (a:x<ln w) (b:48<=bx w x) (c:bx w x<=57):zg w (x+1) i:=by
 obtain ⟨⟨r1,f⟩,d⟩:=Hold.out h;exact ⟨⟨by omega,by omega⟩,d.trans (qr5 (by omega) a (by simp [qeu,b,c]))⟩
theorem zm8 (h:pv (zg w x i)) (a:ln w<=x∨qeu (bx w x)=false):qf w x i:=by
 obtain ⟨r,b⟩:=Hold.out h;exact ⟨r,by rw [b];exact (qlf a).symm⟩
theorem quz (h:pv (zg w x i)) (a:ln w<=x):qf w x i:=zm8 h (.inl a)
theorem q3n (h:pv (zg w x i)) (a:bx w x<48):qf w x i:=zm8 h (.inr (by simp only [qeu,Bool.and_eq_false_iff,decide_eq_false_iff_not];omega))
theorem q3m (h:pv (zg w x i)) (a:57<bx w x):qf w x i:=zm8 h (.inr (by simp only [qeu,Bool.and_eq_false_iff,decide_eq_false_iff_not];omega))
theorem zsf (h:b0=true):jh w true b0 ok:=⟨by simp [h]⟩
theorem q9i (h:b0=false):jh w (!ok) b0 ok:=⟨by simp [h]⟩
theorem zy2 (h:b0=true):qcv w true b0 ok:=⟨by simp [h]⟩
theorem zsg (h:b0=false):qcv w (!ok) b0 ok:=⟨by simp [h]⟩
theorem q9j:kf w 0 i:=⟨⟨zK _,by decide,rfl⟩⟩
theorem zfq (h:pv (kf w k i)) (a:k<8) (b:preB (fr w i) (sub ([88,76,66,83,77,81,70,90]:ZB) k (k+1))=false):kf w (k+1) i:=by
 obtain ⟨r1,d,c⟩:=Hold.out h;refine ⟨⟨by omega,by omega,?_⟩⟩;rw [<-c]
 conv=>rhs;rw [qwq]
 rw [dif_pos ⟨r1,a⟩,zF (by rw [zm1,b];simp)]
theorem q66 (h:pv (kf w k i)) (a:k<8) (b:preB (fr w i) (sub ([88,76,66,83,77,81,70,90]:ZB) k (k+1))=true):qvk w i=some (k+1):=by
 obtain ⟨r1,d,c⟩:=Hold.out h;rw [<-c,qwq,dif_pos ⟨r1,a⟩,zT (show preB (fr w i) (sub zm1 k (k+1))=true from b)]
theorem zph (h:pv (kf w k i)) (b:8<=k):qvk w i=none:=by
 obtain ⟨r1,c,a⟩:=Hold.out h;rw [<-a,qwq,dif_neg (by omega)]
theorem zwb (a b:ZB):ln (a++b)=ln a+ln b:=by simp only [ln,List.length_append];omega
theorem zfo (h:k<8) (a:0<=k):qcx w (k+1) i<qcx w k i:=by simp only [qcx];omega
theorem qqf (h:i<ln w):z7 w (i+1) i0<z7 w i i0:=by simp only [z7];omega
theorem q44 {v:ZB} {r t:Int} (d:ln w<=1000) (a:0<=r) (b:r<=t) (c:t<=ln w) (e:ln v<=1):ln (v++sub w r t)<=1001:=by
 rw [zwb,qzt a b c];omega
theorem q2n {v:ZB} {r t:Int} (a:ln w<=1000) (b:0<=r) (c:r<=t) (d:t<=ln w) (e:ln v<=1):v.length+(sub w r t).length<=1000000000:=by
 have:=q44 a b c d e;simp only [ln,List.length_append] at this;omega
theorem qkf {r t:Int} (d:ln w<=1000) (a:0<=r) (b:r<=t) (c:t<=ln w):ln (sub w r t)<=1000000:=by
 rw [qzt a b c];omega
theorem sub_one {k:Int} (a:0<=k) (h:k<8):ln (sub ([88,76,66,83,77,81,70,90]:ZB) k (k+1))=1:=by
 have b:ln ([88,76,66,83,77,81,70,90]:ZB)=8:=rfl;rw [qzt a (by omega) (by omega)];omega
theorem q03 {k:Int} (a:0<=k) (h:k<8):-9223372036854775808<=ln (sub ([88,76,66,83,77,81,70,90]:ZB) k (k+1)):=by rw [sub_one a h];decide
theorem q02 {k:Int} (a:0<=k) (h:k<8):ln (sub ([88,76,66,83,77,81,70,90]:ZB) k (k+1))<=9223372036854775807:=by rw [sub_one a h];decide
theorem zau {k:Int} (a:0<=k) (h:k<8):-9223372036854775808<=1+ln (sub ([88,76,66,83,77,81,70,90]:ZB) k (k+1)):=by rw [sub_one a h];decide
theorem zat {k:Int} (a:0<=k) (h:k<8):1+ln (sub ([88,76,66,83,77,81,70,90]:ZB) k (k+1))<=9223372036854775807:=by rw [sub_one a h];decide
theorem pre_nil {s:ZB} (h:preB s []=false):False:=by
 simp [preB,ln,upto] at h
theorem zs1 {s p:ZB} (h:preB s p=true):ln p<=ln s:=by
 simp only [preB,zA,decide_eq_true_eq] at h;exact h.1
theorem z0c (h:pv (kf w k 0)) (d:0<=k) (a:k<8) (b:preB (fr w 0) (sub ([88,76,66,83,77,81,70,90]:ZB) k (k+1))=true):qca w (ln (sub ([88,76,66,83,77,81,70,90]:ZB) k (k+1))) false (k+1):=by
 have c:=zs1 b;rw [sub_one d a] at c ⊢;exact ⟨⟨⟨by decide,c⟩,.inl ⟨rfl,rfl,q66 h a b⟩⟩⟩
theorem z0b (h:pv (kf w k 0)) (a:8<=k):qca w 0 true 0:=⟨⟨⟨by decide,ln_nonneg w⟩,.inr ⟨rfl,zph h a⟩⟩⟩
theorem zy3 (h:pv (tk w i 98=true)) (a:0<=i):zx w (i+1) (-1) i:=by
 have:=ql8 h a;exact ⟨⟨⟨by omega,by omega⟩,by rw [qmb,zT (pv.out h)],by rw [qmb,zT (pv.out h)]⟩⟩
theorem qdz (h:b=false):¬ b=true:=by rw [h];simp
theorem zy4 (h:tk w i 98=false) (a:pv (tk w i 35=true)) (b:0<=i):zx w (i+1) 1 i:=by
 have:=ql8 a b;exact ⟨⟨⟨by omega,by omega⟩,by rw [qmb,zF (qdz h),zT (pv.out a)],by rw [qmb,zF (qdz h),zT (pv.out a)]⟩⟩
theorem zy5 (h:tk w i 98=false) (b:tk w i 35=false) (a:pv (tk w i 110=true)) (c:0<=i):zx w (i+1) 2 i:=by
 have:=ql8 a c;exact ⟨⟨⟨by omega,by omega⟩,by rw [qmb,zF (qdz h),zF (qdz b),zT (pv.out a)],by rw [qmb,zF (qdz h),zF (qdz b),zT (pv.out a)]⟩⟩
theorem zy6 (h:tk w i 98=false) (a:tk w i 35=false) (b:tk w i 110=false) (hi:i<=ln w):zx w i 0 i:=
 ⟨⟨⟨zK _,hi⟩,by rw [qmb,zF (qdz h),zF (qdz a),zF (qdz b)],by rw [qmb,zF (qdz h),zF (qdz a),zF (qdz b)]⟩⟩
theorem qn9 (h:pv (tk w i ch=true)):qd9 w i ch=(true,i+1):=by rw [qd9,zT (pv.out h)]
theorem qn8 (h:tk w i ch=false):qd9 w i ch=(false,i):=by rw [qd9,zF (qdz h)]
theorem zct (b:pv (jt w m j i)) (d:pv (qf w e j)) (f:pv (zx w x a e)) (g:qd9 w x 42=(c,y)):qgl w i=((qbo (m++sub w j e)).1,a,c,(qbo (m++sub w j e)).2,y):=by
 obtain ⟨h,k,_⟩:=Hold.out b;obtain ⟨_,l⟩:=Hold.out d;obtain ⟨_,n,o⟩:=Hold.out f;subst h;subst k;subst l;subst n;subst o;simp only [qgl,qob,g]
theorem zuh (d:pv (jt w m j i)) (f:pv (qf w e j)) (g:pv (b=(b0 || !(qbo (m++sub w j e)).2))) (h:pv (zx w x a e)) (k:qd9 w x 42=(c,y)) (r1:i<=y) (l:y<=ln w) :
  qcw w y b (qbo (m++sub w j e)).1 a c i b0:=by
 have:=zct d f h k;exact ⟨⟨⟨r1,l⟩,by rw [this],by rw [this],by rw [this],by rw [this];exact g,by rw [this]⟩⟩
theorem z0d (h:pv (tk w i 94=true)) (a:0<=i):j5 w (i+1) 1 i:=by
 have:=ql8 h a;exact ⟨⟨⟨by omega,by omega⟩,by rw [qml,zT (pv.out h)],by rw [qml,zT (pv.out h)]⟩⟩
theorem z0e (h:tk w i 94=false) (a:pv (tk w i 118=true)) (b:0<=i):j5 w (i+1) 2 i:=by
 have:=ql8 a b;exact ⟨⟨⟨by omega,by omega⟩,by rw [qml,zF (qdz h),zT (pv.out a)],by rw [qml,zF (qdz h),zT (pv.out a)]⟩⟩
theorem z0f (h:tk w i 94=false) (b:tk w i 118=false) (a:pv (tk w i 62=true)) (c:0<=i):j5 w (i+1) 3 i:=by
 have:=ql8 a c;exact ⟨⟨⟨by omega,by omega⟩,by rw [qml,zF (qdz h),zF (qdz b),zT (pv.out a)],by rw [qml,zF (qdz h),zF (qdz b),zT (pv.out a)]⟩⟩
theorem z0g (h:tk w i 94=false) (a:tk w i 118=false) (b:tk w i 62=false) (hi:i<=ln w):j5 w i 0 i:=
 ⟨⟨⟨zK _,hi⟩,by rw [qml,zF (qdz h),zF (qdz a),zF (qdz b)],by rw [qml,zF (qdz h),zF (qdz a),zF (qdz b)]⟩⟩
theorem zyv (h:pv (tk w i 126=true)) (a:0<=i):qbd w (i+1) true i:=by
 have:=ql8 h a;exact ⟨⟨⟨by omega,by omega⟩,by rw [qn9 h],by rw [qn9 h]⟩⟩
theorem zyu (h:tk w i 126=false) (hi:i<=ln w):qbd w i false i:=⟨⟨⟨zK _,hi⟩,by rw [qn8 h],by rw [qn8 h]⟩⟩
theorem zyx (h:pv (tk w i 47=true)) (a:0<=i):qbe w (i+1) b i b:=by
 have:=ql8 h a;exact ⟨⟨⟨by omega,by omega⟩,.inl ⟨pv.out h,rfl,rfl⟩⟩⟩
theorem zyw (h:tk w i 47=false) (hi:i<=ln w):qbe w i true i b:=⟨⟨⟨zK _,hi⟩,.inr ⟨h,rfl⟩⟩⟩
theorem zyy (h:pv (tk w 1 67=true)):jl w (1+1) false 0 1:=by
 have:=ql8 h (by decide);exact ⟨⟨⟨by decide,by omega⟩,.inl ⟨rfl,rfl,by rw [zar,zT (pv.out h)]⟩⟩⟩
theorem zyz (h:tk w 1 67=false) (a:pv (tk w 1 70=true)):jl w (1+1) false 3 1:=by
 have:=ql8 a (by decide);exact ⟨⟨⟨by decide,by omega⟩,.inl ⟨rfl,rfl,by rw [zar,zF (qdz h),zT (pv.out a)]⟩⟩⟩
theorem zy0 (h:tk w 1 67=false) (b:tk w 1 70=false) (a:pv (tk w 1 71=true)):jl w (1+1) false 4 1:=by
 have:=ql8 a (by decide);exact ⟨⟨⟨by decide,by omega⟩,.inl ⟨rfl,rfl,by rw [zar,zF (qdz h),zF (qdz b),zT (pv.out a)]⟩⟩⟩
theorem zy1 (h:tk w 1 67=false) (a:tk w 1 70=false) (b:tk w 1 71=false) (hi:1<=ln w):jl w 1 true 0 1:=
 ⟨⟨⟨zK _,hi⟩,.inr ⟨rfl,by rw [zar,zF (qdz h),zF (qdz a),zF (qdz b)]⟩⟩⟩
theorem ziq {ok b0:Bool} (h:false=(b0 || !ok)):b0=false/\ok=true:=by cases b0<;>cases ok<;>simp_all
theorem zfa (g:pv (qca w i b0 v)) (k:pv (jt w m j i)) (l:pv (qf w e j)) (n:pv (b=(b0 || !(qbo (m++sub w j e)).2))) (o:pv (zx w x a e)) (p:qd9 w x 42=(c,y)) (q:b=false) (r:y=ln w) :
  rdK w 1=some (Sign.mk 1 v (qbo (m++sub w j e)).1 a c 0 false false 0 0 0 0 false 0 0 0 0):=by
 have s:=zct k l o p;subst q;obtain ⟨d,f⟩:=ziq n;obtain ⟨_,⟨_,hi,t⟩ | ⟨h,_⟩⟩:=Hold.out g
 .subst hi;rw [rdK,zT rfl,rd1,t];simp only [s];rw [zT ⟨f,r⟩]
 .rw [d] at h;cases h
theorem zrt (k:pv (qca w i b0 v)) (l:pv (jt w m j i)) (n:pv (qf w e j)) (o:pv (b=(b0 || !(qbo (m++sub w j e)).2))) (p:pv (zx w x a e)) (q:qd9 w x 42=(c,y)) (d:b=true∨y≠ln w) :
  rdK w 1=none:=by
 have r:=zct l n p q;obtain ⟨_,⟨h,hi,g⟩ | ⟨_,g⟩⟩:=Hold.out k
 .subst hi;rw [rdK,zT rfl,rd1,g];simp only [r];rw [zF];rintro ⟨s,t⟩;rcases d with d | d
  .have f:b=(b0 || !(qbo (m++sub w j e)).2):=o;rw [d,h,s] at f;cases f
  .exact d t
 .rw [rdK,zT rfl,rd1,g]
theorem zfj:rdK w 2=rd2 w:=rfl
theorem zub:rdK w 3=rd3 w:=rfl
theorem zml:rdK w 4=rd4 w:=rfl
theorem zmm:rdK w 5=rd5 w:=rfl
theorem zuc:rdK w 6=rd6 w:=rfl
theorem zmn:rdK w 7=rd7 w:=rfl
theorem q3g:rdK w 8=rdN w 38 8:=rfl
theorem quq:rdK w 10=rdN w 93 10:=rfl
theorem zfb (c:pv (tk w 0 114=true)) (h:pv (kf w k 1)) (a:k<8) (d:preB (fr w 1) (sub ([88,76,66,83,77,81,70,90]:ZB) k (k+1))=true) (b:1+ln (sub ([88,76,66,83,77,81,70,90]:ZB) k (k+1))=ln w):rdK w 2=some (Sign.mk 2 (k+1) 0 0 false 0 false false 0 0 0 0 false 0 0 0 0):=by
 rw [sub_one h.out.out.1 a] at b;rw [zfj,rd2,zT (pv.out c),q66 h a d];exact zT b
theorem zru (h:pv (kf w k 1)) (a:k<8) (c:preB (fr w 1) (sub ([88,76,66,83,77,81,70,90]:ZB) k (k+1))=true) (b:1+ln (sub ([88,76,66,83,77,81,70,90]:ZB) k (k+1))≠ln w):rdK w 2=none:=by
 rw [sub_one h.out.out.1 a] at b;rw [zfj,rd2];split
 .simp only [q66 h a c];exact zF b
 .rfl
theorem zyq (h:pv (kf w k 1)) (a:8<=k):rdK w 2=none:=by
 rw [zfj,rd2];split
 .rw [zph h a]
 .rfl
theorem zv6 (h:tk w 0 114=false):rdK w 2=none:=by rw [zfj,rd2,zF (qdz h)]
theorem zfd (h:pv (tk w 0 46=true)) (a:(1:Int)=ln w):rdK w 3=some (Sign.mk 3 0 0 0 false 0 false false 0 0 0 0 false 0 0 0 0):=by rw [zub,rd3,zT ⟨pv.out h,a⟩]
theorem zfc (h:tk w 0 46=false∨(1:Int)≠ln w):rdK w 3=none:=by
 rw [zub,rd3,zF];rintro ⟨a,b⟩;rcases h with h | h
 .rw [h] at a;cases a
 .exact h b
theorem zfe (g:pv (tk w 0 116=true)) (h:pv (qcw w i b p a c 1 false)) (m:pv (j5 w j k i)) (d:pv (qbd w e o j)) (n:qd9 w e 33=(l,y)) (q:b=false) (r:y=ln w) :
  rdK w 4=some (Sign.mk 4 0 p a c k o l 0 0 0 0 false 0 0 0 0):=by
 obtain ⟨_,s,t,u,v,x⟩:=Hold.out h;obtain ⟨_,z,A⟩:=Hold.out m;obtain ⟨_,B,C⟩:=Hold.out d;subst q;have f:=(ziq v).2;subst s;subst t;subst u;subst x;subst z;subst A;subst B;subst C;rw [zml,rd4];simp only [zdn,n];rw [zT ⟨pv.out g,f,r⟩]
theorem zrv (h:pv (qcw w i b p a c 1 false)) (m:pv (j5 w j k i)) (f:pv (qbd w e o j)) (n:qd9 w e 33=(l,y)) (d:b=true∨y≠ln w):rdK w 4=none:=by
 obtain ⟨_,v,x,z,g,q⟩:=Hold.out h;obtain ⟨_,A,r⟩:=Hold.out m;obtain ⟨_,B,s⟩:=Hold.out f;subst q;subst r;subst s;rw [zml,rd4];simp only [zdn,n];rw [zF];rintro ⟨_,t,u⟩;rcases d with d | d
 .rw [d,t] at g;cases g
 .exact d u
theorem zv7 (h:tk w 0 116=false):rdK w 4=none:=by rw [zml,rd4,zF λa=>qdz h a.1]
theorem zff (a:pv (tk w 0 40=true)) (b:pv (tk w (1+qf0 w) 41=true)) (c:qd9 w (1+qf0 w+1) 124=(l,y)) (d:(qhp (sub w 1 (1+qf0 w))).2=0) (e:y=ln w) :
  rdK w 5=some (Sign.mk 5 0 0 0 false 0 false false (qhp (sub w 1 (1+qf0 w))).1.1 (qhp (sub w 1 (1+qf0 w))).1.2.1 (qhp (sub w 1 (1+qf0 w))).1.2.2.1 (qhp (sub w 1 (1+qf0 w))).1.2.2.2 l 0 0 0 0):=by
 rw [zmm,rd5];simp only [c,zcg];rw [zT ⟨pv.out a,d,pv.out b,e⟩]
theorem zrx (a:qd9 w (1+qf0 w+1) 124=(l,y)) (h:(qhp (sub w 1 (1+qf0 w))).2≠0∨y≠ln w):rdK w 5=none:=by
 rw [zmm,rd5];simp only [a,zcg];rw [zF];rintro ⟨_,b,_,c⟩;rcases h with h | h
 .exact h b
 .exact h c
theorem zrw (h:tk w 0 40=false∨tk w (1+qf0 w) 41=false):rdK w 5=none:=by
 rw [zmm,rd5,zF];rintro ⟨a,_,b,_⟩;rcases h with h | h
 .exact qdz h a
 .exact qdz h b
theorem qpp (h:pv (qf w e i)):qg3 w i=(zb (sub w i e),e):=by
 obtain ⟨_,a⟩:=Hold.out h;subst a;rfl
theorem zfg (l:pv (qf w e 0)) (m:pv (b0=(false || !(zb (sub w 0 e)).2))) (d:pv (qbe w i b e b0)) (f:pv (qf w x i)) (g:pv (c=(b || !(zb (sub w i x)).2))) (n:c=false) (o:x=ln w) :
  rdK w 6=some (Sign.mk 6 0 0 0 false 0 false false 0 0 0 0 false (zb (sub w 0 e)).1 (zb (sub w i x)).1 0 0):=by
 subst n;obtain ⟨j,h⟩:=ziq g;obtain ⟨_,⟨p,r,k⟩ | ⟨_,q⟩⟩:=Hold.out d
 .subst r;rw [j] at k;subst k;have a:=(ziq m).2;rw [zuc,rd6];simp only [qpp l,qpp f];rw [zT ⟨a,p,h,o⟩]
 .rw [j] at q;cases q
theorem zry (m:pv (qf w e 0)) (n:pv (b0=(false || !(zb (sub w 0 e)).2))) (g:pv (qbe w i b e b0)) (h:pv (qf w x i)) (j:pv (c=(b || !(zb (sub w i x)).2))) (a:c=true∨x≠ln w):rdK w 6=none:=by
 rw [zuc,rd6,zF];simp only [qpp m];rintro ⟨o,q,k,l⟩;obtain ⟨_,⟨p1,p2,r⟩ | ⟨p,_⟩⟩:=Hold.out g
 .subst p2;rw [qpp h] at k l;rcases a with a | a
  .have d:b0=(false || !(zb (sub w 0 e)).2):=n;have f:c=(b || !(zb (sub w (e+1) x)).2):=j;rw [o] at d;rw [a,k,r,d] at f;cases f
  .exact a l
 .exact qdz p q
theorem zfh (f:pv (tk w 0 64=true)) (a:pv (jl w i b k 1)) (g:pv (qf w x i)) (h:pv (c=(b || !(zb (sub w i x)).2))) (j:c=false) (l:x=ln w) :
  rdK w 7=some (Sign.mk 7 0 0 0 false 0 false false 0 0 0 0 false 0 0 k (zb (sub w i x)).1):=by
 subst j;obtain ⟨m,d⟩:=ziq h;obtain ⟨_,⟨_,n,o⟩ | ⟨q,_⟩⟩:=Hold.out a
 .have e:i=2:=n;subst e;rw [zmn,rd7,zT (pv.out f),o];simp only [qpp g];rw [zT ⟨d,l⟩]
 .rw [m] at q;cases q
theorem zrz (e:pv (jl w i b k 1)) (g:pv (qf w x i)) (h:pv (c=(b || !(zb (sub w i x)).2))) (a:c=true∨x≠ln w):rdK w 7=none:=by
 rw [zmn,rd7];split
 .obtain ⟨_,⟨j,l,m⟩ | ⟨_,q⟩⟩:=Hold.out e
  .have f:i=2:=l;subst f;rw [m];simp only [qpp g];rw [zF];rintro ⟨p1,p2⟩;rcases a with a | a
   .have d:c=(b || !(zb (sub w 2 x)).2):=h;rw [a,j,p1] at d;cases d
   .exact a p2
  .rw [q]
 .rfl
theorem zv8 (h:tk w 0 64=false):rdK w 7=none:=by rw [zmn,rd7,zF (qdz h)]
theorem qxb {b:UInt8} {n:Int} (d:rdK w n=rdN w b n) (e:pv (tk w 0 b=true)) (f:pv (qf w x 1)) (g:pv (c=(false || !(zb (sub w 1 x)).2))) (h:c=false) (i:x=ln w) :
  rdK w n=some (Sign.mk n 0 0 0 false 0 false false 0 0 0 0 false (zb (sub w 1 x)).1 0 0 0):=by
 subst h;obtain ⟨_,a⟩:=ziq g;rw [d,rdN];simp only [qpp f];rw [zT ⟨pv.out e,a,i⟩]
theorem zfi {d:UInt8} {n:Int} (e:rdK w n=rdN w d n) (f:pv (qf w x 1)) (g:pv (c=(false || !(zb (sub w 1 x)).2))) (a:c=true∨x≠ln w):rdK w n=none:=by
 rw [e,rdN,zF];simp only [qpp f];rintro ⟨_,h,i⟩;rcases a with a | a
 .have b:c=(false || !(zb (sub w 1 x)).2):=g;rw [a,h] at b;cases b
 .exact a i
theorem zh6 {a:UInt8} {n:Int} (b:rdK w n=rdN w a n) (h:tk w 0 a=false):rdK w n=none:=by rw [b,rdN,zF λc=>qdz h c.1]
theorem qqb {p:ZB} {n:Int} (a:rdK w n=rdW w p n) (h:preB w p=true) (b:ln p=ln w):rdK w n=some (Sign.mk n 0 0 0 false 0 false false 0 0 0 0 false 0 0 0 0):=by rw [a,rdW,zT ⟨pv.out h,b⟩]
theorem qqa {p:ZB} {n:Int} (a:rdK w n=rdW w p n) (h:preB w p=false∨ln p≠ln w):rdK w n=none:=by
 rw [a,rdW,zF];rintro ⟨b,c⟩;rcases h with h | h
 .exact qdz h b
 .exact h c
end
theorem zm6 (w:ZB):0<=qf0 w:=by unfold qf0;split<;>omega
theorem zwg {w:ZB} (h:1<=ln w):1+qf0 w<=ln w:=by
 unfold qf0;split
 .rename_i a;simp only [qru] at a ⊢;split at a
  .rename_i n b;have:=(List.findIdx?_eq_some_iff_getElem.1 b).1;simp only [fr,List.length_drop,ln] at *;omega
  .omega
 .omega
theorem zzq {w:ZB} {Q:Prop}:(tk w 0 40=true->Q)↔(pv (tk w 0 40=true)->0<=qf0 w->1+qf0 w<=ln w->Q):=
 ⟨λh t _ _=>h t,λh t=>h t (zm6 w) (zwg (by have:=ql8 t (zK _);omega))⟩
theorem zwf (w:ZB):(if qru (fr w 1) 41 > 0 then qru (fr w 1) 41 else 0)=qf0 w:=rfl
set_option maxHeartbeats 16000000 in
theorem zkn (a0:ZB) (c:ln a0<=1000):qxt a0:=by
 unfold qxt qkn qok qg6 qol qom qon;dsimp only;have r:ln ([]:ZB)=0:=rfl;have s:ln ([116,117,114,110]:ZB)=4:=rfl;have t:ln ([115,105,103]:ZB)=3:=rfl;have u:ln ([88,76,66,83,77,81,70,90]:ZB)=8:=rfl;have v:ln ([32,94,118,62]:ZB)=4:=rfl;have w:sub ([32,94,118,62]:ZB) 1 2=[94]:=rfl;have y:sub ([32,94,118,62]:ZB) 2 3=[118]:=rfl;have z:sub ([32,94,118,62]:ZB) 3 4=[62]:=rfl;simp only [r,s,t,u,v,w,y,z,zug,Int.zero_add,zzl,zwf,eq_self,true_and];clear r s t u v w y z;have A:=ln_nonneg a0;refine ⟨⟨⟨λj a b=>absurd a (by omega)⟩,trivial⟩,λi0=>⟨?_,λf=>⟨?_,λh=>⟨?_,λi=>⟨?_,λg=>⟨?_,λo=>⟨?_,λk=>⟨?_,λl=>⟨?_,λm=>⟨?_,λn=>⟨?_,λd=>⟨?_,λe=>⟨?_,λq=>?_⟩⟩⟩⟩⟩⟩⟩⟩⟩⟩⟩⟩⟩
 .simp only [q67,w0,w1,w2,w4,w5,w6,w7,qp]
  unhygienic (repeat' (first | exact trivial | (with_reducible exact rfl) | (with_reducible apply And.intro) | intro))
  all_goals first
   | omega
   | (with_reducible exact (pre_nil ‹_›).elim)
   | (with_reducible exact q9j)
   | (with_reducible exact zfq ‹_› ‹_› ‹_›)
   | (with_reducible exact zfo ‹_› ‹_›)
   | (with_reducible exact q03 ‹_› ‹_›)
   | (with_reducible exact q02 ‹_› ‹_›)
   | (with_reducible exact zau ‹_› ‹_›)
   | (with_reducible exact zat ‹_› ‹_›)
   | (with_reducible exact z0c ‹_› ‹_› ‹_› ‹_›)
   | (with_reducible exact z0b ‹_› ‹_›)
   | (with_reducible exact zyt ‹_› (by omega))
   | (with_reducible exact zys ‹_› (by omega))
   | (with_reducible exact qmy (by omega))
   | (with_reducible exact qqh ‹_› (by omega) ‹_› ‹_› ‹_›)
   | (with_reducible exact qqf (by omega))
   | (with_reducible exact quz ‹_› ‹_›)
   | (with_reducible exact q3n ‹_› ‹_›)
   | (with_reducible exact q3m ‹_› ‹_›)
   | (with_reducible exact zy2 ‹_›)
   | (with_reducible exact zsg ‹_›)
   | (with_reducible exact zsg rfl)
   | (with_reducible exact q2n c (by omega) ‹_› ‹_› ‹_›)
   | exact Int.le_trans (q44 c (by omega) ‹_› ‹_› ‹_›) (by decide)
   | (with_reducible exact zy3 ‹_› (by omega))
   | (with_reducible exact zy4 ‹_› ‹_› (by omega))
   | (with_reducible exact zy5 ‹_› ‹_› ‹_› (by omega))
   | (with_reducible exact zy6 ‹_› ‹_› ‹_› ‹_›)
   | exact qwt 1 i0 (by decide) (by decide) (zfa ‹_› ‹_› ‹_› ‹_› ‹_› (by first | exact qn9 ‹_› | exact qn8 ‹_›) ‹_› (by omega)) ‹_›
   | exact qwu 1 i0 (by decide) (by decide) (zfa ‹_› ‹_› ‹_› ‹_› ‹_› (by first | exact qn9 ‹_› | exact qn8 ‹_›) ‹_› (by omega)) ‹_›
   | exact qen 1 i0 (zrt ‹_› ‹_› ‹_› ‹_› ‹_› (by first | exact qn9 ‹_› | exact qn8 ‹_›) (by first | (left;assumption) | (right;assumption) | (right;omega)))
   | fail "rest"
 .simp only [q67,w5,qp]
  unhygienic (repeat' (first | exact trivial | (with_reducible exact rfl) | (with_reducible apply And.intro) | intro))
  all_goals first
   | omega
   | (with_reducible exact (pre_nil ‹_›).elim)
   | (with_reducible exact q9j)
   | (with_reducible exact zfq ‹_› ‹_› ‹_›)
   | (with_reducible exact zfo ‹_› ‹_›)
   | (with_reducible exact q03 ‹_› ‹_›)
   | (with_reducible exact q02 ‹_› ‹_›)
   | (with_reducible exact zau ‹_› ‹_›)
   | (with_reducible exact zat ‹_› ‹_›)
   | exact qwt 2 f (by decide) (by decide) (zfb ‹_› ‹_› ‹_› ‹_› ‹_›) ‹_›
   | exact qwu 2 f (by decide) (by decide) (zfb ‹_› ‹_› ‹_› ‹_› ‹_›) ‹_›
   | exact qen 2 f (zru ‹_› ‹_› ‹_› ‹_›)
   | exact qen 2 f (zyq ‹_› ‹_›)
   | exact qen 2 f (zv6 ‹_›)
   | fail "rest"
 .simp only [q67,qp]
  unhygienic (repeat' (first | exact trivial | (with_reducible exact rfl) | (with_reducible apply And.intro) | intro))
  all_goals first
   | omega
   | (with_reducible exact (pre_nil ‹_›).elim)
   | exact qwt 3 h (by decide) (by decide) (zfd ‹_› (by omega)) ‹_›
   | exact qwu 3 h (by decide) (by decide) (zfd ‹_› (by omega)) ‹_›
   | exact qen 3 h (zfc (.inl ‹_›))
   | exact qen 3 h (zfc (.inr (by omega)))
   | fail "rest"
 .simp only [q67,w0,w1,w2,w4,w7,w8,w9,w10,qp]
  unhygienic (repeat' (first | exact trivial | (with_reducible exact rfl) | (with_reducible apply And.intro) | intro))
  all_goals first
   | omega
   | (with_reducible exact (pre_nil ‹_›).elim)
   | (with_reducible exact zyt ‹_› (by omega))
   | (with_reducible exact zys ‹_› (by omega))
   | (with_reducible exact qmy (by omega))
   | (with_reducible exact qqh ‹_› (by omega) ‹_› ‹_› ‹_›)
   | (with_reducible exact qqf (by omega))
   | (with_reducible exact quz ‹_› ‹_›)
   | (with_reducible exact q3n ‹_› ‹_›)
   | (with_reducible exact q3m ‹_› ‹_›)
   | (with_reducible exact zy2 ‹_›)
   | (with_reducible exact zsg ‹_›)
   | (with_reducible exact zsg rfl)
   | (with_reducible exact q2n c (by omega) ‹_› ‹_› ‹_›)
   | exact Int.le_trans (q44 c (by omega) ‹_› ‹_› ‹_›) (by decide)
   | (with_reducible exact zy3 ‹_› (by omega))
   | (with_reducible exact zy4 ‹_› ‹_› (by omega))
   | (with_reducible exact zy5 ‹_› ‹_› ‹_› (by omega))
   | (with_reducible exact zy6 ‹_› ‹_› ‹_› ‹_›)
   | (with_reducible exact z0d ‹_› (by omega))
   | (with_reducible exact z0e ‹_› ‹_› (by omega))
   | (with_reducible exact z0f ‹_› ‹_› ‹_› (by omega))
   | (with_reducible exact z0g ‹_› ‹_› ‹_› ‹_›)
   | (with_reducible exact zyv ‹_› (by omega))
   | (with_reducible exact zyu ‹_› ‹_›)
   | exact zuh ‹_› ‹_› ‹_› ‹_› (qn9 ‹_›) (by omega) (by omega)
   | exact zuh ‹_› ‹_› ‹_› ‹_› (qn8 ‹_›) (by omega) (by omega)
   | exact qwt 4 i (by decide) (by decide) (zfe ‹_› ‹_› ‹_› ‹_› (by first | exact qn9 ‹_› | exact qn8 ‹_›) ‹_› (by omega)) ‹_›
   | exact qwu 4 i (by decide) (by decide) (zfe ‹_› ‹_› ‹_› ‹_› (by first | exact qn9 ‹_› | exact qn8 ‹_›) ‹_› (by omega)) ‹_›
   | exact qen 4 i (zrv ‹_› ‹_› ‹_› (by first | exact qn9 ‹_› | exact qn8 ‹_›) (by first | (left;assumption) | (right;assumption) | (right;omega)))
   | exact qen 4 i (zv7 ‹_›)
   | fail "rest"
 .simp only [zzq,qp];simp only [q67]
  unhygienic (repeat' (first | exact trivial | (with_reducible exact rfl) | (with_reducible apply And.intro) | intro))
  all_goals first
   | omega
   | (with_reducible exact (pre_nil ‹_›).elim)
   | exact qkf c (by omega) (by omega) (by omega)
   | exact Int.le_trans (qkf c (by omega) (by omega) (by omega)) (by decide)
   | exact qwt 5 g (by decide) (by decide) (zff ‹_› ‹_› (by first | exact qn9 ‹_› | exact qn8 ‹_›) ‹_› (by omega)) ‹_›
   | exact qwu 5 g (by decide) (by decide) (zff ‹_› ‹_› (by first | exact qn9 ‹_› | exact qn8 ‹_›) ‹_› (by omega)) ‹_›
   | exact qen 5 g (zrx (by first | exact qn9 ‹_› | exact qn8 ‹_›) (by first | (left;assumption) | (right;assumption) | (right;omega)))
   | exact qen 5 g (zrw (.inl ‹_›))
   | exact qen 5 g (zrw (.inr ‹_›))
   | fail "rest"
 .simp only [q67,w1,w2,w3,w11,qp]
  unhygienic (repeat' (first | exact trivial | (with_reducible exact rfl) | (with_reducible apply And.intro) | intro))
  all_goals first
   | omega
   | (with_reducible exact (pre_nil ‹_›).elim)
   | exact qkf c (by omega) (by omega) (by omega)
   | (with_reducible exact qmy (by omega))
   | (with_reducible exact qqh ‹_› (by omega) ‹_› ‹_› ‹_›)
   | (with_reducible exact qqf (by omega))
   | (with_reducible exact quz ‹_› ‹_›)
   | (with_reducible exact q3n ‹_› ‹_›)
   | (with_reducible exact q3m ‹_› ‹_›)
   | (with_reducible exact zsf ‹_›)
   | (with_reducible exact q9i ‹_›)
   | (with_reducible exact q9i rfl)
   | (with_reducible exact zyx ‹_› (by omega))
   | (with_reducible exact zyw ‹_› ‹_›)
   | exact qwt 6 o (by decide) (by decide) (zfg ‹_› ‹_› ‹_› ‹_› ‹_› ‹_› (by omega)) ‹_›
   | exact qwu 6 o (by decide) (by decide) (zfg ‹_› ‹_› ‹_› ‹_› ‹_› ‹_› (by omega)) ‹_›
   | exact qen 6 o (zry ‹_› ‹_› ‹_› ‹_› ‹_› (by first | (left;assumption) | (right;assumption) | (right;omega)))
   | fail "rest"
 .simp only [q67,w1,w2,w3,w12,qp]
  unhygienic (repeat' (first | exact trivial | (with_reducible exact rfl) | (with_reducible apply And.intro) | intro))
  all_goals first
   | omega
   | (with_reducible exact (pre_nil ‹_›).elim)
   | exact qkf c (by omega) (by omega) (by omega)
   | (with_reducible exact qmy (by omega))
   | (with_reducible exact qqh ‹_› (by omega) ‹_› ‹_› ‹_›)
   | (with_reducible exact qqf (by omega))
   | (with_reducible exact quz ‹_› ‹_›)
   | (with_reducible exact q3n ‹_› ‹_›)
   | (with_reducible exact q3m ‹_› ‹_›)
   | (with_reducible exact zsf ‹_›)
   | (with_reducible exact q9i ‹_›)
   | (with_reducible exact q9i rfl)
   | (with_reducible exact zyy ‹_›)
   | (with_reducible exact zyz ‹_› ‹_›)
   | (with_reducible exact zy0 ‹_› ‹_› ‹_›)
   | (with_reducible exact zy1 ‹_› ‹_› ‹_› (by omega))
   | exact qwt 7 k (by decide) (by decide) (zfh ‹_› ‹_› ‹_› ‹_› ‹_› (by omega)) ‹_›
   | exact qwu 7 k (by decide) (by decide) (zfh ‹_› ‹_› ‹_› ‹_› ‹_› (by omega)) ‹_›
   | exact qen 7 k (zrz ‹_› ‹_› ‹_› (by first | (left;assumption) | (right;assumption) | (right;omega)))
   | exact qen 7 k (zv8 ‹_›)
   | fail "rest"
 .simp only [q67,w1,w2,w3,qp]
  unhygienic (repeat' (first | exact trivial | (with_reducible exact rfl) | (with_reducible apply And.intro) | intro))
  all_goals first
   | omega
   | (with_reducible exact (pre_nil ‹_›).elim)
   | exact qkf c (by omega) (by omega) (by omega)
   | (with_reducible exact qmy (by omega))
   | (with_reducible exact qqh ‹_› (by omega) ‹_› ‹_› ‹_›)
   | (with_reducible exact qqf (by omega))
   | (with_reducible exact quz ‹_› ‹_›)
   | (with_reducible exact q3n ‹_› ‹_›)
   | (with_reducible exact q3m ‹_› ‹_›)
   | (with_reducible exact zsf ‹_›)
   | (with_reducible exact q9i ‹_›)
   | (with_reducible exact q9i rfl)
   | exact qwt 8 l (by decide) (by decide) (qxb q3g ‹_› ‹_› ‹_› ‹_› (by omega)) ‹_›
   | exact qwu 8 l (by decide) (by decide) (qxb q3g ‹_› ‹_› ‹_› ‹_› (by omega)) ‹_›
   | exact qen 8 l (zfi q3g ‹_› ‹_› (by first | (left;assumption) | (right;assumption) | (right;omega)))
   | exact qen 8 l (zh6 q3g ‹_›)
   | fail "rest"
 .skip
  unhygienic (repeat' (first | exact trivial | (with_reducible exact rfl) | (with_reducible apply And.intro) | intro))
  all_goals first
   | omega
   | (with_reducible exact (pre_nil ‹_›).elim)
   | exact qwt 9 m (by decide) (by decide) (qqb (p:=[91]) rfl ‹_› ‹_›) ‹_›
   | exact qwu 9 m (by decide) (by decide) (qqb (p:=[91]) rfl ‹_› ‹_›) ‹_›
   | exact qen 9 m (qqa (p:=[91]) rfl (.inl ‹_›))
   | exact qen 9 m (qqa (p:=[91]) rfl (.inr ‹_›))
   | fail "rest"
 .simp only [q67,w1,w2,w3,qp]
  unhygienic (repeat' (first | exact trivial | (with_reducible exact rfl) | (with_reducible apply And.intro) | intro))
  all_goals first
   | omega
   | (with_reducible exact (pre_nil ‹_›).elim)
   | exact qkf c (by omega) (by omega) (by omega)
   | (with_reducible exact qmy (by omega))
   | (with_reducible exact qqh ‹_› (by omega) ‹_› ‹_› ‹_›)
   | (with_reducible exact qqf (by omega))
   | (with_reducible exact quz ‹_› ‹_›)
   | (with_reducible exact q3n ‹_› ‹_›)
   | (with_reducible exact q3m ‹_› ‹_›)
   | (with_reducible exact zsf ‹_›)
   | (with_reducible exact q9i ‹_›)
   | (with_reducible exact q9i rfl)
   | exact qwt 10 n (by decide) (by decide) (qxb quq ‹_› ‹_› ‹_› ‹_› (by omega)) ‹_›
   | exact qwu 10 n (by decide) (by decide) (qxb quq ‹_› ‹_› ‹_› ‹_› (by omega)) ‹_›
   | exact qen 10 n (zfi quq ‹_› ‹_› (by first | (left;assumption) | (right;assumption) | (right;omega)))
   | exact qen 10 n (zh6 quq ‹_›)
   | fail "rest"
 .skip
  unhygienic (repeat' (first | exact trivial | (with_reducible exact rfl) | (with_reducible apply And.intro) | intro))
  all_goals first
   | omega
   | (with_reducible exact (pre_nil ‹_›).elim)
   | exact qwt 11 d (by decide) (by decide) (qqb (p:=[116,117,114,110]) rfl ‹_› ‹_›) ‹_›
   | exact qwu 11 d (by decide) (by decide) (qqb (p:=[116,117,114,110]) rfl ‹_› ‹_›) ‹_›
   | exact qen 11 d (qqa (p:=[116,117,114,110]) rfl (.inl ‹_›))
   | exact qen 11 d (qqa (p:=[116,117,114,110]) rfl (.inr ‹_›))
   | fail "rest"
 .skip
  unhygienic (repeat' (first | exact trivial | (with_reducible exact rfl) | (with_reducible apply And.intro) | intro))
  all_goals first
   | omega
   | (with_reducible exact (pre_nil ‹_›).elim)
   | exact qwt 12 e (by decide) (by decide) (qqb (p:=[115,105,103]) rfl ‹_› ‹_›) ‹_›
   | exact qwu 12 e (by decide) (by decide) (qqb (p:=[115,105,103]) rfl ‹_› ‹_›) ‹_›
   | exact qen 12 e (qqa (p:=[115,105,103]) rfl (.inl ‹_›))
   | exact qen 12 e (qqa (p:=[115,105,103]) rfl (.inr ‹_›))
   | fail "rest"
 .exact zz1 q
section
variable {w:ZB} {i:Int} {c:UInt8}
theorem zev (a:0<=i):0<ln (fr w i)↔i<ln w:=by simp only [ln,fr,List.length_drop];omega
theorem qej (a:0<=i):tk w i c=true↔i<ln w/\bx w i=c.toNat:=by
 have e:bx (fr w i) 0=bx w i:=by rw [qsm a (zK _),Int.add_zero]
 simp only [tk,preB,zA,decide_eq_true_eq];rw [zwr,e,zev a];constructor
 .exact λh=>h.2
 .intro h;refine ⟨?_,h⟩;have:=(zev (w:=w) a).2 h.1;rw [zug];omega
theorem qga {k:Int} (a:0<=i) (b:k=c.toNat):qcq (fr w i) k=(fr w (qd9 w i c).2,(qd9 w i c).1):=by
 have e:bx (fr w i) 0=bx w i:=by rw [qsm a (zK _),Int.add_zero]
 rw [qcq,e];simp only [zev (w:=w) a];cases h:tk w i c with
 | true=>
  rw [zT (by rw [b];exact (qej a).1 h),qd9,zT h,qy2 a (by decide)]
 | false=>
  rw [zF (by rw [b,<-qej a,h];simp),qd9,zF (by rw [h];simp)]
theorem zdl (a:0<=i) (h:i<=ln w):i<=(qd9 w i c).2/\(qd9 w i c).2<=ln w:=by
 unfold qd9;split
 .rename_i b;have:=(qej a).1 b;exact ⟨by simp only;omega,by simp only;omega⟩
 .exact ⟨zK _,h⟩
theorem zuy (a:0<=i):qsh (fr w i)=((qmb w i).1,fr w (qmb w i).2):=by
 unfold qsh qmb;rw [qga (c:=98) (k:=98) a rfl,qga (c:=35) (k:=35) a rfl,qga (c:=110) (k:=110) a rfl];unfold qd9;cases b:tk w i 98<;>cases d:tk w i 35<;>cases e:tk w i 110<;>simp
theorem zk0 (a:0<=i) (h:i<=ln w):i<=(qmb w i).2/\(qmb w i).2<=ln w:=by
 unfold qmb
 (repeat' split)<;>(simp only)<;>first | omega | (rename_i b;have:=(qej a).1 b;omega)
theorem zxk (a:0<=i):qw4 (fr w i)=((qml w i).1,fr w (qml w i).2):=by
 unfold qw4 qml;rw [qga (c:=94) (k:=94) a rfl,qga (c:=118) (k:=118) a rfl,qga (c:=62) (k:=62) a rfl];unfold qd9;cases b:tk w i 94<;>cases d:tk w i 118<;>cases e:tk w i 62<;>simp
theorem zxj (a:0<=i) (h:i<=ln w):i<=(qml w i).2/\(qml w i).2<=ln w:=by
 unfold qml
 (repeat' split)<;>(simp only)<;>first | omega | (rename_i b;have:=(qej a).1 b;omega)
theorem zl1 (b:0<=i) (h:i<=ln w):fr w i=[]↔i=ln w:=by
 constructor
 .intro a;have:=qel b h;rw [a,qfp] at this;omega
 .intro a;exact qhb (by omega)
theorem zmd:∀ (m:Nat) (s:ZB) (j:Int),1<=j->(ln s-j).toNat=m->hdE s j=qeo qeu s j:=by
 intro m
 induction m with
 | zero=>intro s j b c;rw [qp7 (.inl (by omega)),qlf (.inl (by omega))]
 | succ m d=>
  intro s j b c;by_cases a:48<=bx s j/\bx s j<=57
  .rw [ze1 (by omega) (by omega) (.inl a),qr5 (by omega) (by omega) (by simp [qeu,a.1,a.2])];exact d s (j+1) (by omega) (by omega)
  .rw [qp7 (.inr ⟨a,by omega⟩),qlf (.inr (by simp only [qeu,Bool.and_eq_false_iff,decide_eq_false_iff_not];omega))]
theorem zow {j:Int} (a:0<=i) (hi:i<=ln w) (b:0<=j) (h:i+j<=ln w):qeo qeu w (i+j)=i+qeo qeu (fr w i) j:=by
 have d:=qel a hi;have g1:j<=qeo qeu (fr w i) j:=qtr;have e:qeo qeu (fr w i) j<=ln (fr w i):=zab (by omega);refine q0i (by omega) (by omega) (by omega) ?_ ?_
 .intro x f g;have:=zi5 (p:=qeu) (s:=fr w i) (i:=j) (x-i) (by omega) (by omega);rw [qsm a (by omega)] at this;rw [show x=i+(x-i) by omega];exact this
 .by_cases c:qeo qeu (fr w i) j<ln (fr w i)
  .right;have:=zi6 (p:=qeu) b c;rw [qsm a (by omega)] at this;exact this
  .left;omega
theorem zt7 (a:0<=i) (hi:i<=ln w):i+hdE (fr w i) 0=dgE w (qid w i).2:=by
 have e:bx (fr w i) 0=bx w i:=by rw [qsm a (zK _),Int.add_zero]
 cases h:tk w i 45 with
 | true=>
  have d:=(qej a).1 h;have f:=qel a hi;rw [qid,zT h,ze1 (zK _) (by omega) (.inr ⟨rfl,by rw [e];exact d.2⟩),zmd _ _ _ (by omega) rfl,dgE];exact (zow a hi (by omega) (by omega)).symm
 | false=>
  rw [qid,zF (by rw [h];simp),dgE];have d:¬ (0<ln (fr w i)/\bx (fr w i) 0=45):=by
   rw [e,zev a];intro d;rw [(qej (c:=45) a).2 d] at h;cases h
  have g:=zow (w:=w) (j:=0) a hi (zK _) (by omega);rw [Int.add_zero] at g;rw [g];congr 1;by_cases b:0<ln (fr w i)/\48<=bx (fr w i) 0/\bx (fr w i) 0<=57
  .rw [ze1 (zK _) b.1 (.inl b.2),qr5 (zK _) b.1 (by simp [qeu,b.2.1,b.2.2])];exact zmd _ _ _ (by decide) rfl
  .by_cases f:ln (fr w i)<=0
   .rw [qp7 (.inl f),qlf (.inl f)]
   .rw [qp7 (.inr ⟨λx=>b ⟨by omega,x⟩,λx=>d ⟨by omega,x.2⟩⟩),qlf (.inr (by simp only [qeu,Bool.and_eq_false_iff,decide_eq_false_iff_not];omega))]
theorem zwh (a:0<=i) (h:i<=ln w):i<=(qid w i).2/\(qid w i).2<=ln w:=by
 unfold qid;split
 .rename_i b;have:=(qej a).1 b;exact ⟨by simp only;omega,by simp only;omega⟩
 .exact ⟨zK _,h⟩
theorem zox (a:0<=i) (h:i<=ln w):i<=(qob w i).2/\(qob w i).2<=ln w:=by
 have b:=zwh a h;have d:(qid w i).2<=dgE w (qid w i).2:=qtr;have c:dgE w (qid w i).2<=ln w:=zab b.2;exact ⟨by simp only [qob];omega,c⟩
theorem zw6 (b:0<=i) (hi:i<=ln w):qbo (upto (fr w i) (hdE (fr w i) 0))=(qob w i).1:=by
 have e:=zt7 b hi;have f:hdE (fr w i) 0=dgE w (qid w i).2-i:=by omega
 rw [f,qob];congr 1;have a:(qid w i).2<=dgE w (qid w i).2:=qtr;cases h:tk w i 45 with
 | true=>
  have d:=(qej b).1 h;have c:qid w i=([45],i+1):=by rw [qid,zT h]
  rw [c] at a ⊢;simp only at a ⊢;rw [qat b d.1,qik (by omega) a];have g:ix w i=45:=qgc (by rw [<-qsn];exact d.2);rw [g];have:(dgE w (i+1)-i).toNat=(dgE w (i+1)-(i+1)).toNat+1:=by omega
  unfold upto;rw [this];rfl
 | false=>
  have c:qid w i=([],i):=by rw [qid,zF (by rw [h];simp)]
  rw [c] at a ⊢;simp only at a ⊢;rw [List.nil_append,qik b a]
theorem zmc (a:0<=i) (hi:i<=ln w):hdF (fr w i)=(((qgl w i).1,(qgl w i).2.2.2.1),(qgl w i).2.1,(qgl w i).2.2.1,fr w (qgl w i).2.2.2.2):=by
 have b:=zox a hi;have f:=zk0 (w:=w) (i:=(qob w i).2) (by omega) b.2;have e:fr (fr w i) (hdE (fr w i) 0)=fr w (qob w i).2:=by
  have:=zt7 a hi;have d:0<=hdE (fr w i) 0:=by
   have g:(qob w i).2=dgE w (qid w i).2:=rfl;omega
  rw [qy2 a d,this];rfl
 simp only [hdF,e,zw6 a hi,zuy (w:=w) (i:=(qob w i).2) (by omega),qga (w:=w) (c:=42) (k:=42) (i:=(qmb w (qob w i).2).2) (by omega) rfl];rfl
theorem zoe (a:0<=i) (h:i<=ln w):i<=(qgl w i).2.2.2.2/\(qgl w i).2.2.2.2<=ln w:=by
 have b:=zox a h;have d:=zk0 (w:=w) (i:=(qob w i).2) (by omega) b.2;have e:=zdl (w:=w) (i:=(qmb w (qob w i).2).2) (c:=42) (by omega) d.2;exact ⟨by simp only [qgl];omega,e.2⟩
theorem zsn {s:ZB}:∀ {i n:Int},0<=i->(qd5 s i n).2=true->∀ j,i<=j->j<ln s->qeu (bx s j)=true:=by
 intro i n
 fun_induction qd5 s i n with
 | case1 i n h b d=>intro _ a;simp at a
 | case2 i n h b d e=>
  intro f a j g c;by_cases k:j=i
  .rw [k];exact b
  .exact e (by omega) a j (by omega) c
 | case3 i n h b=>intro _ a;simp at a
 | case4 i n h=>intro f _ j g c;omega
theorem qns {s:ZB} (h:(zb s).2=true):0<ln s/\∀ j,0<=j->j<ln s->qeu (bx s j)=true:=by
 unfold zb at h;split at h
 .simp at h
 .rename_i a;have:=ln_nonneg s;exact ⟨by omega,zsn (zK _) h⟩
theorem qz1 (c:0<=i) (hi:i<=ln w):((qg3 w i).1.2=true/\(qg3 w i).2=ln w)↔(zb (fr w i)).2=true:=by
 have f:sub w i (ln w)=fr w i:=by rw [qik c hi,qea (by rw [qel c hi];omega)]
 constructor
 .rintro ⟨d,e⟩;simp only [qg3] at d e;rw [e,f] at d;exact d
 .intro h;have g:=qel c hi;have d:=qns h;have e:dgE w i=ln w:=q0i c hi (zK _) (λj a b=>by
   have:=d.2 (j-i) (by omega) (by omega);rw [qsm c (by omega)] at this;rw [show j=i+(j-i) by omega];exact this) (.inl rfl)
  simp only [qg3,e,f];exact ⟨h,trivial⟩
theorem q6c (a:0<=i) (hi:i<=ln w) (h:(zb (fr w i)).2=true):(qg3 w i).1.1=(zb (fr w i)).1:=by
 have b:sub w i (ln w)=fr w i:=by rw [qik a hi,qea (by rw [qel a hi];omega)]
 have:=((qz1 a hi).2 h).2;simp only [qg3] at this ⊢;rw [this,b]
end
theorem zd4 (c:UInt8) (t:ZB):bx (c::t) 0=(c.toNat:Int):=rfl
theorem qgb (c d:UInt8) (t:ZB):tk (c::t) 0 d=decide (c=d):=by
 rw [Bool.eq_iff_iff,qej (zK _),zd4,kk];have:=ln_nonneg t;simp only [decide_eq_true_eq];constructor
 .rintro ⟨_,h⟩;exact qgc h
 .rintro rfl;exact ⟨by omega,rfl⟩
theorem qp1 (d:UInt8):tk [] 0 d=false:=by
 rw [<-Bool.not_eq_true,qej (zK _),qfp];omega
theorem q65 (w:ZB) (i:Int):qvk w i=if tk w i 88=true then some 1 else if tk w i 76=true then some 2 else if tk w i 66=true then some 3 else if tk w i 83=true then some 4 else if tk w i 77=true then some 5 else if tk w i 81=true then some 6 else if tk w i 70=true then some 7 else if tk w i 90=true then some 8 else none:=by
 unfold qvk
 iterate 8 (rw [qwq,dif_pos (by decide)])
 rw [qwq,dif_neg (by decide)];rfl
theorem qtz (c:UInt8) (t:ZB):qvk (c::t) 0=if (qeq [c]).2=0 then some (qeq [c]).1 else none:=by
 rw [q65];simp only [qgb,decide_eq_true_eq,qeq,List.cons.injEq,and_true];by_cases a:c=88
 .simp [a]
 by_cases b:c=76
 .simp [b]
 by_cases d:c=66
 .simp [d]
 by_cases e:c=83
 .simp [e]
 by_cases f:c=77
 .simp [f]
 by_cases g:c=81
 .simp [g]
 by_cases h:c=70
 .simp [h]
 by_cases i:c=90
 .simp [i]
 simp [a,b,d,e,f,g,h,i]
theorem zgh:qvk [] 0=none:=by rw [q65];simp only [qp1];rfl
theorem val_two (c d:UInt8) (t:ZB):qeq (c::d::t)=(0,3):=by simp [qeq]
theorem zwv (c:UInt8) (t:ZB) (h:(qeq [c]).2=0):rdK (c::t) 1=zih (c::t):=by
 have a:1<=ln (c::t):=by rw [kk];have:=ln_nonneg t;omega
 have b:=zoe (w:=c::t) (i:=1) (by decide) a;have e:rdK (c::t) 1=rd1 (c::t):=rfl;rw [e,rd1,qtz,zT h];simp only [zih,zmc (w:=c::t) (i:=1) (by decide) a];simp only [zl1 (w:=c::t) (by omega) b.2];rfl
theorem qlb (c:UInt8) (t:ZB) (h:(qeq [c]).2≠0):rdK (c::t) 1=none:=by
 have e:rdK (c::t) 1=rd1 (c::t):=rfl;rw [e,rd1,qtz,zF h]
theorem zww (t:ZB):rdK (114::t) 2=q99 t:=by
 have e:rdK (114::t) 2=rd2 (114::t):=rfl;have b:qvk (114::t) 1=qvk t 0:=by rw [q65,q65];rfl
 rw [e,rd2,qgb,zT (by decide),b]
 match t with
 | []=>rw [zgh];rfl
 | [d]=>
  rw [qtz,q99];by_cases h:(qeq [d]).2=0
  .rw [zT h,zT h];rfl
  .rw [zF h,zF h]
 | d::a::u=>
  have c:¬ (2:Int)=ln (114::d::a::u):=by simp only [kk];have:=ln_nonneg u;omega
  have f:q99 (d::a::u)=none:=by rw [q99,val_two];rfl
  rw [qtz,f];by_cases h:(qeq [d]).2=0
  .rw [zT h];exact zF c
  .rw [zF h]
theorem qjd {w:ZB} (h:w≠[46]):rdK w 3=none:=by
 have e:rdK w 3=rd3 w:=rfl;rw [e,rd3,zF];rintro ⟨a,b⟩
 match w with
 | []=>rw [qp1] at a;cases a
 | [c]=>rw [qgb,decide_eq_true_eq] at a;exact h (by rw [a])
 | c::d::t=>simp only [kk] at b;have:=ln_nonneg t;omega
theorem zoj (t:ZB):rdK (116::t) 4=q64 t:=by
 have e:rdK (116::t) 4=rd4 (116::t):=rfl;have a:1<=ln ((116:UInt8)::t):=by rw [kk];have:=ln_nonneg t;omega
 have b:=zoe (w:=116::t) (i:=1) (by decide) a;have d:=zxj (w:=116::t) (i:=(qgl (116::t) 1).2.2.2.2) (by omega) b.2;have f:=zdl (w:=116::t) (c:=126) (i:=(qml (116::t) (qgl (116::t) 1).2.2.2.2).2) (by omega) d.2;have g:=zdl (w:=116::t) (c:=33) (i:=(qd9 (116::t) (qml (116::t) (qgl (116::t) 1).2.2.2.2).2 126).2) (by omega) f.2;have h:q64 t=q64 (fr (116::t) 1):=rfl;rw [e,h,rd4,qgb,q64];simp only [zmc (w:=116::t) (i:=1) (by decide) a,zxk (w:=116::t) (i:=(qgl (116::t) 1).2.2.2.2) (by omega),qga (w:=116::t) (c:=126) (k:=126) (i:=(qml (116::t) (qgl (116::t) 1).2.2.2.2).2) (by omega) rfl,
  qga (w:=116::t) (c:=33) (k:=33) (i:=(qd9 (116::t) (qml (116::t) (qgl (116::t) 1).2.2.2.2).2 126).2) (by omega) rfl,zdn,decide_true,true_and]
 simp only [zl1 (w:=116::t) (by omega) g.2]
theorem zok:rdK [116,117,114,110] 4=none:=by
 rw [zoj,q64];have h:hdE [117,114,110] 0=0:=qp7 (.inr ⟨by decide,by decide⟩);have:(hdF [117,114,110]).1.2=false:=by rw [hdF,h];rfl
 simp only [this];rfl
theorem zc0 {w p:ZB} {k:Int} (h:w≠p):rdW w p k=none:=by
 rw [rdW,zF];rintro ⟨a,b⟩;simp only [preB,zA,decide_eq_true_eq] at a;rw [qea (by omega)] at a;exact h a.2
theorem zom (c:UInt8) (t:ZB) (k:Int):rdN (c::t) c k=q9m k t:=by
 have b:1<=ln (c::t):=by rw [kk];have:=ln_nonneg t;omega
 have e:fr (c::t) 1=t:=rfl;have a:=qz1 (w:=c::t) (i:=1) (by decide) b;have d:=q6c (w:=c::t) (i:=1) (by decide) b;rw [e] at a d;rw [rdN,qgb,q9m];by_cases h:(zb t).2=true
 .rw [zT ⟨by simp,a.2 h⟩,zT h,d h]
 .rw [zF (λx=>h (a.1 x.2)),zF h]
theorem zw0 (t:ZB):rdK (64::t) 7=qyi t:=by
 have e:rdK (64::t) 7=rd7 (64::t):=rfl;have b:=qga (w:=64::t) (i:=1) (c:=67) (k:=67) (by decide) rfl;have d:=qga (w:=64::t) (i:=1) (c:=70) (k:=70) (by decide) rfl;have f:=qga (w:=64::t) (i:=1) (c:=71) (k:=71) (by decide) rfl;have l:fr ((64:UInt8)::t) 1=t:=rfl;rw [l] at b d f;have a:∀ (k:Int),2<=ln ((64:UInt8)::t)->(if (qg3 (64::t) 2).1.2=true/\(qg3 (64::t) 2).2=ln ((64:UInt8)::t) then some (Sign.mk 7 0 0 0 false 0 false false 0 0 0 0 false 0 0 k (qg3 (64::t) 2).1.1) else none)
   = (if (zb (fr ((64:UInt8)::t) 2)).2=true then some (Sign.mk 7 0 0 0 false 0 false false 0 0 0 0 false 0 0 k (zb (fr ((64:UInt8)::t) 2)).1) else none):=by
  intro k g;have j:=qz1 (w:=64::t) (i:=2) (by decide) g;by_cases h:(zb (fr ((64:UInt8)::t) 2)).2=true
  .rw [zT (j.2 h),zT h,q6c (w:=64::t) (i:=2) (by decide) g h]
  .rw [zF (λx=>h (j.1 x)),zF h]
 rw [e,rd7,qgb,zT (by decide),qyi,zar,b,d,f];unfold qd9;cases m:tk (64::t) 1 67 with
 | true=>
  have:=((qej (by decide)).1 m).1;exact a 0 (by omega)
 | false=>
  cases n:tk (64::t) 1 70 with
  | true=>
   have:=((qej (by decide)).1 n).1;exact a 3 (by omega)
  | false=>
   cases o:tk (64::t) 1 71 with
   | true=>
    have:=((qej (by decide)).1 o).1;exact a 4 (by omega)
   | false=>rfl
def M5 (t:ZB) (b:Bool):ZB:=40::(t++41::zp b 124)
theorem zcs:∀ {l:List M4} {t:ZB},(qpu t l).2=0->∃ m ∈ l,txM m=t:=by
 intro l t
 induction l with
 | nil=>intro h;simp [qpu] at h
 | cons m l b=>
  intro h;by_cases a:txM m=t
  .exact ⟨m,zC,a⟩
  .rw [qpu,zF a] at h;obtain ⟨x,c,d⟩:=b h;exact ⟨x,zG _ c,d⟩
theorem zm2:∀ m ∈ allM,∀ b,rdK (M5 (txM m) b) 5=q57 (txM m++41::zp b 124):=by
 intro m a b;simp only [allM,zD,List.not_mem_nil,or_false] at a;rcases a with h | h | h | h | h | h | h | h | h | h | h | h | h | h | h | h<;>subst h<;>cases b<;>rfl
theorem qry {u:ZB} {c:UInt8} (h:0<ln u) (d:bx u (ln u-1)=c.toNat):u=upto u (ln u-1)++[c]:=by
 have:=qdg (l:=u) (i:=ln u-1) (by omega) (by omega);rw [show ln u-1+1=ln u by omega,qea (zK _),qgc (a:=ix u (ln u-1)) (b:=c) (by rw [<-qsn];exact d)] at this;exact this
theorem zew {w:ZB} {i:Int} {c:UInt8} (d:0<=i) (h:tk w i c=true):fr w i=c::fr w (i+1):=by
 have e:=(qej d).1 h;rw [qat d e.1,qgc (a:=ix w i) (b:=c) (by rw [<-qsn];exact e.2)]
theorem zwy {t:ZB} {s:Sign} (h:rdK (40::t) 5=some s):∃ m ∈ allM,∃ b,t=txM m++41::zp b 124:=by
 have e:rdK (40::t) 5=rd5 (40::t):=rfl;rw [e,rd5] at h;split at h
 .rename_i d;obtain ⟨_,f,g,a⟩:=d;have i:=zm6 (40::t);have j:upto t (qf0 (40::t))=sub (40::t) 1 (1+qf0 (40::t)):=by
   rw [qik (by decide) (by omega)];congr 1;omega
  obtain ⟨m,k,n⟩:=zcs (l:=allM) (t:=sub (40::t) 1 (1+qf0 (40::t))) f;refine ⟨m,k,(qd9 (40::t) (1+qf0 (40::t)+1) 124).1,?_⟩;rw [n,<-j];have o:t=upto t (qf0 (40::t))++fr t (qf0 (40::t)):=(List.take_append_drop _ _).symm;have p:fr t (qf0 (40::t))=fr (40::t) (1+qf0 (40::t)):=by rw [<-qy2 (by decide) i];rfl
  have q:=zew (by omega) g;have r:fr (40::t) (1+qf0 (40::t)+1)=zp (qd9 (40::t) (1+qf0 (40::t)+1) 124).1 124:=by
   unfold qd9 at a ⊢;cases c:tk (40::t) (1+qf0 (40::t)+1) 124 with
   | true=>
    rw [c,zT rfl] at a;rw [zew (by omega) c,qhb (by simp only at a;omega)];rfl
   | false=>
    rw [c,zF (by decide)] at a;exact qhb (by simp only at a;omega)
  rw [<-r,<-q,<-p];exact o
 .cases h
theorem zsa {t:ZB} {s:Sign} (h:q57 t=some s):∃ m ∈ allM,∃ b,t=txM m++41::zp b 124:=by
 by_cases d:0<ln t/\bx t (ln t-1)=124
 .rw [q57] at h;simp only [decide_eq_true d,if_true] at h;split at h
  .rename_i a;obtain ⟨m,e,f⟩:=zcs (l:=allM) a.2.2;refine ⟨m,e,true,?_⟩;rw [f];have g:=qry (c:=124) d.1 d.2;have i:=qry (c:=41) a.1 a.2.1
   conv=>lhs;rw [g,i]
   rw [List.append_assoc];rfl
  .cases h
 .rw [q57] at h;simp only [decide_eq_false d,Bool.false_eq_true,if_false] at h;split at h
  .rename_i a;obtain ⟨m,e,f⟩:=zcs (l:=allM) a.2.2;refine ⟨m,e,false,?_⟩;rw [f];exact qry (c:=41) a.1 a.2.1
  .cases h
theorem zwx (t:ZB):rdK (40::t) 5=q57 t:=by
 cases h:rdK (40::t) 5 with
 | some s=>
  obtain ⟨m,a,b,c⟩:=zwy h;rw [<-h,c];exact zm2 m a b
 | none=>
  cases d:q57 t with
  | none=>rfl
  | some s=>
   obtain ⟨m,a,b,c⟩:=zsa d;rw [<-h,<-d,c];exact zm2 m a b
theorem q91 {s:ZB} {c k m:Int}:∀ (n:Nat) (i j:Int),0<=i->i<=j->j<=ln s->(∀ x,i<=x->x<j->bx s x≠c)->(j-i).toNat=n->qfr s c i k m=qfr s c j k m:=by
 intro n
 induction n with
 | zero=>intro i j e g f d h;rw [show i=j by omega]
 | succ n l=>
  intro i j e g f d h;rw [ziv e (by omega) (d i (zK _) (by omega))];exact l (i+1) j (by omega) (by omega) f (λx a b=>d x (by omega) b) (by omega)
theorem zsw {s:ZB} {c i k m:Int} (h:(qfr s c i k m).2.2=true) (g:0<=i) (b:m=1->0<=k/\k<ln s/\bx s k=c) (f:0<=m):∃ a,0<=a/\a<ln s/\bx s a=c/\qfr s c i k m=(upto s a,fr s (a+1),true):=by
 fun_induction qfr s c i k m with
 | case1 i k m hi e d=>exact d h (by omega) (λ_=>⟨by omega,by omega,e⟩) (by omega)
 | case2 i k m hi e d=>exact d h (by omega) b f
 | case3 i k hi=>exact ⟨k,(b rfl).1,(b rfl).2.1,(b rfl).2.2,rfl⟩
 | case4 i k m hi f=>simp at h
theorem qw5 {a l:ZB} {j:Int} (b:0<=j) (h:j<ln a):bx (a++l) j=bx a j:=by rw [qsn,qsn,qpb b h]
theorem qvi (a l:ZB):upto (a++l) (ln a)=a:=by unfold upto ln;exact List.take_left' (by omega)
theorem q5p (a l:ZB):fr (a++l) (ln a)=l:=by unfold fr ln;exact List.drop_left' (by omega)
theorem q5a (a l:ZB) (c:UInt8):bx (a++c::l) (ln a)=c.toNat:=by
 have:=qsm (s:=a++c::l) (i:=ln a) (j:=0) (ln_nonneg a) (zK _);rw [q5p,Int.add_zero] at this;exact this.symm
theorem zb5 (a l:ZB) (c:UInt8):fr (a++c::l) (ln a+1)=l:=by
 rw [<-qy2 (ln_nonneg a) (by decide),q5p];rfl
def S6 (n d:Int):Sign:=Sign.mk 6 0 0 0 false 0 false false 0 0 0 0 false n d 0 0
theorem zol {a b:ZB} (d:(zb a).2=true) (f:(zb b).2=true):rdK (a++47::b) 6=some (S6 (zb a).1 (zb b).1):=by
 have e:rdK (a++47::b) 6=rd6 (a++47::b):=rfl;have o:ln (a++47::b)=ln a+(ln b+1):=by rw [qm,kk]
 have n1:=ln_nonneg a;have n2:=ln_nonneg b;have k:dgE (a++47::b) 0=ln a:=q0i (zK _) n1 (by omega) (λj g c=>by rw [qw5 g c];exact (qns d).2 j g c) (.inr (by rw [q5a];rfl));have l:qg3 (a++47::b) 0=(zb a,ln a):=by
  rw [qg3,k];have:sub (a++47::b) 0 (ln a)=a:=qvi a (47::b);rw [this]
 have m:tk (a++47::b) (ln a) 47=true:=(qej n1).2 ⟨by omega,by rw [q5a]⟩;have n:=zb5 a b 47;have c:=qz1 (w:=a++47::b) (i:=ln a+1) (by omega) (by omega);have h:=q6c (w:=a++47::b) (i:=ln a+1) (by omega) (by omega);rw [n] at c h;rw [e,rd6];simp only [l];rw [zT ⟨d,m,c.2 f⟩,h f];rfl
theorem zcv {a b:ZB} (f:(zb a).2=true) (g:(zb b).2=true):q6m (a++47::b)=some (S6 (zb a).1 (zb b).1):=by
 have m:ln (a++47::b)=ln a+(ln b+1):=by rw [qm,kk]
 have n1:=ln_nonneg a;have n2:=ln_nonneg b;have k:∀ {x:Int},qeu x=true->x≠47:=by
  intro x h l;rw [l] at h;cases h
 have d:zfz (a++47::b) 47=(a,b,true):=by
  rw [zfz,q91 (s:=a++47::b) (c:=47) _ 0 (ln a) (zK _) n1 (by omega) (λx d e=>by rw [qw5 d e];exact k ((qns f).2 x d e)) rfl,
   zoa n1 (by omega) (by rw [q5a];rfl),
   q91 (s:=a++47::b) (c:=47) _ (ln a+1) (ln (a++47::b)) (by omega) (by omega) (zK _) (λx d e=>by
    have:=qsm (s:=a++47::b) (i:=ln a+1) (j:=x-(ln a+1)) (by omega) (by omega);rw [zb5,show ln a+1+(x-(ln a+1))=x by omega] at this;rw [<-this];exact k ((qns g).2 _ (by omega) (by omega))) rfl,
   show (0:Int)+1=1 from rfl,zob (zK _),qvi,zb5]
 simp only [q6m,d];rw [zT ⟨trivial,f,g⟩];rfl
theorem zcz {w:ZB} {s:Sign} (h:rdK w 6=some s):∃ a b,(zb a).2=true/\(zb b).2=true/\w=a++47::b:=by
 have e:rdK w 6=rd6 w:=rfl;rw [e,rd6] at h;split at h
 .rename_i f;obtain ⟨g,c,i⟩:=f;have d:0<=(qg3 w 0).2:=qtr;have j:=(qej d).1 c;refine ⟨upto w (qg3 w 0).2,fr w ((qg3 w 0).2+1),g,?_,?_⟩
  .exact (qz1 (by omega) (by omega)).1 i
  .rw [<-zew d c];exact (List.take_append_drop _ _).symm
 .cases h
theorem zwt {w:ZB} {s:Sign} (h:q6m w=some s):∃ a b,(zb a).2=true/\(zb b).2=true/\w=a++47::b:=by
 simp only [q6m] at h;split at h
 .rename_i f;obtain ⟨g,c,d⟩:=f;obtain ⟨k,e,i,j,l⟩:=zsw g (zK _) (λh=>by omega) (zK _);have m:zfz w 47=(upto w k,fr w (k+1),true):=l;rw [m] at c d;refine ⟨_,_,c,d,?_⟩;have n:tk w k 47=true:=(qej e).2 ⟨i,j⟩;rw [<-zew e n];exact (List.take_append_drop _ _).symm
 .cases h
theorem zwz (w:ZB):rdK w 6=q6m w:=by
 cases h:rdK w 6 with
 | some s=>
  obtain ⟨a,b,c,d,e⟩:=zcz h;rw [<-h,e,zol c d,zcv c d]
 | none=>
  cases f:q6m w with
  | none=>rfl
  | some s=>
   obtain ⟨a,b,c,d,e⟩:=zwt f;rw [<-h,<-f,e,zol c d,zcv c d]
theorem qlc {c:UInt8} {t:ZB} (f:qeu c.toNat=false):rdK (c::t) 6=none:=by
 cases h:rdK (c::t) 6 with
 | none=>rfl
 | some s=>
  obtain ⟨a,b,g,k,i⟩:=zcz h;obtain ⟨d,j⟩:=qns g;have e:=j 0 (zK _) d;rw [<-qw5 (l:=47::b) (zK _) d,<-i,zd4,f] at e;cases e
theorem zro {w:ZB}:∀ (m:Nat) (i:Int),1<=i->(13-i).toNat=m->(∀ j,i<=j->j<=12->rdK w j=none)->qoa w i=none:=by
 intro m
 induction m with
 | zero=>intro i c d _;rw [qoa,dif_neg (by omega)]
 | succ m e=>
  intro i c d h;rw [qoa,dif_pos ⟨c,by omega⟩,h i (zK _) (by omega)];exact e (i+1) (by omega) (by omega) (λj a b=>h j (by omega) b)
theorem zvw {w:ZB} (k:Int) (c:1<=k) (d:k<=12) (h:∀ j,1<=j->j<=12->j≠k->rdK w j=none):qoa w 1=rdK w k:=by
 rw [zon c d (λj a b=>h j a (by omega) (by omega)) _ 1 (by decide) c rfl,qoa,dif_pos ⟨c,d⟩];cases e:rdK w k with
 | some s=>rfl
 | none=>exact zro _ (k+1) (by omega) rfl (λj a b=>h j (by omega) b (by omega))
theorem qcf {w:ZB} (k:Int) (g:1<=k) (i:k<=12) (r1:1≠k->rdK w 1=none) (l:2≠k->rdK w 2=none) (m:3≠k->rdK w 3=none) (n:4≠k->rdK w 4=none) (o:5≠k->rdK w 5=none) (p:6≠k->rdK w 6=none)
  (q:7≠k->rdK w 7=none) (r:8≠k->rdK w 8=none) (s:9≠k->rdK w 9=none) (d:10≠k->rdK w 10=none) (e:11≠k->rdK w 11=none) (f:12≠k->rdK w 12=none):qoa w 1=rdK w k:=by
 refine zvw k g i λj a b c=>?_;have:j=1∨j=2∨j=3∨j=4∨j=5∨j=6∨j=7∨j=8∨j=9∨j=10∨j=11∨j=12:=by omega
 rcases this with h | h | h | h | h | h | h | h | h | h | h | h<;>subst h
 .exact r1 c
 .exact l c
 .exact m c
 .exact n c
 .exact o c
 .exact p c
 .exact q c
 .exact r c
 .exact s c
 .exact d c
 .exact e c
 .exact f c
theorem qk0 {c:UInt8} {t:ZB} (h:c≠114):rdK (c::t) 2=none:=zv6 (by rw [qgb,decide_eq_false h])
theorem qme {c:UInt8} {t:ZB} (h:c≠116):rdK (c::t) 4=none:=zv7 (by rw [qgb,decide_eq_false h])
theorem qk1 {c:UInt8} {t:ZB} (h:c≠40):rdK (c::t) 5=none:=zrw (.inl (by rw [qgb,decide_eq_false h]))
theorem qk2 {c:UInt8} {t:ZB} (h:c≠64):rdK (c::t) 7=none:=zv8 (by rw [qgb,decide_eq_false h])
theorem qk3 {c:UInt8} {t:ZB} (h:c≠38):rdK (c::t) 8=none:=zh6 q3g (by rw [qgb,decide_eq_false h])
theorem qhh {c:UInt8} {t:ZB} (h:c≠93):rdK (c::t) 10=none:=zh6 quq (by rw [qgb,decide_eq_false h])
theorem qjb {w:ZB} (h:w≠[91]):rdK w 9=none:=zc0 (k:=9) h
theorem qf7 {w:ZB} (h:w≠[116,117,114,110]):rdK w 11=none:=zc0 (k:=11) h
theorem qf8 {w:ZB} (h:w≠[115,105,103]):rdK w 12=none:=zc0 (k:=12) h
theorem zgg {c:UInt8} (h:(qeq [c]).2=0):qeu c.toNat=false:=by
 simp only [qeq,List.cons.injEq,and_true] at h;by_cases a:c=88
 .subst a;rfl
 by_cases b:c=76
 .subst b;rfl
 by_cases d:c=66
 .subst d;rfl
 by_cases e:c=83
 .subst e;rfl
 by_cases f:c=77
 .subst f;rfl
 by_cases g:c=81
 .subst g;rfl
 by_cases i:c=70
 .subst i;rfl
 by_cases j:c=90
 .subst j;rfl
 simp [a,b,d,e,f,g,i,j] at h
theorem zop (w:ZB):qoa w 1=qdd w:=by
 by_cases j:w=[]
 .subst j;rw [qcf 9 (by decide) (by decide) (λ_=>by show rd1 []=none;rw [rd1,zgh]) (λ_=>zv6 (qp1 _)) (λ_=>qjd (by simp)) (λ_=>zv7 (qp1 _)) (λ_=>zrw (.inl (qp1 _)))
   (λ_=>by
     cases h:rdK [] 6 with
     | none=>rfl
     | some s=>obtain ⟨a,b,_,_,u⟩:=zcz h;simp at u)
   (λ_=>zv8 (qp1 _)) (λ_=>zh6 q3g (qp1 _)) (λh=>absurd rfl h) (λ_=>zh6 quq (qp1 _)) (λ_=>qf7 (by simp)) (λ_=>qf8 (by simp)),qjb (by simp)]
  rfl
 obtain ⟨c,t,rfl⟩:∃ c t,w=c::t:=by
  cases w with
  | nil=>exact absurd rfl j
  | cons c t=>exact ⟨c,t,rfl⟩
 have k:∀ d:UInt8,c≠d->bx (c::t) 0≠d.toNat:=λd h v=>h (qgc v);by_cases e:c::t=[46]
 .injection e with ec et
  subst ec;subst et;rw [qcf 3 (by decide) (by decide) (λ_=>qlb _ _ (by decide)) (λ_=>qk0 (by decide)) (λh=>absurd rfl h) (λ_=>qme (by decide)) (λ_=>qk1 (by decide)) (λ_=>qlc rfl) (λ_=>qk2 (by decide)) (λ_=>qk3 (by decide)) (λ_=>qjb (by decide)) (λ_=>qhh (by decide)) (λ_=>qf7 (by decide)) (λ_=>qf8 (by decide))];rfl
 by_cases f:c::t=[91]
 .injection f with ec et
  subst ec;subst et;rw [qcf 9 (by decide) (by decide) (λ_=>qlb _ _ (by decide)) (λ_=>qk0 (by decide)) (λ_=>qjd e) (λ_=>qme (by decide)) (λ_=>qk1 (by decide)) (λ_=>qlc rfl) (λ_=>qk2 (by decide)) (λ_=>qk3 (by decide)) (λh=>absurd rfl h) (λ_=>qhh (by decide)) (λ_=>qf7 (by decide)) (λ_=>qf8 (by decide))];rfl
 by_cases g:c::t=[116,117,114,110]
 .injection g with ec et
  subst ec;subst et;rw [qcf 11 (by decide) (by decide) (λ_=>qlb _ _ (by decide)) (λ_=>qk0 (by decide)) (λ_=>qjd e) (λ_=>zok) (λ_=>qk1 (by decide)) (λ_=>qlc rfl) (λ_=>qk2 (by decide)) (λ_=>qk3 (by decide)) (λ_=>qjb f) (λ_=>qhh (by decide)) (λh=>absurd rfl h) (λ_=>qf8 (by decide))];rfl
 by_cases i:c::t=[115,105,103]
 .injection i with ec et
  subst ec;subst et;rw [qcf 12 (by decide) (by decide) (λ_=>qlb _ _ (by decide)) (λ_=>qk0 (by decide)) (λ_=>qjd e) (λ_=>qme (by decide)) (λ_=>qk1 (by decide)) (λ_=>qlc rfl) (λ_=>qk2 (by decide)) (λ_=>qk3 (by decide)) (λ_=>qjb f) (λ_=>qhh (by decide)) (λ_=>qf7 g) (λh=>absurd rfl h)];rfl
 by_cases m:c=114
 .subst m;rw [zos j e f g i rfl,qcf 2 (by decide) (by decide) (λ_=>qlb _ _ (by decide)) (λh=>absurd rfl h) (λ_=>qjd e) (λ_=>qme (by decide)) (λ_=>qk1 (by decide)) (λ_=>qlc rfl) (λ_=>qk2 (by decide)) (λ_=>qk3 (by decide)) (λ_=>qjb f) (λ_=>qhh (by decide)) (λ_=>qf7 g) (λ_=>qf8 i)];exact zww t
 by_cases n:c=116
 .subst n;rw [zot j e f g i rfl,qcf 4 (by decide) (by decide) (λ_=>qlb _ _ (by decide)) (λ_=>qk0 (by decide)) (λ_=>qjd e) (λh=>absurd rfl h) (λ_=>qk1 (by decide)) (λ_=>qlc rfl) (λ_=>qk2 (by decide)) (λ_=>qk3 (by decide)) (λ_=>qjb f) (λ_=>qhh (by decide)) (λ_=>qf7 g) (λ_=>qf8 i)];exact zoj t
 by_cases o:c=40
 .subst o;rw [zor j e f g i rfl,qcf 5 (by decide) (by decide) (λ_=>qlb _ _ (by decide)) (λ_=>qk0 (by decide)) (λ_=>qjd e) (λ_=>qme (by decide)) (λh=>absurd rfl h) (λ_=>qlc rfl) (λ_=>qk2 (by decide)) (λ_=>qk3 (by decide)) (λ_=>qjb f) (λ_=>qhh (by decide)) (λ_=>qf7 g) (λ_=>qf8 i)];exact zwx t
 by_cases p:c=64
 .subst p;rw [zoq j e f g i rfl,qcf 7 (by decide) (by decide) (λ_=>qlb _ _ (by decide)) (λ_=>qk0 (by decide)) (λ_=>qjd e) (λ_=>qme (by decide)) (λ_=>qk1 (by decide)) (λ_=>qlc rfl) (λh=>absurd rfl h) (λ_=>qk3 (by decide)) (λ_=>qjb f) (λ_=>qhh (by decide)) (λ_=>qf7 g) (λ_=>qf8 i)];exact zw0 t
 by_cases q:c=38
 .subst q;rw [zoo j e f g i rfl,qcf 8 (by decide) (by decide) (λ_=>qlb _ _ (by decide)) (λ_=>qk0 (by decide)) (λ_=>qjd e) (λ_=>qme (by decide)) (λ_=>qk1 (by decide)) (λ_=>qlc rfl) (λ_=>qk2 (by decide)) (λh=>absurd rfl h) (λ_=>qjb f) (λ_=>qhh (by decide)) (λ_=>qf7 g) (λ_=>qf8 i)];exact zom 38 t 8
 by_cases r:c=93
 .subst r;rw [zf4 j e f g i rfl,qcf 10 (by decide) (by decide) (λ_=>qlb _ _ (by decide)) (λ_=>qk0 (by decide)) (λ_=>qjd e) (λ_=>qme (by decide)) (λ_=>qk1 (by decide)) (λ_=>qlc rfl) (λ_=>qk2 (by decide)) (λ_=>qk3 (by decide)) (λ_=>qjb f) (λh=>absurd rfl h) (λ_=>qf7 g) (λ_=>qf8 i)];exact zom 93 t 10
 rw [zc1 j e f g i (k 114 m) (k 116 n) (k 40 o) (k 64 p) (k 38 q) (k 93 r)];have x:upto (c::t) 1=[c]:=rfl;rw [x];by_cases l:(qeq [c]).2=0
 .rw [zT l,qcf 1 (by decide) (by decide) (λh=>absurd rfl h) (λ_=>qk0 m) (λ_=>qjd e) (λ_=>qme n) (λ_=>qk1 o) (λ_=>qlc (zgg l)) (λ_=>qk2 p) (λ_=>qk3 q) (λ_=>qjb f) (λ_=>qhh r) (λ_=>qf7 g) (λ_=>qf8 i)];exact zwv c t l
 .rw [zF l,qcf 6 (by decide) (by decide) (λ_=>qlb _ _ l) (λ_=>qk0 m) (λ_=>qjd e) (λ_=>qme n) (λ_=>qk1 o) (λh=>absurd rfl h) (λ_=>qk2 p) (λ_=>qk3 q) (λ_=>qjb f) (λ_=>qhh r) (λ_=>qf7 g) (λ_=>qf8 i)];exact zwz (c::t)
theorem zoz (w:ZB):ze w=zf9 w:=by rw [ze,zf9,zop]
theorem z0i {a:UInt8} (b:(48:Int)<=a.toNat) (c:(a.toNat:Int)<=57):zb [a]=((a.toNat:Int)-48,true):=by
 have e:bx [a] 0=(a.toNat:Int):=rfl;have l:ln [a]=1:=rfl;rw [zb,zF (by rw [l];omega),qk7 (zK _) (by rw [l];decide) (by rw [e];exact b) (by rw [e];exact c) (by rw [e];omega),qxg (by rw [l];decide),e];congr 1;omega
theorem z0j {a b:UInt8} (i:(a.toNat:Int)≠48) (d:(48:Int)<=a.toNat) (f:(a.toNat:Int)<=57) (g:(48:Int)<=b.toNat) (h:(b.toNat:Int)<=57):zb [a,b]=(10 * ((a.toNat:Int)-48)+((b.toNat:Int)-48),true):=by
 have e:bx [a,b] 0=(a.toNat:Int):=rfl;have c:bx [a,b] (0+1)=(b.toNat:Int):=rfl;have l:ln [a,b]=2:=rfl;rw [zb,zF (by rw [l,e];omega),qk7 (zK _) (by rw [l];decide) (by rw [e];exact d) (by rw [e];exact f) (by rw [e];omega),
  qk7 (by decide) (by rw [l];decide) (by rw [c];exact g) (by rw [c];exact h) (by rw [e,c];omega),qxg (by rw [l];decide),e,c]
 congr 1;omega
theorem zwl:zb [49,48,48]=(100,true):=by
 have l:ln ([49,48,48]:ZB)=3:=rfl;rw [zb,zF (by rw [l];decide),qk7 (zK _) (by rw [l];decide) (by decide) (by decide) (by decide),qk7 (by decide) (by rw [l];decide) (by decide) (by decide) (by decide),
  qk7 (by decide) (by rw [l];decide) (by decide) (by decide) (by decide),qxg (by rw [l];decide)]
 rfl
theorem q5k {n:Int} (a:0<=n) (h:n<=9):((UInt8.ofNat (48+n.toNat)).toNat:Int)=48+n:=by
 have:n=0∨n=1∨n=2∨n=3∨n=4∨n=5∨n=6∨n=7∨n=8∨n=9:=by omega
 rcases this with h | h | h | h | h | h | h | h | h | h<;>subst h<;>rfl
theorem qhm {n:Int} (a:0<=n) (h:n<=100):zb (qe1 n)=(n,true):=by
 unfold qe1;split
 .have:=q5k a (by omega);unfold d1;rw [z0i (by omega) (by omega),this];congr 1;omega
 .split
  .have b:=q5k (n:=n / 10) (by omega) (by omega);have c:=q5k (n:=n % 10) (by omega) (by omega);show zb [UInt8.ofNat (48+(n / 10).toNat),UInt8.ofNat (48+(n % 10).toNat)]=_;rw [z0j (by omega) (by omega) (by omega) (by omega) (by omega),b,c];congr 1;omega
  .have:n=100:=by omega
   subst this;exact zwl
theorem zna {n:Int} (b:0<=n) (h:n<=100):¬ (0<ln (qe1 n)/\bx (qe1 n) 0=45):=by
 have:=(qns (s:=qe1 n) (by rw [qhm b h])).2 0 (zK _);rintro ⟨c,d⟩;have a:=this c;rw [d] at a;cases a
theorem zah {n:Int} (b:-4<=n) (h:n<=100):qbo (qu n)=(n,true):=by
 unfold qu;split
 .have a:=qhm (n:=-n) (by omega) (by omega);rw [q60 (s:=45::qe1 (-n)) ⟨by rw [kk];have:=ln_nonneg (qe1 (-n));omega,rfl⟩ (by show (zb (qe1 (-n))).2=true;rw [a]) (by show (zb (qe1 (-n))).1≠0;rw [a];show -n≠0;omega)];show (-(zb (qe1 (-n))).1,true)=_;rw [a];show (- -n,true)=_;rw [Int.neg_neg]
 .rw [zc5 (zna (by omega) h)];exact qhm (by omega) h
def b0 (s:ZB):Int:=match s with
 | []=>-1
 | c::_=>(c.toNat:Int)
theorem qf1 (c:UInt8) (t:ZB) {k:Int} (h:k=c.toNat):qcq (c::t) k=(t,true):=by
 rw [qcq,zT ⟨by rw [kk];have:=ln_nonneg t;omega,by rw [h];rfl⟩];rfl
theorem ql6 {t:ZB} {k:Int} (h:b0 t≠k):qcq t k=(t,false):=by
 rw [qcq,zF];rintro ⟨a,b⟩;cases t with
 | nil=>rw [qfp] at a;omega
 | cons c t=>exact h b
theorem qkd {c:UInt8} {t:ZB} {k:Int} (h:(c.toNat:Int)≠k):qcq (c::t) k=(c::t,false):=ql6 h
theorem qvf {b:Bool} {c:UInt8} {t:ZB} {k:Int} (a:k=c.toNat) (h:b0 t≠k):qcq (zp b c++t) k=(t,b):=by
 cases b with
 | true=>exact qf1 c t a
 | false=>exact ql6 h
theorem zqf {b:Bool} {c:UInt8} {t:ZB} {Q:Int->Prop} (a:Q c.toNat) (d:Q (b0 t)):Q (b0 (zp b c++t)):=by
 cases b with
 | true=>exact a
 | false=>exact d
theorem zux {a:Int} {t:ZB} (f:-1<=a) (h:a<=2) (b:b0 t≠98) (d:b0 t≠35) (e:b0 t≠110):qsh (qmr a++t)=(a,t):=by
 have:a = -1∨a=0∨a=1∨a=2:=by omega
 rcases this with h | h | h | h<;>subst h
 .show qsh (98::t)=_;simp only [qsh,qf1 98 t (k:=98) rfl,if_true]
 .show qsh t=_;simp only [qsh,ql6 b,ql6 d,ql6 e,Bool.false_eq_true,if_false]
 .show qsh (35::t)=_;simp only [qsh,qf1 35 t (k:=35) rfl,qkd (c:=35) (t:=t) (k:=98) (by decide),Bool.false_eq_true,if_false,if_true]
 .show qsh (110::t)=_;simp only [qsh,qf1 110 t (k:=110) rfl,qkd (c:=110) (t:=t) (k:=98) (by decide),qkd (c:=110) (t:=t) (k:=35) (by decide),Bool.false_eq_true,if_false,if_true]
theorem zxi {a:Int} {t:ZB} (f:0<=a) (h:a<=3) (b:b0 t≠94) (d:b0 t≠118) (e:b0 t≠62):qw4 (qhz a++t)=(a,t):=by
 have:a=0∨a=1∨a=2∨a=3:=by omega
 rcases this with h | h | h | h<;>subst h
 .show qw4 t=_;simp only [qw4,ql6 b,ql6 d,ql6 e,Bool.false_eq_true,if_false]
 .show qw4 (94::t)=_;simp only [qw4,qf1 94 t (k:=94) rfl,if_true]
 .show qw4 (118::t)=_;simp only [qw4,qf1 118 t (k:=118) rfl,qkd (c:=118) (t:=t) (k:=94) (by decide),Bool.false_eq_true,if_false,if_true]
 .show qw4 (62::t)=_;simp only [qw4,qf1 62 t (k:=62) rfl,qkd (c:=62) (t:=t) (k:=94) (by decide),qkd (c:=62) (t:=t) (k:=118) (by decide),Bool.false_eq_true,if_false,if_true]
theorem zyl:∀ (m:Nat) (s:ZB) (i k:Int),0<=i->i<=k->k<=ln s->(∀ j,i<=j->j<k->(48<=bx s j/\bx s j<=57)∨(j=0/\bx s j=45))->(k=ln s∨(¬ (48<=bx s k/\bx s k<=57)/\¬ (k=0/\bx s k=45)))->(k-i).toNat=m->hdE s i=k:=by
 intro m
 induction m with
 | zero=>
  intro s i k e g f c d l;have:i=k:=by omega
  subst this;exact qp7 (d.imp (λh=>by omega) id)
 | succ m n=>
  intro s i k e g f c d l;rw [ze1 e (by omega) (c i (zK _) (by omega))];exact n s (i+1) k (by omega) (by omega) f (λj a b=>c j (by omega) b) d (by omega)
theorem zek {b:Int}:qeu b=true↔48<=b/\b<=57:=by simp [qeu]
theorem qpm {n:Int} (c:0<=n) (h:n<=100):0<ln (qe1 n)/\∀ j,0<=j->j<ln (qe1 n)->48<=bx (qe1 n) j/\bx (qe1 n) j<=57:=by
 have:=qns (s:=qe1 n) (by rw [qhm c h]);exact ⟨this.1,λj a b=>zek.1 (this.2 j a b)⟩
theorem qp9 {n:Int} (f:-4<=n) (h:n<=100):0<ln (qu n)/\∀ j,0<=j->j<ln (qu n)->(48<=bx (qu n) j/\bx (qu n) j<=57)∨(j=0/\bx (qu n) j=45):=by
 unfold qu;split
 .have c:=qpm (n:=-n) (by omega) (by omega);refine ⟨by rw [kk];omega,λj a b=>?_⟩;rw [kk] at b;by_cases d:j=0
  .subst d;exact .inr ⟨rfl,rfl⟩
  .left;have e:bx (45::qe1 (-n)) j=bx (qe1 (-n)) (j-1):=by
    have:=qsm (s:=45::qe1 (-n)) (i:=1) (j:=j-1) (by decide) (by omega);rw [show 1+(j-1)=j by omega] at this;rw [<-this];rfl
   rw [e];exact c.2 _ (by omega) (by omega)
 .have c:=qpm (n:=n) (by omega) h;exact ⟨c.1,λj a b=>.inl (c.2 j a b)⟩
theorem zrq {n:Int} {t:ZB} (e:-4<=n) (h:n<=100) (d:b0 t<48∨57<b0 t):hdE (qu n++t) 0=ln (qu n):=by
 obtain ⟨d1,f⟩:=qp9 e h;have g:ln (qu n++t)=ln (qu n)+ln t:=qm _ _;have:=ln_nonneg t;refine zyl _ _ _ _ (zK _) (by omega) (by omega) (λj a b=>by rw [qw5 a b];exact f j a b) ?_ rfl;cases t with
 | nil=>left;rw [zJ]
 | cons c t=>
  right;rw [q5a];have d:(c.toNat:Int)<48∨57<(c.toNat:Int):=d;omega
structure Rst (t:ZB):Prop where
 d:b0 t<48∨57<b0 t
 a:b0 t≠98
 b:b0 t≠35
 c:b0 t≠110
 e:b0 t≠42
theorem zmb {p a:Int} {c:Bool} {t:ZB} (g:-4<=p) (p1:p<=100) (a0:-1<=a) (i:a<=2) (f:Rst t):hdF (qu p++(qmr a++(zp c 42++t)))=((p,true),a,c,t):=by
 have m1:=zqf (b:=c) (c:=42) (t:=t) (Q:=λx=>(x<48∨57<x)/\x≠98/\x≠35/\x≠110) (by decide) ⟨f.d,f.a,f.b,f.c⟩;have j:b0 (qmr a++(zp c 42++t))<48∨57<b0 (qmr a++(zp c 42++t)):=by
  have:a = -1∨a=0∨a=1∨a=2:=by omega
  rcases this with h | h | h | h<;>subst h
  .exact .inr (show (57:Int)<98 by decide)
  .exact m1.1
  .exact .inl (show (35:Int)<48 by decide)
  .exact .inr (show (57:Int)<110 by decide)
 have e:=zrq (t:=qmr a++(zp c 42++t)) g p1 j;simp only [hdF,e,qvi,q5p,zah g p1,zux a0 i m1.2.1 m1.2.2.1 m1.2.2.2,qvf (c:=42) (k:=42) rfl f.e]
theorem zwe:∀ m ∈ allM,∀ b,q57 (txM m++41::zp b 124)=some (Sign.mk 5 0 0 0 false 0 false false m.1 m.2.1 m.2.2.1 m.2.2.2 b 0 0 0 0):=by
 intro m a b;simp only [allM,zD,List.not_mem_nil,or_false] at a;rcases a with h | h | h | h | h | h | h | h | h | h | h | h | h | h | h | h<;>subst h<;>cases b<;>rfl
theorem ztw {a b c d:Int} (h:qe0 a b c d=0):(a,b,c,d) ∈ allM:=by
 unfold qe0 at h;split at h
 .rename_i j;obtain ⟨e,f,g,i⟩:=j;rcases e with e | e<;>rcases f with f | f<;>rcases g with g | g<;>rcases i with i | i<;>subst e<;>subst f<;>subst g<;>subst i<;>decide
 .cases h
theorem eight {v:Int} (h:1<=v/\v<=8):v=1∨v=2∨v=3∨v=4∨v=5∨v=6∨v=7∨v=8:=by omega
theorem q54 {v:Int} (h:1<=v/\v<=8):∃ c,ltr v=[c]/\qeq [c]=(v,0)/\(c=88∨c=76∨c=66∨c=83∨c=77∨c=81∨c=70∨c=90):=by
 rcases eight h with h | h | h | h | h | h | h | h<;>subst h
 .exact ⟨88,rfl,rfl,by decide⟩
 .exact ⟨76,rfl,rfl,by decide⟩
 .exact ⟨66,rfl,rfl,by decide⟩
 .exact ⟨83,rfl,rfl,by decide⟩
 .exact ⟨77,rfl,rfl,by decide⟩
 .exact ⟨81,rfl,rfl,by decide⟩
 .exact ⟨70,rfl,rfl,by decide⟩
 .exact ⟨90,rfl,rfl,by decide⟩
theorem ql2 {c d:UInt8} {t u:ZB} (h:c≠d):c::t≠d::u:=λe=>h (List.cons.inj e).1
theorem qn5 {c:UInt8} {t:ZB} {d:UInt8} {k:Int} (a:k=d.toNat) (h:c≠d):bx (c::t) 0≠k:=λe=>h (qgc (by rw [<-a];exact e))
theorem zw2 {c:UInt8} {v:Int} (t:ZB) (b:qeq [c]=(v,0)) (e:c=88∨c=76∨c=66∨c=83∨c=77∨c=81∨c=70∨c=90):qdd (c::t)=zih (c::t):=by
 have a:∀ d:UInt8,¬ (d=88∨d=76∨d=66∨d=83∨d=77∨d=81∨d=70∨d=90)->c≠d:=by
  rintro d f rfl;exact f e
 rw [zc1 (by simp) (ql2 (a 46 (by decide))) (ql2 (a 91 (by decide))) (ql2 (a 116 (by decide))) (ql2 (a 115 (by decide)))
  (qn5 (d:=114) rfl (a _ (by decide))) (qn5 (d:=116) rfl (a _ (by decide))) (qn5 (d:=40) rfl (a _ (by decide))) (qn5 (d:=64) rfl (a _ (by decide))) (qn5 (d:=38) rfl (a _ (by decide))) (qn5 (d:=93) rfl (a _ (by decide)))]
 exact zT (by show (qeq [c]).2=0;rw [b])
theorem head_eq (s:Sign):qhf s=qu s.Place++(qmr s.Acc++(zp s.Color 42++[])):=by
 rw [qhf,zJ,List.append_assoc];rfl
theorem zs7:Rst []:=⟨.inl (by decide),by decide,by decide,by decide,by decide⟩
theorem zqg {k:Int} {t:ZB} {Q:Int->Prop} (a:Q 94) (b:Q 118) (c:Q 62) (d:Q (b0 t)):Q (b0 (qhz k++t)):=by
 unfold qhz
 (repeat' split)
 .exact a
 .exact b
 .exact c
 .exact d
theorem qhn {n:Int} (a:0<=n) (h:n<=100):qu n=qe1 n:=by rw [qu,zF (by omega)]
theorem zft {k n:Int} (a:0<=n) (h:n<=100):q9m k (qu n)=some (Sign.mk k 0 0 0 false 0 false false 0 0 0 0 false n 0 0 0):=by
 rw [qhn a h,q9m,qhm a h];rfl
theorem zu2 {k n:Int} (d:k=0∨k=3∨k=4) (b:0<=n) (h:n<=100):qyi (qm2 k++qu n)=some (Sign.mk 7 0 0 0 false 0 false false 0 0 0 0 false 0 0 k n):=by
 have a:=qhm b h;rw [qhn b h];rcases d with h | h | h<;>subst h
 .show qyi (67::qe1 n)=_;simp only [qyi,qf1 67 (qe1 n) (k:=67) rfl,if_true,a]
 .show qyi (70::qe1 n)=_;simp only [qyi,qkd (c:=70) (t:=qe1 n) (k:=67) (by decide),qf1 70 (qe1 n) (k:=70) rfl,if_true,a,Bool.false_eq_true,if_false]
 .show qyi (71::qe1 n)=_;simp only [qyi,qkd (c:=71) (t:=qe1 n) (k:=67) (by decide),qkd (c:=71) (t:=qe1 n) (k:=70) (by decide),qf1 71 (qe1 n) (k:=71) rfl,if_true,a,Bool.false_eq_true,if_false]
theorem zxl {p a k:Int} {c o l:Bool} (d:-4<=p) (p1:p<=100) (a0:-1<=a) (e:a<=2) (f:0<=k) (g:k<=3) :
  q64 (qu p++(qmr a++(zp c 42++(qhz k++(zp o 126++(zp l 33++[]))))))=some (Sign.mk 4 0 p a c k o l 0 0 0 0 false 0 0 0 0):=by
 have i:b0 (zp l 33++[])=33∨b0 (zp l 33++[]) = -1:=by cases l<;>decide
 have j:b0 (zp o 126++(zp l 33++[]))=126∨b0 (zp o 126++(zp l 33++[]))=33∨b0 (zp o 126++(zp l 33++[])) = -1:=by cases o<;>cases l<;>decide
 have h:Rst (qhz k++(zp o 126++(zp l 33++[]))):=by
  have:=zqg (k:=k) (t:=zp o 126++(zp l 33++[])) (Q:=λx=>(x<48∨57<x)/\x≠98/\x≠35/\x≠110/\x≠42) (by decide) (by decide) (by decide) (by omega);exact ⟨this.1,this.2.1,this.2.2.1,this.2.2.2.1,this.2.2.2.2⟩
 simp only [q64,zmb d p1 a0 e h,zxi f g (t:=zp o 126++(zp l 33++[])) (by omega) (by omega) (by omega),qvf (c:=126) (k:=126) (b:=o) (t:=zp l 33++[]) rfl (by omega),
  qvf (c:=33) (k:=33) (b:=l) (t:=[]) rfl (by decide),and_self,if_true]
theorem zw1 {n:Int} (t:ZB) (e:0<=n) (h:n<=100):qdd (qu n++47::t)=q6m (qu n++47::t):=by
 obtain ⟨f,i⟩:=qpm e h;rw [qhn e h];cases g:qe1 n with
 | nil=>rw [g,qfp] at f;omega
 | cons c u=>
  have b:=i 0 (zK _) f;rw [g] at b;have b:(48:Int)<=(c.toNat:Int)/\(c.toNat:Int)<=57:=b;have a:∀ d:UInt8,¬ ((48:Int)<=(d.toNat:Int)/\(d.toNat:Int)<=57)->c≠d:=by
   rintro d j rfl;exact j b
  rw [List.cons_append,zc1 (by simp) (ql2 (a 46 (by decide))) (ql2 (a 91 (by decide))) (ql2 (a 116 (by decide))) (ql2 (a 115 (by decide)))
   (qn5 (d:=114) rfl (a _ (by decide))) (qn5 (d:=116) rfl (a _ (by decide))) (qn5 (d:=40) rfl (a _ (by decide))) (qn5 (d:=64) rfl (a _ (by decide))) (qn5 (d:=38) rfl (a _ (by decide))) (qn5 (d:=93) rfl (a _ (by decide)))]
  refine zF ?_;show (qeq [c]).2≠0;intro k;have:=zgg k;rw [zek.2 b] at this;cases this
theorem zxr (p a st:Int) (c b d:Bool):qam (Sign.mk 4 0 p a c st b d 0 0 0 0 false 0 0 0 0)=116::(qu p++(qmr a++(zp c 42++(qhz st++(zp b 126++(zp d 33++[])))))):=by
 show qjn _=_;rw [qjn,head_eq];simp only [List.append_assoc,zJ,List.cons_append,List.nil_append]
theorem zxs (m1 m2 m3 m4:Int) (a:Bool):qam (Sign.mk 5 0 0 0 false 0 false false m1 m2 m3 m4 a 0 0 0 0)=40::(txM (m1,m2,m3,m4)++41::zp a 124):=by
 show [40]++jv m1 m2 m3 m4++[41]++zp a 124=_;simp only [List.append_assoc,List.cons_append,List.nil_append];rfl
theorem zxt (n d:Int):qam (Sign.mk 6 0 0 0 false 0 false false 0 0 0 0 false n d 0 0)=qu n++47::qu d:=by
 show qu n++[47]++qu d=_;simp only [List.append_assoc,List.cons_append,List.nil_append]
theorem q31 {s:Sign} (h:kh s=0):qdd (qam s)=some s:=by
 obtain ⟨q,r,b,k,f,E⟩:=q6e h;obtain ⟨K,v,p,a,c,st,F,la,m1,m2,m3,G,y,n,d,cs,w⟩:=s;have:K=1∨K=2∨K=3∨K=4∨K=5∨K=6∨K=7∨K=8∨K=9∨K=10∨K=11∨K=12:=by
  have q:1<=K:=q;have r:K<=12:=r;omega
 unfold qk4 at b;unfold qei at f;dsimp only at b f k;rcases this with e | e | e | e | e | e | e | e | e | e | e | e<;>subst e
 .simp at b f;obtain ⟨⟨rfl,rfl,rfl⟩,⟨rfl,rfl,rfl,rfl,rfl⟩,rfl,rfl,rfl,rfl⟩:=b;obtain ⟨i,g,l,j⟩:=q54 (v:=v) f.1;have e:=zmb (p:=p) (a:=a) (c:=c) (t:=[]) (by omega) (by omega) (by omega) (by omega) zs7;show qdd (ltr v++qhf _)=_;rw [g,head_eq];show qdd (i::(qu p++(qmr a++(zp c 42++[]))))=_;rw [zw2 _ l j,zih];have z:fr (i::(qu p++(qmr a++(zp c 42++[])))) 1=qu p++(qmr a++(zp c 42++[])):=rfl;have A:upto (i::(qu p++(qmr a++(zp c 42++[])))) 1=[i]:=rfl;rw [z,A,e,l];rfl
 .simp at b f;obtain ⟨⟨rfl,rfl,rfl⟩,⟨rfl,rfl,rfl⟩,⟨rfl,rfl,rfl,rfl,rfl⟩,rfl,rfl,rfl,rfl⟩:=b;obtain ⟨i,g,l,j⟩:=q54 (v:=v) f;show qdd (114::ltr v)=_;rw [g,zos (by simp) (by simp) (by simp) (by simp) (by simp) rfl];show q99 [i]=_;rw [q99,l];rfl
 .simp at b;obtain ⟨rfl,⟨rfl,rfl,rfl⟩,⟨rfl,rfl,rfl⟩,⟨rfl,rfl,rfl,rfl,rfl⟩,rfl,rfl,rfl,rfl⟩:=b;rfl
 .simp at b f;obtain ⟨rfl,⟨rfl,rfl,rfl,rfl,rfl⟩,rfl,rfl,rfl,rfl⟩:=b;have m:=qp9 (n:=p) (by omega) (by omega);rw [zxr,zot (by simp) (by simp) (by simp) ?_ (by simp) rfl]
  .exact zxl (by omega) (by omega) (by omega) (by omega) (by omega) (by omega)
  .cases hi:qu p with
   | nil=>rw [hi,qfp] at m;omega
   | cons x u=>
    have o:=m.2 0 (zK _) m.1;rw [hi] at o;have o:((48:Int)<=(x.toNat:Int)/\(x.toNat:Int)<=57)∨((0:Int)=0/\(x.toNat:Int)=45):=o;intro B;have C:x=117:=(List.cons.inj (List.cons.inj B).2).1;subst C;revert o;decide
 .simp at b;obtain ⟨rfl,⟨rfl,rfl,rfl⟩,⟨rfl,rfl,rfl⟩,rfl,rfl,rfl,rfl⟩:=b;have k:=ztw (k rfl);have D:=zwe _ k y;rw [zxs,zor (by simp) (by simp) (by simp) (by simp) (by simp) rfl];exact D
 .simp at b f;obtain ⟨rfl,⟨rfl,rfl,rfl⟩,⟨rfl,rfl,rfl⟩,⟨rfl,rfl,rfl,rfl,rfl⟩,rfl,rfl⟩:=b;rw [zxt,zw1 _ (by omega) (by omega),qhn (n:=n) (by omega) (by omega),qhn (n:=d) (by omega) (by omega),zcv (by rw [qhm (n:=n) (by omega) (by omega)]) (by rw [qhm (n:=d) (by omega) (by omega)]),qhm (n:=n) (by omega) (by omega),qhm (n:=d) (by omega) (by omega)];rfl
 .simp at b f;obtain ⟨rfl,⟨rfl,rfl,rfl⟩,⟨rfl,rfl,rfl⟩,⟨rfl,rfl,rfl,rfl,rfl⟩,rfl,rfl⟩:=b;show qdd ([64]++qm2 cs++qu w)=_;rw [List.append_assoc];show qdd (64::(qm2 cs++qu w))=_;rw [zoq (by simp) (by simp) (by simp) (by simp) (by simp) rfl];exact zu2 f.1 (by omega) (by omega)
 .simp at b f;obtain ⟨rfl,⟨rfl,rfl,rfl⟩,⟨rfl,rfl,rfl⟩,⟨rfl,rfl,rfl,rfl,rfl⟩,rfl,rfl,rfl⟩:=b;show qdd (38::qu n)=_;rw [zoo (by simp) (by simp) (by simp) (by simp) (by simp) rfl];exact zft (by omega) (by omega)
 .simp at b;obtain ⟨rfl,⟨rfl,rfl,rfl⟩,⟨rfl,rfl,rfl⟩,⟨rfl,rfl,rfl,rfl,rfl⟩,rfl,rfl,rfl,rfl⟩:=b;rfl
 .simp at b f;obtain ⟨rfl,⟨rfl,rfl,rfl⟩,⟨rfl,rfl,rfl⟩,⟨rfl,rfl,rfl,rfl,rfl⟩,rfl,rfl,rfl⟩:=b;have m:=qp9 (n:=n) (by omega) (by omega);show qdd (93::qu n)=_;rw [zf4 (by simp) (by simp) (by simp) (by simp) (by simp) rfl];exact zft (by omega) (by omega)
 .simp at b;obtain ⟨rfl,⟨rfl,rfl,rfl⟩,⟨rfl,rfl,rfl⟩,⟨rfl,rfl,rfl,rfl,rfl⟩,rfl,rfl,rfl,rfl⟩:=b;rfl
 .simp at b;obtain ⟨rfl,⟨rfl,rfl,rfl⟩,⟨rfl,rfl,rfl⟩,⟨rfl,rfl,rfl,rfl,rfl⟩,rfl,rfl,rfl,rfl⟩:=b;rfl
theorem take_drop (t:ZB) (i:Int):t=upto t i++fr t i:=(List.take_append_drop _ _).symm
theorem zju {s:Sign} (h:kh s=0):zf9 (qam s)=(s,0):=by
 rw [zf9,q31 h,fin,zT h]
def qdc (b:Int):Bool:=decide (33<=b)&&decide (b<=126)&&!decide (b=59)&&!decide (b=34)
theorem q0a {b:Int}:qdc b=true↔33<=b/\b<=126/\b≠59/\b≠34:=by simp [qdc,and_assoc]
theorem q4o {s:Sign} (h:kh s=0):(∀ b ∈ qam s,qdc (b.toNat:Int)=true)/\ln (qam s)<=10/\qam s≠[]:=by
 have app:∀ {a b:ZB} {i j:Int},((∀ x ∈ a,qdc (x.toNat:Int)=true)/\ln a<=i)->((∀ x ∈ b,qdc (x.toNat:Int)=true)/\ln b<=j)->((∀ x ∈ a++b,qdc (x.toNat:Int)=true)/\ln (a++b)<=i+j):=by
  intro a b i j l B;refine ⟨λx g=>(List.mem_append.1 g).elim (l.1 x) (B.1 x),?_⟩;rw [qm];have:=l.2;have:=B.2;omega
 have u:∀ {n:Int},0<=n->n<=100->(∀ x ∈ qe1 n,qdc (x.toNat:Int)=true)/\ln (qe1 n)<=3:=by
  intro n w l;refine ⟨λx g=>?_,by have:=q59 w;simp only [ln];omega⟩;obtain ⟨i,a,b,rfl⟩:=q56 g;have:=(qpm w l).2 i a b;rw [<-qsn];exact q0a.2 (by omega)
 have o:∀ {n:Int},-4<=n->n<=100->(∀ x ∈ qu n,qdc (x.toNat:Int)=true)/\ln (qu n)<=4:=by
  intro n w l;unfold qu;split
  .have:=u (n:=-n) (by omega) (by omega);refine ⟨λx g=>?_,by rw [kk];omega⟩;rcases zD.1 g with g | g
   .subst g;rfl
   .exact this.1 x g
  .have:=u (n:=n) (by omega) l;exact ⟨this.1,by omega⟩
 have C:∀ a:Int,(∀ x ∈ qmr a,qdc (x.toNat:Int)=true)/\ln (qmr a)<=1:=by
  intro a;unfold qmr
  (repeat' split)<;>decide
 have mk:∀ (b:Bool) (c:UInt8),qdc (c.toNat:Int)=true->(∀ x ∈ zp b c,qdc (x.toNat:Int)=true)/\ln (zp b c)<=1:=by
  intro b c y;cases b
  .exact ⟨λx g=>(by cases g),(show (0:Int)<=1 by decide)⟩
  .exact ⟨λx g=>by rw [List.mem_singleton.1 g];exact y,zK _⟩
 have st:∀ k:Int,(∀ x ∈ qhz k,qdc (x.toNat:Int)=true)/\ln (qhz k)<=1:=by
  intro k;unfold qhz
  (repeat' split)<;>decide
 have sp:∀ k:Int,(∀ x ∈ qm2 k,qdc (x.toNat:Int)=true)/\ln (qm2 k)<=1:=by
  intro k;unfold qm2
  (repeat' split)<;>decide
 have f:∀ c:UInt8,qdc (c.toNat:Int)=true->(∀ x ∈ ([c]:ZB),qdc (x.toNat:Int)=true)/\ln ([c]:ZB)<=1:=λc y=>⟨λx g=>by rw [List.mem_singleton.1 g];exact y,zK _⟩;have G:∀ m ∈ allM,(∀ x ∈ txM m,qdc (x.toNat:Int)=true)/\ln (txM m)<=4:=by
  intro m r;simp only [allM,zD,List.not_mem_nil,or_false] at r;rcases r with h | h | h | h | h | h | h | h | h | h | h | h | h | h | h | h<;>subst h<;>decide
 have D:qam s≠[]:=by
  intro e;have:=q31 h;rw [e] at this;rw [qdd,zT rfl] at this;cases this
 obtain ⟨H,I,J,r,E,L⟩:=q6e h;refine (λ(q:(∀ b ∈ qam s,qdc (b.toNat:Int)=true)/\ln (qam s)<=10)=>⟨q.1,q.2,D⟩) ?_;clear D h J L;unfold qei at E;obtain ⟨K,v,p,a,c,sm,M,la,m1,m2,m3,N,O,n,d,cs,P⟩:=s;dsimp only at H I r E;have le:∀ {t:ZB} {i:Int},((∀ x ∈ t,qdc (x.toNat:Int)=true)/\ln t<=i)->i<=10->(∀ b ∈ t,qdc (b.toNat:Int)=true)/\ln t<=10:=λh S=>⟨h.1,by have:=h.2;omega⟩;have F:1<=v/\v<=8->(∀ x ∈ ltr v,qdc (x.toNat:Int)=true)/\ln (ltr v)<=1:=by
  intro Q;obtain ⟨R,z,-,A⟩:=q54 Q;rw [z];refine f R ?_;rcases A with h | h | h | h | h | h | h | h<;>subst h<;>rfl
 have:K=1∨K=2∨K=3∨K=4∨K=5∨K=6∨K=7∨K=8∨K=9∨K=10∨K=11∨K=12:=by omega
 rcases this with e | e | e | e | e | e | e | e | e | e | e | e<;>subst e
 .exact le (app (F (by omega)) (app (app (o (n:=p) (by omega) (by omega)) (C a)) (mk c 42 rfl))) (by decide)
 .exact le (app (f 114 rfl) (F (by omega))) (by decide)
 .exact le (f 46 rfl) (by decide)
 .exact le (app (app (app (app (f 116 rfl) (app (app (o (n:=p) (by omega) (by omega)) (C a)) (mk c 42 rfl))) (st sm)) (mk M 126 rfl)) (mk la 33 rfl)) (by decide)
 .exact le (app (app (app (f 40 rfl) (G (m1,m2,m3,N) (ztw (r rfl)))) (f 41 rfl)) (mk O 124 rfl)) (by decide)
 .have w1:=qhn (n:=n) (by omega) (by omega);have w2:=qhn (n:=d) (by omega) (by omega);show (∀ b ∈ qu n++[47]++qu d,_)/\ln (qu n++[47]++qu d)<=10;rw [w1,w2];exact le (app (app (u (n:=n) (by omega) (by omega)) (f 47 rfl)) (u (n:=d) (by omega) (by omega))) (by decide)
 .exact le (app (app (f 64 rfl) (sp cs)) (o (n:=P) (by omega) (by omega))) (by decide)
 .exact le (app (f 38 rfl) (o (n:=n) (by omega) (by omega))) (by decide)
 .exact le (f 91 rfl) (by decide)
 .exact le (app (f 93 rfl) (o (n:=n) (by omega) (by omega))) (by decide)
 .exact le (t:=[116,117,114,110]) (i:=4) (by decide) (by decide)
 .exact le (t:=[115,105,103]) (i:=3) (by decide) (by decide)
theorem zpr {s:Sign} (h:kh s=0):bx (qam s) 0≠126:=by
 obtain ⟨i,j,k,l,g,m⟩:=q6e h;clear h k m;unfold qei at g;obtain ⟨K,v,p,a,c,sm,r,la,m1,m2,m3,t,u,n,d,cs,w⟩:=s;dsimp only at i j l g;have:K=1∨K=2∨K=3∨K=4∨K=5∨K=6∨K=7∨K=8∨K=9∨K=10∨K=11∨K=12:=by omega
 rcases this with e | e | e | e | e | e | e | e | e | e | e | e<;>subst e
 .obtain ⟨o,b,-,f⟩:=q54 (v:=v) (by omega);show bx (ltr v++_) 0≠126;rw [b];show ((o.toNat:Nat):Int)≠126;rcases f with h | h | h | h | h | h | h | h<;>subst h<;>decide
 .show ((114:Nat):Int)≠126;decide
 .show ((46:Nat):Int)≠126;decide
 .show ((116:Nat):Int)≠126;decide
 .show ((40:Nat):Int)≠126;decide
 .have w1:=qhn (n:=n) (by omega) (by omega);have q:=qpm (n:=n) (by omega) (by omega);have x:=q.2 0 (by omega) q.1;show bx (qu n++[47]++qu d) 0≠126;rw [w1,List.append_assoc,qsn,qpb (by omega) q.1,<-qsn];omega
 .show ((64:Nat):Int)≠126;decide
 .show ((38:Nat):Int)≠126;decide
 .show ((91:Nat):Int)≠126;decide
 .show ((93:Nat):Int)≠126;decide
 .show ((116:Nat):Int)≠126;decide
 .show ((115:Nat):Int)≠126;decide
theorem zgn {x:Sign} (h:kh x=0):(qep x).1=qam x/\ze (qep x).1=(x,0):=by
 have e:(qep x).1=qam x:=by unfold qep;rw [zT h]
 exact ⟨e,by rw [e,zoz,zju h]⟩
theorem q0q:∀ {l S:List Sign},(∀ x ∈ l,kh x=0)->qmk (qe6 l) S=(S++l,true)
 | [],S,_=>by simp [qe6,qmk]
 | x::l,S,h=>by
  have e:qe6 (x::l)=(qep x).1::qe6 l:=rfl;have a:=(zgn (h x zC)).2;rw [e,qmk,a,zF (by simp),q0q λy b=>h y (zG _ b)];simp
theorem zws {w:ZB} (h:bx w 0≠126):preB w [126]=false:=by
 unfold preB;cases w with
 | nil=>rfl
 | cons c t=>
  have e:upto (c::t) (ln ([126]:ZB))=[c]:=rfl;rw [e];have:¬ ([c]:ZB)=[126]:=λa=>h (by cases a;rfl);rw [decide_eq_false this,Bool.and_false]
theorem qxf {n c:Int} (d:-4<=n) (e:n<=100) (h:c=10∨c=32):no c (qu n):=by
 intro b f;obtain ⟨i,a,g,rfl⟩:=q56 f;have:=(qp9 d e).2 i a g;rw [<-qsn];omega
theorem zfs {x:Sign} {c:Int} (h:kh x=0) (d:c=10∨c=32):no c (qep x).1:=by
 rw [(zgn h).1];intro b a;have:=q0a.1 ((q4o h).1 b a);omega
theorem q0x {s:Staff} (h:q42 s) (t:zus s):Rd s:=by
 obtain ⟨D,q,E,j⟩:=h;obtain ⟨u,F,v⟩:=t;have c:∀ w ∈ qhu s,no 10 w/\no 32 w:=by
  intro w c;unfold qhu at c;rcases List.mem_append.1 c with c | c
  .rcases List.mem_append.1 c with c | c
   .rcases zD.1 c with rfl | c
    .unfold no;exact ⟨by decide,by decide⟩
    .rw [List.mem_singleton.1 c];exact ⟨qxf (by omega) (by omega) (.inl rfl),qxf (by omega) (by omega) (.inr rfl)⟩
   .obtain ⟨x,k,rfl⟩:=List.mem_map.1 c;exact ⟨zfs (j x k) (.inl rfl),zfs (j x k) (.inr rfl)⟩
  .split at c
   .rw [List.mem_singleton.1 c];exact ⟨qzz (by unfold no;decide) (qxf (by omega) (by omega) (.inl rfl)),qzz (by unfold no;decide) (qxf (by omega) (by omega) (.inr rfl))⟩
   .cases c
 refine ⟨?_,c⟩;have r:2<=ln (qhu s):=by unfold qhu;simp only [ln,List.length_append,List.length_cons,List.length_nil];omega
 have y:ix (qhu s) 0=q0z:=rfl;have z:ix (qhu s) 1=qu s.Lead:=rfl;have f:fr (qhu s) 2=qe6 s.Signs++(if s.Catch=true then [[126]++qu s.Custos] else []):=rfl;have m:zb (qu s.Lead)=(s.Lead,true):=by rw [qhn q (by omega),qhm q (by omega)]
 unfold zz;rw [zF (by omega),y,zF (by simp),z,m,zF (by simp)];cases a:s.Catch with
 | true=>
  rw [a,zT rfl] at f;have n:ln (fr (qhu s) 2)=ln (qe6 s.Signs)+1:=by rw [f,qb5]
  have n0:=ln_nonneg (qe6 s.Signs);have d:zce (qhu s)=[126]++qu s.Custos:=by
   unfold zce;rw [n,f];have:ix (qe6 s.Signs++[[126]++qu s.Custos]) (ln (qe6 s.Signs)+1-1)=[126]++qu s.Custos:=by
    rw [show ln (qe6 s.Signs)+1-1=ln (qe6 s.Signs) by omega];unfold ix;rw [List.getD_eq_getElem?_getD,show (ln (qe6 s.Signs)).toNat=(qe6 s.Signs).length by simp only [ln];omega,List.getElem?_append_right (zN _),Nat.sub_self];rfl
   exact this
  have b:quj (qhu s)=true:=by
   unfold quj;rw [d,decide_eq_true (by omega)];unfold preB;have n1:=ln_nonneg (qu s.Custos);have e:upto ([126]++qu s.Custos) (ln ([126]:ZB))=[126]:=rfl;rw [e,qm,decide_eq_true (by omega),decide_eq_true rfl];rfl
  have o:q5j (qhu s)=(s.Custos,true):=by
   unfold q5j;rw [d];have:fr ([126]++qu s.Custos) 1=qu s.Custos:=rfl;rw [this,zah u (by omega)]
  have g:qij (qhu s)=qe6 s.Signs:=by
   unfold qij;rw [zT b,n,f];unfold upto;rw [show (ln (qe6 s.Signs)+1-1).toNat=(qe6 s.Signs).length by simp only [ln];omega,List.take_left]
  rw [zT b,o,zF (by simp),g,q0q j];obtain ⟨S,L,C,U⟩:=s;cases a;rfl
 | false=>
  rw [a,zF (by simp),zJ] at f;have b:quj (qhu s)=false:=by
   unfold quj zce;rw [f];by_cases p:0<ln (qe6 s.Signs)
   .have A:=qci (l:=qe6 s.Signs) (i:=ln (qe6 s.Signs)-1) (by omega) (by omega);obtain ⟨x,k,B⟩:=List.mem_map.1 A;rw [<-B,(zgn (j x k)).1,zws (zpr (j x k)),Bool.and_false]
   .rw [decide_eq_false p];rfl
  have g:qij (qhu s)=qe6 s.Signs:=by unfold qij;rw [zF (by simp [b]),f]
  rw [zF (by simp [b]),g,q0q j];have p:=v a;obtain ⟨S,L,C,U⟩:=s;cases a;cases p;rfl
theorem zhh {nm:ZB} {g:List Page} (a:(jr nm g).1=0) (d:ln (qli nm g)<=20000) (e:no 10 nm):qaw nm g=(qli nm g,0)/\z8 (qli nm g)=((nm,g),(0,0)):=
 zoc a d e λp b s c=>q0x (((qh3 a).2 p b).2 s c).1 (((qh3 a).2 p b).2 s c).2
theorem q86:∀ {l:List ZB},(∀ w ∈ l,ln w<=10)->ln (qaz l [32])<=11 * ln l
 | [],_=>by decide
 | [x],h=>by have:=h x zC;simp only [qaz,kk,qfp];omega
 | x::y::l,h=>by
  have c:=h x zC;have d:=q86 (l:=y::l) λw b=>h w (zG _ b);have e:ln ([32]:ZB)=1:=rfl;rw [qaz,qm,qm,e,kk (a:=x)];omega
theorem q85 (n:Int):ln (qu n)<=4:=by have:=qch n;simp only [ln];omega
theorem zgo {s:Staff} (h:q42 s):∀ w ∈ qhu s,ln w<=10:=by
 intro w a;unfold qhu at a;rcases List.mem_append.1 a with a | a
 .rcases List.mem_append.1 a with a | a
  .rcases zD.1 a with rfl | a
   .decide
   .rw [List.mem_singleton.1 a];have:=q85 s.Lead;omega
  .obtain ⟨x,b,rfl⟩:=List.mem_map.1 a;rw [(zgn (h.2.2.2 x b)).1];exact (q4o (h.2.2.2 x b)).2.1
 .split at a
  .rw [List.mem_singleton.1 a,qm];have:=q85 s.Custos;have e:ln ([126]:ZB)=1:=rfl;omega
  .cases a
theorem zpy (s:Staff):ln (qhu s)<=ln s.Signs+3:=by
 unfold qhu qe6;rw [qm]
 split<;>simp only [ln,List.length_append,List.length_map,List.length_cons,List.length_nil]<;>omega
theorem zwo {s:Staff} (h:q42 s):ln (qu8 s)<=67 * ln (qnv s):=by
 have d:=q86 (zgo h);have f:=zpy s;have e:ln ([10]:ZB)=1:=rfl;obtain ⟨a,b,c,_⟩:=h;unfold qu8 qnv;rw [qm,e,qel b (by omega)];omega
theorem q9y:∀ {l:List Staff},(∀ s ∈ l,q42 s)->ln (qhy l)<=67 * ln (qdr l)
 | [],_=>by decide
 | s::l,h=>by
  have d:=zwo (h s zC);have f:=q9y λa b=>h a (zG _ b);have e:qhy (s::l)=qu8 s++qhy l:=rfl;have c:qdr (s::l)=qnv s++qdr l:=rfl;rw [e,c,qm,qm];omega
theorem q9x:∀ {g:List Page},(∀ p ∈ g,∀ s ∈ p.Staves,q42 s)->ln (qla g)<=5 * ln g+67 * ln (zd g)
 | [],_=>by decide
 | p::g,h=>by
  have f:=q9y (h p zC);have i:=q9x λa b=>h a (zG _ b);have e:qla (p::g)=([112,97,103,101,10]++qhy p.Staves)++qla g:=rfl;have c:zd (p::g)=qdr p.Staves++zd g:=by simp [zd,qdr,qb]
  have d:ln ([112,97,103,101,10]:ZB)=5:=rfl;rw [e,c,qm,qm,qm,d,kk];omega
theorem qxe {nm:ZB} (h:qau nm=true):no 10 nm/\ln nm<=20:=by
 simp only [qau,zA,decide_eq_true_eq,List.all_eq_true] at h;refine ⟨λb a=>?_,h.1.1.2⟩;have:=h.2 b a;intro e;rw [e] at this;revert this;decide
theorem zu0 {nm:ZB} {g:List Page} (d:(jr nm g).1=0) (j:ln g<=500) (c:ln (zd g)<=100):ln (qli nm g)<=20000:=by
 obtain ⟨⟨e,_⟩,a⟩:=qh3 d;have k:=q9x λp c s f=>((a p c).2 s f).1;have l:=(qxe e).2;have h:ln qna=5:=rfl;have b:ln ([10]:ZB)=1:=rfl;have i:ln ([101,110,100,10]:ZB)=4:=rfl;unfold qli;rw [qm,qm,qm,qm,h,b,i];omega
theorem qqm {r:ZB} (h:ln r<=1000):qn0 (splitI 32 r):=by
 refine ⟨?_,λw a=>Int.le_trans (qde a) h⟩;rw [qn1];have:=List.countP_le_length (p:=λb:UInt8=>decide ((b.toNat:Int)=32)) (l:=r);simp only [ln] at h;omega
theorem zpc {nm:ZB} {g:List Page} (l:(jr nm g).1=0) (q:ln (qli nm g)<=20000) (j:smB g):okP (qli nm g):=by
 obtain ⟨⟨k,_⟩,b⟩:=qh3 l;have c:∀ p ∈ g,∀ s ∈ p.Staves,Rd s:=λp d s j=>q0x ((b p d).2 s j).1 ((b p d).2 s j).2;have e:=(qxe k).1;have m:=(qxe k).2;refine ⟨by omega,λr a=>?_,λt f=>?_⟩
 .rw [q9d e c] at a;rcases List.mem_append.1 a with a | a
  .rcases List.mem_append.1 a with a | a
   .rcases zD.1 a with rfl | a
    .have u:ln qna=5:=rfl;exact qqm (by rw [qm];omega)
    .obtain ⟨p,d,a⟩:=List.mem_flatMap.1 a;rcases zD.1 a with rfl | a
     .exact qqm (by decide)
     .obtain ⟨s,h,rfl⟩:=List.mem_map.1 a;have i:=((b p d).2 s h).1;rw [q37 (c p d s h)];have:=zpy s;have n:=i.1;exact ⟨by omega,λw o=>Int.le_trans (zgo i w o) (by decide)⟩
   .rw [List.mem_singleton.1 a];exact qqm (by decide)
  .rw [List.mem_singleton.1 a];exact qqm (by decide)
 .rw [(q7s e c).1,q7t c] at f;cases f;exact j
end Go.Proofs.YtpdphcekmhajdaaGreatDoor
