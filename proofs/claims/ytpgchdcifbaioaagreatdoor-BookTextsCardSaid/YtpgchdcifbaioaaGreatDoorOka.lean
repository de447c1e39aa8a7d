import Derived.Test.YtpgchdcifbaioaaGreatDoorVcs
import Derived.Test.YtpgchdcifbaioaaGreatDoorVct
import Derived.Test.YtpgchdcifbaioaaGreatDoorOkp
import Derived.Test.YtpgchdcifbaioaaGreatDoorDall
namespace Go.Proofs.YtpgchdcifbaioaaGreatDoor
open Go Go.E2 Go.E3
set_option maxRecDepth 100000
theorem z2i (a:UInt8):ln [a]=1:=rfl
theorem qnr {s:ZB} (h:s≠[]):0<ln s:=by
 cases s with
 | nil=>exact absurd rfl h
 | cons a l=>simp only [ln,List.length_cons];omega
theorem q8a (a0 a:ZB):qof a0 a:=by
 unfold qof;have:=ln_nonneg a;refine ⟨λh=>⟨⟨ln_nonneg a,h⟩,?_,trivial⟩,λh=>⟨?_,trivial⟩⟩
 .simp only [preB,h,decide_true,Bool.true_and]
 .simp only [preB,show ¬ ln a<=ln a0 by omega,decide_false,Bool.false_and]
theorem z2g (x y:MapIS):zhg XK 24 1 x y=decide (x.key=y.key):=by
 show qjx [(.int .i64 none x.key:PV KT)] [.int .i64 none y.key]=_;rw [Bool.eq_iff_iff];simp [qjx]
theorem qn2 (y:MapIS):qhx [] y=y:=rfl
theorem qen (x:MapIS) (l:List MapIS) (y:MapIS):qhx (x::l) y=bif decide (y.key=x.key) then x else qhx l y:=by
 rw [<-z2g];rfl
theorem qw9 (y:MapIS):qi0 [] y=[y]:=rfl
theorem q2x (x:MapIS) (l:List MapIS) (y:MapIS):qi0 (x::l) y=bif decide (y.key=x.key) then y::l else x::qi0 l y:=by
 rw [<-z2g];rfl
theorem zze (a:Int):(qhx (qi0 (qi0 ([]:List MapIS) (MapIS.mk 2 ([50]:ZB))) (MapIS.mk 3 ([51]:ZB))) (MapIS.mk a ([]:ZB))).v=zgs a:=by
 simp only [qw9,q2x,qn2,qen,zgs];by_cases b:a=2
 .simp [b,qen]
 .by_cases c:a=3
  .simp [c,qen]
  .simp [b,c,qen,qn2]
theorem z1l (a:Int):(qhx (qi0 (qi0 ([]:List MapIS) (MapIS.mk 2 ([67]:ZB))) (MapIS.mk 3 ([79]:ZB))) (MapIS.mk a ([]:ZB))).v=zpv a:=by
 simp only [qw9,q2x,qn2,qen,zpv];by_cases b:a=2
 .simp [b,qen]
 .by_cases c:a=3
  .simp [c,qen]
  .simp [b,c,qen,qn2]
theorem z02 (a:Int):(qhx (qi0 ([]:List MapIS) (MapIS.mk 3 ([46]:ZB))) (MapIS.mk a ([]:ZB))).v=zop a:=by
 simp only [qw9,qn2,qen,zop];by_cases b:a=3
 .simp [b]
 .simp [b]
theorem qzo (a:Int):(zgs a).length<=1:=by unfold zgs;(repeat' split)<;>simp
theorem zle (a:Int):(zpv a).length<=1:=by unfold zpv;(repeat' split)<;>simp
theorem zk7 (a:Int):(zop a).length<=1:=by unfold zop;(repeat' split)<;>simp
theorem zpx (a0 b a2 a3:Int):qxm a0 b a2 a3:=by
 unfold qxm;dsimp only;simp only [zze,z1l,z02,qh,List.length_append,List.length_nil];have c:=qzo a0;have d:=qzo b;have e:=zle a2;have f:=zk7 a3
 unhygienic (repeat' (first | exact trivial | exact And.intro (by omega) trivial | apply And.intro | intro))
 all_goals first
  | omega
  | (simp_all [qah];done)
theorem zmk (a0 b a2 a3:Int):qwb a0 b a2 a3:=by
 unfold qwb;simp only [qdc]
 unhygienic (repeat' (first | exact trivial | apply And.intro | intro))
 all_goals first
  | (simp_all;done)
  | (unfold qbe at *;split<;>simp_all)
theorem z2f (x y:MapSM):zhg XK 23 1 x y=decide (x.key=y.key):=by
 show qjx [(.str x.key:PV KT)] [.str y.key]=_;rw [Bool.eq_iff_iff];simp [qjx]
theorem q1o (x:MapSM) (l:List MapSM) (y:MapSM):qs9 (x::l) y=bif decide (y.key=x.key) then x else qs9 l y:=by
 rw [<-z2f];rfl
theorem q1u (x:MapSM) (l:List MapSM) (y:MapSM):q1v (x::l) y=(decide (y.key=x.key) || q1v l y):=by
 rw [<-z2f];rfl
def zcd (m:M4):MapSM:=MapSM.mk (txM m) m.1 m.2.1 m.2.2.1 m.2.2.2
def mapM:List MapSM:=allM.map zcd
theorem zte (s:ZB):∀ (l:List M4),q1v (l.map zcd) (MapSM.mk s 0 0 0 0)=decide ((qii s l).2=0)/\
  ((qs9 (l.map zcd) (MapSM.mk s 0 0 0 0)).vMax,(qs9 (l.map zcd) (MapSM.mk s 0 0 0 0)).vMod,(qs9 (l.map zcd) (MapSM.mk s 0 0 0 0)).vTem,(qs9 (l.map zcd) (MapSM.mk s 0 0 0 0)).vPro)=(qii s l).1/\((qii s l).2=0∨(qii s l)=((0,0,0,0),3))
 | []=>⟨rfl,rfl,.inr rfl⟩
 | m::l=>by
  obtain ⟨b,c,d⟩:=zte s l;by_cases h:txM m=s
  .have a:decide (s=(zcd m).key)=true:=decide_eq_true h.symm;simp only [List.map_cons,q1o,q1u,qii,zT h,a];exact ⟨by simp,rfl,.inl trivial⟩
  .have a:decide (s=(zcd m).key)=false:=decide_eq_false λe=>h e.symm;simp only [List.map_cons,q1o,q1u,qii,zF h,a,Bool.false_or,zQ];exact ⟨b,c,d⟩
theorem zz9:qa4 (qa4 (qa4 (qa4 (qa4 (qa4 (qa4 (qa4 (qa4 (qa4 (qa4 (qa4 (qa4 (qa4 (qa4 (qa4 ([]:List MapSM) (MapSM.mk (qah 2 2 2 2) 2 2 2 2)) (MapSM.mk (qah 2 2 2 3) 2 2 2 3)) (MapSM.mk (qah 2 2 3 2) 2 2 3 2)) (MapSM.mk (qah 2 2 3 3) 2 2 3 3)) (MapSM.mk (qah 2 3 2 2) 2 3 2 2)) (MapSM.mk (qah 2 3 2 3) 2 3 2 3)) (MapSM.mk (qah 2 3 3 2) 2 3 3 2)) (MapSM.mk (qah 2 3 3 3) 2 3 3 3)) (MapSM.mk (qah 3 2 2 2) 3 2 2 2)) (MapSM.mk (qah 3 2 2 3) 3 2 2 3)) (MapSM.mk (qah 3 2 3 2) 3 2 3 2)) (MapSM.mk (qah 3 2 3 3) 3 2 3 3)) (MapSM.mk (qah 3 3 2 2) 3 3 2 2)) (MapSM.mk (qah 3 3 2 3) 3 3 2 3)) (MapSM.mk (qah 3 3 3 2) 3 3 3 2)) (MapSM.mk (qah 3 3 3 3) 3 3 3 3)=mapM:=by
 rfl
theorem zf4 (a0:ZB):qsr a0:=by
 unfold qsr;dsimp only;simp only [zz9];obtain ⟨d,c,b⟩:=zte a0 allM;simp only [mapM,d];simp only [Prod.ext_iff] at c;obtain ⟨e,f,g,h⟩:=c
 unhygienic (repeat' (first | exact trivial | apply And.intro | intro))
 all_goals unfold qab
 all_goals first
  | exact e
  | exact f
  | exact g
  | exact h
  | (rcases b with b | b
     .simp_all
     .rw [b])
  | (simp_all;done)
theorem ql8 {s:ZB} {i n:Int} (a:0<=i) (h:i<ln s) (b:48<=bx s i) (c:bx s i<=57) (e:10 * n+(bx s i-48)<=1099511627776):qei s i n=qei s (i+1) (10 * n+(bx s i-48)):=by
 conv=>lhs;rw [qei]
 have d:qfo (bx s i)=true:=by simp [qfo,b,c]
 rw [dif_pos ⟨a,h⟩,zT d,zF (by omega)]
theorem z0g {s:ZB} {i n:Int} (a:0<=i) (h:i<ln s) (c:bx s i<48∨57<bx s i):qei s i n=(0,false):=by
 rw [qei];have b:¬ qfo (bx s i)=true:=by simp only [qfo,zA,decide_eq_true_eq];omega
 rw [dif_pos ⟨a,h⟩,zF b]
theorem z0h {s:ZB} {i n:Int} (a:0<=i) (h:i<ln s) (b:48<=bx s i) (c:bx s i<=57) (e:1099511627776<10 * n+(bx s i-48)):qei s i n=(0,false):=by
 rw [qei];have d:qfo (bx s i)=true:=by simp [qfo,b,c]
 rw [dif_pos ⟨a,h⟩,zT d,zT (by omega)]
theorem qzw {s:ZB} {i n:Int} (h:ln s<=i):qei s i n=(n,true):=by
 rw [qei,dif_neg (by omega)]
theorem qvc {s:ZB} (h:s=[]∨(bx s 0=48/\1<ln s)):qz s=(0,false):=by
 unfold qz;rw [zT];rcases h with rfl | h
 .exact .inl rfl
 .exact .inr h
theorem zdl {s:ZB} (h:s≠[]) (b:¬ (bx s 0=48/\1<ln s)):qei s 0 0=qz s:=by
 unfold qz;rw [zF];have:=qnr h;rintro (a | a)
 .omega
 .exact b a
theorem zn9:∀ {s:ZB} {i n:Int},0<=n->n<=1099511627776->0<=(qei s i n).1/\(qei s i n).1<=1099511627776:=by
 intro s i n b c
 fun_induction qei s i n with
 | case1 i n h a d=>simp
 | case2 i n h a d e=>
  have:48<=bx s i:=by simp only [qfo,zA,decide_eq_true_eq] at a;exact a.1
  exact e (by omega) (by omega)
 | case3 i n h a=>simp
 | case4 i n h=>exact ⟨b,c⟩
theorem zuu (s:ZB):0<=(qz s).1/\(qz s).1<=1099511627776:=by
 unfold qz;split
 .simp
 .exact zn9 (by omega) (by omega)
theorem zdj:∀ {s:ZB} {i n:Int},(qei s i n).2=false->(qei s i n).1=0:=by
 intro s i n
 fun_induction qei s i n with
 | case1 i n h a b=>simp
 | case2 i n h a b c=>exact c
 | case3 i n h a=>simp
 | case4 i n h=>simp
theorem zdm {s:ZB} (h:(qz s).2=false):(qz s).1=0:=by
 unfold qz at h ⊢;split
 .rfl
 .rename_i a;rw [zF a] at h;exact zdj h
theorem zdi {s:ZB} {i n:Int} (h:qei s i n=qz s) (a:0<=i) (b:i<ln s) (d:bx s i<48∨57<bx s i∨1099511627776<10 * n+(bx s i-48)):qz s=(0,false):=by
 rw [<-h];by_cases c:bx s i<48∨57<bx s i
 .exact z0g a b c
 .exact z0h a b (by omega) (by omega) (by omega)
theorem zdh {s:ZB} {i n:Int} (h:qei s i n=qz s) (a:ln s<=i):qz s=(n,true):=by rw [<-h];exact qzw a
theorem zdk {s:ZB} {i n:Int} (h:qei s i n=qz s) (a:0<=i) (b:i<ln s) (c:48<=bx s i) (d:bx s i<=57) (e:10 * n+(bx s i-48)<=1099511627776):qei s (i+1) (10 * n+(bx s i-48))=qz s:=by
 rw [<-h];exact (ql8 a b c d e).symm
set_option maxHeartbeats 4000000 in
theorem zfw (a0:ZB) (c:ln a0<=1000000):qsp a0:=by
 unfold qsp;dsimp only;simp only [qcv,qd4,and_imp];have b:a0≠[]->0<ln a0:=qnr
 unhygienic (repeat' (first | exact trivial | exact And.intro (by omega) trivial | apply And.intro | intro))
 all_goals first
  | omega
  | (have:=b ‹_›;omega)
  | (rw [qvc (.inl ‹_›)];done)
  | (rw [qvc (.inr ⟨by assumption,by assumption⟩)];done)
  | (rw [zdi ‹_› ‹_› ‹_› (by omega)];done)
  | (rw [zdh ‹_› ‹_›];done)
  | exact zdk ‹_› ‹_› ‹_› ‹_› ‹_› ‹_›
  | exact zdl ‹_› (by omega)
  | exact zK _
  | (have:=b ‹_›;omega)
set_option maxHeartbeats 4000000 in
theorem zft (a0:ZB) (c:ln a0<=1000000):qso a0:=by
 unfold qso;dsimp only;simp only [qcu,qd3,and_imp];have b:a0≠[]->0<ln a0:=qnr
 unhygienic (repeat' (first | exact trivial | exact And.intro (by omega) trivial | apply And.intro | intro))
 all_goals first
  | omega
  | (have:=b ‹_›;omega)
  | (rw [qvc (.inl ‹_›)];done)
  | (rw [qvc (.inr ⟨by assumption,by assumption⟩)];done)
  | (rw [zdi ‹_› ‹_› ‹_› (by omega)];done)
  | (rw [zdh ‹_› ‹_›];done)
  | exact zdk ‹_› ‹_› ‹_› ‹_› ‹_› ‹_›
  | exact zdl ‹_› (by omega)
  | exact zK _
  | (have:=b ‹_›;omega)
theorem z42 {s:ZB} {c:UInt8}:upto s (ln [c])=[c]↔0<ln s/\bx s 0=c.toNat:=by
 cases s with
 | nil=>simp [upto,ln]
 | cons a l=>
  have:upto (a::l) (ln [c])=[a]:=rfl;rw [this];have e:bx (a::l) 0=(a.toNat:Int):=rfl;rw [e];simp only [List.cons.injEq,and_true,zh];have:=ln_nonneg l;constructor
  .rintro rfl;exact ⟨by omega,rfl⟩
  .rintro ⟨_,h⟩;exact qgv h
theorem zae {s:ZB} (h:¬ (0<ln s/\bx s 0=45)):qan s=qz s:=by rw [qan,zF h]
theorem qvs {s:ZB} (h:0<ln s/\bx s 0=45) (a:(qz (fr s 1)).2=true) (b:(qz (fr s 1)).1≠0):qan s=(-(qz (fr s 1)).1,true):=by rw [qan,zT h,zT ⟨a,b⟩]
theorem qrr {s:ZB} (h:0<ln s/\bx s 0=45) (a:(qz (fr s 1)).2=false∨(qz (fr s 1)).1=0):qan s=(0,false):=by
 rw [qan,zT h,zF];rintro ⟨b,c⟩;rcases a with a | a
 .rw [a] at b;cases b
 .exact c a
theorem zgc (a0:ZB) (d:ln a0<=1000000):qst a0:=by
 unfold qst;dsimp only;have e:ln (fr a0 (ln ([45]:ZB)))<=ln a0:=by simp only [fr,ln,List.length_drop];omega
 have f:=zuu (fr a0 (ln ([45]:ZB)));have b:=@zdm a0;have g:ln ([45]:ZB)=1:=rfl;have c:((45:UInt8).toNat:Int)=45:=rfl;have h:=ln_nonneg a0
 unhygienic (repeat' (first | exact trivial | exact And.intro (by omega) trivial | apply And.intro | intro))
 all_goals first
  | omega
  | (rw [ne_eq,z42] at a_1;rw [zae a_1]<;>first | assumption | exact (b ‹_›).symm | (symm;assumption) | rfl)
  | (rw [z42] at a_1;first | (rw [qrr a_1 (.inl ‹_›)];done) | (rw [qrr a_1 (.inr ‹_›)];done) | (rw [qvs a_1 ‹_› ‹_›];done) | (rw [qvs a_1 ‹_› ‹_›];rfl))
  | (rw [zae (by omega)]<;>first | assumption | exact (b ‹_›).symm | (symm;assumption) | rfl)
theorem zf9 (a0:ZB) (g:ln a0<=1000000):qss a0:=by
 unfold qss;have h:ln (fr a0 1)<=ln a0:=by simp only [fr,ln,List.length_drop];omega
 have i:=zuu (fr a0 1);have e:=@zdm (fr a0 1);have d:a0≠[]->0<ln a0:=qnr;have f:=ln_nonneg a0
 unhygienic (repeat' (first | exact trivial | exact And.intro (by omega) trivial | apply And.intro | intro))
 all_goals first
  | omega
  | (have:=d ‹_›;omega)
  | (subst a;rfl)
  | (rw [zae (by omega)];done)
  | skip
 all_goals have b:=d a
 .by_cases c:(qz (fr a0 1)).1=0
  .rw [qrr ⟨b,a_1⟩ (.inr c),c];rfl
  .rw [qvs ⟨b,a_1⟩ a_2 c]
 .by_cases c:(qz (fr a0 1)).1=0
  .rw [qrr ⟨b,a_1⟩ (.inr c),c];rfl
  .rw [qvs ⟨b,a_1⟩ a_2 c,decide_eq_true (by omega)]
 .rw [qrr ⟨b,a_1⟩ (.inl a_2),e a_2];rfl
 .rw [qrr ⟨b,a_1⟩ (.inl a_2)]
theorem zdw {s:ZB} {c i k m:Int} (a:0<=i) (h:i<ln s) (b:bx s i=c):qdf s c i k m=qdf s c (i+1) i (m+1):=by
 conv=>lhs;rw [qdf]
 rw [dif_pos ⟨a,h⟩,zT b]
theorem q7c {s:ZB} {c i k m:Int} (a:0<=i) (h:i<ln s) (b:bx s i≠c):qdf s c i k m=qdf s c (i+1) k m:=by
 conv=>lhs;rw [qdf]
 rw [dif_pos ⟨a,h⟩,zF b]
theorem zdx {s:ZB} {c i k:Int} (h:ln s<=i):qdf s c i k 1=(upto s k,fr s (k+1),true):=by
 rw [qdf,dif_neg (by omega),zT rfl]
theorem z0r {s:ZB} {c i k m:Int} (h:ln s<=i) (hm:m≠1):qdf s c i k m=([],[],false):=by
 rw [qdf,dif_neg (by omega),zF hm]
theorem zqm (a0:ZB) (b:Int) (c:U8 b/\ln a0<=1000000):qz9 a0 b:=by
 unfold qz9;simp only [qhf,qfy,and_imp,qv6];have d:=ln_nonneg a0
 unhygienic (repeat' (first | exact trivial | exact And.intro (by omega) trivial | apply And.intro | intro))
 all_goals first
  | omega
  | rfl
  | (rw [<-zdw ‹_› ‹_› ‹_›];assumption)
  | (rw [<-q7c ‹_› ‹_› ‹_›];assumption)
  | (rw [<-a_7,z0r ‹_› ‹_›];done)
  | (subst a_9;rw [<-a_7,zdx ‹_›];done)
  | skip
theorem zmh (a0 a a2 a3:Int):qwa a0 a a2 a3:=by
 unfold qwa;dsimp only;have c:qbe a0 a a2 a3=0->(a0=2∨a0=3)/\(a=2∨a=3)/\(a2=2∨a2=3)/\(a3=2∨a3=3):=by
  unfold qbe;split
  .exact λ_=>by assumption
  .intro h;omega
 by_cases b:qbe a0 a a2 a3=0
 .obtain ⟨d,e,f,g⟩:=c b;rcases d with rfl | rfl<;>rcases e with rfl | rfl<;>rcases f with rfl | rfl<;>rcases g with rfl | rfl<;>simp (config:={decide:=true}) [qdc,qah,zgs,zpv,zop,qbe,qh]
 .simp only [qdc,b,if_false,ne_eq,not_false_eq_true,true_and,and_true,forall_const,false_imp_iff];unfold qbe at *;split at b
  .exact absurd rfl b
  .rename_i i;rw [zF i]
theorem z2p (a0:Int) (b:0<=a0/\a0<=15):zfy a0:=by
 unfold zfy;have c:Int.tdiv a0 8=a0 / 8:=Int.tdiv_eq_ediv_of_nonneg b.1;have d:Int.tdiv a0 4=a0 / 4:=Int.tdiv_eq_ediv_of_nonneg b.1;have e:Int.tdiv a0 2=a0 / 2:=Int.tdiv_eq_ediv_of_nonneg b.1;have f:Int.tmod (a0 / 4) 2=a0 / 4 % 2:=Int.tmod_eq_emod_of_nonneg (by omega);have g:Int.tmod (a0 / 2) 2=a0 / 2 % 2:=Int.tmod_eq_emod_of_nonneg (by omega);have h:Int.tmod a0 2=a0 % 2:=Int.tmod_eq_emod_of_nonneg b.1;simp only [c,d,e,f,g,h,qzj,ofM]
 unhygienic (repeat' (first | exact trivial | exact And.intro (by omega) trivial | apply And.intro | intro))
 all_goals first
  | omega
  | rfl
theorem zux {i:Int} (b:0<=i) (h:i<16):fr allM i=ofM i::fr allM (i+1):=by
 have a:i=0∨i=1∨i=2∨i=3∨i=4∨i=5∨i=6∨i=7∨i=8∨i=9∨i=10∨i=11∨i=12∨i=13∨i=14∨i=15:=by omega
 rcases a with rfl | rfl | rfl | rfl | rfl | rfl | rfl | rfl | rfl | rfl | rfl | rfl | rfl | rfl | rfl | rfl<;>rfl
theorem zk2 {i:Int} (b:0<=i) (h:i<16):(qdc (ofM i).1 (ofM i).2.1 (ofM i).2.2.1 (ofM i).2.2.2).1=txM (ofM i):=by
 have a:i=0∨i=1∨i=2∨i=3∨i=4∨i=5∨i=6∨i=7∨i=8∨i=9∨i=10∨i=11∨i=12∨i=13∨i=14∨i=15:=by omega
 rcases a with rfl | rfl | rfl | rfl | rfl | rfl | rfl | rfl | rfl | rfl | rfl | rfl | rfl | rfl | rfl | rfl<;>rfl
theorem z0u {s:ZB} {i:Int} (b:qii s (fr allM i)=qab s) (a:0<=i) (h:i<16) (he:(qdc (ofM i).1 (ofM i).2.1 (ofM i).2.2.1 (ofM i).2.2.2).1=s):qab s=(ofM i,0):=by
 rw [zk2 a h] at he;rw [<-b,zux a h,qii,zT he]
theorem zvo {s:ZB} {i:Int} (b:qii s (fr allM i)=qab s) (a:0<=i) (h:i<16) (he:(qdc (ofM i).1 (ofM i).2.1 (ofM i).2.2.1 (ofM i).2.2.2).1≠s):qii s (fr allM (i+1))=qab s:=by
 rw [zk2 a h] at he;rw [<-b,zux a h,qii,zF he]
theorem z0t {s:ZB} {i:Int} (a:qii s (fr allM i)=qab s) (h:16<=i):qab s=((0,0,0,0),3):=by
 rw [<-a,qcn (show ln allM<=i from h)];rfl
theorem zf1 (a0:ZB):qsq a0:=by
 unfold qsq;simp only [qgi,qh0,and_imp,qpv]
 unhygienic (repeat' (first | exact trivial | exact And.intro (by omega) trivial | apply And.intro | intro))
 all_goals first
  | omega
  | rfl
  | (rw [z0u a_2 ‹_› ‹_› ‹_›];done)
  | exact zvo a_2 ‹_› ‹_› ‹_›
  | (rw [z0t a_2 ‹_›];done)
theorem z82 {n:Int} (a:0<=n) (h:n<=9):n=0∨n=1∨n=2∨n=3∨n=4∨n=5∨n=6∨n=7∨n=8∨n=9:=by omega
theorem zzf {n:Int} (a:0<=n) (h:n<=9):sub ([48,49,50,51,52,53,54,55,56,57]:ZB) n (n+1)=qi n:=by
 rcases z82 a h with rfl | rfl | rfl | rfl | rfl | rfl | rfl | rfl | rfl | rfl<;>rfl
theorem q9p {n:Int} (_:0<=n):(qcq n).length<=3:=by
 unfold qcq;split
 .simp [d1]
 .split
  .simp [d1]
  .simp
theorem qas (n:Int):(qi n).length<=4:=by
 unfold qi;split
 .simp only [List.length_cons];have:=q9p (n:=-n) (by omega);omega
 .have:=q9p (n:=n) (by omega);omega
theorem zn4 {n:Int} (h:9<n) (d:n<=100):qcq (n / 10)++qcq (n % 10)=qcq n:=by
 by_cases a:n<=99
 .have b:qcq (n / 10)=d1 (n / 10):=by rw [qcq,zT (by omega)]
  have c:qcq (n % 10)=d1 (n % 10):=by rw [qcq,zT (by omega)]
  rw [b,c,qcq,zF (by omega),zT a]
 .obtain rfl:n=100:=by omega
  rfl
theorem zgx (a0:Int) (f:-100<=a0/\a0<=100):qs3 a0:=by
 unfold qs3;have g:=qas (-a0);have d:=qas (Int.tdiv a0 10);have e:=qas (Int.tmod a0 10);simp only [qh,List.length_cons,List.length_nil];refine ⟨λh=>⟨by omega,⟨by omega,by rw [zF (by omega),zT h];omega⟩,by omega,?_,trivial⟩,λh=>⟨λa=>?_,λa=>⟨by omega,⟨h,by omega,?_⟩,zzf h a,trivial⟩⟩⟩
 .rw [qi,zF (by omega),qi,zT h];rfl
 .have b:Int.tdiv a0 10=a0 / 10:=Int.tdiv_eq_ediv_of_nonneg h;have c:Int.tmod a0 10=a0 % 10:=Int.tmod_eq_emod_of_nonneg h;rw [b] at d;rw [c] at e;rw [b,c];refine ⟨⟨by decide,by omega⟩,⟨by omega,by rw [zF (by omega),zF (by omega)];omega⟩,by decide,⟨by omega,by rw [zF (by omega),zF (by omega)];omega⟩,by omega,?_,trivial⟩;rw [qi,zF (by omega),qi,zF (by omega),qi,zF (by omega)];exact zn4 a (by omega)
 .have:ln ([48,49,50,51,52,53,54,55,56,57]:ZB)=10:=rfl;omega
theorem zws (a0:ZB) (b:Int) (d:U8 b):q3x a0 b:=by
 unfold q3x;simp only [zb];have c:a0≠[]->0<ln a0:=qnr
 unhygienic (repeat' (first | exact trivial | exact And.intro (by omega) trivial | apply And.intro | intro))
 all_goals first
  | omega
  | (have:=c ‹_›;omega)
  | (rw [zT ⟨c ‹_›,by assumption⟩];done)
  | (rw [zF (λh=>(by assumption:bx a0 0≠b) h.2)];done)
  | (subst a;rfl)
theorem zfq (a0:Int):qsn a0:=by
 unfold qsn;simp only [qnq,ltr,zn1];have b:ln ([88,76,66,83,77,81,70,90]:ZB)=8:=rfl
 unhygienic (repeat' (first | exact trivial | exact And.intro (by omega) trivial | apply And.intro | intro))
 all_goals first
  | omega
  | (rw [zT (by omega)];done)
  | (rw [zF (by omega)];done)
theorem zmo (a0:ZB):qwc a0:=by
 unfold qwc;have b:sub ([88,76,66,83,77,81,70,90]:ZB) 0 1=[88]:=rfl;have c:sub ([88,76,66,83,77,81,70,90]:ZB) 1 2=[76]:=rfl;have d:sub ([88,76,66,83,77,81,70,90]:ZB) 2 3=[66]:=rfl;have e:sub ([88,76,66,83,77,81,70,90]:ZB) 3 4=[83]:=rfl;have f:sub ([88,76,66,83,77,81,70,90]:ZB) 4 5=[77]:=rfl;have g:sub ([88,76,66,83,77,81,70,90]:ZB) 5 6=[81]:=rfl;have h:sub ([88,76,66,83,77,81,70,90]:ZB) 6 7=[70]:=rfl;have i:sub ([88,76,66,83,77,81,70,90]:ZB) 7 8=[90]:=rfl;have j:ln ([88,76,66,83,77,81,70,90]:ZB)=8:=rfl;simp only [b,c,d,e,f,g,h,i,j,qao]
 unhygienic (repeat' (first | exact trivial | exact And.intro (by omega) trivial | apply And.intro | intro))
 all_goals first
  | omega
  | (simp only [*,if_true,if_false,ne_eq,not_false_eq_true,reduceCtorEq,List.cons.injEq,and_true];done)
  | (simp_all;done)
theorem zxu (a:Int):(qnk a).length<=1:=by unfold qnk;(repeat' split)<;>simp
theorem zx5 (c:Bool):(q4s c).length<=1:=by unfold q4s;(repeat' split)<;>simp
theorem q3s (k:Int):(qia k).length<=1:=by unfold qia;(repeat' split)<;>simp
theorem qu8 (b:Bool) (c:UInt8):(zu b c).length<=1:=by unfold zu;(repeat' split)<;>simp
theorem quy (s:Sign):(qdw s).length<=6:=by
 unfold qdw;have a:=qas s.Place;have b:=zxu s.Acc;have c:=zx5 s.Color;simp only [List.length_append];omega
theorem ztn (a0 h a2 a3:Int) (a4:Bool) (a5:Int) (i j:Bool) (k a9 b c:Int) (a12:Bool) (d e f g:Int) (l:-100<=a2/\a2<=100):q1w a0 h a2 a3 a4 a5 i j k a9 b c a12 d e f g:=by
 unfold q1w;dsimp only;have m:=qas a2;simp only [qdw,qnk,q4s,qh,List.length_append,List.length_cons,List.length_nil]
 unhygienic (repeat' (first | exact trivial | exact And.intro (by omega) trivial | apply And.intro | intro))
 all_goals first
  | omega
  | (simp_all;done)
theorem zww (a0 h a2 a3:Int) (a4:Bool) (a5:Int) (i j:Bool) (k a9 b c:Int) (a12:Bool) (d e f g:Int) (o:-100<=a2/\a2<=100/\0<=a5/\a5<=3):q31 a0 h a2 a3 a4 a5 i j k a9 b c a12 d e f g:=by
 unfold q31;dsimp only;have p:=quy (Sign.mk a0 h a2 a3 a4 a5 i j k a9 b c a12 d e f g);have l:ix ([[],[94],[118],[62]]:List ZB) a5=qia a5:=by
  have m:a5=0∨a5=1∨a5=2∨a5=3:=by omega
  rcases m with rfl | rfl | rfl | rfl<;>rfl
 have q:=q3s a5;have n:ln ([[],[94],[118],[62]]:List ZB)=4:=rfl;simp only [l,qfm,zu,qh,List.length_append,List.length_cons,List.length_nil]
 unhygienic (repeat' (first | exact trivial | exact And.intro (by omega) trivial | apply And.intro | intro))
 all_goals first
  | omega
  | (simp [*];done)
theorem z33 {w:ZB} {s:Sign} {e:Int} (h:zp w=(s,e)):qm w s.Kind s.Value s.Place s.Acc s.Color s.Stem s.Oblique s.Last s.MensMax s.MensMod s.MensTem s.MensPro s.Stroke s.N s.D s.ClefStep s.ClefLine e:=by
 unfold qm;rw [h];simp
theorem qc8 {w:ZB} (h:qb3 w=none):qm w 0 0 0 0 false 0 false false 0 0 0 0 false 0 0 0 0 3:=z33 (s:=sg0) (by rw [zp,h];rfl)
theorem qmq {w:ZB} {s:Sign} (h:qb3 w=some s):(zg s≠0->qm w 0 0 0 0 false 0 false false 0 0 0 0 false 0 0 0 0 (zg s))/\
  (zg s=0->qm w s.Kind s.Value s.Place s.Acc s.Color s.Stem s.Oblique s.Last s.MensMax s.MensMod s.MensTem s.MensPro s.Stroke s.N s.D s.ClefStep s.ClefLine 0):=
 ⟨λa=>z33 (s:=sg0) (by rw [zp,h,fin,zF a]),λa=>z33 (by rw [zp,h,fin,zT a])⟩
theorem qid (s:ZB) (c:Int):ln (zb s c).1<=ln s:=by
 unfold zb;split
 .simp only [fr,ln,List.length_drop];omega
 .exact zK _
theorem q6j {s:ZB} {i:Int} (b:0<=i) (h:i<ln s) (a:(48<=bx s i/\bx s i<=57)∨(i=0/\bx s i=45)):hdE s i=hdE s (i+1):=by
 conv=>lhs;rw [hdE]
 rw [dif_pos ⟨b,h⟩,zT];rcases a with a | a
 .exact .inl (by simp [qfo,a.1,a.2])
 .exact .inr a
theorem qja {s:ZB} {i:Int} (h:ln s<=i∨(¬ (48<=bx s i/\bx s i<=57)/\¬ (i=0/\bx s i=45))):hdE s i=i:=by
 rw [hdE];split
 .rename_i b;rw [zF];rcases h with h | h
  .omega
  .rintro (a | a)
   .simp only [qfo,zA,decide_eq_true_eq] at a;exact h.1 a
   .exact h.2 a
 .rfl
theorem zcz {w s:ZB}:ky w 0 s:=⟨⟨zK _,ln_nonneg s,rfl⟩⟩
theorem ztr {w s:ZB} {x:Int} (h:ky w x s) (d:x<ln s) (e:48<=bx s x) (f:bx s x<=57):ky w (x+1) s:=by
 obtain ⟨a,b,c⟩:=h.out;exact ⟨⟨by omega,by omega,by rw [<-q6j a d (.inl ⟨e,f⟩)];exact c⟩⟩
theorem zts {w s:ZB} {x:Int} (h:ky w x s) (d:x<ln s) (e:x=0) (f:bx s x=45):ky w (x+1) s:=by
 obtain ⟨a,b,c⟩:=h.out;exact ⟨⟨by omega,by omega,by rw [<-q6j a d (.inr ⟨e,f⟩)];exact c⟩⟩
theorem ztt {w s:ZB} {x:Int} (h:ky w x s) (d:ln s<=x):jv w x s:=by
 obtain ⟨a,b,c⟩:=h.out;exact ⟨⟨a,b,by rw [<-c,qja (.inl d)]⟩⟩
theorem z2a {w s:ZB} {x:Int} (h:ky w x s) (d:bx s x<48) (e:bx s x≠45):jv w x s:=by
 obtain ⟨a,b,c⟩:=h.out;exact ⟨⟨a,b,by rw [<-c,qja (.inr ⟨by omega,by omega⟩)]⟩⟩
theorem z19 {w s:ZB} {x:Int} (h:ky w x s) (d:57<bx s x):jv w x s:=by
 obtain ⟨a,b,c⟩:=h.out;exact ⟨⟨a,b,by rw [<-c,qja (.inr ⟨by omega,by omega⟩)]⟩⟩
theorem ztu {w s:ZB} {x:Int} (h:ky w x s) (d:bx s x<48) (e:x≠0):jv w x s:=by
 obtain ⟨a,b,c⟩:=h.out;exact ⟨⟨a,b,by rw [<-c,qja (.inr ⟨by omega,by omega⟩)]⟩⟩
theorem z6y {w s:ZB} (h:(zb s 98).2=true):qak w (zb s 98).1 (-1) s:=⟨⟨by simp [qkk,h],by simp [qkk,h],qid _ _⟩⟩
theorem z6z {w s:ZB} (h:(zb s 98).2=false) (a:(zb s 35).2=true):qak w (zb s 35).1 1 s:=⟨⟨by simp [qkk,h,a],by simp [qkk,h,a],qid _ _⟩⟩
theorem z60 {w s:ZB} (h:(zb s 98).2=false) (a:(zb s 35).2=false) (b:(zb s 110).2=true):qak w (zb s 110).1 2 s:=⟨⟨by simp [qkk,h,a,b],by simp [qkk,h,a,b],qid _ _⟩⟩
theorem z61 {w s:ZB} (h:(zb s 98).2=false) (a:(zb s 35).2=false) (b:(zb s 110).2=false):qak w s 0 s:=⟨⟨by simp [qkk,h,a,b],by simp [qkk,h,a,b],zK _⟩⟩
theorem z8w {w s:ZB} (h:(zb s 94).2=true):qcw w (zb s 94).1 1 s:=⟨⟨by simp [qmo,h],by simp [qmo,h],qid _ _⟩⟩
theorem z8x {w s:ZB} (h:(zb s 94).2=false) (a:(zb s 118).2=true):qcw w (zb s 118).1 2 s:=⟨⟨by simp [qmo,h,a],by simp [qmo,h,a],qid _ _⟩⟩
theorem z8y {w s:ZB} (h:(zb s 94).2=false) (a:(zb s 118).2=false) (b:(zb s 62).2=true):qcw w (zb s 62).1 3 s:=⟨⟨by simp [qmo,h,a,b],by simp [qmo,h,a,b],qid _ _⟩⟩
theorem z8z {w s:ZB} (h:(zb s 94).2=false) (a:(zb s 118).2=false) (b:(zb s 62).2=false):qcw w s 0 s:=⟨⟨by simp [qmo,h,a,b],by simp [qmo,h,a,b],zK _⟩⟩
section
variable {w:ZB} (n0:w≠[]) (n1:w≠[46]) (n2:w≠[91]) (n3:w≠[116,117,114,110]) (n4:w≠[115,105,103])
 include n0 n1 n2 n3 n4
theorem zh6 (h:bx w 0=114):qb3 w=q48 (fr w 1):=by rw [qb3,zF n0,zF n1,zF n2,zF n3,zF n4,zT h]
theorem zh7 (h:bx w 0=116):qb3 w=qzi (fr w 1):=by rw [qb3,zF n0,zF n1,zF n2,zF n3,zF n4,zF (by omega),zT h]
theorem zh5 (h:bx w 0=40):qb3 w=q2f (fr w 1):=by rw [qb3,zF n0,zF n1,zF n2,zF n3,zF n4,zF (by omega),zF (by omega),zT h]
theorem zh4 (h:bx w 0=64):qb3 w=qpm (fr w 1):=by rw [qb3,zF n0,zF n1,zF n2,zF n3,zF n4,zF (by omega),zF (by omega),zF (by omega),zT h]
theorem zh3 (h:bx w 0=38):qb3 w=qzd 8 (fr w 1):=by rw [qb3,zF n0,zF n1,zF n2,zF n3,zF n4,zF (by omega),zF (by omega),zF (by omega),zF (by omega),zT h]
theorem q93 (h:bx w 0=93):qb3 w=qzd 10 (fr w 1):=by rw [qb3,zF n0,zF n1,zF n2,zF n3,zF n4,zF (by omega),zF (by omega),zF (by omega),zF (by omega),zF (by omega),zT h]
theorem q22 (a:bx w 0≠114) (b:bx w 0≠116) (c:bx w 0≠40) (d:bx w 0≠64) (e:bx w 0≠38) (f:bx w 0≠93):qb3 w=if (qao (upto w 1)).2=0 then q41 w else qvk w:=by
 rw [qb3,zF n0,zF n1,zF n2,zF n3,zF n4,zF a,zF b,zF c,zF d,zF e,zF f]
end
theorem zdv (s:ZB) (c i k m:Int):ln (qdf s c i k m).1<=ln s/\ln (qdf s c i k m).2.1<=ln s:=by
 fun_induction qdf s c i k m with
 | case1 i k m h b a=>exact a
 | case2 i k m h b a=>exact a
 | case3 i k h=>simp only [upto,fr,ln,List.length_take,List.length_drop];omega
 | case4 i k m h d=>exact ⟨ln_nonneg s,ln_nonneg s⟩
theorem zvn (s:ZB) (c:Int):ln (qgl s c).1<=ln s/\ln (qgl s c).2.1<=ln s:=zdv s c 0 0 0
theorem q9m {w u:ZB} {b:Bool} (g:ln u<=30000) (c:qb3 w=if 0<ln u/\bx u (ln u-1)=41/\(qab (upto u (ln u-1))).2=0 then
  some (Sign.mk 5 0 0 0 false 0 false false (qab (upto u (ln u-1))).1.1 (qab (upto u (ln u-1))).1.2.1 (qab (upto u (ln u-1))).1.2.2.1 (qab (upto u (ln u-1))).1.2.2.2 b 0 0 0 0) else none) :
  (u=[]->qm w 0 0 0 0 false 0 false false 0 0 0 0 false 0 0 0 0 3)/\
  (u≠[]->I64 (ln u-1)/\Wn (ln u-1) (ln u)/\(bx u (ln u-1)≠41->qm w 0 0 0 0 false 0 false false 0 0 0 0 false 0 0 0 0 3)/\
    (bx u (ln u-1)=41->I64 (ln u-1)/\((0:Int)<=ln u-1/\ln u-1<=ln u)/\True/\((qab (upto u (ln u-1))).2≠0->qm w 0 0 0 0 false 0 false false 0 0 0 0 false 0 0 0 0 3)/\
      ((qab (upto u (ln u-1))).2=0->True/\(zg (Sign.mk 5 0 0 0 false 0 false false (qab (upto u (ln u-1))).1.1 (qab (upto u (ln u-1))).1.2.1 (qab (upto u (ln u-1))).1.2.2.1 (qab (upto u (ln u-1))).1.2.2.2 b 0 0 0 0)≠0->
        qm w 0 0 0 0 false 0 false false 0 0 0 0 false 0 0 0 0 (zg (Sign.mk 5 0 0 0 false 0 false false (qab (upto u (ln u-1))).1.1 (qab (upto u (ln u-1))).1.2.1 (qab (upto u (ln u-1))).1.2.2.1 (qab (upto u (ln u-1))).1.2.2.2 b 0 0 0 0)))/\
        (zg (Sign.mk 5 0 0 0 false 0 false false (qab (upto u (ln u-1))).1.1 (qab (upto u (ln u-1))).1.2.1 (qab (upto u (ln u-1))).1.2.2.1 (qab (upto u (ln u-1))).1.2.2.2 b 0 0 0 0)=0->
        qm w 5 0 0 0 false 0 false false (qab (upto u (ln u-1))).1.1 (qab (upto u (ln u-1))).1.2.1 (qab (upto u (ln u-1))).1.2.2.1 (qab (upto u (ln u-1))).1.2.2.2 b 0 0 0 0 0)))):=by
 refine ⟨λh=>qc8 (by rw [c,zF];rintro ⟨a,_⟩;rw [h] at a;exact absurd a (by decide)),λh=>?_⟩;have f:=qnr h;refine ⟨by omega,by omega,λa=>qc8 (by rw [c,zF];exact λd=>a d.2.1),λa=>⟨by omega,by omega,trivial,λe=>qc8 (by rw [c,zF];exact λd=>e d.2.2),λe=>⟨trivial,qmq ?_⟩⟩⟩;rw [c,zT ⟨f,a,e⟩]
set_option maxHeartbeats 8000000 in
theorem zqt (a0:ZB) (hp:ln a0<=30000):q0c a0:=by
 unfold q0c;dsimp only;have b0:bx ([98,35,110]:ZB) 0=98:=rfl;have z:bx ([98,35,110]:ZB) 1=35:=rfl;have A:bx ([98,35,110]:ZB) 2=110:=rfl;have B:bx ([94,118,62]:ZB) 0=94:=rfl;have C:bx ([94,118,62]:ZB) 1=118:=rfl;have D:bx ([94,118,62]:ZB) 2=62:=rfl;have E:bx ([67,70,71]:ZB) 0=67:=rfl;have p:bx ([67,70,71]:ZB) 1=70:=rfl;have F:bx ([67,70,71]:ZB) 2=71:=rfl;have G:ix ([-1,1,2]:List Int) 0 = -1:=rfl;have H:ix ([-1,1,2]:List Int) 1=1:=rfl;have I:ix ([-1,1,2]:List Int) 2=2:=rfl;have g0:ix ([0,3,4]:List Int) 0=0:=rfl;have g1:ix ([0,3,4]:List Int) 1=3:=rfl;have J:ix ([0,3,4]:List Int) 2=4:=rfl;have K:ln ([98,35,110]:ZB)=3:=rfl;have L:ln ([94,118,62]:ZB)=3:=rfl;have M:ln ([67,70,71]:ZB)=3:=rfl;have N:ln ([-1,1,2]:List Int)=3:=rfl;have O:ln ([0,3,4]:List Int)=3:=rfl;simp only [b0,z,A,B,C,D,E,p,F,G,H,I,g0,g1,J,K,L,M,N,O];clear b0 z A B C D E p F G H I g0 g1 J K L M N O;refine ⟨λh=>qc8 (by rw [qb3,zT h]),λn0=>⟨λh=>⟨trivial,qmq (by subst h;rfl)⟩,λn1=>⟨λh=>⟨trivial,qmq (by subst h;rfl)⟩,λn2=>⟨λh=>⟨trivial,qmq (by subst h;rfl)⟩,λn3=>⟨λh=>⟨trivial,qmq (by subst h;rfl)⟩,λn4=>?_⟩⟩⟩⟩⟩;have q:=qnr n0;have hf:ln (fr a0 1)=ln a0-1:=qkg (by omega) (by omega)
 refine ⟨⟨zK _,q⟩,λh=>⟨⟨by omega,by omega⟩,trivial,?_⟩,λP=>⟨λh=>⟨⟨by omega,by omega⟩,⟨zcz,λk hi=>?_⟩,λk hi=>?_⟩,λQ=>⟨λh=>⟨⟨by omega,by omega⟩,?_⟩,λR=>⟨λh=>⟨⟨by omega,by omega⟩,?_⟩,λS=>⟨λh=>⟨⟨by omega,by omega⟩,by omega,?_⟩,λT=>⟨λh=>⟨⟨by omega,by omega⟩,by omega,?_⟩,λU=>⟨⟨by omega,by omega⟩,trivial,λs=>⟨⟨by omega,by omega⟩,⟨zcz,λk hi=>?_⟩,λk hi=>?_⟩,λs=>?_⟩⟩⟩⟩⟩⟩⟩
 .have c:=zh6 n0 n1 n2 n3 n4 h;exact ⟨λb=>qc8 (by rw [c,q48,zF b]),λb=>⟨trivial,qmq (by rw [c,q48,zT b])⟩⟩
 .have j:=hi.out
  unhygienic (repeat' (first | exact trivial | (with_reducible apply And.intro) | intro))
  all_goals first
   | omega
   | (with_reducible exact ztr hi ‹_› ‹_› ‹_›)
   | (with_reducible exact zts hi ‹_› ‹_› ‹_›)
   | (with_reducible exact ztt hi ‹_›)
   | (with_reducible exact z2a hi ‹_› ‹_›)
   | (with_reducible exact ztu hi ‹_› ‹_›)
   | (with_reducible exact z19 hi ‹_›)
   | (simp only [j6];omega)
 .obtain ⟨l,m,t⟩:=hi.out;have c:=zh7 n0 n1 n2 n3 n4 h;have o:ln (upto (fr a0 1) k)=k:=qda l m;refine ⟨⟨l,m⟩,by omega,⟨l,m⟩,trivial,trivial,trivial,?_,λV u n=>⟨by omega,?_,λW X v=>⟨by omega,by omega,?_⟩⟩⟩
  .unhygienic (repeat' (first | exact trivial | (with_reducible exact rfl) | (with_reducible apply And.intro) | intro))
   all_goals first
    | omega
    | (with_reducible exact z6y ‹_›)
    | (with_reducible exact z6z ‹_› ‹_›)
    | (with_reducible exact z60 ‹_› ‹_› ‹_›)
    | (with_reducible exact z61 ‹_› ‹_› ‹_›)
  .unhygienic (repeat' (first | exact trivial | (with_reducible exact rfl) | (with_reducible apply And.intro) | intro))
   all_goals first
    | omega
    | (with_reducible exact z8w ‹_›)
    | (with_reducible exact z8x ‹_› ‹_›)
    | (with_reducible exact z8y ‹_› ‹_› ‹_›)
    | (with_reducible exact z8z ‹_› ‹_› ‹_›)
  .obtain ⟨w,y,_⟩:=n.out;obtain ⟨Y,Z,_⟩:=v.out;subst t;subst w;subst y;subst Y;subst Z;refine ⟨λb=>⟨λd=>qc8 ?_,λd=>⟨trivial,qmq ?_⟩⟩,λb=>qc8 ?_⟩
   .rw [c];unfold qzi hdF;exact zF λe=>d e.2
   .rw [c];unfold qzi hdF;exact zT ⟨b,d⟩
   .rw [c];unfold qzi hdF;exact zF λe=>by rw [b] at e;cases e.1
 .have c:=zh5 n0 n1 n2 n3 n4 h;by_cases j:0<ln (fr a0 1)/\bx (fr a0 1) (ln (fr a0 1)-1)=124
  .have f:qb3 a0=_:=c;simp only [q2f,decide_eq_true j,if_true] at f;have g:fr a0 1≠[]:=by intro he;rw [he] at j;exact absurd j.1 (by decide)
   have o:ln (upto (fr a0 1) (ln (fr a0 1)-1))<=30000:=by rw [qda (by omega) (by omega)];omega
   refine ⟨λ_=>⟨by omega,by omega,λ_=>⟨by omega,by omega,q9m o f⟩,λb=>absurd j.2 b⟩,λb=>absurd b g⟩
  .have f:qb3 a0=_:=c;simp only [q2f,decide_eq_false j,Bool.false_eq_true,if_false] at f;have o:ln (fr a0 1)<=30000:=by omega
   refine ⟨λg=>⟨by have:=qnr g;omega,by have:=qnr g;omega,λb=>absurd ⟨qnr g,b⟩ j,λ_=>q9m o f⟩,λ_=>q9m o f⟩
 .have c:=zh4 n0 n1 n2 n3 n4 h;have t1:=qid (fr a0 1) 67;have t2:=qid (fr a0 1) 70;have t3:=qid (fr a0 1) 71;refine ⟨trivial,trivial,trivial,by omega,by omega,λb=>⟨by omega,by omega,λd=>qc8 (by rw [c];simp [qpm,b,d]),λd=>⟨trivial,qmq (by rw [c];simp [qpm,b,d])⟩⟩,λb=>?_⟩;refine ⟨by omega,by omega,λi=>⟨by omega,by omega,λd=>qc8 (by rw [c];simp [qpm,b,d,i]),λd=>⟨trivial,qmq (by rw [c];simp [qpm,b,d,i])⟩⟩,λi=>?_⟩;refine ⟨by omega,by omega,λr=>⟨by omega,by omega,λd=>qc8 (by rw [c];simp [qpm,b,d,i,r]),λd=>⟨trivial,qmq (by rw [c];simp [qpm,b,d,i,r])⟩⟩,λr=>qc8 (by rw [c];simp [qpm,b,i,r])⟩
 .have c:=zh3 n0 n1 n2 n3 n4 h;exact ⟨λb=>qc8 (by rw [c,qzd,zF (by rw [b];simp)]),λb=>⟨trivial,qmq (by rw [c,qzd,zT b])⟩⟩
 .have c:=q93 n0 n1 n2 n3 n4 h;exact ⟨λb=>qc8 (by rw [c,qzd,zF (by rw [b];simp)]),λb=>⟨trivial,qmq (by rw [c,qzd,zT b])⟩⟩
 .have j:=hi.out
  unhygienic (repeat' (first | exact trivial | (with_reducible apply And.intro) | intro))
  all_goals first
   | omega
   | (with_reducible exact ztr hi ‹_› ‹_› ‹_›)
   | (with_reducible exact zts hi ‹_› ‹_› ‹_›)
   | (with_reducible exact ztt hi ‹_›)
   | (with_reducible exact z2a hi ‹_› ‹_›)
   | (with_reducible exact ztu hi ‹_› ‹_›)
   | (with_reducible exact z19 hi ‹_›)
   | (simp only [j6];omega)
 .obtain ⟨l,m,t⟩:=hi.out;have c:qb3 a0=q41 a0:=by rw [q22 n0 n1 n2 n3 n4 P Q R S T U,zT s]
  have o:ln (upto (fr a0 1) k)=k:=qda l m;refine ⟨⟨l,m⟩,by omega,⟨l,m⟩,trivial,trivial,trivial,?_,λV u n=>⟨by omega,?_⟩⟩
  .unhygienic (repeat' (first | exact trivial | (with_reducible exact rfl) | (with_reducible apply And.intro) | intro))
   all_goals first
    | omega
    | (with_reducible exact z6y ‹_›)
    | (with_reducible exact z6z ‹_› ‹_›)
    | (with_reducible exact z60 ‹_› ‹_› ‹_›)
    | (with_reducible exact z61 ‹_› ‹_› ‹_›)
  .obtain ⟨w,y,_⟩:=n.out;subst t;subst w;subst y;refine ⟨λb=>⟨λd=>qc8 ?_,λd=>⟨trivial,qmq ?_⟩⟩,λb=>qc8 ?_⟩
   .rw [c];unfold q41 hdF;exact zF λe=>d e.2
   .rw [c];unfold q41 hdF;exact zT ⟨b,d⟩
   .rw [c];unfold q41 hdF;exact zF λe=>by rw [b] at e;cases e.1
 .have c:qb3 a0=qvk a0:=by rw [q22 n0 n1 n2 n3 n4 P Q R S T U,zF s]
  obtain ⟨p1,p2⟩:=zvn a0 47;refine ⟨by omega,by omega,by omega,λb=>⟨λd=>⟨λi=>qc8 ?_,λi=>⟨trivial,qmq ?_⟩⟩,λd=>qc8 ?_⟩,λb=>qc8 ?_⟩
  .rw [c];unfold qvk;exact zF λe=>by rw [i] at e;cases e.2.2
  .rw [c];unfold qvk;exact zT ⟨b,d,i⟩
  .rw [c];unfold qvk;exact zF λe=>by rw [d] at e;cases e.2.1
  .rw [c];unfold qvk;exact zF λe=>by rw [b] at e;cases e.1
theorem z34 {w:ZB} {s:Sign} {e:Int} (h:zl w=(s,e)):zq w s.Kind s.Value s.Place s.Acc s.Color s.Stem s.Oblique s.Last s.MensMax s.MensMod s.MensTem s.MensPro s.Stroke s.N s.D s.ClefStep s.ClefLine e:=by
 unfold zq;rw [h];simp
theorem zv0 {w:ZB} {k:Int} (e:1<=k) (f:k<=12) (a:∀ j,1<=j->j<k->rdK w j=none):∀ (m:Nat) (i:Int),1<=i->i<=k->(k-i).toNat=m->qpo w i=qpo w k:=by
 intro m
 induction m with
 | zero=>intro i hi b c;rw [show i=k by omega]
 | succ m d=>
  intro i hi b c;have:qpo w i=qpo w (i+1):=by
   conv=>lhs;rw [qpo]
   rw [dif_pos ⟨hi,by omega⟩,a i hi (by omega)]
  rw [this];exact d (i+1) (by omega) (by omega) (by omega)
theorem zlb {w:ZB} {k:Int} {s:Sign} (h:qc w (k-1)) (c:1<=k) (d:k<=12) (e:rdK w k=some s):zl w=fin (some s):=by
 rw [zl,zv0 c d (λj a b=>h.out j a (by omega)) _ 1 (by omega) c rfl,qpo,dif_pos ⟨c,d⟩,e]
theorem qy6 {w:ZB} (k:Int) {s:Sign} (h:qc w (k-1)) (a:1<=k) (b:k<=12) (c:rdK w k=some s) (d:zg s≠0):zq w 0 0 0 0 false 0 false false 0 0 0 0 false 0 0 0 0 (zg s):=
 z34 (s:=sg0) (by rw [zlb h a b c,fin,zF d])
theorem qy7 {w:ZB} (k:Int) {a b c d:Int} {e:Bool} {f:Int} {g o:Bool} {m1 m2 m3 m4:Int} {t:Bool} {i j l m:Int} (h:qc w (k-1)) (n:1<=k) (p:k<=12) (q:rdK w k=some (Sign.mk a b c d e f g o m1 m2 m3 m4 t i j l m)) (r:zg (Sign.mk a b c d e f g o m1 m2 m3 m4 t i j l m)=0) :
  zq w a b c d e f g o m1 m2 m3 m4 t i j l m 0:=
 z34 (s:=Sign.mk a b c d e f g o m1 m2 m3 m4 t i j l m) (by rw [zlb h n p q,fin,zT r])
theorem qfj {w:ZB} (k:Int) (h:qc w (k-1)) (c:rdK w k=none):qc w k:=⟨λj a b=>by
 by_cases d:j=k
 .rw [d];exact c
 .exact h.out j a (by omega)⟩
theorem z8r {w:ZB} (h:qc w 12):zq w 0 0 0 0 false 0 false false 0 0 0 0 false 0 0 0 0 3:=z34 (s:=sg0) (by
 rw [zl,zv0 (w:=w) (k:=12) (by decide) (by decide) (λj a b=>h.out j a (by omega)) _ 1 (by decide) (by decide) rfl,qpo,dif_pos (by decide),h.out 12 (by decide) (by decide)];show fin (qpo w 13)=_;rw [qpo,dif_neg (by decide)];rfl)
theorem z74 (w:ZB) (i:Int) (c:UInt8):preB (fr w i) [c]=tk w i c:=rfl
def pv (p:Prop):Prop:=p
theorem pv.out {p:Prop} (h:pv p):p:=h
theorem qng {w:ZB} {i:Int} {c:UInt8} (h:tk w i c=true) (a:0<=i):i<ln w:=by
 simp only [tk,preB,zA,decide_eq_true_eq] at h;have:=h.1;simp only [ln,fr,List.length_drop,List.length_cons,List.length_nil] at this ⊢;omega
section
variable {w m:ZB} {i i0 x k a p v:Int} {b b0 ok c o:Bool} {Q:Prop} {ch:UInt8}
theorem zan:(tk w i ch=true->Q)↔(pv (tk w i ch=true)->(0<=i->i<ln w)->Q):=⟨λh t _=>h t,λh t=>h t (qng t)⟩
theorem w0:(qal w m i i0->Q)↔(pv (qal w m i i0)->i0<=i->i<=ln w->ln m<=1->Q):=⟨λh t _ _ _=>h t,λh t=>h t t.out.2.2.1.1 t.out.2.2.1.2 t.out.2.2.2⟩
theorem w1:(zj w i i0->Q)↔(pv (zj w i i0)->i0<=i->i<=ln w->Q):=⟨λh t _ _=>h t,λh t=>h t t.out.1.1 t.out.1.2⟩
theorem w2:(qp w i i0->Q)↔(pv (qp w i i0)->i0<=i->i<=ln w->Q):=⟨λh t _ _=>h t,λh t=>h t t.out.1.1 t.out.1.2⟩
theorem w3:(qac w b b0 ok->Q)↔(pv (b=(b0 || !ok))->Q):=⟨λh t=>h ⟨t⟩,λh t=>h t.out⟩
theorem w4:(qdj w b b0 ok->Q)↔(pv (b=(b0 || !ok))->Q):=⟨λh t=>h ⟨t⟩,λh t=>h t.out⟩
theorem w5:(jg w k i->Q)↔(pv (jg w k i)->0<=k->k<=8->Q):=⟨λh t _ _=>h t,λh t=>h t t.out.1 t.out.2.1⟩
theorem w6:(qcx w i b v->Q)↔(pv (qcx w i b v)->0<=i->i<=ln w->Q):=⟨λh t _ _=>h t,λh t=>h t t.out.1.1 t.out.1.2⟩
theorem w7:(kg w i a i0->Q)↔(pv (kg w i a i0)->i0<=i->i<=ln w->Q):=⟨λh t _ _=>h t,λh t=>h t t.out.1.1 t.out.1.2⟩
theorem w8:(qdk w i b p a c i0 b0->Q)↔(pv (qdk w i b p a c i0 b0)->i0<=i->i<=ln w->Q):=⟨λh t _ _=>h t,λh t=>h t t.out.1.1 t.out.1.2⟩
theorem w9:(qaw w i k i0->Q)↔(pv (qaw w i k i0)->i0<=i->i<=ln w->Q):=⟨λh t _ _=>h t,λh t=>h t t.out.1.1 t.out.1.2⟩
theorem w10:(qbt w i o i0->Q)↔(pv (qbt w i o i0)->i0<=i->i<=ln w->Q):=⟨λh t _ _=>h t,λh t=>h t t.out.1.1 t.out.1.2⟩
theorem w11:(qbu w i b i0 b0->Q)↔(pv (qbu w i b i0 b0)->i0<=i->i<=ln w->Q):=⟨λh t _ _=>h t,λh t=>h t t.out.1.1 t.out.1.2⟩
theorem w12:(qaf w i b k i0->Q)↔(pv (qaf w i b k i0)->i0<=i->i<=ln w->Q):=⟨λh t _ _=>h t,λh t=>h t t.out.1.1 t.out.1.2⟩
end
section
variable {w m:ZB} {i i0 x j e k a p v y z:Int} {b b0 ok c o l:Bool} {ch:UInt8}
theorem z69 (h:pv (tk w i 45=true)) (a:0<=i):qal w [45] (i+1) i:=by
 have:=qng h a;exact ⟨⟨by rw [qiw,zT (pv.out h)],by rw [qiw,zT (pv.out h)],⟨by omega,by omega⟩,zK _⟩⟩
theorem z68 (h:tk w i 45=false) (hi:i<=ln w):qal w [] i i:=by
 have a:¬ tk w i 45=true:=by rw [h];simp
 exact ⟨⟨by rw [qiw,zF a],by rw [qiw,zF a],⟨zK _,hi⟩,by decide⟩⟩
theorem qn8 (hi:i<=ln w):zj w i i:=⟨⟨zK _,hi⟩,rfl⟩
theorem qrk (h:pv (zj w x i)) (e:0<=i) (a:x<ln w) (b:48<=bx w x) (c:bx w x<=57):zj w (x+1) i:=by
 obtain ⟨⟨f,g⟩,d⟩:=Hold.out h;exact ⟨⟨by omega,by omega⟩,d.trans (qto (by omega) a (by simp [qfo,b,c]))⟩
theorem zuq (h:pv (zj w x i)) (a:ln w<=x∨qfo (bx w x)=false):qp w x i:=by
 obtain ⟨r,b⟩:=Hold.out h;exact ⟨r,by rw [b];exact (qmh a).symm⟩
theorem qw4 (h:pv (zj w x i)) (a:ln w<=x):qp w x i:=zuq h (.inl a)
theorem q6z (h:pv (zj w x i)) (a:bx w x<48):qp w x i:=zuq h (.inr (by simp only [qfo,Bool.and_eq_false_iff,decide_eq_false_iff_not];omega))
theorem q6y (h:pv (zj w x i)) (a:57<bx w x):qp w x i:=zuq h (.inr (by simp only [qfo,Bool.and_eq_false_iff,decide_eq_false_iff_not];omega))
theorem z0b (h:b0=true):qac w true b0 ok:=⟨by simp [h]⟩
theorem zda (h:b0=false):qac w (!ok) b0 ok:=⟨by simp [h]⟩
theorem z7i (h:b0=true):qdj w true b0 ok:=⟨by simp [h]⟩
theorem z0c (h:b0=false):qdj w (!ok) b0 ok:=⟨by simp [h]⟩
theorem zdb:jg w 0 i:=⟨⟨zK _,by decide,rfl⟩⟩
theorem zkx (h:pv (jg w k i)) (a:k<8) (b:preB (fr w i) (sub ([88,76,66,83,77,81,70,90]:ZB) k (k+1))=false):jg w (k+1) i:=by
 obtain ⟨c,e,d⟩:=Hold.out h;refine ⟨⟨by omega,by omega,?_⟩⟩;rw [<-d]
 conv=>rhs;rw [qy2]
 rw [dif_pos ⟨c,a⟩,zF (by rw [zn1,b];simp)]
theorem zam (h:pv (jg w k i)) (a:k<8) (b:preB (fr w i) (sub ([88,76,66,83,77,81,70,90]:ZB) k (k+1))=true):qxp w i=some (k+1):=by
 obtain ⟨c,e,d⟩:=Hold.out h;rw [<-d,qy2,dif_pos ⟨c,a⟩,zT (show preB (fr w i) (sub zn1 k (k+1))=true from b)]
theorem zw4 (h:pv (jg w k i)) (b:8<=k):qxp w i=none:=by
 obtain ⟨c,d,a⟩:=Hold.out h;rw [<-a,qy2,dif_neg (by omega)]
theorem z4m (a b:ZB):ln (a++b)=ln a+ln b:=by simp only [ln,List.length_append];omega
theorem zkw (h:k<8) (a:0<=k):qdl w (k+1) i<qdl w k i:=by simp only [qdl];omega
theorem qri (h:i<ln w):ku w (i+1) i0<ku w i i0:=by simp only [ku];omega
theorem q8j {v:ZB} {r t:Int} (d:ln w<=30000) (a:0<=r) (b:r<=t) (c:t<=ln w) (e:ln v<=1):ln (v++sub w r t)<=30001:=by
 rw [z4m,qwz a b c];omega
theorem q5u {v:ZB} {r t:Int} (a:ln w<=30000) (b:0<=r) (c:r<=t) (d:t<=ln w) (e:ln v<=1):v.length+(sub w r t).length<=1000000000:=by
 have:=q8j a b c d e;simp only [ln,List.length_append] at this;omega
theorem qlj {r t:Int} (d:ln w<=30000) (a:0<=r) (b:r<=t) (c:t<=ln w):ln (sub w r t)<=1000000:=by
 rw [qwz a b c];omega
theorem sub_one {k:Int} (a:0<=k) (h:k<8):ln (sub ([88,76,66,83,77,81,70,90]:ZB) k (k+1))=1:=by
 have b:ln ([88,76,66,83,77,81,70,90]:ZB)=8:=rfl;rw [qwz a (by omega) (by omega)];omega
theorem q3w {k:Int} (a:0<=k) (h:k<8):-9223372036854775808<=ln (sub ([88,76,66,83,77,81,70,90]:ZB) k (k+1)):=by rw [sub_one a h];decide
theorem q3v {k:Int} (a:0<=k) (h:k<8):ln (sub ([88,76,66,83,77,81,70,90]:ZB) k (k+1))<=9223372036854775807:=by rw [sub_one a h];decide
theorem zew {k:Int} (a:0<=k) (h:k<8):-9223372036854775808<=1+ln (sub ([88,76,66,83,77,81,70,90]:ZB) k (k+1)):=by rw [sub_one a h];decide
theorem zev {k:Int} (a:0<=k) (h:k<8):1+ln (sub ([88,76,66,83,77,81,70,90]:ZB) k (k+1))<=9223372036854775807:=by rw [sub_one a h];decide
theorem pre_nil {s:ZB} (h:preB s []=false):False:=by
 simp [preB,ln,upto] at h
theorem z00 {s p:ZB} (h:preB s p=true):ln p<=ln s:=by
 simp only [preB,zA,decide_eq_true_eq] at h;exact h.1
theorem z84 (h:pv (jg w k 0)) (d:0<=k) (a:k<8) (b:preB (fr w 0) (sub ([88,76,66,83,77,81,70,90]:ZB) k (k+1))=true):qcx w (ln (sub ([88,76,66,83,77,81,70,90]:ZB) k (k+1))) false (k+1):=by
 have c:=z00 b;rw [sub_one d a] at c ⊢;exact ⟨⟨⟨by decide,c⟩,.inl ⟨rfl,rfl,zam h a b⟩⟩⟩
theorem z83 (h:pv (jg w k 0)) (a:8<=k):qcx w 0 true 0:=⟨⟨⟨by decide,ln_nonneg w⟩,.inr ⟨rfl,zw4 h a⟩⟩⟩
theorem z7j (h:pv (tk w i 98=true)) (a:0<=i):kg w (i+1) (-1) i:=by
 have:=qng h a;exact ⟨⟨⟨by omega,by omega⟩,by rw [qnl,zT (pv.out h)],by rw [qnl,zT (pv.out h)]⟩⟩
theorem qet (h:b=false):¬ b=true:=by rw [h];simp
theorem z7k (h:tk w i 98=false) (a:pv (tk w i 35=true)) (b:0<=i):kg w (i+1) 1 i:=by
 have:=qng a b;exact ⟨⟨⟨by omega,by omega⟩,by rw [qnl,zF (qet h),zT (pv.out a)],by rw [qnl,zF (qet h),zT (pv.out a)]⟩⟩
theorem z7l (h:tk w i 98=false) (b:tk w i 35=false) (a:pv (tk w i 110=true)) (c:0<=i):kg w (i+1) 2 i:=by
 have:=qng a c;exact ⟨⟨⟨by omega,by omega⟩,by rw [qnl,zF (qet h),zF (qet b),zT (pv.out a)],by rw [qnl,zF (qet h),zF (qet b),zT (pv.out a)]⟩⟩
theorem z7m (h:tk w i 98=false) (a:tk w i 35=false) (b:tk w i 110=false) (hi:i<=ln w):kg w i 0 i:=
 ⟨⟨⟨zK _,hi⟩,by rw [qnl,zF (qet h),zF (qet a),zF (qet b)],by rw [qnl,zF (qet h),zF (qet a),zF (qet b)]⟩⟩
theorem qpl (h:pv (tk w i ch=true)):qe3 w i ch=(true,i+1):=by rw [qe3,zT (pv.out h)]
theorem qpk (h:tk w i ch=false):qe3 w i ch=(false,i):=by rw [qe3,zF (qet h)]
theorem zhu (b:pv (qal w m j i)) (d:pv (qp w e j)) (f:pv (kg w x a e)) (g:qe3 w x 42=(c,y)):qg3 w i=((qan (m++sub w j e)).1,a,c,(qan (m++sub w j e)).2,y):=by
 obtain ⟨h,k,_⟩:=Hold.out b;obtain ⟨_,l⟩:=Hold.out d;obtain ⟨_,n,o⟩:=Hold.out f;subst h;subst k;subst l;subst n;subst o;simp only [qg3,qpp,g]
theorem z2j (d:pv (qal w m j i)) (f:pv (qp w e j)) (g:pv (b=(b0 || !(qan (m++sub w j e)).2))) (h:pv (kg w x a e)) (k:qe3 w x 42=(c,y)) (l:i<=y) (n:y<=ln w) :
  qdk w y b (qan (m++sub w j e)).1 a c i b0:=by
 have:=zhu d f h k;exact ⟨⟨⟨l,n⟩,by rw [this],by rw [this],by rw [this],by rw [this];exact g,by rw [this]⟩⟩
theorem z86 (h:pv (tk w i 94=true)) (a:0<=i):qaw w (i+1) 1 i:=by
 have:=qng h a;exact ⟨⟨⟨by omega,by omega⟩,by rw [qnv,zT (pv.out h)],by rw [qnv,zT (pv.out h)]⟩⟩
theorem z88 (h:tk w i 94=false) (a:pv (tk w i 118=true)) (b:0<=i):qaw w (i+1) 2 i:=by
 have:=qng a b;exact ⟨⟨⟨by omega,by omega⟩,by rw [qnv,zF (qet h),zT (pv.out a)],by rw [qnv,zF (qet h),zT (pv.out a)]⟩⟩
theorem z89 (h:tk w i 94=false) (b:tk w i 118=false) (a:pv (tk w i 62=true)) (c:0<=i):qaw w (i+1) 3 i:=by
 have:=qng a c;exact ⟨⟨⟨by omega,by omega⟩,by rw [qnv,zF (qet h),zF (qet b),zT (pv.out a)],by rw [qnv,zF (qet h),zF (qet b),zT (pv.out a)]⟩⟩
theorem z9a (h:tk w i 94=false) (a:tk w i 118=false) (b:tk w i 62=false) (hi:i<=ln w):qaw w i 0 i:=
 ⟨⟨⟨zK _,hi⟩,by rw [qnv,zF (qet h),zF (qet a),zF (qet b)],by rw [qnv,zF (qet h),zF (qet a),zF (qet b)]⟩⟩
theorem z7b (h:pv (tk w i 126=true)) (a:0<=i):qbt w (i+1) true i:=by
 have:=qng h a;exact ⟨⟨⟨by omega,by omega⟩,by rw [qpl h],by rw [qpl h]⟩⟩
theorem z7a (h:tk w i 126=false) (hi:i<=ln w):qbt w i false i:=⟨⟨⟨zK _,hi⟩,by rw [qpk h],by rw [qpk h]⟩⟩
theorem z7d (h:pv (tk w i 47=true)) (a:0<=i):qbu w (i+1) b i b:=by
 have:=qng h a;exact ⟨⟨⟨by omega,by omega⟩,.inl ⟨pv.out h,rfl,rfl⟩⟩⟩
theorem z7c (h:tk w i 47=false) (hi:i<=ln w):qbu w i true i b:=⟨⟨⟨zK _,hi⟩,.inr ⟨h,rfl⟩⟩⟩
theorem z7e (h:pv (tk w 1 67=true)):qaf w (1+1) false 0 1:=by
 have:=qng h (by decide);exact ⟨⟨⟨by decide,by omega⟩,.inl ⟨rfl,rfl,by rw [zet,zT (pv.out h)]⟩⟩⟩
theorem z7f (h:tk w 1 67=false) (a:pv (tk w 1 70=true)):qaf w (1+1) false 3 1:=by
 have:=qng a (by decide);exact ⟨⟨⟨by decide,by omega⟩,.inl ⟨rfl,rfl,by rw [zet,zF (qet h),zT (pv.out a)]⟩⟩⟩
theorem z7g (h:tk w 1 67=false) (b:tk w 1 70=false) (a:pv (tk w 1 71=true)):qaf w (1+1) false 4 1:=by
 have:=qng a (by decide);exact ⟨⟨⟨by decide,by omega⟩,.inl ⟨rfl,rfl,by rw [zet,zF (qet h),zF (qet b),zT (pv.out a)]⟩⟩⟩
theorem z7h (h:tk w 1 67=false) (a:tk w 1 70=false) (b:tk w 1 71=false) (hi:1<=ln w):qaf w 1 true 0 1:=
 ⟨⟨⟨zK _,hi⟩,.inr ⟨rfl,by rw [zet,zF (qet h),zF (qet a),zF (qet b)]⟩⟩⟩
theorem zog {ok b0:Bool} (h:false=(b0 || !ok)):b0=false/\ok=true:=by cases b0<;>cases ok<;>simp_all
theorem zkg (g:pv (qcx w i b0 v)) (k:pv (qal w m j i)) (l:pv (qp w e j)) (n:pv (b=(b0 || !(qan (m++sub w j e)).2))) (o:pv (kg w x a e)) (p:qe3 w x 42=(c,y)) (q:b=false) (r:y=ln w) :
  rdK w 1=some (Sign.mk 1 v (qan (m++sub w j e)).1 a c 0 false false 0 0 0 0 false 0 0 0 0):=by
 have s:=zhu k l o p;subst q;obtain ⟨d,f⟩:=zog n;obtain ⟨_,⟨_,hi,t⟩ | ⟨h,_⟩⟩:=Hold.out g
 .subst hi;rw [rdK,zT rfl,rd1,t];simp only [s];rw [zT ⟨f,r⟩]
 .rw [d] at h;cases h
theorem zzs (k:pv (qcx w i b0 v)) (l:pv (qal w m j i)) (n:pv (qp w e j)) (o:pv (b=(b0 || !(qan (m++sub w j e)).2))) (p:pv (kg w x a e)) (q:qe3 w x 42=(c,y)) (d:b=true∨y≠ln w) :
  rdK w 1=none:=by
 have r:=zhu l n p q;obtain ⟨_,⟨h,hi,g⟩ | ⟨_,g⟩⟩:=Hold.out k
 .subst hi;rw [rdK,zT rfl,rd1,g];simp only [r];rw [zF];rintro ⟨s,t⟩;rcases d with d | d
  .have f:b=(b0 || !(qan (m++sub w j e)).2):=o;rw [d,h,s] at f;cases f
  .exact d t
 .rw [rdK,zT rfl,rd1,g]
theorem zkp:rdK w 2=rd2 w:=rfl
theorem z2d:rdK w 3=rd3 w:=rfl
theorem zt0:rdK w 4=rd4 w:=rfl
theorem zt1:rdK w 5=rd5 w:=rfl
theorem z2e:rdK w 6=rd6 w:=rfl
theorem zt2:rdK w 7=rd7 w:=rfl
theorem q6q:rdK w 8=rdN w 38 8:=rfl
theorem qwu:rdK w 10=rdN w 93 10:=rfl
theorem zkh (c:pv (tk w 0 114=true)) (h:pv (jg w k 1)) (a:k<8) (d:preB (fr w 1) (sub ([88,76,66,83,77,81,70,90]:ZB) k (k+1))=true) (b:1+ln (sub ([88,76,66,83,77,81,70,90]:ZB) k (k+1))=ln w):rdK w 2=some (Sign.mk 2 (k+1) 0 0 false 0 false false 0 0 0 0 false 0 0 0 0):=by
 rw [sub_one h.out.out.1 a] at b;rw [zkp,rd2,zT (pv.out c),zam h a d];exact zT b
theorem zzt (h:pv (jg w k 1)) (a:k<8) (c:preB (fr w 1) (sub ([88,76,66,83,77,81,70,90]:ZB) k (k+1))=true) (b:1+ln (sub ([88,76,66,83,77,81,70,90]:ZB) k (k+1))≠ln w):rdK w 2=none:=by
 rw [sub_one h.out.out.1 a] at b;rw [zkp,rd2];split
 .simp only [zam h a c];exact zF b
 .rfl
theorem z66 (h:pv (jg w k 1)) (a:8<=k):rdK w 2=none:=by
 rw [zkp,rd2];split
 .rw [zw4 h a]
 .rfl
theorem z4i (h:tk w 0 114=false):rdK w 2=none:=by rw [zkp,rd2,zF (qet h)]
theorem zkj (h:pv (tk w 0 46=true)) (a:(1:Int)=ln w):rdK w 3=some (Sign.mk 3 0 0 0 false 0 false false 0 0 0 0 false 0 0 0 0):=by rw [z2d,rd3,zT ⟨pv.out h,a⟩]
theorem zki (h:tk w 0 46=false∨(1:Int)≠ln w):rdK w 3=none:=by
 rw [z2d,rd3,zF];rintro ⟨a,b⟩;rcases h with h | h
 .rw [h] at a;cases a
 .exact h b
theorem zkk (g:pv (tk w 0 116=true)) (h:pv (qdk w i b p a c 1 false)) (m:pv (qaw w j k i)) (d:pv (qbt w e o j)) (n:qe3 w e 33=(l,y)) (q:b=false) (r:y=ln w) :
  rdK w 4=some (Sign.mk 4 0 p a c k o l 0 0 0 0 false 0 0 0 0):=by
 obtain ⟨_,s,t,u,v,x⟩:=Hold.out h;obtain ⟨_,z,A⟩:=Hold.out m;obtain ⟨_,B,C⟩:=Hold.out d;subst q;have f:=(zog v).2;subst s;subst t;subst u;subst x;subst z;subst A;subst B;subst C;rw [zt0,rd4];simp only [ziz,n];rw [zT ⟨pv.out g,f,r⟩]
theorem zzu (h:pv (qdk w i b p a c 1 false)) (m:pv (qaw w j k i)) (f:pv (qbt w e o j)) (n:qe3 w e 33=(l,y)) (d:b=true∨y≠ln w):rdK w 4=none:=by
 obtain ⟨_,v,x,z,g,q⟩:=Hold.out h;obtain ⟨_,A,r⟩:=Hold.out m;obtain ⟨_,B,s⟩:=Hold.out f;subst q;subst r;subst s;rw [zt0,rd4];simp only [ziz,n];rw [zF];rintro ⟨_,t,u⟩;rcases d with d | d
 .rw [d,t] at g;cases g
 .exact d u
theorem z4j (h:tk w 0 116=false):rdK w 4=none:=by rw [zt0,rd4,zF λa=>qet h a.1]
theorem zkl (a:pv (tk w 0 40=true)) (b:pv (tk w (1+qgk w) 41=true)) (c:qe3 w (1+qgk w+1) 124=(l,y)) (d:(qab (sub w 1 (1+qgk w))).2=0) (e:y=ln w) :
  rdK w 5=some (Sign.mk 5 0 0 0 false 0 false false (qab (sub w 1 (1+qgk w))).1.1 (qab (sub w 1 (1+qgk w))).1.2.1 (qab (sub w 1 (1+qgk w))).1.2.2.1 (qab (sub w 1 (1+qgk w))).1.2.2.2 l 0 0 0 0):=by
 rw [zt1,rd5];simp only [c,zhj];rw [zT ⟨pv.out a,d,pv.out b,e⟩]
theorem zzw (a:qe3 w (1+qgk w+1) 124=(l,y)) (h:(qab (sub w 1 (1+qgk w))).2≠0∨y≠ln w):rdK w 5=none:=by
 rw [zt1,rd5];simp only [a,zhj];rw [zF];rintro ⟨_,b,_,c⟩;rcases h with h | h
 .exact h b
 .exact h c
theorem zzv (h:tk w 0 40=false∨tk w (1+qgk w) 41=false):rdK w 5=none:=by
 rw [zt1,rd5,zF];rintro ⟨a,_,b,_⟩;rcases h with h | h
 .exact qet h a
 .exact qet h b
theorem qqw (h:pv (qp w e i)):qhp w i=(qz (sub w i e),e):=by
 obtain ⟨_,a⟩:=Hold.out h;subst a;rfl
theorem zkm (l:pv (qp w e 0)) (m:pv (b0=(false || !(qz (sub w 0 e)).2))) (d:pv (qbu w i b e b0)) (f:pv (qp w x i)) (g:pv (c=(b || !(qz (sub w i x)).2))) (n:c=false) (o:x=ln w) :
  rdK w 6=some (Sign.mk 6 0 0 0 false 0 false false 0 0 0 0 false (qz (sub w 0 e)).1 (qz (sub w i x)).1 0 0):=by
 subst n;obtain ⟨j,h⟩:=zog g;obtain ⟨_,⟨p,r,k⟩ | ⟨_,q⟩⟩:=Hold.out d
 .subst r;rw [j] at k;subst k;have a:=(zog m).2;rw [z2e,rd6];simp only [qqw l,qqw f];rw [zT ⟨a,p,h,o⟩]
 .rw [j] at q;cases q
theorem zzx (m:pv (qp w e 0)) (n:pv (b0=(false || !(qz (sub w 0 e)).2))) (g:pv (qbu w i b e b0)) (h:pv (qp w x i)) (j:pv (c=(b || !(qz (sub w i x)).2))) (a:c=true∨x≠ln w):rdK w 6=none:=by
 rw [z2e,rd6,zF];simp only [qqw m];rintro ⟨o,q,k,l⟩;obtain ⟨_,⟨p1,p2,r⟩ | ⟨p,_⟩⟩:=Hold.out g
 .subst p2;rw [qqw h] at k l;rcases a with a | a
  .have d:b0=(false || !(qz (sub w 0 e)).2):=n;have f:c=(b || !(qz (sub w (e+1) x)).2):=j;rw [o] at d;rw [a,k,r,d] at f;cases f
  .exact a l
 .exact qet p q
theorem zkn (f:pv (tk w 0 64=true)) (a:pv (qaf w i b k 1)) (g:pv (qp w x i)) (h:pv (c=(b || !(qz (sub w i x)).2))) (j:c=false) (l:x=ln w) :
  rdK w 7=some (Sign.mk 7 0 0 0 false 0 false false 0 0 0 0 false 0 0 k (qz (sub w i x)).1):=by
 subst j;obtain ⟨m,d⟩:=zog h;obtain ⟨_,⟨_,n,o⟩ | ⟨q,_⟩⟩:=Hold.out a
 .have e:i=2:=n;subst e;rw [zt2,rd7,zT (pv.out f),o];simp only [qqw g];rw [zT ⟨d,l⟩]
 .rw [m] at q;cases q
theorem zzy (e:pv (qaf w i b k 1)) (g:pv (qp w x i)) (h:pv (c=(b || !(qz (sub w i x)).2))) (a:c=true∨x≠ln w):rdK w 7=none:=by
 rw [zt2,rd7];split
 .obtain ⟨_,⟨j,l,m⟩ | ⟨_,q⟩⟩:=Hold.out e
  .have f:i=2:=l;subst f;rw [m];simp only [qqw g];rw [zF];rintro ⟨p1,p2⟩;rcases a with a | a
   .have d:c=(b || !(qz (sub w 2 x)).2):=h;rw [a,j,p1] at d;cases d
   .exact a p2
  .rw [q]
 .rfl
theorem z4k (h:tk w 0 64=false):rdK w 7=none:=by rw [zt2,rd7,zF (qet h)]
theorem qzs {b:UInt8} {n:Int} (d:rdK w n=rdN w b n) (e:pv (tk w 0 b=true)) (f:pv (qp w x 1)) (g:pv (c=(false || !(qz (sub w 1 x)).2))) (h:c=false) (i:x=ln w) :
  rdK w n=some (Sign.mk n 0 0 0 false 0 false false 0 0 0 0 false (qz (sub w 1 x)).1 0 0 0):=by
 subst h;obtain ⟨_,a⟩:=zog g;rw [d,rdN];simp only [qqw f];rw [zT ⟨pv.out e,a,i⟩]
theorem zko {d:UInt8} {n:Int} (e:rdK w n=rdN w d n) (f:pv (qp w x 1)) (g:pv (c=(false || !(qz (sub w 1 x)).2))) (a:c=true∨x≠ln w):rdK w n=none:=by
 rw [e,rdN,zF];simp only [qqw f];rintro ⟨_,h,i⟩;rcases a with a | a
 .have b:c=(false || !(qz (sub w 1 x)).2):=g;rw [a,h] at b;cases b
 .exact a i
theorem znt {a:UInt8} {n:Int} (b:rdK w n=rdN w a n) (h:tk w 0 a=false):rdK w n=none:=by rw [b,rdN,zF λc=>qet h c.1]
theorem qrf {p:ZB} {n:Int} (a:rdK w n=rdW w p n) (h:preB w p=true) (b:ln p=ln w):rdK w n=some (Sign.mk n 0 0 0 false 0 false false 0 0 0 0 false 0 0 0 0):=by rw [a,rdW,zT ⟨pv.out h,b⟩]
theorem qre {p:ZB} {n:Int} (a:rdK w n=rdW w p n) (h:preB w p=false∨ln p≠ln w):rdK w n=none:=by
 rw [a,rdW,zF];rintro ⟨b,c⟩;rcases h with h | h
 .exact qet h b
 .exact h c
end
theorem zup (w:ZB):0<=qgk w:=by unfold qgk;split<;>omega
theorem z4q {w:ZB} (h:1<=ln w):1+qgk w<=ln w:=by
 unfold qgk;split
 .rename_i a;simp only [qtf] at a ⊢;split at a
  .rename_i n b;have:=(List.findIdx?_eq_some_iff_getElem.1 b).1;simp only [fr,List.length_drop,ln] at *;omega
  .omega
 .omega
theorem z8b {w:ZB} {Q:Prop}:(tk w 0 40=true->Q)↔(pv (tk w 0 40=true)->0<=qgk w->1+qgk w<=ln w->Q):=
 ⟨λh t _ _=>h t,λh t=>h t (zup w) (z4q (by have:=qng t (zK _);omega))⟩
theorem z4p (w:ZB):(if qtf (fr w 1) 41 > 0 then qtf (fr w 1) 41 else 0)=qgk w:=rfl
set_option maxHeartbeats 16000000 in
theorem zqw (a0:ZB) (c:ln a0<=30000):q0d a0:=by
 unfold q0d qlo qpw qhs qpx qpy qpz;dsimp only;have r:ln ([]:ZB)=0:=rfl;have s:ln ([116,117,114,110]:ZB)=4:=rfl;have t:ln ([115,105,103]:ZB)=3:=rfl;have u:ln ([88,76,66,83,77,81,70,90]:ZB)=8:=rfl;have v:ln ([32,94,118,62]:ZB)=4:=rfl;have w:sub ([32,94,118,62]:ZB) 1 2=[94]:=rfl;have y:sub ([32,94,118,62]:ZB) 2 3=[118]:=rfl;have z:sub ([32,94,118,62]:ZB) 3 4=[62]:=rfl;simp only [r,s,t,u,v,w,y,z,z2i,Int.zero_add,z74,z4p,eq_self,true_and];clear r s t u v w y z;have A:=ln_nonneg a0;refine ⟨⟨⟨λj a b=>absurd a (by omega)⟩,trivial⟩,λi0=>⟨?_,λf=>⟨?_,λh=>⟨?_,λi=>⟨?_,λg=>⟨?_,λo=>⟨?_,λk=>⟨?_,λl=>⟨?_,λm=>⟨?_,λn=>⟨?_,λd=>⟨?_,λe=>⟨?_,λq=>?_⟩⟩⟩⟩⟩⟩⟩⟩⟩⟩⟩⟩⟩
 .simp only [zan,w0,w1,w2,w4,w5,w6,w7,qh]
  unhygienic (repeat' (first | exact trivial | (with_reducible exact rfl) | (with_reducible apply And.intro) | intro))
  all_goals first
   | omega
   | (with_reducible exact (pre_nil ‹_›).elim)
   | (with_reducible exact zdb)
   | (with_reducible exact zkx ‹_› ‹_› ‹_›)
   | (with_reducible exact zkw ‹_› ‹_›)
   | (with_reducible exact q3w ‹_› ‹_›)
   | (with_reducible exact q3v ‹_› ‹_›)
   | (with_reducible exact zew ‹_› ‹_›)
   | (with_reducible exact zev ‹_› ‹_›)
   | (with_reducible exact z84 ‹_› ‹_› ‹_› ‹_›)
   | (with_reducible exact z83 ‹_› ‹_›)
   | (with_reducible exact z69 ‹_› (by omega))
   | (with_reducible exact z68 ‹_› (by omega))
   | (with_reducible exact qn8 (by omega))
   | (with_reducible exact qrk ‹_› (by omega) ‹_› ‹_› ‹_›)
   | (with_reducible exact qri (by omega))
   | (with_reducible exact qw4 ‹_› ‹_›)
   | (with_reducible exact q6z ‹_› ‹_›)
   | (with_reducible exact q6y ‹_› ‹_›)
   | (with_reducible exact z7i ‹_›)
   | (with_reducible exact z0c ‹_›)
   | (with_reducible exact z0c rfl)
   | (with_reducible exact q5u c (by omega) ‹_› ‹_› ‹_›)
   | exact Int.le_trans (q8j c (by omega) ‹_› ‹_› ‹_›) (by decide)
   | (with_reducible exact z7j ‹_› (by omega))
   | (with_reducible exact z7k ‹_› ‹_› (by omega))
   | (with_reducible exact z7l ‹_› ‹_› ‹_› (by omega))
   | (with_reducible exact z7m ‹_› ‹_› ‹_› ‹_›)
   | exact qy6 1 i0 (by decide) (by decide) (zkg ‹_› ‹_› ‹_› ‹_› ‹_› (by first | exact qpl ‹_› | exact qpk ‹_›) ‹_› (by omega)) ‹_›
   | exact qy7 1 i0 (by decide) (by decide) (zkg ‹_› ‹_› ‹_› ‹_› ‹_› (by first | exact qpl ‹_› | exact qpk ‹_›) ‹_› (by omega)) ‹_›
   | exact qfj 1 i0 (zzs ‹_› ‹_› ‹_› ‹_› ‹_› (by first | exact qpl ‹_› | exact qpk ‹_›) (by first | (left;assumption) | (right;assumption) | (right;omega)))
   | fail "rest"
 .simp only [zan,w5,qh]
  unhygienic (repeat' (first | exact trivial | (with_reducible exact rfl) | (with_reducible apply And.intro) | intro))
  all_goals first
   | omega
   | (with_reducible exact (pre_nil ‹_›).elim)
   | (with_reducible exact zdb)
   | (with_reducible exact zkx ‹_› ‹_› ‹_›)
   | (with_reducible exact zkw ‹_› ‹_›)
   | (with_reducible exact q3w ‹_› ‹_›)
   | (with_reducible exact q3v ‹_› ‹_›)
   | (with_reducible exact zew ‹_› ‹_›)
   | (with_reducible exact zev ‹_› ‹_›)
   | exact qy6 2 f (by decide) (by decide) (zkh ‹_› ‹_› ‹_› ‹_› ‹_›) ‹_›
   | exact qy7 2 f (by decide) (by decide) (zkh ‹_› ‹_› ‹_› ‹_› ‹_›) ‹_›
   | exact qfj 2 f (zzt ‹_› ‹_› ‹_› ‹_›)
   | exact qfj 2 f (z66 ‹_› ‹_›)
   | exact qfj 2 f (z4i ‹_›)
   | fail "rest"
 .simp only [zan,qh]
  unhygienic (repeat' (first | exact trivial | (with_reducible exact rfl) | (with_reducible apply And.intro) | intro))
  all_goals first
   | omega
   | (with_reducible exact (pre_nil ‹_›).elim)
   | exact qy6 3 h (by decide) (by decide) (zkj ‹_› (by omega)) ‹_›
   | exact qy7 3 h (by decide) (by decide) (zkj ‹_› (by omega)) ‹_›
   | exact qfj 3 h (zki (.inl ‹_›))
   | exact qfj 3 h (zki (.inr (by omega)))
   | fail "rest"
 .simp only [zan,w0,w1,w2,w4,w7,w8,w9,w10,qh]
  unhygienic (repeat' (first | exact trivial | (with_reducible exact rfl) | (with_reducible apply And.intro) | intro))
  all_goals first
   | omega
   | (with_reducible exact (pre_nil ‹_›).elim)
   | (with_reducible exact z69 ‹_› (by omega))
   | (with_reducible exact z68 ‹_› (by omega))
   | (with_reducible exact qn8 (by omega))
   | (with_reducible exact qrk ‹_› (by omega) ‹_› ‹_› ‹_›)
   | (with_reducible exact qri (by omega))
   | (with_reducible exact qw4 ‹_› ‹_›)
   | (with_reducible exact q6z ‹_› ‹_›)
   | (with_reducible exact q6y ‹_› ‹_›)
   | (with_reducible exact z7i ‹_›)
   | (with_reducible exact z0c ‹_›)
   | (with_reducible exact z0c rfl)
   | (with_reducible exact q5u c (by omega) ‹_› ‹_› ‹_›)
   | exact Int.le_trans (q8j c (by omega) ‹_› ‹_› ‹_›) (by decide)
   | (with_reducible exact z7j ‹_› (by omega))
   | (with_reducible exact z7k ‹_› ‹_› (by omega))
   | (with_reducible exact z7l ‹_› ‹_› ‹_› (by omega))
   | (with_reducible exact z7m ‹_› ‹_› ‹_› ‹_›)
   | (with_reducible exact z86 ‹_› (by omega))
   | (with_reducible exact z88 ‹_› ‹_› (by omega))
   | (with_reducible exact z89 ‹_› ‹_› ‹_› (by omega))
   | (with_reducible exact z9a ‹_› ‹_› ‹_› ‹_›)
   | (with_reducible exact z7b ‹_› (by omega))
   | (with_reducible exact z7a ‹_› ‹_›)
   | exact z2j ‹_› ‹_› ‹_› ‹_› (qpl ‹_›) (by omega) (by omega)
   | exact z2j ‹_› ‹_› ‹_› ‹_› (qpk ‹_›) (by omega) (by omega)
   | exact qy6 4 i (by decide) (by decide) (zkk ‹_› ‹_› ‹_› ‹_› (by first | exact qpl ‹_› | exact qpk ‹_›) ‹_› (by omega)) ‹_›
   | exact qy7 4 i (by decide) (by decide) (zkk ‹_› ‹_› ‹_› ‹_› (by first | exact qpl ‹_› | exact qpk ‹_›) ‹_› (by omega)) ‹_›
   | exact qfj 4 i (zzu ‹_› ‹_› ‹_› (by first | exact qpl ‹_› | exact qpk ‹_›) (by first | (left;assumption) | (right;assumption) | (right;omega)))
   | exact qfj 4 i (z4j ‹_›)
   | fail "rest"
 .simp only [z8b,qh];simp only [zan]
  unhygienic (repeat' (first | exact trivial | (with_reducible exact rfl) | (with_reducible apply And.intro) | intro))
  all_goals first
   | omega
   | (with_reducible exact (pre_nil ‹_›).elim)
   | exact qlj c (by omega) (by omega) (by omega)
   | exact Int.le_trans (qlj c (by omega) (by omega) (by omega)) (by decide)
   | exact qy6 5 g (by decide) (by decide) (zkl ‹_› ‹_› (by first | exact qpl ‹_› | exact qpk ‹_›) ‹_› (by omega)) ‹_›
   | exact qy7 5 g (by decide) (by decide) (zkl ‹_› ‹_› (by first | exact qpl ‹_› | exact qpk ‹_›) ‹_› (by omega)) ‹_›
   | exact qfj 5 g (zzw (by first | exact qpl ‹_› | exact qpk ‹_›) (by first | (left;assumption) | (right;assumption) | (right;omega)))
   | exact qfj 5 g (zzv (.inl ‹_›))
   | exact qfj 5 g (zzv (.inr ‹_›))
   | fail "rest"
 .simp only [zan,w1,w2,w3,w11,qh]
  unhygienic (repeat' (first | exact trivial | (with_reducible exact rfl) | (with_reducible apply And.intro) | intro))
  all_goals first
   | omega
   | (with_reducible exact (pre_nil ‹_›).elim)
   | exact qlj c (by omega) (by omega) (by omega)
   | (with_reducible exact qn8 (by omega))
   | (with_reducible exact qrk ‹_› (by omega) ‹_› ‹_› ‹_›)
   | (with_reducible exact qri (by omega))
   | (with_reducible exact qw4 ‹_› ‹_›)
   | (with_reducible exact q6z ‹_› ‹_›)
   | (with_reducible exact q6y ‹_› ‹_›)
   | (with_reducible exact z0b ‹_›)
   | (with_reducible exact zda ‹_›)
   | (with_reducible exact zda rfl)
   | (with_reducible exact z7d ‹_› (by omega))
   | (with_reducible exact z7c ‹_› ‹_›)
   | exact qy6 6 o (by decide) (by decide) (zkm ‹_› ‹_› ‹_› ‹_› ‹_› ‹_› (by omega)) ‹_›
   | exact qy7 6 o (by decide) (by decide) (zkm ‹_› ‹_› ‹_› ‹_› ‹_› ‹_› (by omega)) ‹_›
   | exact qfj 6 o (zzx ‹_› ‹_› ‹_› ‹_› ‹_› (by first | (left;assumption) | (right;assumption) | (right;omega)))
   | fail "rest"
 .simp only [zan,w1,w2,w3,w12,qh]
  unhygienic (repeat' (first | exact trivial | (with_reducible exact rfl) | (with_reducible apply And.intro) | intro))
  all_goals first
   | omega
   | (with_reducible exact (pre_nil ‹_›).elim)
   | exact qlj c (by omega) (by omega) (by omega)
   | (with_reducible exact qn8 (by omega))
   | (with_reducible exact qrk ‹_› (by omega) ‹_› ‹_› ‹_›)
   | (with_reducible exact qri (by omega))
   | (with_reducible exact qw4 ‹_› ‹_›)
   | (with_reducible exact q6z ‹_› ‹_›)
   | (with_reducible exact q6y ‹_› ‹_›)
   | (with_reducible exact z0b ‹_›)
   | (with_reducible exact zda ‹_›)
   | (with_reducible exact zda rfl)
   | (with_reducible exact z7e ‹_›)
   | (with_reducible exact z7f ‹_› ‹_›)
   | (with_reducible exact z7g ‹_› ‹_› ‹_›)
   | (with_reducible exact z7h ‹_› ‹_› ‹_› (by omega))
   | exact qy6 7 k (by decide) (by decide) (zkn ‹_› ‹_› ‹_› ‹_› ‹_› (by omega)) ‹_›
   | exact qy7 7 k (by decide) (by decide) (zkn ‹_› ‹_› ‹_› ‹_› ‹_› (by omega)) ‹_›
   | exact qfj 7 k (zzy ‹_› ‹_› ‹_› (by first | (left;assumption) | (right;assumption) | (right;omega)))
   | exact qfj 7 k (z4k ‹_›)
   | fail "rest"
 .simp only [zan,w1,w2,w3,qh]
  unhygienic (repeat' (first | exact trivial | (with_reducible exact rfl) | (with_reducible apply And.intro) | intro))
  all_goals first
   | omega
   | (with_reducible exact (pre_nil ‹_›).elim)
   | exact qlj c (by omega) (by omega) (by omega)
   | (with_reducible exact qn8 (by omega))
   | (with_reducible exact qrk ‹_› (by omega) ‹_› ‹_› ‹_›)
   | (with_reducible exact qri (by omega))
   | (with_reducible exact qw4 ‹_› ‹_›)
   | (with_reducible exact q6z ‹_› ‹_›)
   | (with_reducible exact q6y ‹_› ‹_›)
   | (with_reducible exact z0b ‹_›)
   | (with_reducible exact zda ‹_›)
   | (with_reducible exact zda rfl)
   | exact qy6 8 l (by decide) (by decide) (qzs q6q ‹_› ‹_› ‹_› ‹_› (by omega)) ‹_›
   | exact qy7 8 l (by decide) (by decide) (qzs q6q ‹_› ‹_› ‹_› ‹_› (by omega)) ‹_›
   | exact qfj 8 l (zko q6q ‹_› ‹_› (by first | (left;assumption) | (right;assumption) | (right;omega)))
   | exact qfj 8 l (znt q6q ‹_›)
   | fail "rest"
 .skip
  unhygienic (repeat' (first | exact trivial | (with_reducible exact rfl) | (with_reducible apply And.intro) | intro))
  all_goals first
   | omega
   | (with_reducible exact (pre_nil ‹_›).elim)
   | exact qy6 9 m (by decide) (by decide) (qrf (p:=[91]) rfl ‹_› ‹_›) ‹_›
   | exact qy7 9 m (by decide) (by decide) (qrf (p:=[91]) rfl ‹_› ‹_›) ‹_›
   | exact qfj 9 m (qre (p:=[91]) rfl (.inl ‹_›))
   | exact qfj 9 m (qre (p:=[91]) rfl (.inr ‹_›))
   | fail "rest"
 .simp only [zan,w1,w2,w3,qh]
  unhygienic (repeat' (first | exact trivial | (with_reducible exact rfl) | (with_reducible apply And.intro) | intro))
  all_goals first
   | omega
   | (with_reducible exact (pre_nil ‹_›).elim)
   | exact qlj c (by omega) (by omega) (by omega)
   | (with_reducible exact qn8 (by omega))
   | (with_reducible exact qrk ‹_› (by omega) ‹_› ‹_› ‹_›)
   | (with_reducible exact qri (by omega))
   | (with_reducible exact qw4 ‹_› ‹_›)
   | (with_reducible exact q6z ‹_› ‹_›)
   | (with_reducible exact q6y ‹_› ‹_›)
   | (with_reducible exact z0b ‹_›)
   | (with_reducible exact zda ‹_›)
   | (with_reducible exact zda rfl)
   | exact qy6 10 n (by decide) (by decide) (qzs qwu ‹_› ‹_› ‹_› ‹_› (by omega)) ‹_›
   | exact qy7 10 n (by decide) (by decide) (qzs qwu ‹_› ‹_› ‹_› ‹_› (by omega)) ‹_›
   | exact qfj 10 n (zko qwu ‹_› ‹_› (by first | (left;assumption) | (right;assumption) | (right;omega)))
   | exact qfj 10 n (znt qwu ‹_›)
   | fail "rest"
 .skip
  unhygienic (repeat' (first | exact trivial | (with_reducible exact rfl) | (with_reducible apply And.intro) | intro))
  all_goals first
   | omega
   | (with_reducible exact (pre_nil ‹_›).elim)
   | exact qy6 11 d (by decide) (by decide) (qrf (p:=[116,117,114,110]) rfl ‹_› ‹_›) ‹_›
   | exact qy7 11 d (by decide) (by decide) (qrf (p:=[116,117,114,110]) rfl ‹_› ‹_›) ‹_›
   | exact qfj 11 d (qre (p:=[116,117,114,110]) rfl (.inl ‹_›))
   | exact qfj 11 d (qre (p:=[116,117,114,110]) rfl (.inr ‹_›))
   | fail "rest"
 .skip
  unhygienic (repeat' (first | exact trivial | (with_reducible exact rfl) | (with_reducible apply And.intro) | intro))
  all_goals first
   | omega
   | (with_reducible exact (pre_nil ‹_›).elim)
   | exact qy6 12 e (by decide) (by decide) (qrf (p:=[115,105,103]) rfl ‹_› ‹_›) ‹_›
   | exact qy7 12 e (by decide) (by decide) (qrf (p:=[115,105,103]) rfl ‹_› ‹_›) ‹_›
   | exact qfj 12 e (qre (p:=[115,105,103]) rfl (.inl ‹_›))
   | exact qfj 12 e (qre (p:=[115,105,103]) rfl (.inr ‹_›))
   | fail "rest"
 .exact z8r q
theorem q2j {s:Sign} (h:zg s=0):1<=s.Kind/\s.Kind<=12/\q18 s/\(s.Kind=5->qbe s.MensMax s.MensMod s.MensTem s.MensPro=0)/\qdg s/\¬ (s.Oblique=true/\s.Last=true):=by
 unfold zg at h;split at h
 .cases h
 .rename_i g;split at h
  .cases h
  .rename_i b;split at h
   .cases h
   .rename_i c;split at h
    .cases h
    .rename_i d;split at h
     .cases h
     .rename_i e;refine ⟨by omega,by omega,Decidable.not_not.1 b,λf=>?_,Decidable.not_not.1 d,e⟩;by_cases a:qbe s.MensMax s.MensMod s.MensTem s.MensPro=0
      .exact a
      .exact absurd ⟨f,a⟩ c
theorem ze5 {s:Sign} (h:zg s=0):qb6 s=(qa5 s,0):=by rw [qb6,zT h]
theorem qvz {s:Sign} (h:zg s≠0):qb6 s=([],zg s):=by rw [qb6,zF h]
theorem zlf {a b c d:Int} (h:qbe a b c d=0):qdc a b c d=(qah a b c d,0):=by rw [qdc,zT h]
theorem q30 (a b c d:Int):(qah a b c d).length<=4:=by
 unfold qah;have e:=qzo a;have f:=qzo b;have g:=zle c;have h:=zk7 d
 split<;>simp only [List.length_append,List.length_nil]<;>omega
theorem qu7 (v:Int):(ltr v).length<=8:=by unfold ltr zn1 sub;simp only [List.length_drop,List.length_take,List.length_cons,List.length_nil];omega
theorem zuc {v:Int} (h:1<=v/\v<=8):qnq v=(ltr v,0):=by rw [qnq,zF (by omega)]
theorem zz3 (v:Int):(qnq v).1.length<=8:=by
 unfold qnq;split
 .simp
 .exact qu7 v
theorem z1i {k:Int} (h:k=0∨k=3∨k=4):ix ([[67],[],[],[70],[71]]:List ZB) k=qmm k:=by
 rcases h with rfl | rfl | rfl<;>rfl
theorem zer (k:Int):(qmm k).length<=1:=by unfold qmm;(repeat' split)<;>simp
set_option maxHeartbeats 4000000 in
theorem zrb (a0 f a2 a3:Int) (a4:Bool) (a5:Int) (n o:Bool) (k a9 b c:Int) (a12:Bool) (g i d j:Int):q0k a0 f a2 a3 a4 a5 n o k a9 b c a12 g i d j:=by
 unfold q0k;dsimp only;refine ⟨trivial,λh=>⟨by rw [qvz h],by rw [qvz h],trivial⟩,λh=>⟨trivial,?_⟩⟩;obtain ⟨s,t,_,l,p,_⟩:=q2j h;have w:=quy (Sign.mk a0 f a2 a3 a4 a5 n o k a9 b c a12 g i d j);unfold qdg at p;simp only at s t l p;simp only [ze5 h,qa5];have y:=zz3 f;have z:=q30 k a9 b c;have A:=qas g;have B:=qas i;have C:=qas j;have D:=zer d;have u:ln ([[67],[],[],[70],[71]]:List ZB)=5:=rfl;have q:a0=5->qdc k a9 b c=(qah k a9 b c,0):=λe=>zlf (l e);have v:a0=1->qnq f=(ltr f,0):=λe=>zuc (by omega);have m:a0=2->qnq f=(ltr f,0):=λe=>zuc (by omega);have r:a0=7->ix ([[67],[],[],[70],[71]]:List ZB) d=qmm d:=λe=>z1i (by omega);clear l;simp only [qh,List.length_append,List.length_cons,List.length_nil]
 unhygienic (repeat' (first | exact trivial | exact And.intro (by omega) trivial | apply And.intro | intro))
 all_goals try subst_vars
 all_goals first
  | omega
  | (simp only [q rfl];omega)
  | (simp only [r rfl];omega)
  | (rw [v rfl];simp;done)
  | (rw [m rfl];simp;done)
  | (rw [q rfl];simp [zu];done)
  | (rw [r rfl];simp;done)
  | (simp;done)
  | (simp [*];done)
theorem zuk {v:Int} (h:1<=v/\v<=8):[UInt8.ofNat (Int.toNat (bx ([88,76,66,83,77,81,70,90]:ZB) (v-1)))]=ltr v/\U8 (bx ([88,76,66,83,77,81,70,90]:ZB) (v-1)):=by
 have a:v=1∨v=2∨v=3∨v=4∨v=5∨v=6∨v=7∨v=8:=by omega
 rcases a with rfl | rfl | rfl | rfl | rfl | rfl | rfl | rfl<;>exact ⟨rfl,by decide⟩
theorem zwn {k:Int} (h:0<k/\k<=3):sub ([32,94,118,62]:ZB) k (k+1)=qia k:=by
 have a:k=1∨k=2∨k=3:=by omega
 rcases a with rfl | rfl | rfl<;>rfl
theorem zpq {k:Int} (h:¬ 0<k) (a:0<=k):qia k=[]:=by
 obtain rfl:k=0:=by omega
 rfl
theorem zx4 {k:Int} (h:k=0∨k=3∨k=4):[UInt8.ofNat (Int.toNat (bx ([67,46,46,70,71]:ZB) k))]=qmm k/\U8 (bx ([67,46,46,70,71]:ZB) k):=by
 rcases h with rfl | rfl | rfl<;>exact ⟨rfl,by decide⟩
theorem qgo (a:Int):qnk a=acA a++acB a++acC a:=by
 unfold qnk acA acB acC;by_cases b:a = -1
 .simp [b]
 .by_cases c:a=1
  .simp [c]
  .simp [b,c]
theorem zi8 (a:Int):(acA a).length<=1:=by unfold acA;split<;>simp
theorem zi9 (a:Int):(acB a).length<=1:=by unfold acB;split<;>simp
theorem zja (a:Int):(acC a).length<=1:=by unfold acC;split<;>simp
theorem z8c (g a2 a3:Int) (a4:Bool) (a5:Int) (h i:Bool) (j a9 a b:Int) (a12:Bool) (c d e f:Int):qa5 (Sign.mk 1 g a2 a3 a4 a5 h i j a9 a b a12 c d e f)=ltr g++(qi a2++(acA a3++acB a3++acC a3)++q4s a4):=by
 simp [qa5,qfm,qdw,qgo]
theorem z8d (g a2 a3:Int) (a4:Bool) (a5:Int) (h i:Bool) (j a9 a b:Int) (a12:Bool) (c d e f:Int):qa5 (Sign.mk 2 g a2 a3 a4 a5 h i j a9 a b a12 c d e f)=[114]++ltr g:=by
 simp [qa5,qfm,qdw,qgo]
theorem z8e (g a2 a3:Int) (a4:Bool) (a5:Int) (h i:Bool) (j a9 a b:Int) (a12:Bool) (c d e f:Int):qa5 (Sign.mk 3 g a2 a3 a4 a5 h i j a9 a b a12 c d e f)=[46]:=by
 simp [qa5,qfm,qdw,qgo]
theorem z8f (i a2 a3:Int) (a4:Bool) (a5:Int) (g h:Bool) (j a9 a b:Int) (a12:Bool) (c d e f:Int):qa5 (Sign.mk 4 i a2 a3 a4 a5 g h j a9 a b a12 c d e f)=[116]++(qi a2++(acA a3++acB a3++acC a3)++q4s a4)++qia a5++zu g 126++zu h 33:=by
 simp [qa5,qfm,qdw,qgo]
theorem z8g (h a2 a3:Int) (a4:Bool) (a5:Int) (i j:Bool) (g a9 a b:Int) (a12:Bool) (c d e f:Int):qa5 (Sign.mk 5 h a2 a3 a4 a5 i j g a9 a b a12 c d e f)=[40]++qah g a9 a b++[41]++zu a12 124:=by
 simp [qa5,qfm,qdw,qgo]
theorem z8h (g a2 a3:Int) (a4:Bool) (a5:Int) (h i:Bool) (j a9 c d:Int) (a12:Bool) (a b e f:Int):qa5 (Sign.mk 6 g a2 a3 a4 a5 h i j a9 c d a12 a b e f)=qi a++[47]++qi b:=by
 simp [qa5,qfm,qdw,qgo]
theorem z8i (g a2 a3:Int) (a4:Bool) (a5:Int) (h i:Bool) (j a9 c d:Int) (a12:Bool) (e f a b:Int):qa5 (Sign.mk 7 g a2 a3 a4 a5 h i j a9 c d a12 e f a b)=[64]++qmm a++qi b:=by
 simp [qa5,qfm,qdw,qgo]
theorem z8j (g a2 a3:Int) (a4:Bool) (a5:Int) (h i:Bool) (j a9 b c:Int) (a12:Bool) (a d e f:Int):qa5 (Sign.mk 8 g a2 a3 a4 a5 h i j a9 b c a12 a d e f)=[38]++qi a:=by
 simp [qa5,qfm,qdw,qgo]
theorem z8k (g a2 a3:Int) (a4:Bool) (a5:Int) (h i:Bool) (j a9 a b:Int) (a12:Bool) (c d e f:Int):qa5 (Sign.mk 9 g a2 a3 a4 a5 h i j a9 a b a12 c d e f)=[91]:=by
 simp [qa5,qfm,qdw,qgo]
theorem z55 (g a2 a3:Int) (a4:Bool) (a5:Int) (h i:Bool) (j a9 b c:Int) (a12:Bool) (a d e f:Int):qa5 (Sign.mk 10 g a2 a3 a4 a5 h i j a9 b c a12 a d e f)=[93]++qi a:=by
 simp [qa5,qfm,qdw,qgo]
theorem z56 (g a2 a3:Int) (a4:Bool) (a5:Int) (h i:Bool) (j a9 a b:Int) (a12:Bool) (c d e f:Int):qa5 (Sign.mk 11 g a2 a3 a4 a5 h i j a9 a b a12 c d e f)=[116,117,114,110]:=by
 simp [qa5,qfm,qdw,qgo]
theorem z57 (g a2 a3:Int) (a4:Bool) (a5:Int) (h i:Bool) (j a9 a b:Int) (a12:Bool) (c d e f:Int):qa5 (Sign.mk 12 g a2 a3 a4 a5 h i j a9 a b a12 c d e f)=[115,105,103]:=by
 simp [qa5,qfm,qdw,qgo]
set_option maxHeartbeats 8000000 in
theorem zq8 (a0 q a2 a3:Int) (a4:Bool) (a5:Int) (y D:Bool) (z a9 r s:Int) (a12:Bool) (b o n p:Int):q0j a0 q a2 a3 a4 a5 y D z a9 r s a12 b o n p:=by
 unfold q0j;dsimp only;refine ⟨trivial,λh=>⟨by rw [qvz h],by rw [qvz h],trivial⟩,λh=>?_⟩;obtain ⟨i,j,_,d,w,_⟩:=q2j h;unfold qdg at w;simp only at i j d w;have c:a0=1∨a0=2->1<=q/\q<=8:=by omega
 have f:a0=1∨a0=4->-4<=a2/\a2<=12:=by omega
 have k:a0=4->0<=a5/\a5<=3:=by omega
 have l:a0=6->1<=b/\b<=100/\1<=o/\o<=100:=by omega
 have m:a0=7->(n=0∨n=3∨n=4)/\1<=p/\p<=5:=by omega
 have g:a0=8∨a0=10->0<=b/\b<=4:=by omega
 clear w;simp only [ze5 h,qh,List.length_append,List.length_cons,List.length_nil,ln,List.nil_append,qed,qee,qef,qeg,qeh,ztp,forall_eq];clear h;refine ⟨by omega,λe=>by omega,λe=>?_,λe=>?_,λe=>?_,λe=>?_,λe=>?_,λe=>?_,λe=>?_,λe=>?_,λe=>?_,λe=>?_,λe=>?_,λe=>?_,trivial⟩
 .subst e;obtain ⟨t,A⟩:=zuk (c (.inl rfl));have E:=c (.inl rfl);have F:=f (.inl rfl);have G:=qu7 q;have H:=qas a2;have I:=zi8 a3;have J:=zi9 a3;have K:=zja a3;clear c f k l m g d i j;simp only [t,z8c]
  unhygienic (repeat' (first | exact trivial | (with_reducible exact rfl) | (with_reducible apply And.intro) | intro))
  all_goals first
   | omega
   | (subst_vars;simp [acA,acB,acC,q4s,zu];done)
   | (simp [*,acA,acB,acC,q4s,zu];done)
 .subst e;obtain ⟨t,A⟩:=zuk (c (.inr rfl));have E:=c (.inr rfl);have G:=qu7 q;clear c f k l m g d i j;simp only [t,z8d]
  unhygienic (repeat' (first | exact trivial | (with_reducible exact rfl) | (with_reducible apply And.intro) | intro))
  all_goals first
   | omega
   | (subst_vars;simp [zu];done)
   | (simp [*,zu];done)
 .subst e;clear c f k l m g d i j;simp only [z8e]
  unhygienic (repeat' (first | exact trivial | (with_reducible exact rfl) | (with_reducible apply And.intro) | intro))
  all_goals first
   | omega
   | (subst_vars;simp [zu];done)
   | (simp [*,zu];done)
 .subst e;have F:=f (.inr rfl);have B:=k rfl;have H:=qas a2;have I:=zi8 a3;have J:=zi9 a3;have K:=zja a3;have O:=qu8 y 126;have P:=q3s a5;have u:0<a5->sub ([32,94,118,62]:ZB) a5 (a5+1)=qia a5:=λe=>zwn ⟨e,B.2⟩;have v:a5<=0->qia a5=[]:=λe=>zpq (by omega) B.1;clear c f k l m g d i j;simp only [z8f]
  unhygienic (repeat' (first | exact trivial | (with_reducible exact rfl) | (with_reducible apply And.intro) | intro))
  all_goals first
   | omega
   | (rw [u ‹_›];omega)
   | (rw [u ‹_›];done)
   | (rw [v ‹_›];simp;done)
   | (subst_vars;simp [acA,acB,acC,q4s,zu];done)
   | (simp [*,acA,acB,acC,q4s,zu];done)
 .subst e;have L:=zlf (d rfl);have Q:=q30 z a9 r s;clear c f k l m g d i j;simp only [L,z8g]
  unhygienic (repeat' (first | exact trivial | (with_reducible exact rfl) | (with_reducible apply And.intro) | intro))
  all_goals first
   | omega
   | (subst_vars;simp [zu];done)
   | (simp [*,zu];done)
 .subst e;have R:=l rfl;have C:=qas b;have S:=qas o;clear c f k l m g d i j;simp only [z8h]
  unhygienic (repeat' (first | exact trivial | (with_reducible exact rfl) | (with_reducible apply And.intro) | intro))
  all_goals first
   | omega
   | (subst_vars;simp [zu];done)
   | (simp [*,zu];done)
 .subst e;have M:=m rfl;obtain ⟨t,A⟩:=zx4 M.1;have T:=qas p;have U:=zer n;clear c f k l m g d i j;simp only [t,z8i]
  unhygienic (repeat' (first | exact trivial | (with_reducible exact rfl) | (with_reducible apply And.intro) | intro))
  all_goals first
   | omega
   | (subst_vars;simp [zu];done)
   | (simp [*,zu];done)
 .subst e;have N:=g (.inl rfl);have C:=qas b;clear c f k l m g d i j;simp only [z8j]
  unhygienic (repeat' (first | exact trivial | (with_reducible exact rfl) | (with_reducible apply And.intro) | intro))
  all_goals first
   | omega
   | (subst_vars;simp [zu];done)
   | (simp [*,zu];done)
 .subst e;clear c f k l m g d i j;simp only [z8k]
  unhygienic (repeat' (first | exact trivial | (with_reducible exact rfl) | (with_reducible apply And.intro) | intro))
  all_goals first
   | omega
   | (subst_vars;simp [zu];done)
   | (simp [*,zu];done)
 .subst e;have N:=g (.inr rfl);have C:=qas b;clear c f k l m g d i j;simp only [z55]
  unhygienic (repeat' (first | exact trivial | (with_reducible exact rfl) | (with_reducible apply And.intro) | intro))
  all_goals first
   | omega
   | (subst_vars;simp [zu];done)
   | (simp [*,zu];done)
 .subst e;clear c f k l m g d i j;simp only [z56]
  unhygienic (repeat' (first | exact trivial | (with_reducible exact rfl) | (with_reducible apply And.intro) | intro))
  all_goals first
   | omega
   | (subst_vars;simp [zu];done)
   | (simp [*,zu];done)
 .subst e;clear c f k l m g d i j;simp only [z57]
  unhygienic (repeat' (first | exact trivial | (with_reducible exact rfl) | (with_reducible apply And.intro) | intro))
  all_goals first
   | omega
   | (subst_vars;simp [zu];done)
   | (simp [*,zu];done)
theorem qzy (s:Sign):Sign.mk s.Kind s.Value s.Place s.Acc s.Color s.Stem s.Oblique s.Last s.MensMax s.MensMod s.MensTem s.MensPro s.Stroke s.N s.D s.ClefStep s.ClefLine=s:=rfl
theorem q77 (a0 b:ZB):qoe a0 b:=by
 unfold qoe qcf;have n0:=ln_nonneg a0;have n1:=ln_nonneg b;refine ⟨λh=>⟨⟨n1,h⟩,λa=>?_,λa=>⟨⟨n1,h⟩,?_,?_,trivial⟩⟩,λh=>?_⟩
 .rw [zF (λc=>a c.2)];exact ⟨rfl,rfl,trivial⟩
 .rw [zT ⟨h,a⟩]
 .rw [zT ⟨h,a⟩]
 .rw [zF (by omega)];exact ⟨rfl,rfl,trivial⟩
section
variable {a0:List ZB} {W:List ZB} {i:Int} {S:List Sign}
theorem sf0:qaa a0 0 []:=⟨zK _,ln_nonneg _,rfl,by rw [qc9]⟩
theorem z07 (b:List ZB):∀ w ∈ qg9 b,w ∈ b:=by
 intro w a;unfold qg9 at a;split at a
 .exact List.mem_of_mem_drop (List.mem_of_mem_take a)
 .exact List.mem_of_mem_drop a
theorem z5k (a0:List ZB):ln (qg9 a0)<=ln a0:=by
 unfold qg9;split
 .simp only [upto,Go.E3.fr,ln,List.length_take,List.length_drop];omega
 .simp only [Go.E3.fr,ln,List.length_drop];omega
theorem q3t (j:qg9 a0=W) (g:qi4 a0) {a c:Int} {d:Bool} (k:kc a0=(Staff.mk (qkb W []).1 a d c,(qkb W []).2)) (h:qaa a0 i S) :
  (i<ln W->Wn i (ln W)/\ln (ix W i)<=30000/\((zl (ix W i)).2≠0->S=(kc a0).1.Signs/\a=(kc a0).1.Lead/\d=(kc a0).1.Catch/\c=(kc a0).1.Custos/\false=(kc a0).2/\True)/\
    ((zl (ix W i)).2=0->True/\qh (S.length + [(zl (ix W i)).1].length)/\I64 (i+1)/\qaa a0 (i+1) (S++[(zl (ix W i)).1])/\qa1 a0 (i+1) (S++[(zl (ix W i)).1])<qa1 a0 i S))/\
  (ln W<=i->S=(kc a0).1.Signs/\a=(kc a0).1.Lead/\d=(kc a0).1.Catch/\c=(kc a0).1.Custos/\true=(kc a0).2/\True):=by
 obtain ⟨e,m,n,b⟩:=h;subst j;rw [k];have o:=z5k a0;have l:=g.1;refine ⟨λhi=>⟨⟨e,hi⟩,g.2 _ (z07 a0 _ (qam e hi)),λf=>?_,λf=>?_⟩,λhi=>?_⟩
 .rw [j5 e hi] at b;simp only [qkb,zT f] at b;rw [<-b];exact ⟨rfl,rfl,rfl,rfl,rfl,trivial⟩
 .rw [j5 e hi] at b;simp only [qkb,f,ne_eq,not_true_eq_false,if_false] at b;exact ⟨trivial,kk (by omega),⟨by omega,by omega⟩,⟨by omega,by omega,by rw [qca];omega,b⟩,by simp only [qa1];omega⟩
 .rw [qcn hi] at b;simp only [qkb] at b;rw [<-b];exact ⟨rfl,rfl,rfl,rfl,rfl,trivial⟩
end
theorem zim (a0:List ZB) (g:qi4 a0):qtu a0:=by
 unfold qtu;dsimp only;simp only [qzy];have n0:=ln_nonneg a0;have u:=g.1;refine ⟨λh=>?_,λh=>⟨⟨by omega,by omega⟩,λj=>?_,λj=>⟨⟨by omega,by omega⟩,?_,λn=>?_,λn=>⟨⟨by omega,h⟩,λp=>?_,λp=>?_⟩⟩⟩⟩
 .unfold kc;rw [zT h];exact ⟨rfl,rfl,rfl,rfl,rfl,trivial⟩
 .unfold kc;rw [zF (by omega),zT j];exact ⟨rfl,rfl,rfl,rfl,rfl,trivial⟩
 .exact Int.le_trans (g.2 _ (qam (by omega) (by omega))) (by decide)
 .unfold kc;rw [zF (by omega),zF (by rw [j];simp),zT n];exact ⟨rfl,rfl,rfl,rfl,rfl,trivial⟩
 .have v:ln (fr a0 2)=ln a0-2:=qkg (by omega) h;have i0:Wn (ln (fr a0 2)-1) (ln (fr a0 2)):=⟨by omega,by omega⟩;have o:I64 (ln (fr a0 2)-1):=⟨by omega,by omega⟩;have c:kc a0=if qwn a0=true then (if (q8y a0).2=false then (Staff.mk [] (qz (ix a0 1)).1 false (q8y a0).1,false) else (Staff.mk (qkb (qg9 a0) []).1 (qz (ix a0 1)).1 true (q8y a0).1,(qkb (qg9 a0) []).2))
    else (Staff.mk (qkb (qg9 a0) []).1 (qz (ix a0 1)).1 false 0,(qkb (qg9 a0) []).2):=by
   unfold kc;rw [zF (by omega),zF (by rw [j];simp),zF (by simp [n])]
  have s:ix (fr a0 2) (ln (fr a0 2)-1) ∈ a0:=List.mem_of_mem_drop (qam i0.1 i0.2);refine ⟨o,i0,trivial,λi=>?_,λi=>?_⟩
  .have e:qwn a0=true:=by unfold qwn zhh;rw [i,decide_eq_true p];rfl
   have k:1<=ln (ix (fr a0 2) (ln (fr a0 2)-1)):=by
    unfold preB at i;simp only [zA,decide_eq_true_eq] at i;exact i.1
   have t:q8y a0=qan (fr (ix (fr a0 2) (ln (fr a0 2)-1)) 1):=rfl;rw [zT e,t] at c;refine ⟨o,i0,⟨by omega,k⟩,?_,λl=>?_,λl=>⟨o,⟨i0.1,by omega⟩,sf0,λq r hi=>?_⟩⟩
   .have:=g.2 _ s;rw [qkg (by omega) k];omega
   .rw [zT l] at c;rw [c,l];exact ⟨rfl,rfl,rfl,rfl,rfl,trivial⟩
   .rw [zF (by simp [l])] at c;have f:qg9 a0=upto (fr a0 2) (ln (fr a0 2)-1):=by unfold qg9;rw [zT e]
    rw [f] at c;obtain ⟨a,m⟩:=q3t f g c hi;rw [l];exact ⟨λb=>⟨(a b).1,(a b).2.1,(a b).2.2.1,λd=>⟨((a b).2.2.2 d).1,((a b).2.2.2 d).2.1,((a b).2.2.2 d).2.2.1,trivial,trivial,trivial,((a b).2.2.2 d).2.2.2⟩⟩,m⟩
  .have e:qwn a0=false:=by unfold qwn zhh;rw [i];simp
   have f:qg9 a0=fr a0 2:=by unfold qg9;rw [zF (by simp [e])]
   rw [zF (by simp [e]),f] at c;refine ⟨sf0,λq r hi=>?_⟩;obtain ⟨a,m⟩:=q3t f g c hi;exact ⟨λb=>⟨(a b).1,(a b).2.1,(a b).2.2.1,λd=>⟨((a b).2.2.2 d).1,((a b).2.2.2 d).2.1,((a b).2.2.2 d).2.2.1,trivial,((a b).2.2.2 d).2.2.2⟩⟩,m⟩
 .have e:qwn a0=false:=by unfold qwn;rw [decide_eq_false (by omega)];rfl
  have f:qg9 a0=fr a0 2:=by unfold qg9;rw [zF (by simp [e])]
  have c:kc a0=(Staff.mk (qkb (fr a0 2) []).1 (qz (ix a0 1)).1 false 0,(qkb (fr a0 2) []).2):=by
   unfold kc;rw [zF (by omega),zF (by rw [j];simp),zF (by simp [n]),zF (by simp [e]),f]
  refine ⟨sf0,λq r hi=>?_⟩;obtain ⟨a,m⟩:=q3t f g c hi;exact ⟨λb=>⟨(a b).1,(a b).2.1,(a b).2.2.1,λd=>⟨((a b).2.2.2 d).1,((a b).2.2.2 d).2.1,((a b).2.2.2 d).2.2.1,trivial,((a b).2.2.2 d).2.2.2⟩⟩,m⟩
section
variable {t:ZB} {i n:Int} {P g:List Page} {Q:List Staff}
theorem qnb (h:qbc t=qwe):([]:ZB)=(qbc t).1.1/\([]:List Page)=(qbc t).1.2/\(3:Int)=(qbc t).2.1/\(0:Int)=(qbc t).2.2/\True:=by rw [h];exact ⟨rfl,rfl,rfl,rfl,trivial⟩
theorem zk6 (a:qbc t=znf t (some g)):((jy (nmK t) g).2≠0->([]:ZB)=(qbc t).1.1/\([]:List Page)=(qbc t).1.2/\(3:Int)=(qbc t).2.1/\(0:Int)=(qbc t).2.2/\True)/\
  ((jy (nmK t) g).2=0->((jy (nmK t) g).1≠t->([]:ZB)=(qbc t).1.1/\([]:List Page)=(qbc t).1.2/\(3:Int)=(qbc t).2.1/\(0:Int)=(qbc t).2.2/\True)/\
    ((jy (nmK t) g).1=t->nmK t=(qbc t).1.1/\g=(qbc t).1.2/\(0:Int)=(qbc t).2.1/\(0:Int)=(qbc t).2.2/\True)):=by
 simp only [znf] at a;refine ⟨λh=>qnb ?_,λh=>⟨λb=>qnb ?_,λb=>?_⟩⟩
 .rw [a,zF (λc=>h c.1)]
 .rw [a,zF (λc=>b c.2)]
 .rw [a,zT ⟨h,b⟩];exact ⟨rfl,rfl,rfl,rfl,trivial⟩
theorem z4l (h:ln t<=20000):ln (qg0 t)<=20001:=by
 unfold qg0;rw [qpa];have:=List.countP_le_length (p:=λb:UInt8=>decide ((b.toNat:Int)=10)) (l:=t);simp only [ln] at h;omega
theorem zx1 {r:ZB} (h:r ∈ qgg t):r ∈ qg0 t:=by
 unfold qgg sub at h;exact List.mem_of_mem_take (List.mem_of_mem_drop h)
end
theorem zl6 (a0:ZB) (o:okP a0):qv7 a0:=by
 unfold qv7;dsimp only;have q:bx ([10]:ZB) 0=10:=rfl;have r:bx ([32]:ZB) 0=32:=rfl;have z:splitI 10 a0=qg0 a0:=rfl;have A:sub (qg0 a0) 1 (ln (qg0 a0)-2)=qgg a0:=rfl;have B:(qcf (ix (qg0 a0) 0) ([98,111,111,107,32]:ZB)).1=nmK a0:=rfl;simp only [q,r,z,A,B];have C:1<=ln (qg0 a0):=qtt _ _;refine ⟨⟨rfl,o.1⟩,⟨by omega,by omega⟩,trivial,λh=>qnb ?_,λh=>⟨λp=>qnb ?_,λp=>⟨λx=>qnb ?_,λx=>?_⟩⟩⟩
 .unfold qbc;rw [zT h]
 .unfold qbc;rw [zF (by omega),zT p]
 .unfold qbc;rw [zF (by omega),zF (by rw [p];simp),zT x]
 .have g:qbc a0=znf a0 (qy5 (qgg a0)):=by unfold qbc;rw [zF (by omega),zF (by rw [p];simp),zF (by omega)]
  have I:=z4l h;have J:ln (qgg a0)<=ln (qg0 a0):=by
   show ln (sub (qg0 a0) 1 (ln (qg0 a0)-2))<=_;rw [qwz (by omega) (by omega) (by omega)];omega
  have m:ln (nmK a0)<=1000000:=by
   have e:ln (ix (qg0 a0) 0)<=ln a0:=qb5 (c:=10) (show ix (qg0 a0) 0 ∈ qg0 a0 from qam (by omega) (by omega));show ln (qcf (ix (qg0 a0) 0) qkm).1<=1000000;unfold qcf;split
   .simp only [Go.E3.fr,ln,List.length_drop] at *;omega
   .show ln (ix (qg0 a0) 0)<=_;omega
  have d:∀ i,0<=i->i<ln (qgg a0)->ln (ix (qgg a0) i)<=100000000/\qi4 (splitI 32 (ix (qgg a0) i)):=by
   intro i D hi;have y:=zx1 (qam D hi);exact ⟨Int.le_trans (qb5 y) (by omega),(o.2 h).1 _ y⟩
  refine ⟨⟨by omega,by omega⟩,⟨by omega,by omega,by omega⟩,λj=>⟨⟨by omega,j⟩,λs=>?_,λs=>?_⟩,λj=>?_⟩
  .have a:qy5 (qgg a0)=qtq (fr (qgg a0) 1) [] []:=by
    have:qgg a0=ix (qgg a0) 0::fr (qgg a0) 1:=by
     have:=j5 (l:=qgg a0) (i:=0) (by omega) j;rw [qc9] at this;exact this
    rw [this,qy5,zT s];rfl
   refine ⟨⟨zK _,by omega,rfl,by decide,by decide,a.symm⟩,λE K F G hi=>?_⟩;obtain ⟨i0,L,n,M,N,b⟩:=hi;have O:=ln_nonneg F;have P:=ln_nonneg G;refine ⟨λk=>⟨⟨by omega,k⟩,λt=>?_,λt=>?_⟩,λk=>?_⟩
   .rw [j5 (by omega) k] at b;simp only [qtq,zT t] at b;exact ⟨n,trivial,kk (by omega),⟨by omega,by omega⟩,by trivial,by trivial,⟨by omega,by omega,rfl,by rw [qca];omega,by simp only [jc];omega,b⟩,by simp only [qdt];omega⟩
   .obtain ⟨u,v⟩:=d E (by omega) k;rw [j5 (by omega) k] at b;simp only [qtq,zF t] at b;refine ⟨⟨rfl,u⟩,v,λw=>qnb ?_,λw=>⟨⟨by omega,by omega⟩,λH=>by omega,λH=>?_⟩⟩
    .rw [zF (by rw [w];simp)] at b;rw [g,<-b];rfl
    .rw [zT w] at b;exact ⟨⟨by omega,by omega⟩,⟨by omega,by omega⟩,by omega,n,trivial,kk (by omega),n,⟨by omega,by omega⟩,by trivial,by trivial,⟨by omega,by omega,n,by omega,by rw [qca];omega,b⟩,by simp only [qdt];omega⟩
   .rw [qcn k] at b;simp only [qtq] at b;rw [<-b] at g;exact ⟨n,trivial,kk (by omega),⟨m,(o.2 h).2 _ b.symm⟩,zk6 g⟩
  .have a:qy5 (qgg a0)=none:=by
    have:qgg a0=ix (qgg a0) 0::fr (qgg a0) 1:=by
     have:=j5 (l:=qgg a0) (i:=0) (by omega) j;rw [qc9] at this;exact this
    rw [this,qy5,zF s]
   have f:qbc a0=qwe:=by rw [g,a];rfl
   obtain ⟨u,v⟩:=d 0 (by omega) j;exact ⟨⟨rfl,u⟩,v,λ_=>qnb f,λ_=>qnb f⟩
  .have a:qy5 (qgg a0)=some []:=by rw [zz7 j];rfl
   rw [a] at g;exact ⟨⟨m,(o.2 h).2 _ a⟩,zk6 g⟩
theorem zpr (k:Int):(qmm k).length<=1:=by unfold qmm;(repeat' split)<;>simp
theorem qeq (l m:ZB) {i j k:Nat} (a:l.length<=i) (b:m.length<=j) (h:i+j<=k):(l++m).length<=k:=by rw [List.length_append];omega
theorem zwy (s:Sign):(qfm s).length<=10:=
 qeq _ _ (qeq _ _ (qeq _ _ (qeq _ _ (i:=1) (zN _) (quy s) (zN 7)) (q3s _) (zN 8)) (qu8 _ _) (zN 9)) (qu8 _ _) (zN 10)
theorem zp6 (s:Sign):(qa5 s).length<=30:=by
 unfold qa5;split
 .exact qeq _ _ (qu7 _) (quy s) (by decide)
 split
 .exact qeq _ _ (i:=1) (zN _) (qu7 _) (by decide)
 split
 .decide
 split
 .exact zR (zwy s) (by decide)
 split
 .exact qeq _ _ (qeq _ _ (qeq _ _ (i:=1) (zN _) (q30 _ _ _ _) (zN 5)) (j:=1) (zN _) (zN 6)) (qu8 _ _) (by decide)
 split
 .exact qeq _ _ (qeq _ _ (qas _) (j:=1) (zN _) (zN 5)) (qas _) (by decide)
 split
 .exact qeq _ _ (qeq _ _ (i:=1) (zN _) (zpr _) (zN 2)) (qas _) (by decide)
 split
 .exact qeq _ _ (i:=1) (zN _) (qas _) (by decide)
 split
 .decide
 split
 .exact qeq _ _ (i:=1) (zN _) (qas _) (by decide)
 split<;>decide
theorem zxe (s:Sign):(qb6 s).1.length<=30:=by
 unfold qb6;split
 .exact zp6 s
 .exact Nat.zero_le _
theorem z1z (s:Sign):0<=ln (qb6 s).1/\ln (qb6 s).1<=30:=by
 have:=zxe s;simp only [ln];omega
theorem qql (n:Int):ln (qi n)<=4:=by have:=qas n;simp only [ln];omega
theorem q9h (b:UInt8):ln [b]=1:=rfl
theorem qow:∀ {l:List ZB},(∀ w ∈ l,ln w<=30)->ln (qbl l [32])<=31 * ln l
 | [],_=>by decide
 | [x],h=>by have:=h x zC;simp only [qbl,zh,jc];omega
 | x::y::l,h=>by
  have c:=h x zC;have d:=qow (l:=y::l) λw b=>h w (zG _ b);rw [qbl,qj,qj,q9h,zh (a:=x)];omega
theorem zlq {l:List Sign}:∀ w ∈ qc5 l,ln w<=30:=by
 intro w a;obtain ⟨x,_,rfl⟩:=List.mem_map.1 a;exact (z1z x).2
theorem q4f {n:Int} {l:List Sign}:∀ w ∈ [qry,qi n]++qc5 l,ln w<=30:=by
 intro w a;rcases List.mem_append.1 a with a | a
 .rcases zD.1 a with rfl | a
  .decide
  .rw [List.mem_singleton.1 a];have:=qql n;omega
 .exact zlq w a
theorem zxj {n c:Int} {l:List Sign}:∀ w ∈ ([qry,qi n]++qc5 l)++[[126]++qi c],ln w<=30:=by
 intro w a;rcases List.mem_append.1 a with a | a
 .exact q4f w a
 .rw [List.mem_singleton.1 a,qj,q9h];have:=qql c;omega
theorem q6k {n:Int} {l:List Sign}:ln ([qry,qi n]++qc5 l)=2+ln l:=by rw [qj];simp only [qc5,ln,List.length_map,List.length_cons,List.length_nil];omega
theorem z5h {s:Staff} (h:ln s.Signs<=60):ln (qvn s)<=2100:=by
 unfold qvn qf7;rw [qj,q9h];split
 .have a:=qow (zxj (n:=s.Lead) (c:=s.Custos) (l:=s.Signs));rw [qj,q6k] at a;have:ln [[126]++qi s.Custos]=1:=rfl;omega
 .have a:=qow (q4f (n:=s.Lead) (l:=s.Signs));rw [q6k] at a;rw [zJ];omega
theorem qzx:∀ {l:List Staff},(∀ s ∈ l,ln s.Signs<=60)->ln (qnc l)<=2100 * ln l
 | [],_=>by decide
 | s::l,h=>by
  have c:=z5h (h s zC);have d:=qzx λa b=>h a (zG _ b);have e:qnc (s::l)=qvn s++qnc l:=rfl;rw [e,qj,zh];omega
theorem qvi:∀ {g:List Page},(∀ p ∈ g,ln p.Staves<=12/\∀ s ∈ p.Staves,ln s.Signs<=60)->ln (qpg g)<=25300 * ln g
 | [],_=>by decide
 | p::g,h=>by
  obtain ⟨f,a⟩:=h p zC;have i:=qzx a;have j:=qvi λb c=>h b (zG _ c);have e:qpg (p::g)=([112,97,103,101,10]++qnc p.Staves)++qpg g:=rfl;have d:ln ([112,97,103,101,10]:ZB)=5:=rfl;rw [e,qj,qj,d,zh];omega
theorem qro {l:List Staff} {s:Staff}:qnc (l++[s])=qnc l++qvn s:=by simp [qnc]
theorem q7b {g:List Page} {p:Page}:qpg (g++[p])=qpg g++([112,97,103,101,10]++qnc p.Staves):=by simp [qpg]
theorem zeg {l:List Sign} {x:Sign}:qc5 (l++[x])=qc5 l++[(qb6 x).1]:=by simp [qc5]
theorem zq2 (a0:ZB) (b:List Page) (i:ln a0<=1000000/\smB b):q0e a0 b:=by
 unfold q0e;dsimp only;simp only [qzy];have n0:=ln_nonneg a0;have n1:=i.2.1;have S:ln ([98,111,111,107,32]:ZB)=5:=rfl;have T:ln qkm=5:=rfl;have U:ln ([112,97,103,101,10]:ZB)=5:=rfl;have V:ln ([101,110,100,10]:ZB)=4:=rfl;have M:ln ([10]:ZB)=1:=rfl;have C:ln ([126]:ZB)=1:=rfl;refine ⟨⟨by omega,i.2⟩,λh=>?_,λh=>⟨kz (by omega),kz (by rw [qj];omega),⟨zK _,ln_nonneg _,by rw [k6];show _=_++[];rw [zJ]⟩,λw d D=>⟨λhi=>?_,λhi=>?_⟩⟩⟩
 .unfold jy;rw [zT h];exact ⟨rfl,rfl,trivial⟩
 .obtain ⟨N,a⟩:=qc2 h;obtain ⟨i0,E,f⟩:=D;have x:∀ p ∈ upto b d,ln p.Staves<=12/\∀ s ∈ p.Staves,ln s.Signs<=60:=λp i=>⟨(a p (List.mem_of_mem_take i)).1,λs o=>((a p (List.mem_of_mem_take i)).2 s o).1.1⟩;have F:=qvi x;rw [qda i0 E] at F;have O:ln w<=140000000:=by rw [f,qj,qj,qj];omega
  obtain ⟨g1,G⟩:=a _ (qam i0 hi);refine ⟨⟨i0,hi⟩,kz (by omega),⟨zK _,ln_nonneg _,by rw [k6,f];show _=_++(_++[]);rw [zJ]⟩,λP e H=>⟨λq=>?_,λq=>?_⟩⟩
  .obtain ⟨r,I,m⟩:=H;have Q:=qzx (l:=upto (ix b d).Staves e) λs o=>(G s (List.mem_of_mem_take o)).1.1;rw [qda r I] at Q;have W:ln P<=150000000:=by rw [m,qj,qj,qj,qj,qj];omega
   obtain ⟨⟨X,Y,Z,s4⟩,u1,u2,u3⟩:=G _ (qam r q);have j:upto (ix b d).Staves (e+1)=upto (ix b d).Staves e++[ix (ix b d).Staves e]:=ke r q;refine ⟨⟨r,q⟩,⟨by omega,by omega⟩,trivial,trivial,⟨zK _,ln_nonneg _,by rw [k6];rfl⟩,λR y J=>⟨λu=>?_,λu=>?_⟩⟩
   .obtain ⟨v,K,t⟩:=J;have l9:ln R=2+y:=by rw [t,q6k,qda v K]
    refine ⟨⟨v,u⟩,trivial,trivial,kk (by omega),⟨by omega,by omega⟩,trivial,trivial,trivial,trivial,trivial,trivial,trivial,⟨by omega,by omega,?_⟩,by simp only [qk3];omega⟩;rw [ke v u,zeg,t,List.append_assoc]
   .obtain ⟨v,K,t⟩:=J;rw [j9 u] at t;subst t;have k:=q6k (n:=(ix (ix b d).Staves e).Lead) (l:=(ix (ix b d).Staves e).Signs);refine ⟨λz=>?_,λz=>?_⟩
    .have A:=qow (zxj (n:=(ix (ix b d).Staves e).Lead) (c:=(ix (ix b d).Staves e).Custos) (l:=(ix (ix b d).Staves e).Signs));have q2:=qql (ix (ix b d).Staves e).Custos;rw [qj,k] at A;have q3:ln [[126]++qi (ix (ix b d).Staves e).Custos]=1:=rfl;have B:qvn (ix (ix b d).Staves e)=qbl (([qry,qi (ix (ix b d).Staves e).Lead]++qc5 (ix (ix b d).Staves e).Signs)++[[126]++qi (ix (ix b d).Staves e).Custos]) [32]++[10]:=by
      unfold qvn qf7;rw [zT z]
     refine ⟨⟨by omega,by omega⟩,kz (by omega),trivial,kk (by omega),⟨rfl,by omega⟩,kz (by omega),kz (by rw [qj];omega),⟨by omega,by omega⟩,trivial,trivial,trivial,⟨by omega,by omega,?_⟩,by simp only [qbv];omega⟩;rw [j,qro,m,B];simp only [List.append_assoc]
    .have A:=qow (q4f (n:=(ix (ix b d).Staves e).Lead) (l:=(ix (ix b d).Staves e).Signs));rw [k] at A;have B:qvn (ix (ix b d).Staves e)=qbl ([qry,qi (ix (ix b d).Staves e).Lead]++qc5 (ix (ix b d).Staves e).Signs) [32]++[10]:=by
      unfold qvn qf7;rw [zF (by simp [z]),zJ]
     refine ⟨⟨rfl,by omega⟩,kz (by omega),kz (by rw [qj];omega),⟨by omega,by omega⟩,trivial,trivial,trivial,⟨by omega,by omega,?_⟩,by simp only [qbv];omega⟩;rw [j,qro,m,B];simp only [List.append_assoc]
  .obtain ⟨r,I,m⟩:=H;rw [j9 q] at m;refine ⟨⟨by omega,by omega⟩,trivial,trivial,⟨by omega,by omega,?_⟩,by simp only [qfz];omega⟩;rw [ke i0 hi,q7b,m];simp only [List.append_assoc]
 .obtain ⟨N,a⟩:=qc2 h;obtain ⟨i0,E,f⟩:=D;rw [j9 hi] at f;have F:=qvi (g:=b) λp i=>⟨(a p i).1,λs o=>((a p i).2 s o).1.1⟩;have O:ln w<=140000000:=by rw [f,qj,qj,qj];omega
  have L:w++[101,110,100,10]=qls a0 b:=by rw [f];rfl
  refine ⟨kz (by omega),λk=>?_,λk=>?_⟩
  .rw [L] at k;unfold jy;rw [zF (by simp [h]),zT k];exact ⟨rfl,rfl,trivial⟩
  .rw [L] at k ⊢;unfold jy;rw [zF (by simp [h]),zF (by omega)];exact ⟨rfl,rfl,trivial⟩
section
variable {w:ZB} {i:Int} {c:UInt8}
theorem zj5 (a:0<=i):0<ln (fr w i)↔i<ln w:=by simp only [ln,fr,List.length_drop];omega
theorem qff (a:0<=i):tk w i c=true↔i<ln w/\bx w i=c.toNat:=by
 have e:bx (fr w i) 0=bx w i:=by rw [quc a (zK _),Int.add_zero]
 simp only [tk,preB,zA,decide_eq_true_eq];rw [z42,e,zj5 a];constructor
 .exact λh=>h.2
 .intro h;refine ⟨?_,h⟩;have:=(zj5 (w:=w) a).2 h.1;rw [z2i];omega
theorem qgt {k:Int} (a:0<=i) (b:k=c.toNat):zb (fr w i) k=(fr w (qe3 w i c).2,(qe3 w i c).1):=by
 have e:bx (fr w i) 0=bx w i:=by rw [quc a (zK _),Int.add_zero]
 rw [zb,e];simp only [zj5 (w:=w) a];cases h:tk w i c with
 | true=>
  rw [zT (by rw [b];exact (qff a).1 h),qe3,zT h,zcp a (by decide)]
 | false=>
  rw [zF (by rw [b,<-qff a,h];simp),qe3,zF (by rw [h];simp)]
theorem zix (a:0<=i) (h:i<=ln w):i<=(qe3 w i c).2/\(qe3 w i c).2<=ln w:=by
 unfold qe3;split
 .rename_i b;have:=(qff a).1 b;exact ⟨by simp only;omega,by simp only;omega⟩
 .exact ⟨zK _,h⟩
theorem z2t (a:0<=i):qkk (fr w i)=((qnl w i).1,fr w (qnl w i).2):=by
 unfold qkk qnl;rw [qgt (c:=98) (k:=98) a rfl,qgt (c:=35) (k:=35) a rfl,qgt (c:=110) (k:=110) a rfl];unfold qe3;cases b:tk w i 98<;>cases d:tk w i 35<;>cases e:tk w i 110<;>simp
theorem zre (a:0<=i) (h:i<=ln w):i<=(qnl w i).2/\(qnl w i).2<=ln w:=by
 unfold qnl
 (repeat' split)<;>(simp only)<;>first | omega | (rename_i b;have:=(qff a).1 b;omega)
theorem z5z (a:0<=i):qmo (fr w i)=((qnv w i).1,fr w (qnv w i).2):=by
 unfold qmo qnv;rw [qgt (c:=94) (k:=94) a rfl,qgt (c:=118) (k:=118) a rfl,qgt (c:=62) (k:=62) a rfl];unfold qe3;cases b:tk w i 94<;>cases d:tk w i 118<;>cases e:tk w i 62<;>simp
theorem z5y (a:0<=i) (h:i<=ln w):i<=(qnv w i).2/\(qnv w i).2<=ln w:=by
 unfold qnv
 (repeat' split)<;>(simp only)<;>first | omega | (rename_i b;have:=(qff a).1 b;omega)
theorem zta (b:0<=i) (h:i<=ln w):fr w i=[]↔i=ln w:=by
 constructor
 .intro a;have:=qkg b h;rw [a,jc] at this;omega
 .intro a;exact qcn (by omega)
theorem ztk:∀ (m:Nat) (s:ZB) (j:Int),1<=j->(ln s-j).toNat=m->hdE s j=qfk qfo s j:=by
 intro m
 induction m with
 | zero=>intro s j b c;rw [qja (.inl (by omega)),qmh (.inl (by omega))]
 | succ m d=>
  intro s j b c;by_cases a:48<=bx s j/\bx s j<=57
  .rw [q6j (by omega) (by omega) (.inl a),qto (by omega) (by omega) (by simp [qfo,a.1,a.2])];exact d s (j+1) (by omega) (by omega)
  .rw [qja (.inr ⟨a,by omega⟩),qmh (.inr (by simp only [qfo,Bool.and_eq_false_iff,decide_eq_false_iff_not];omega))]
theorem zv8 {j:Int} (a:0<=i) (hi:i<=ln w) (b:0<=j) (h:i+j<=ln w):qfk qfo w (i+j)=i+qfk qfo (fr w i) j:=by
 have d:=qkg a hi;have g1:j<=qfk qfo (fr w i) j:=qvq;have e:qfk qfo (fr w i) j<=ln (fr w i):=zd7 (by omega);refine q26 (by omega) (by omega) (by omega) ?_ ?_
 .intro x f g;have:=zoy (p:=qfo) (s:=fr w i) (i:=j) (x-i) (by omega) (by omega);rw [quc a (by omega)] at this;rw [show x=i+(x-i) by omega];exact this
 .by_cases c:qfk qfo (fr w i) j<ln (fr w i)
  .right;have:=zoz (p:=qfo) b c;rw [quc a (by omega)] at this;exact this
  .left;omega
theorem z17 (a:0<=i) (hi:i<=ln w):i+hdE (fr w i) 0=dgE w (qiw w i).2:=by
 have e:bx (fr w i) 0=bx w i:=by rw [quc a (zK _),Int.add_zero]
 cases h:tk w i 45 with
 | true=>
  have d:=(qff a).1 h;have f:=qkg a hi;rw [qiw,zT h,q6j (zK _) (by omega) (.inr ⟨rfl,by rw [e];exact d.2⟩),ztk _ _ _ (by omega) rfl,dgE];exact (zv8 a hi (by omega) (by omega)).symm
 | false=>
  rw [qiw,zF (by rw [h];simp),dgE];have d:¬ (0<ln (fr w i)/\bx (fr w i) 0=45):=by
   rw [e,zj5 a];intro d;rw [(qff (c:=45) a).2 d] at h;cases h
  have g:=zv8 (w:=w) (j:=0) a hi (zK _) (by omega);rw [Int.add_zero] at g;rw [g];congr 1;by_cases b:0<ln (fr w i)/\48<=bx (fr w i) 0/\bx (fr w i) 0<=57
  .rw [q6j (zK _) b.1 (.inl b.2),qto (zK _) b.1 (by simp [qfo,b.2.1,b.2.2])];exact ztk _ _ _ (by decide) rfl
  .by_cases f:ln (fr w i)<=0
   .rw [qja (.inl f),qmh (.inl f)]
   .rw [qja (.inr ⟨λx=>b ⟨by omega,x⟩,λx=>d ⟨by omega,x.2⟩⟩),qmh (.inr (by simp only [qfo,Bool.and_eq_false_iff,decide_eq_false_iff_not];omega))]
theorem z4r (a:0<=i) (h:i<=ln w):i<=(qiw w i).2/\(qiw w i).2<=ln w:=by
 unfold qiw;split
 .rename_i b;have:=(qff a).1 b;exact ⟨by simp only;omega,by simp only;omega⟩
 .exact ⟨zK _,h⟩
theorem zwc (a:0<=i) (h:i<=ln w):i<=(qpp w i).2/\(qpp w i).2<=ln w:=by
 have b:=z4r a h;have d:(qiw w i).2<=dgE w (qiw w i).2:=qvq;have c:dgE w (qiw w i).2<=ln w:=zd7 b.2;exact ⟨by simp only [qpp];omega,c⟩
theorem z5j (b:0<=i) (hi:i<=ln w):qan (upto (fr w i) (hdE (fr w i) 0))=(qpp w i).1:=by
 have e:=z17 b hi;have f:hdE (fr w i) 0=dgE w (qiw w i).2-i:=by omega
 rw [f,qpp];congr 1;have a:(qiw w i).2<=dgE w (qiw w i).2:=qvq;cases h:tk w i 45 with
 | true=>
  have d:=(qff b).1 h;have c:qiw w i=([45],i+1):=by rw [qiw,zT h]
  rw [c] at a ⊢;simp only at a ⊢;rw [j5 b d.1,qib (by omega) a];have g:ix w i=45:=qgv (by rw [<-qmr];exact d.2);rw [g];have:(dgE w (i+1)-i).toNat=(dgE w (i+1)-(i+1)).toNat+1:=by omega
  unfold upto;rw [this];rfl
 | false=>
  have c:qiw w i=([],i):=by rw [qiw,zF (by rw [h];simp)]
  rw [c] at a ⊢;simp only at a ⊢;rw [List.nil_append,qib b a]
theorem ztj (a:0<=i) (hi:i<=ln w):hdF (fr w i)=(((qg3 w i).1,(qg3 w i).2.2.2.1),(qg3 w i).2.1,(qg3 w i).2.2.1,fr w (qg3 w i).2.2.2.2):=by
 have b:=zwc a hi;have f:=zre (w:=w) (i:=(qpp w i).2) (by omega) b.2;have e:fr (fr w i) (hdE (fr w i) 0)=fr w (qpp w i).2:=by
  have:=z17 a hi;have d:0<=hdE (fr w i) 0:=by
   have g:(qpp w i).2=dgE w (qiw w i).2:=rfl;omega
  rw [zcp a d,this];rfl
 simp only [hdF,e,z5j a hi,z2t (w:=w) (i:=(qpp w i).2) (by omega),qgt (w:=w) (c:=42) (k:=42) (i:=(qnl w (qpp w i).2).2) (by omega) rfl];rfl
theorem zvs (a:0<=i) (h:i<=ln w):i<=(qg3 w i).2.2.2.2/\(qg3 w i).2.2.2.2<=ln w:=by
 have b:=zwc a h;have d:=zre (w:=w) (i:=(qpp w i).2) (by omega) b.2;have e:=zix (w:=w) (i:=(qnl w (qpp w i).2).2) (c:=42) (by omega) d.2;exact ⟨by simp only [qg3];omega,e.2⟩
theorem z0i {s:ZB}:∀ {i n:Int},0<=i->(qei s i n).2=true->∀ j,i<=j->j<ln s->qfo (bx s j)=true:=by
 intro i n
 fun_induction qei s i n with
 | case1 i n h b d=>intro _ a;simp at a
 | case2 i n h b d e=>
  intro f a j g c;by_cases k:j=i
  .rw [k];exact b
  .exact e (by omega) a j (by omega) c
 | case3 i n h b=>intro _ a;simp at a
 | case4 i n h=>intro f _ j g c;omega
theorem qo3 {s:ZB} (h:(qz s).2=true):0<ln s/\∀ j,0<=j->j<ln s->qfo (bx s j)=true:=by
 unfold qz at h;split at h
 .simp at h
 .rename_i a;have:=ln_nonneg s;exact ⟨by omega,z0i (zK _) h⟩
theorem q2i (c:0<=i) (hi:i<=ln w):((qhp w i).1.2=true/\(qhp w i).2=ln w)↔(qz (fr w i)).2=true:=by
 have f:sub w i (ln w)=fr w i:=by rw [qib c hi,j9 (by rw [qkg c hi];omega)]
 constructor
 .rintro ⟨d,e⟩;simp only [qhp] at d e;rw [e,f] at d;exact d
 .intro h;have g:=qkg c hi;have d:=qo3 h;have e:dgE w i=ln w:=q26 c hi (zK _) (λj a b=>by
   have:=d.2 (j-i) (by omega) (by omega);rw [quc c (by omega)] at this;rw [show j=i+(j-i) by omega];exact this) (.inl rfl)
  simp only [qhp,e,f];exact ⟨h,trivial⟩
theorem q9t (a:0<=i) (hi:i<=ln w) (h:(qz (fr w i)).2=true):(qhp w i).1.1=(qz (fr w i)).1:=by
 have b:sub w i (ln w)=fr w i:=by rw [qib a hi,j9 (by rw [qkg a hi];omega)]
 have:=((q2i a hi).2 h).2;simp only [qhp] at this ⊢;rw [this,b]
end
theorem zje (c:UInt8) (t:ZB):bx (c::t) 0=(c.toNat:Int):=rfl
theorem qgu (c d:UInt8) (t:ZB):tk (c::t) 0 d=decide (c=d):=by
 rw [Bool.eq_iff_iff,qff (zK _),zje,zh];have:=ln_nonneg t;simp only [decide_eq_true_eq];constructor
 .rintro ⟨_,h⟩;exact qgv h
 .rintro rfl;exact ⟨by omega,rfl⟩
theorem qra (d:UInt8):tk [] 0 d=false:=by
 rw [<-Bool.not_eq_true,qff (zK _),jc];omega
theorem zal (w:ZB) (i:Int):qxp w i=if tk w i 88=true then some 1 else if tk w i 76=true then some 2 else if tk w i 66=true then some 3 else if tk w i 83=true then some 4 else if tk w i 77=true then some 5 else if tk w i 81=true then some 6 else if tk w i 70=true then some 7 else if tk w i 90=true then some 8 else none:=by
 unfold qxp
 iterate 8 (rw [qy2,dif_pos (by decide)])
 rw [qy2,dif_neg (by decide)];rfl
theorem qvx (c:UInt8) (t:ZB):qxp (c::t) 0=if (qao [c]).2=0 then some (qao [c]).1 else none:=by
 rw [zal];simp only [qgu,decide_eq_true_eq,qao,List.cons.injEq,and_true];by_cases a:c=88
 .simp [a]
 by_cases b:c=76
 .simp [b]
 by_cases d:c=66
 .simp [d]
 by_cases e:c=83
 .simp [e]
 by_cases f:c=77
 .simp [f]
 by_cases g:c=81
 .simp [g]
 by_cases h:c=70
 .simp [h]
 by_cases i:c=90
 .simp [i]
 simp [a,b,d,e,f,g,h,i]
theorem zlk:qxp [] 0=none:=by rw [zal];simp only [qra];rfl
theorem val_two (c d:UInt8) (t:ZB):qao (c::d::t)=(0,3):=by simp [qao]
theorem z47 (c:UInt8) (t:ZB) (h:(qao [c]).2=0):rdK (c::t) 1=q41 (c::t):=by
 have a:1<=ln (c::t):=by rw [zh];have:=ln_nonneg t;omega
 have b:=zvs (w:=c::t) (i:=1) (by decide) a;have e:rdK (c::t) 1=rd1 (c::t):=rfl;rw [e,rd1,qvx,zT h];simp only [q41,ztj (w:=c::t) (i:=1) (by decide) a];simp only [zta (w:=c::t) (by omega) b.2];rfl
theorem qmc (c:UInt8) (t:ZB) (h:(qao [c]).2≠0):rdK (c::t) 1=none:=by
 have e:rdK (c::t) 1=rd1 (c::t):=rfl;rw [e,rd1,qvx,zF h]
theorem z48 (t:ZB):rdK (114::t) 2=q48 t:=by
 have e:rdK (114::t) 2=rd2 (114::t):=rfl;have b:qxp (114::t) 1=qxp t 0:=by rw [zal,zal];rfl
 rw [e,rd2,qgu,zT (by decide),b]
 match t with
 | []=>rw [zlk];rfl
 | [d]=>
  rw [qvx,q48];by_cases h:(qao [d]).2=0
  .rw [zT h,zT h];rfl
  .rw [zF h,zF h]
 | d::a::u=>
  have c:¬ (2:Int)=ln (114::d::a::u):=by simp only [zh];have:=ln_nonneg u;omega
  have f:q48 (d::a::u)=none:=by rw [q48,val_two];rfl
  rw [qvx,f];by_cases h:(qao [d]).2=0
  .rw [zT h];exact zF c
  .rw [zF h]
theorem qj9 {w:ZB} (h:w≠[46]):rdK w 3=none:=by
 have e:rdK w 3=rd3 w:=rfl;rw [e,rd3,zF];rintro ⟨a,b⟩
 match w with
 | []=>rw [qra] at a;cases a
 | [c]=>rw [qgu,decide_eq_true_eq] at a;exact h (by rw [a])
 | c::d::t=>simp only [zh] at b;have:=ln_nonneg t;omega
theorem zvw (t:ZB):rdK (116::t) 4=qzi t:=by
 have e:rdK (116::t) 4=rd4 (116::t):=rfl;have a:1<=ln ((116:UInt8)::t):=by rw [zh];have:=ln_nonneg t;omega
 have b:=zvs (w:=116::t) (i:=1) (by decide) a;have d:=z5y (w:=116::t) (i:=(qg3 (116::t) 1).2.2.2.2) (by omega) b.2;have f:=zix (w:=116::t) (c:=126) (i:=(qnv (116::t) (qg3 (116::t) 1).2.2.2.2).2) (by omega) d.2;have g:=zix (w:=116::t) (c:=33) (i:=(qe3 (116::t) (qnv (116::t) (qg3 (116::t) 1).2.2.2.2).2 126).2) (by omega) f.2;have h:qzi t=qzi (fr (116::t) 1):=rfl;rw [e,h,rd4,qgu,qzi];simp only [ztj (w:=116::t) (i:=1) (by decide) a,z5z (w:=116::t) (i:=(qg3 (116::t) 1).2.2.2.2) (by omega),qgt (w:=116::t) (c:=126) (k:=126) (i:=(qnv (116::t) (qg3 (116::t) 1).2.2.2.2).2) (by omega) rfl,
  qgt (w:=116::t) (c:=33) (k:=33) (i:=(qe3 (116::t) (qnv (116::t) (qg3 (116::t) 1).2.2.2.2).2 126).2) (by omega) rfl,ziz,decide_true,true_and]
 simp only [zta (w:=116::t) (by omega) g.2]
theorem zvx:rdK [116,117,114,110] 4=none:=by
 rw [zvw,qzi];have h:hdE [117,114,110] 0=0:=qja (.inr ⟨by decide,by decide⟩);have:(hdF [117,114,110]).1.2=false:=by rw [hdF,h];rfl
 simp only [this];rfl
theorem zh2 {w p:ZB} {k:Int} (h:w≠p):rdW w p k=none:=by
 rw [rdW,zF];rintro ⟨a,b⟩;simp only [preB,zA,decide_eq_true_eq] at a;rw [j9 (by omega)] at a;exact h a.2
theorem zvz (c:UInt8) (t:ZB) (k:Int):rdN (c::t) c k=qzd k t:=by
 have b:1<=ln (c::t):=by rw [zh];have:=ln_nonneg t;omega
 have e:fr (c::t) 1=t:=rfl;have a:=q2i (w:=c::t) (i:=1) (by decide) b;have d:=q9t (w:=c::t) (i:=1) (by decide) b;rw [e] at a d;rw [rdN,qgu,qzd];by_cases h:(qz t).2=true
 .rw [zT ⟨by simp,a.2 h⟩,zT h,d h]
 .rw [zF (λx=>h (a.1 x.2)),zF h]
theorem z5d (t:ZB):rdK (64::t) 7=qpm t:=by
 have e:rdK (64::t) 7=rd7 (64::t):=rfl;have b:=qgt (w:=64::t) (i:=1) (c:=67) (k:=67) (by decide) rfl;have d:=qgt (w:=64::t) (i:=1) (c:=70) (k:=70) (by decide) rfl;have f:=qgt (w:=64::t) (i:=1) (c:=71) (k:=71) (by decide) rfl;have l:fr ((64:UInt8)::t) 1=t:=rfl;rw [l] at b d f;have a:∀ (k:Int),2<=ln ((64:UInt8)::t)->(if (qhp (64::t) 2).1.2=true/\(qhp (64::t) 2).2=ln ((64:UInt8)::t) then some (Sign.mk 7 0 0 0 false 0 false false 0 0 0 0 false 0 0 k (qhp (64::t) 2).1.1) else none)
   = (if (qz (fr ((64:UInt8)::t) 2)).2=true then some (Sign.mk 7 0 0 0 false 0 false false 0 0 0 0 false 0 0 k (qz (fr ((64:UInt8)::t) 2)).1) else none):=by
  intro k g;have j:=q2i (w:=64::t) (i:=2) (by decide) g;by_cases h:(qz (fr ((64:UInt8)::t) 2)).2=true
  .rw [zT (j.2 h),zT h,q9t (w:=64::t) (i:=2) (by decide) g h]
  .rw [zF (λx=>h (j.1 x)),zF h]
 rw [e,rd7,qgu,zT (by decide),qpm,zet,b,d,f];unfold qe3;cases m:tk (64::t) 1 67 with
 | true=>
  have:=((qff (by decide)).1 m).1;exact a 0 (by omega)
 | false=>
  cases n:tk (64::t) 1 70 with
  | true=>
   have:=((qff (by decide)).1 n).1;exact a 3 (by omega)
  | false=>
   cases a3:tk (64::t) 1 71 with
   | true=>
    have:=((qff (by decide)).1 a3).1;exact a 4 (by omega)
   | false=>rfl
def M5 (t:ZB) (b:Bool):ZB:=40::(t++41::zu b 124)
theorem zht:∀ {l:List M4} {t:ZB},(qii t l).2=0->∃ m ∈ l,txM m=t:=by
 intro l t
 induction l with
 | nil=>intro h;simp [qii] at h
 | cons m l b=>
  intro h;by_cases a:txM m=t
  .exact ⟨m,zC,a⟩
  .rw [qii,zF a] at h;obtain ⟨x,c,d⟩:=b h;exact ⟨x,zG _ c,d⟩
theorem zul:∀ m ∈ allM,∀ b,rdK (M5 (txM m) b) 5=q2f (txM m++41::zu b 124):=by
 intro m a b;simp only [allM,zD,List.not_mem_nil,or_false] at a;rcases a with h | h | h | h | h | h | h | h | h | h | h | h | h | h | h | h<;>subst h<;>cases b<;>rfl
theorem qtj {u:ZB} {c:UInt8} (h:0<ln u) (d:bx u (ln u-1)=c.toNat):u=upto u (ln u-1)++[c]:=by
 have:=ke (l:=u) (i:=ln u-1) (by omega) (by omega);rw [show ln u-1+1=ln u by omega,j9 (zK _),qgv (a:=ix u (ln u-1)) (b:=c) (by rw [<-qmr];exact d)] at this;exact this
theorem zj6 {w:ZB} {i:Int} {c:UInt8} (d:0<=i) (h:tk w i c=true):fr w i=c::fr w (i+1):=by
 have e:=(qff d).1 h;rw [j5 d e.1,qgv (a:=ix w i) (b:=c) (by rw [<-qmr];exact e.2)]
theorem z5b {t:ZB} {s:Sign} (h:rdK (40::t) 5=some s):∃ m ∈ allM,∃ b,t=txM m++41::zu b 124:=by
 have e:rdK (40::t) 5=rd5 (40::t):=rfl;rw [e,rd5] at h;split at h
 .rename_i d;obtain ⟨_,f,g,a⟩:=d;have i:=zup (40::t);have j:upto t (qgk (40::t))=sub (40::t) 1 (1+qgk (40::t)):=by
   rw [qib (by decide) (by omega)];congr 1;omega
  obtain ⟨m,k,n⟩:=zht (l:=allM) (t:=sub (40::t) 1 (1+qgk (40::t))) f;refine ⟨m,k,(qe3 (40::t) (1+qgk (40::t)+1) 124).1,?_⟩;rw [n,<-j];have o:t=upto t (qgk (40::t))++fr t (qgk (40::t)):=(List.take_append_drop _ _).symm;have p:fr t (qgk (40::t))=fr (40::t) (1+qgk (40::t)):=by rw [<-zcp (by decide) i];rfl
  have q:=zj6 (by omega) g;have r:fr (40::t) (1+qgk (40::t)+1)=zu (qe3 (40::t) (1+qgk (40::t)+1) 124).1 124:=by
   unfold qe3 at a ⊢;cases c:tk (40::t) (1+qgk (40::t)+1) 124 with
   | true=>
    rw [c,zT rfl] at a;rw [zj6 (by omega) c,qcn (by simp only at a;omega)];rfl
   | false=>
    rw [c,zF (by decide)] at a;exact qcn (by simp only at a;omega)
  rw [<-r,<-q,<-p];exact o
 .cases h
theorem z0a {t:ZB} {s:Sign} (h:q2f t=some s):∃ m ∈ allM,∃ b,t=txM m++41::zu b 124:=by
 by_cases d:0<ln t/\bx t (ln t-1)=124
 .rw [q2f] at h;simp only [decide_eq_true d,if_true] at h;split at h
  .rename_i a;obtain ⟨m,e,f⟩:=zht (l:=allM) a.2.2;refine ⟨m,e,true,?_⟩;rw [f];have g:=qtj (c:=124) d.1 d.2;have i:=qtj (c:=41) a.1 a.2.1
   conv=>lhs;rw [g,i]
   rw [List.append_assoc];rfl
  .cases h
 .rw [q2f] at h;simp only [decide_eq_false d,Bool.false_eq_true,if_false] at h;split at h
  .rename_i a;obtain ⟨m,e,f⟩:=zht (l:=allM) a.2.2;refine ⟨m,e,false,?_⟩;rw [f];exact qtj (c:=41) a.1 a.2.1
  .cases h
theorem z5a (t:ZB):rdK (40::t) 5=q2f t:=by
 cases h:rdK (40::t) 5 with
 | some s=>
  obtain ⟨m,a,b,c⟩:=z5b h;rw [<-h,c];exact zul m a b
 | none=>
  cases d:q2f t with
  | none=>rfl
  | some s=>
   obtain ⟨m,a,b,c⟩:=z0a d;rw [<-h,<-d,c];exact zul m a b
theorem zdy {s:ZB} {c k m:Int}:∀ (n:Nat) (i j:Int),0<=i->i<=j->j<=ln s->(∀ x,i<=x->x<j->bx s x≠c)->(j-i).toNat=n->qdf s c i k m=qdf s c j k m:=by
 intro n
 induction n with
 | zero=>intro i j e g f d h;rw [show i=j by omega]
 | succ n l=>
  intro i j e g f d h;rw [q7c e (by omega) (d i (zK _) (by omega))];exact l (i+1) j (by omega) (by omega) f (λx a b=>d x (by omega) b) (by omega)
theorem z0q {s:ZB} {c i k m:Int} (h:(qdf s c i k m).2.2=true) (g:0<=i) (b:m=1->0<=k/\k<ln s/\bx s k=c) (f:0<=m):∃ a,0<=a/\a<ln s/\bx s a=c/\qdf s c i k m=(upto s a,fr s (a+1),true):=by
 fun_induction qdf s c i k m with
 | case1 i k m hi e d=>exact d h (by omega) (λ_=>⟨by omega,by omega,e⟩) (by omega)
 | case2 i k m hi e d=>exact d h (by omega) b f
 | case3 i k hi=>exact ⟨k,(b rfl).1,(b rfl).2.1,(b rfl).2.2,rfl⟩
 | case4 i k m hi f=>simp at h
theorem qzk {a l:ZB} {j:Int} (b:0<=j) (h:j<ln a):bx (a++l) j=bx a j:=by rw [qmr,qmr,ql0 b h]
theorem qxn (a l:ZB):upto (a++l) (ln a)=a:=by unfold upto ln;exact List.take_left' (by omega)
theorem q84 (a l:ZB):fr (a++l) (ln a)=l:=by unfold fr ln;exact List.drop_left' (by omega)
theorem q8o (a l:ZB) (c:UInt8):bx (a++c::l) (ln a)=c.toNat:=by
 have:=quc (s:=a++c::l) (i:=ln a) (j:=0) (ln_nonneg a) (zK _);rw [q84,Int.add_zero] at this;exact this.symm
theorem zg4 (a l:ZB) (c:UInt8):fr (a++c::l) (ln a+1)=l:=by
 rw [<-zcp (ln_nonneg a) (by decide),q84];rfl
def S6 (n d:Int):Sign:=Sign.mk 6 0 0 0 false 0 false false 0 0 0 0 false n d 0 0
theorem zvy {a b:ZB} (d:(qz a).2=true) (f:(qz b).2=true):rdK (a++47::b) 6=some (S6 (qz a).1 (qz b).1):=by
 have e:rdK (a++47::b) 6=rd6 (a++47::b):=rfl;have o:ln (a++47::b)=ln a+(ln b+1):=by rw [qj,zh]
 have n1:=ln_nonneg a;have n2:=ln_nonneg b;have k:dgE (a++47::b) 0=ln a:=q26 (zK _) n1 (by omega) (λj g c=>by rw [qzk g c];exact (qo3 d).2 j g c) (.inr (by rw [q8o];rfl));have l:qhp (a++47::b) 0=(qz a,ln a):=by
  rw [qhp,k];have:sub (a++47::b) 0 (ln a)=a:=qxn a (47::b);rw [this]
 have m:tk (a++47::b) (ln a) 47=true:=(qff n1).2 ⟨by omega,by rw [q8o]⟩;have n:=zg4 a b 47;have c:=q2i (w:=a++47::b) (i:=ln a+1) (by omega) (by omega);have h:=q9t (w:=a++47::b) (i:=ln a+1) (by omega) (by omega);rw [n] at c h;rw [e,rd6];simp only [l];rw [zT ⟨d,m,c.2 f⟩,h f];rfl
theorem zhw {a b:ZB} (f:(qz a).2=true) (g:(qz b).2=true):qvk (a++47::b)=some (S6 (qz a).1 (qz b).1):=by
 have m:ln (a++47::b)=ln a+(ln b+1):=by rw [qj,zh]
 have n1:=ln_nonneg a;have n2:=ln_nonneg b;have k:∀ {x:Int},qfo x=true->x≠47:=by
  intro x h l;rw [l] at h;cases h
 have d:qgl (a++47::b) 47=(a,b,true):=by
  rw [qgl,zdy (s:=a++47::b) (c:=47) _ 0 (ln a) (zK _) n1 (by omega) (λx d e=>by rw [qzk d e];exact k ((qo3 f).2 x d e)) rfl,
   zdw n1 (by omega) (by rw [q8o];rfl),
   zdy (s:=a++47::b) (c:=47) _ (ln a+1) (ln (a++47::b)) (by omega) (by omega) (zK _) (λx d e=>by
    have:=quc (s:=a++47::b) (i:=ln a+1) (j:=x-(ln a+1)) (by omega) (by omega);rw [zg4,show ln a+1+(x-(ln a+1))=x by omega] at this;rw [<-this];exact k ((qo3 g).2 _ (by omega) (by omega))) rfl,
   show (0:Int)+1=1 from rfl,zdx (zK _),qxn,zg4]
 simp only [qvk,d];rw [zT ⟨trivial,f,g⟩];rfl
theorem zh1 {w:ZB} {s:Sign} (h:rdK w 6=some s):∃ a b,(qz a).2=true/\(qz b).2=true/\w=a++47::b:=by
 have e:rdK w 6=rd6 w:=rfl;rw [e,rd6] at h;split at h
 .rename_i f;obtain ⟨g,c,i⟩:=f;have d:0<=(qhp w 0).2:=qvq;have j:=(qff d).1 c;refine ⟨upto w (qhp w 0).2,fr w ((qhp w 0).2+1),g,?_,?_⟩
  .exact (q2i (by omega) (by omega)).1 i
  .rw [<-zj6 d c];exact (List.take_append_drop _ _).symm
 .cases h
theorem z44 {w:ZB} {s:Sign} (h:qvk w=some s):∃ a b,(qz a).2=true/\(qz b).2=true/\w=a++47::b:=by
 simp only [qvk] at h;split at h
 .rename_i f;obtain ⟨g,c,d⟩:=f;obtain ⟨k,e,i,j,l⟩:=z0q g (zK _) (λh=>by omega) (zK _);have m:qgl w 47=(upto w k,fr w (k+1),true):=l;rw [m] at c d;refine ⟨_,_,c,d,?_⟩;have n:tk w k 47=true:=(qff e).2 ⟨i,j⟩;rw [<-zj6 e n];exact (List.take_append_drop _ _).symm
 .cases h
theorem z5c (w:ZB):rdK w 6=qvk w:=by
 cases h:rdK w 6 with
 | some s=>
  obtain ⟨a,b,c,d,e⟩:=zh1 h;rw [<-h,e,zvy c d,zhw c d]
 | none=>
  cases f:qvk w with
  | none=>rfl
  | some s=>
   obtain ⟨a,b,c,d,e⟩:=z44 f;rw [<-h,<-f,e,zvy c d,zhw c d]
theorem qmd {c:UInt8} {t:ZB} (f:qfo c.toNat=false):rdK (c::t) 6=none:=by
 cases h:rdK (c::t) 6 with
 | none=>rfl
 | some s=>
  obtain ⟨a,b,g,k,i⟩:=zh1 h;obtain ⟨d,j⟩:=qo3 g;have e:=j 0 (zK _) d;rw [<-qzk (l:=47::b) (zK _) d,<-i,zje,f] at e;cases e
theorem zzm {w:ZB}:∀ (m:Nat) (i:Int),1<=i->(13-i).toNat=m->(∀ j,i<=j->j<=12->rdK w j=none)->qpo w i=none:=by
 intro m
 induction m with
 | zero=>intro i c d _;rw [qpo,dif_neg (by omega)]
 | succ m e=>
  intro i c d h;rw [qpo,dif_pos ⟨c,by omega⟩,h i (zK _) (by omega)];exact e (i+1) (by omega) (by omega) (λj a b=>h j (by omega) b)
theorem z38 {w:ZB} (k:Int) (c:1<=k) (d:k<=12) (h:∀ j,1<=j->j<=12->j≠k->rdK w j=none):qpo w 1=rdK w k:=by
 rw [zv0 c d (λj a b=>h j a (by omega) (by omega)) _ 1 (by decide) c rfl,qpo,dif_pos ⟨c,d⟩];cases e:rdK w k with
 | some s=>rfl
 | none=>exact zzm _ (k+1) (by omega) rfl (λj a b=>h j (by omega) b (by omega))
theorem qc0 {w:ZB} (k:Int) (g:1<=k) (i:k<=12) (l:1≠k->rdK w 1=none) (m:2≠k->rdK w 2=none) (n:3≠k->rdK w 3=none) (o:4≠k->rdK w 4=none) (p:5≠k->rdK w 5=none) (q:6≠k->rdK w 6=none)
  (r:7≠k->rdK w 7=none) (s:8≠k->rdK w 8=none) (t:9≠k->rdK w 9=none) (d:10≠k->rdK w 10=none) (e:11≠k->rdK w 11=none) (f:12≠k->rdK w 12=none):qpo w 1=rdK w k:=by
 refine z38 k g i λj a b c=>?_;have:j=1∨j=2∨j=3∨j=4∨j=5∨j=6∨j=7∨j=8∨j=9∨j=10∨j=11∨j=12:=by omega
 rcases this with h | h | h | h | h | h | h | h | h | h | h | h<;>subst h
 .exact l c
 .exact m c
 .exact n c
 .exact o c
 .exact p c
 .exact q c
 .exact r c
 .exact s c
 .exact t c
 .exact d c
 .exact e c
 .exact f c
theorem ql2 {c:UInt8} {t:ZB} (h:c≠114):rdK (c::t) 2=none:=z4i (by rw [qgu,decide_eq_false h])
theorem qnp {c:UInt8} {t:ZB} (h:c≠116):rdK (c::t) 4=none:=z4j (by rw [qgu,decide_eq_false h])
theorem ql3 {c:UInt8} {t:ZB} (h:c≠40):rdK (c::t) 5=none:=zzv (.inl (by rw [qgu,decide_eq_false h]))
theorem ql4 {c:UInt8} {t:ZB} (h:c≠64):rdK (c::t) 7=none:=z4k (by rw [qgu,decide_eq_false h])
theorem ql5 {c:UInt8} {t:ZB} (h:c≠38):rdK (c::t) 8=none:=znt q6q (by rw [qgu,decide_eq_false h])
theorem qhz {c:UInt8} {t:ZB} (h:c≠93):rdK (c::t) 10=none:=znt qwu (by rw [qgu,decide_eq_false h])
theorem qj7 {w:ZB} (h:w≠[91]):rdK w 9=none:=zh2 (k:=9) h
theorem qgq {w:ZB} (h:w≠[116,117,114,110]):rdK w 11=none:=zh2 (k:=11) h
theorem qgr {w:ZB} (h:w≠[115,105,103]):rdK w 12=none:=zh2 (k:=12) h
theorem zlj {c:UInt8} (h:(qao [c]).2=0):qfo c.toNat=false:=by
 simp only [qao,List.cons.injEq,and_true] at h;by_cases a:c=88
 .subst a;rfl
 by_cases b:c=76
 .subst b;rfl
 by_cases d:c=66
 .subst d;rfl
 by_cases e:c=83
 .subst e;rfl
 by_cases f:c=77
 .subst f;rfl
 by_cases g:c=81
 .subst g;rfl
 by_cases i:c=70
 .subst i;rfl
 by_cases j:c=90
 .subst j;rfl
 simp [a,b,d,e,f,g,i,j] at h
theorem zv4 (w:ZB):qpo w 1=qb3 w:=by
 by_cases j:w=[]
 .subst j;rw [qc0 9 (by decide) (by decide) (λ_=>by show rd1 []=none;rw [rd1,zlk]) (λ_=>z4i (qra _)) (λ_=>qj9 (by simp)) (λ_=>z4j (qra _)) (λ_=>zzv (.inl (qra _)))
   (λ_=>by
     cases h:rdK [] 6 with
     | none=>rfl
     | some s=>obtain ⟨a,b,_,_,u⟩:=zh1 h;simp at u)
   (λ_=>z4k (qra _)) (λ_=>znt q6q (qra _)) (λh=>absurd rfl h) (λ_=>znt qwu (qra _)) (λ_=>qgq (by simp)) (λ_=>qgr (by simp)),qj7 (by simp)]
  rfl
 obtain ⟨c,t,rfl⟩:∃ c t,w=c::t:=by
  cases w with
  | nil=>exact absurd rfl j
  | cons c t=>exact ⟨c,t,rfl⟩
 have k:∀ d:UInt8,c≠d->bx (c::t) 0≠d.toNat:=λd h v=>h (qgv v);by_cases e:c::t=[46]
 .injection e with ec et
  subst ec;subst et;rw [qc0 3 (by decide) (by decide) (λ_=>qmc _ _ (by decide)) (λ_=>ql2 (by decide)) (λh=>absurd rfl h) (λ_=>qnp (by decide)) (λ_=>ql3 (by decide)) (λ_=>qmd rfl) (λ_=>ql4 (by decide)) (λ_=>ql5 (by decide)) (λ_=>qj7 (by decide)) (λ_=>qhz (by decide)) (λ_=>qgq (by decide)) (λ_=>qgr (by decide))];rfl
 by_cases f:c::t=[91]
 .injection f with ec et
  subst ec;subst et;rw [qc0 9 (by decide) (by decide) (λ_=>qmc _ _ (by decide)) (λ_=>ql2 (by decide)) (λ_=>qj9 e) (λ_=>qnp (by decide)) (λ_=>ql3 (by decide)) (λ_=>qmd rfl) (λ_=>ql4 (by decide)) (λ_=>ql5 (by decide)) (λh=>absurd rfl h) (λ_=>qhz (by decide)) (λ_=>qgq (by decide)) (λ_=>qgr (by decide))];rfl
 by_cases g:c::t=[116,117,114,110]
 .injection g with ec et
  subst ec;subst et;rw [qc0 11 (by decide) (by decide) (λ_=>qmc _ _ (by decide)) (λ_=>ql2 (by decide)) (λ_=>qj9 e) (λ_=>zvx) (λ_=>ql3 (by decide)) (λ_=>qmd rfl) (λ_=>ql4 (by decide)) (λ_=>ql5 (by decide)) (λ_=>qj7 f) (λ_=>qhz (by decide)) (λh=>absurd rfl h) (λ_=>qgr (by decide))];rfl
 by_cases i:c::t=[115,105,103]
 .injection i with ec et
  subst ec;subst et;rw [qc0 12 (by decide) (by decide) (λ_=>qmc _ _ (by decide)) (λ_=>ql2 (by decide)) (λ_=>qj9 e) (λ_=>qnp (by decide)) (λ_=>ql3 (by decide)) (λ_=>qmd rfl) (λ_=>ql4 (by decide)) (λ_=>ql5 (by decide)) (λ_=>qj7 f) (λ_=>qhz (by decide)) (λ_=>qgq g) (λh=>absurd rfl h)];rfl
 by_cases m:c=114
 .subst m;rw [zh6 j e f g i rfl,qc0 2 (by decide) (by decide) (λ_=>qmc _ _ (by decide)) (λh=>absurd rfl h) (λ_=>qj9 e) (λ_=>qnp (by decide)) (λ_=>ql3 (by decide)) (λ_=>qmd rfl) (λ_=>ql4 (by decide)) (λ_=>ql5 (by decide)) (λ_=>qj7 f) (λ_=>qhz (by decide)) (λ_=>qgq g) (λ_=>qgr i)];exact z48 t
 by_cases n:c=116
 .subst n;rw [zh7 j e f g i rfl,qc0 4 (by decide) (by decide) (λ_=>qmc _ _ (by decide)) (λ_=>ql2 (by decide)) (λ_=>qj9 e) (λh=>absurd rfl h) (λ_=>ql3 (by decide)) (λ_=>qmd rfl) (λ_=>ql4 (by decide)) (λ_=>ql5 (by decide)) (λ_=>qj7 f) (λ_=>qhz (by decide)) (λ_=>qgq g) (λ_=>qgr i)];exact zvw t
 by_cases o:c=40
 .subst o;rw [zh5 j e f g i rfl,qc0 5 (by decide) (by decide) (λ_=>qmc _ _ (by decide)) (λ_=>ql2 (by decide)) (λ_=>qj9 e) (λ_=>qnp (by decide)) (λh=>absurd rfl h) (λ_=>qmd rfl) (λ_=>ql4 (by decide)) (λ_=>ql5 (by decide)) (λ_=>qj7 f) (λ_=>qhz (by decide)) (λ_=>qgq g) (λ_=>qgr i)];exact z5a t
 by_cases p:c=64
 .subst p;rw [zh4 j e f g i rfl,qc0 7 (by decide) (by decide) (λ_=>qmc _ _ (by decide)) (λ_=>ql2 (by decide)) (λ_=>qj9 e) (λ_=>qnp (by decide)) (λ_=>ql3 (by decide)) (λ_=>qmd rfl) (λh=>absurd rfl h) (λ_=>ql5 (by decide)) (λ_=>qj7 f) (λ_=>qhz (by decide)) (λ_=>qgq g) (λ_=>qgr i)];exact z5d t
 by_cases q:c=38
 .subst q;rw [zh3 j e f g i rfl,qc0 8 (by decide) (by decide) (λ_=>qmc _ _ (by decide)) (λ_=>ql2 (by decide)) (λ_=>qj9 e) (λ_=>qnp (by decide)) (λ_=>ql3 (by decide)) (λ_=>qmd rfl) (λ_=>ql4 (by decide)) (λh=>absurd rfl h) (λ_=>qj7 f) (λ_=>qhz (by decide)) (λ_=>qgq g) (λ_=>qgr i)];exact zvz 38 t 8
 by_cases r:c=93
 .subst r;rw [q93 j e f g i rfl,qc0 10 (by decide) (by decide) (λ_=>qmc _ _ (by decide)) (λ_=>ql2 (by decide)) (λ_=>qj9 e) (λ_=>qnp (by decide)) (λ_=>ql3 (by decide)) (λ_=>qmd rfl) (λ_=>ql4 (by decide)) (λ_=>ql5 (by decide)) (λ_=>qj7 f) (λh=>absurd rfl h) (λ_=>qgq g) (λ_=>qgr i)];exact zvz 93 t 10
 rw [q22 j e f g i (k 114 m) (k 116 n) (k 40 o) (k 64 p) (k 38 q) (k 93 r)];have x:upto (c::t) 1=[c]:=rfl;rw [x];by_cases l:(qao [c]).2=0
 .rw [zT l,qc0 1 (by decide) (by decide) (λh=>absurd rfl h) (λ_=>ql2 m) (λ_=>qj9 e) (λ_=>qnp n) (λ_=>ql3 o) (λ_=>qmd (zlj l)) (λ_=>ql4 p) (λ_=>ql5 q) (λ_=>qj7 f) (λ_=>qhz r) (λ_=>qgq g) (λ_=>qgr i)];exact z47 c t l
 .rw [zF l,qc0 6 (by decide) (by decide) (λ_=>qmc _ _ l) (λ_=>ql2 m) (λ_=>qj9 e) (λ_=>qnp n) (λ_=>ql3 o) (λh=>absurd rfl h) (λ_=>ql4 p) (λ_=>ql5 q) (λ_=>qj7 f) (λ_=>qhz r) (λ_=>qgq g) (λ_=>qgr i)];exact z5c (c::t)
theorem zwe (w:ZB):zl w=zp w:=by rw [zl,zp,zv4]
theorem z9c {a:UInt8} (b:(48:Int)<=a.toNat) (c:(a.toNat:Int)<=57):qz [a]=((a.toNat:Int)-48,true):=by
 have e:bx [a] 0=(a.toNat:Int):=rfl;have l:ln [a]=1:=rfl;rw [qz,zF (by rw [l];omega),ql8 (zK _) (by rw [l];decide) (by rw [e];exact b) (by rw [e];exact c) (by rw [e];omega),qzw (by rw [l];decide),e];congr 1;omega
theorem z9d {a b:UInt8} (i:(a.toNat:Int)≠48) (d:(48:Int)<=a.toNat) (f:(a.toNat:Int)<=57) (g:(48:Int)<=b.toNat) (h:(b.toNat:Int)<=57):qz [a,b]=(10 * ((a.toNat:Int)-48)+((b.toNat:Int)-48),true):=by
 have e:bx [a,b] 0=(a.toNat:Int):=rfl;have c:bx [a,b] (0+1)=(b.toNat:Int):=rfl;have l:ln [a,b]=2:=rfl;rw [qz,zF (by rw [l,e];omega),ql8 (zK _) (by rw [l];decide) (by rw [e];exact d) (by rw [e];exact f) (by rw [e];omega),
  ql8 (by decide) (by rw [l];decide) (by rw [c];exact g) (by rw [c];exact h) (by rw [e,c];omega),qzw (by rw [l];decide),e,c]
 congr 1;omega
theorem z4v:qz [49,48,48]=(100,true):=by
 have l:ln ([49,48,48]:ZB)=3:=rfl;rw [qz,zF (by rw [l];decide),ql8 (zK _) (by rw [l];decide) (by decide) (by decide) (by decide),ql8 (by decide) (by rw [l];decide) (by decide) (by decide) (by decide),
  ql8 (by decide) (by rw [l];decide) (by decide) (by decide) (by decide),qzw (by rw [l];decide)]
 rfl
theorem q80 {n:Int} (a:0<=n) (h:n<=9):((UInt8.ofNat (48+n.toNat)).toNat:Int)=48+n:=by
 have:n=0∨n=1∨n=2∨n=3∨n=4∨n=5∨n=6∨n=7∨n=8∨n=9:=by omega
 rcases this with h | h | h | h | h | h | h | h | h | h<;>subst h<;>rfl
theorem qh4 {n:Int} (a:0<=n) (h:n<=100):qz (qcq n)=(n,true):=by
 unfold qcq;split
 .have:=q80 a (by omega);unfold d1;rw [z9c (by omega) (by omega),this];congr 1;omega
 .split
  .have b:=q80 (n:=n / 10) (by omega) (by omega);have c:=q80 (n:=n % 10) (by omega) (by omega);show qz [UInt8.ofNat (48+(n / 10).toNat),UInt8.ofNat (48+(n % 10).toNat)]=_;rw [z9d (by omega) (by omega) (by omega) (by omega) (by omega),b,c];congr 1;omega
  .have:n=100:=by omega
   subst this;exact z4v
theorem zur {n:Int} (b:0<=n) (h:n<=100):¬ (0<ln (qcq n)/\bx (qcq n) 0=45):=by
 have:=(qo3 (s:=qcq n) (by rw [qh4 b h])).2 0 (zK _);rintro ⟨c,d⟩;have a:=this c;rw [d] at a;cases a
theorem zef {n:Int} (b:-4<=n) (h:n<=100):qan (qi n)=(n,true):=by
 unfold qi;split
 .have a:=qh4 (n:=-n) (by omega) (by omega);rw [qvs (s:=45::qcq (-n)) ⟨by rw [zh];have:=ln_nonneg (qcq (-n));omega,rfl⟩ (by show (qz (qcq (-n))).2=true;rw [a]) (by show (qz (qcq (-n))).1≠0;rw [a];show -n≠0;omega)];show (-(qz (qcq (-n))).1,true)=_;rw [a];show (- -n,true)=_;rw [Int.neg_neg]
 .rw [zae (zur (by omega) h)];exact qh4 (by omega) h
def b0 (s:ZB):Int:=match s with
 | []=>-1
 | c::_=>(c.toNat:Int)
theorem qgm (c:UInt8) (t:ZB) {k:Int} (h:k=c.toNat):zb (c::t) k=(t,true):=by
 rw [zb,zT ⟨by rw [zh];have:=ln_nonneg t;omega,by rw [h];rfl⟩];rfl
theorem qnf {t:ZB} {k:Int} (h:b0 t≠k):zb t k=(t,false):=by
 rw [zb,zF];rintro ⟨a,b⟩;cases t with
 | nil=>rw [jc] at a;omega
 | cons c t=>exact h b
theorem qlh {c:UInt8} {t:ZB} {k:Int} (h:(c.toNat:Int)≠k):zb (c::t) k=(c::t,false):=qnf h
theorem qxl {b:Bool} {c:UInt8} {t:ZB} {k:Int} (a:k=c.toNat) (h:b0 t≠k):zb (zu b c++t) k=(t,b):=by
 cases b with
 | true=>exact qgm c t a
 | false=>exact qnf h
theorem zxy {b:Bool} {c:UInt8} {t:ZB} {Q:Int->Prop} (a:Q c.toNat) (d:Q (b0 t)):Q (b0 (zu b c++t)):=by
 cases b with
 | true=>exact a
 | false=>exact d
theorem z2s {a:Int} {t:ZB} (f:-1<=a) (h:a<=2) (b:b0 t≠98) (d:b0 t≠35) (e:b0 t≠110):qkk (qnk a++t)=(a,t):=by
 have:a = -1∨a=0∨a=1∨a=2:=by omega
 rcases this with h | h | h | h<;>subst h
 .show qkk (98::t)=_;simp only [qkk,qgm 98 t (k:=98) rfl,if_true]
 .show qkk t=_;simp only [qkk,qnf b,qnf d,qnf e,Bool.false_eq_true,if_false]
 .show qkk (35::t)=_;simp only [qkk,qgm 35 t (k:=35) rfl,qlh (c:=35) (t:=t) (k:=98) (by decide),Bool.false_eq_true,if_false,if_true]
 .show qkk (110::t)=_;simp only [qkk,qgm 110 t (k:=110) rfl,qlh (c:=110) (t:=t) (k:=98) (by decide),qlh (c:=110) (t:=t) (k:=35) (by decide),Bool.false_eq_true,if_false,if_true]
theorem z5x {a:Int} {t:ZB} (f:0<=a) (h:a<=3) (b:b0 t≠94) (d:b0 t≠118) (e:b0 t≠62):qmo (qia a++t)=(a,t):=by
 have:a=0∨a=1∨a=2∨a=3:=by omega
 rcases this with h | h | h | h<;>subst h
 .show qmo t=_;simp only [qmo,qnf b,qnf d,qnf e,Bool.false_eq_true,if_false]
 .show qmo (94::t)=_;simp only [qmo,qgm 94 t (k:=94) rfl,if_true]
 .show qmo (118::t)=_;simp only [qmo,qgm 118 t (k:=118) rfl,qlh (c:=118) (t:=t) (k:=94) (by decide),Bool.false_eq_true,if_false,if_true]
 .show qmo (62::t)=_;simp only [qmo,qgm 62 t (k:=62) rfl,qlh (c:=62) (t:=t) (k:=94) (by decide),qlh (c:=62) (t:=t) (k:=118) (by decide),Bool.false_eq_true,if_false,if_true]
theorem z6w:∀ (m:Nat) (s:ZB) (i k:Int),0<=i->i<=k->k<=ln s->(∀ j,i<=j->j<k->(48<=bx s j/\bx s j<=57)∨(j=0/\bx s j=45))->(k=ln s∨(¬ (48<=bx s k/\bx s k<=57)/\¬ (k=0/\bx s k=45)))->(k-i).toNat=m->hdE s i=k:=by
 intro m
 induction m with
 | zero=>
  intro s i k e g f c d l;have:i=k:=by omega
  subst this;exact qja (d.imp (λh=>by omega) id)
 | succ m n=>
  intro s i k e g f c d l;rw [q6j e (by omega) (c i (zK _) (by omega))];exact n s (i+1) k (by omega) (by omega) f (λj a b=>c j (by omega) b) d (by omega)
theorem zjv {b:Int}:qfo b=true↔48<=b/\b<=57:=by simp [qfo]
theorem qqu {n:Int} (c:0<=n) (h:n<=100):0<ln (qcq n)/\∀ j,0<=j->j<ln (qcq n)->48<=bx (qcq n) j/\bx (qcq n) j<=57:=by
 have:=qo3 (s:=qcq n) (by rw [qh4 c h]);exact ⟨this.1,λj a b=>zjv.1 (this.2 j a b)⟩
theorem qn7 {n:Int} (f:-4<=n) (h:n<=100):0<ln (qi n)/\∀ j,0<=j->j<ln (qi n)->(48<=bx (qi n) j/\bx (qi n) j<=57)∨(j=0/\bx (qi n) j=45):=by
 unfold qi;split
 .have c:=qqu (n:=-n) (by omega) (by omega);refine ⟨by rw [zh];omega,λj a b=>?_⟩;rw [zh] at b;by_cases d:j=0
  .subst d;exact .inr ⟨rfl,rfl⟩
  .left;have e:bx (45::qcq (-n)) j=bx (qcq (-n)) (j-1):=by
    have:=quc (s:=45::qcq (-n)) (i:=1) (j:=j-1) (by decide) (by omega);rw [show 1+(j-1)=j by omega] at this;rw [<-this];rfl
   rw [e];exact c.2 _ (by omega) (by omega)
 .have c:=qqu (n:=n) (by omega) h;exact ⟨c.1,λj a b=>.inl (c.2 j a b)⟩
theorem zzo {n:Int} {t:ZB} (e:-4<=n) (h:n<=100) (d:b0 t<48∨57<b0 t):hdE (qi n++t) 0=ln (qi n):=by
 obtain ⟨d1,f⟩:=qn7 e h;have g:ln (qi n++t)=ln (qi n)+ln t:=qj _ _;have:=ln_nonneg t;refine z6w _ _ _ _ (zK _) (by omega) (by omega) (λj a b=>by rw [qzk a b];exact f j a b) ?_ rfl;cases t with
 | nil=>left;rw [zJ]
 | cons c t=>
  right;rw [q8o];have d:(c.toNat:Int)<48∨57<(c.toNat:Int):=d;omega
structure Rst (t:ZB):Prop where
 d:b0 t<48∨57<b0 t
 a:b0 t≠98
 b:b0 t≠35
 c:b0 t≠110
 e:b0 t≠42
theorem zti {p a:Int} {c:Bool} {t:ZB} (i:-4<=p) (p1:p<=100) (a0:-1<=a) (j:a<=2) (f:Rst t):hdF (qi p++(qnk a++(zu c 42++t)))=((p,true),a,c,t):=by
 have g:=zxy (b:=c) (c:=42) (t:=t) (Q:=λx=>(x<48∨57<x)/\x≠98/\x≠35/\x≠110) (by decide) ⟨f.d,f.a,f.b,f.c⟩;have l:b0 (qnk a++(zu c 42++t))<48∨57<b0 (qnk a++(zu c 42++t)):=by
  have:a = -1∨a=0∨a=1∨a=2:=by omega
  rcases this with h | h | h | h<;>subst h
  .exact .inr (show (57:Int)<98 by decide)
  .exact g.1
  .exact .inl (show (35:Int)<48 by decide)
  .exact .inr (show (57:Int)<110 by decide)
 have e:=zzo (t:=qnk a++(zu c 42++t)) i p1 l;simp only [hdF,e,qxn,q84,zef i p1,z2s a0 j g.2.1 g.2.2.1 g.2.2.2,qxl (c:=42) (k:=42) rfl f.e]
theorem z4o:∀ m ∈ allM,∀ b,q2f (txM m++41::zu b 124)=some (Sign.mk 5 0 0 0 false 0 false false m.1 m.2.1 m.2.2.1 m.2.2.2 b 0 0 0 0):=by
 intro m a b;simp only [allM,zD,List.not_mem_nil,or_false] at a;rcases a with h | h | h | h | h | h | h | h | h | h | h | h | h | h | h | h<;>subst h<;>cases b<;>rfl
theorem z14 {a b c d:Int} (h:qbe a b c d=0):(a,b,c,d) ∈ allM:=by
 unfold qbe at h;split at h
 .rename_i j;obtain ⟨e,f,g,i⟩:=j;rcases e with e | e<;>rcases f with f | f<;>rcases g with g | g<;>rcases i with i | i<;>subst e<;>subst f<;>subst g<;>subst i<;>decide
 .cases h
theorem eight {v:Int} (h:1<=v/\v<=8):v=1∨v=2∨v=3∨v=4∨v=5∨v=6∨v=7∨v=8:=by omega
theorem q9k {v:Int} (h:1<=v/\v<=8):∃ c,ltr v=[c]/\qao [c]=(v,0)/\(c=88∨c=76∨c=66∨c=83∨c=77∨c=81∨c=70∨c=90):=by
 rcases eight h with h | h | h | h | h | h | h | h<;>subst h
 .exact ⟨88,rfl,rfl,by decide⟩
 .exact ⟨76,rfl,rfl,by decide⟩
 .exact ⟨66,rfl,rfl,by decide⟩
 .exact ⟨83,rfl,rfl,by decide⟩
 .exact ⟨77,rfl,rfl,by decide⟩
 .exact ⟨81,rfl,rfl,by decide⟩
 .exact ⟨70,rfl,rfl,by decide⟩
 .exact ⟨90,rfl,rfl,by decide⟩
theorem qm9 {c d:UInt8} {t u:ZB} (h:c≠d):c::t≠d::u:=λe=>h (List.cons.inj e).1
theorem qpf {c:UInt8} {t:ZB} {d:UInt8} {k:Int} (a:k=d.toNat) (h:c≠d):bx (c::t) 0≠k:=λe=>h (qgv (by rw [<-a];exact e))
theorem z5f {c:UInt8} {v:Int} (t:ZB) (b:qao [c]=(v,0)) (e:c=88∨c=76∨c=66∨c=83∨c=77∨c=81∨c=70∨c=90):qb3 (c::t)=q41 (c::t):=by
 have a:∀ d:UInt8,¬ (d=88∨d=76∨d=66∨d=83∨d=77∨d=81∨d=70∨d=90)->c≠d:=by
  rintro d f rfl;exact f e
 rw [q22 (by simp) (qm9 (a 46 (by decide))) (qm9 (a 91 (by decide))) (qm9 (a 116 (by decide))) (qm9 (a 115 (by decide)))
  (qpf (d:=114) rfl (a _ (by decide))) (qpf (d:=116) rfl (a _ (by decide))) (qpf (d:=40) rfl (a _ (by decide))) (qpf (d:=64) rfl (a _ (by decide))) (qpf (d:=38) rfl (a _ (by decide))) (qpf (d:=93) rfl (a _ (by decide)))]
 exact zT (by show (qao [c]).2=0;rw [b])
theorem head_eq (s:Sign):qdw s=qi s.Place++(qnk s.Acc++(zu s.Color 42++[])):=by
 rw [qdw,zJ,List.append_assoc];rfl
theorem z06:Rst []:=⟨.inl (by decide),by decide,by decide,by decide,by decide⟩
theorem zxz {k:Int} {t:ZB} {Q:Int->Prop} (a:Q 94) (b:Q 118) (c:Q 62) (d:Q (b0 t)):Q (b0 (qia k++t)):=by
 unfold qia
 (repeat' split)
 .exact a
 .exact b
 .exact c
 .exact d
theorem qh5 {n:Int} (a:0<=n) (h:n<=100):qi n=qcq n:=by rw [qi,zF (by omega)]
theorem zkz {k n:Int} (a:0<=n) (h:n<=100):qzd k (qi n)=some (Sign.mk k 0 0 0 false 0 false false 0 0 0 0 false n 0 0 0):=by
 rw [qh5 a h,qzd,qh4 a h];rfl
theorem z22 {k n:Int} (d:k=0∨k=3∨k=4) (b:0<=n) (h:n<=100):qpm (qmm k++qi n)=some (Sign.mk 7 0 0 0 false 0 false false 0 0 0 0 false 0 0 k n):=by
 have a:=qh4 b h;rw [qh5 b h];rcases d with h | h | h<;>subst h
 .show qpm (67::qcq n)=_;simp only [qpm,qgm 67 (qcq n) (k:=67) rfl,if_true,a]
 .show qpm (70::qcq n)=_;simp only [qpm,qlh (c:=70) (t:=qcq n) (k:=67) (by decide),qgm 70 (qcq n) (k:=70) rfl,if_true,a,Bool.false_eq_true,if_false]
 .show qpm (71::qcq n)=_;simp only [qpm,qlh (c:=71) (t:=qcq n) (k:=67) (by decide),qlh (c:=71) (t:=qcq n) (k:=70) (by decide),qgm 71 (qcq n) (k:=71) rfl,if_true,a,Bool.false_eq_true,if_false]
theorem z50 {p a k:Int} {c o l:Bool} (d:-4<=p) (p1:p<=100) (a0:-1<=a) (e:a<=2) (f:0<=k) (g:k<=3) :
  qzi (qi p++(qnk a++(zu c 42++(qia k++(zu o 126++(zu l 33++[]))))))=some (Sign.mk 4 0 p a c k o l 0 0 0 0 false 0 0 0 0):=by
 have i:b0 (zu l 33++[])=33∨b0 (zu l 33++[]) = -1:=by cases l<;>decide
 have j:b0 (zu o 126++(zu l 33++[]))=126∨b0 (zu o 126++(zu l 33++[]))=33∨b0 (zu o 126++(zu l 33++[])) = -1:=by cases o<;>cases l<;>decide
 have h:Rst (qia k++(zu o 126++(zu l 33++[]))):=by
  have:=zxz (k:=k) (t:=zu o 126++(zu l 33++[])) (Q:=λx=>(x<48∨57<x)/\x≠98/\x≠35/\x≠110/\x≠42) (by decide) (by decide) (by decide) (by omega);exact ⟨this.1,this.2.1,this.2.2.1,this.2.2.2.1,this.2.2.2.2⟩
 simp only [qzi,zti d p1 a0 e h,z5x f g (t:=zu o 126++(zu l 33++[])) (by omega) (by omega) (by omega),qxl (c:=126) (k:=126) (b:=o) (t:=zu l 33++[]) rfl (by omega),
  qxl (c:=33) (k:=33) (b:=l) (t:=[]) rfl (by decide),and_self,if_true]
theorem z5e {n:Int} (t:ZB) (e:0<=n) (h:n<=100):qb3 (qi n++47::t)=qvk (qi n++47::t):=by
 obtain ⟨f,i⟩:=qqu e h;rw [qh5 e h];cases g:qcq n with
 | nil=>rw [g,jc] at f;omega
 | cons c u=>
  have b:=i 0 (zK _) f;rw [g] at b;have b:(48:Int)<=(c.toNat:Int)/\(c.toNat:Int)<=57:=b;have a:∀ d:UInt8,¬ ((48:Int)<=(d.toNat:Int)/\(d.toNat:Int)<=57)->c≠d:=by
   rintro d j rfl;exact j b
  rw [List.cons_append,q22 (by simp) (qm9 (a 46 (by decide))) (qm9 (a 91 (by decide))) (qm9 (a 116 (by decide))) (qm9 (a 115 (by decide)))
   (qpf (d:=114) rfl (a _ (by decide))) (qpf (d:=116) rfl (a _ (by decide))) (qpf (d:=40) rfl (a _ (by decide))) (qpf (d:=64) rfl (a _ (by decide))) (qpf (d:=38) rfl (a _ (by decide))) (qpf (d:=93) rfl (a _ (by decide)))]
  refine zF ?_;show (qao [c]).2≠0;intro k;have:=zlj k;rw [zjv.2 b] at this;cases this
theorem z58 (p a st:Int) (c b d:Bool):qa5 (Sign.mk 4 0 p a c st b d 0 0 0 0 false 0 0 0 0)=116::(qi p++(qnk a++(zu c 42++(qia st++(zu b 126++(zu d 33++[])))))):=by
 show qfm _=_;rw [qfm,head_eq];simp only [List.append_assoc,zJ,List.cons_append,List.nil_append]
theorem z6a (m1 m2 m3 m4:Int) (a:Bool):qa5 (Sign.mk 5 0 0 0 false 0 false false m1 m2 m3 m4 a 0 0 0 0)=40::(txM (m1,m2,m3,m4)++41::zu a 124):=by
 show [40]++qah m1 m2 m3 m4++[41]++zu a 124=_;simp only [List.append_assoc,List.cons_append,List.nil_append];rfl
theorem z6b (n d:Int):qa5 (Sign.mk 6 0 0 0 false 0 false false 0 0 0 0 false n d 0 0)=qi n++47::qi d:=by
 show qi n++[47]++qi d=_;simp only [List.append_assoc,List.cons_append,List.nil_append]
theorem q7i {s:Sign} (h:zg s=0):qb3 (qa5 s)=some s:=by
 obtain ⟨q,r,b,k,f,E⟩:=q2j h;obtain ⟨K,v,p,a,c,st,F,la,G,H,I,J,y,n,d,cs,w⟩:=s;have:K=1∨K=2∨K=3∨K=4∨K=5∨K=6∨K=7∨K=8∨K=9∨K=10∨K=11∨K=12:=by
  have q:1<=K:=q;have r:K<=12:=r;omega
 unfold q18 at b;unfold qdg at f;dsimp only at b f k;rcases this with e | e | e | e | e | e | e | e | e | e | e | e<;>subst e
 .simp at b f;obtain ⟨⟨rfl,rfl,rfl⟩,⟨rfl,rfl,rfl,rfl,rfl⟩,rfl,rfl,rfl,rfl⟩:=b;obtain ⟨i,g,l,j⟩:=q9k (v:=v) f.1;have e:=zti (p:=p) (a:=a) (c:=c) (t:=[]) (by omega) (by omega) (by omega) (by omega) z06;show qb3 (ltr v++qdw _)=_;rw [g,head_eq];show qb3 (i::(qi p++(qnk a++(zu c 42++[]))))=_;rw [z5f _ l j,q41];have z:fr (i::(qi p++(qnk a++(zu c 42++[])))) 1=qi p++(qnk a++(zu c 42++[])):=rfl;have A:upto (i::(qi p++(qnk a++(zu c 42++[])))) 1=[i]:=rfl;rw [z,A,e,l];rfl
 .simp at b f;obtain ⟨⟨rfl,rfl,rfl⟩,⟨rfl,rfl,rfl⟩,⟨rfl,rfl,rfl,rfl,rfl⟩,rfl,rfl,rfl,rfl⟩:=b;obtain ⟨i,g,l,j⟩:=q9k (v:=v) f;show qb3 (114::ltr v)=_;rw [g,zh6 (by simp) (by simp) (by simp) (by simp) (by simp) rfl];show q48 [i]=_;rw [q48,l];rfl
 .simp at b;obtain ⟨rfl,⟨rfl,rfl,rfl⟩,⟨rfl,rfl,rfl⟩,⟨rfl,rfl,rfl,rfl,rfl⟩,rfl,rfl,rfl,rfl⟩:=b;rfl
 .simp at b f;obtain ⟨rfl,⟨rfl,rfl,rfl,rfl,rfl⟩,rfl,rfl,rfl,rfl⟩:=b;have m:=qn7 (n:=p) (by omega) (by omega);rw [z58,zh7 (by simp) (by simp) (by simp) ?_ (by simp) rfl]
  .exact z50 (by omega) (by omega) (by omega) (by omega) (by omega) (by omega)
  .cases hi:qi p with
   | nil=>rw [hi,jc] at m;omega
   | cons x u=>
    have o:=m.2 0 (zK _) m.1;rw [hi] at o;have o:((48:Int)<=(x.toNat:Int)/\(x.toNat:Int)<=57)∨((0:Int)=0/\(x.toNat:Int)=45):=o;intro B;have C:x=117:=(List.cons.inj (List.cons.inj B).2).1;subst C;revert o;decide
 .simp at b;obtain ⟨rfl,⟨rfl,rfl,rfl⟩,⟨rfl,rfl,rfl⟩,rfl,rfl,rfl,rfl⟩:=b;have k:=z14 (k rfl);have D:=z4o _ k y;rw [z6a,zh5 (by simp) (by simp) (by simp) (by simp) (by simp) rfl];exact D
 .simp at b f;obtain ⟨rfl,⟨rfl,rfl,rfl⟩,⟨rfl,rfl,rfl⟩,⟨rfl,rfl,rfl,rfl,rfl⟩,rfl,rfl⟩:=b;rw [z6b,z5e _ (by omega) (by omega),qh5 (n:=n) (by omega) (by omega),qh5 (n:=d) (by omega) (by omega),zhw (by rw [qh4 (n:=n) (by omega) (by omega)]) (by rw [qh4 (n:=d) (by omega) (by omega)]),qh4 (n:=n) (by omega) (by omega),qh4 (n:=d) (by omega) (by omega)];rfl
 .simp at b f;obtain ⟨rfl,⟨rfl,rfl,rfl⟩,⟨rfl,rfl,rfl⟩,⟨rfl,rfl,rfl,rfl,rfl⟩,rfl,rfl⟩:=b;show qb3 ([64]++qmm cs++qi w)=_;rw [List.append_assoc];show qb3 (64::(qmm cs++qi w))=_;rw [zh4 (by simp) (by simp) (by simp) (by simp) (by simp) rfl];exact z22 f.1 (by omega) (by omega)
 .simp at b f;obtain ⟨rfl,⟨rfl,rfl,rfl⟩,⟨rfl,rfl,rfl⟩,⟨rfl,rfl,rfl,rfl,rfl⟩,rfl,rfl,rfl⟩:=b;show qb3 (38::qi n)=_;rw [zh3 (by simp) (by simp) (by simp) (by simp) (by simp) rfl];exact zkz (by omega) (by omega)
 .simp at b;obtain ⟨rfl,⟨rfl,rfl,rfl⟩,⟨rfl,rfl,rfl⟩,⟨rfl,rfl,rfl,rfl,rfl⟩,rfl,rfl,rfl,rfl⟩:=b;rfl
 .simp at b f;obtain ⟨rfl,⟨rfl,rfl,rfl⟩,⟨rfl,rfl,rfl⟩,⟨rfl,rfl,rfl,rfl,rfl⟩,rfl,rfl,rfl⟩:=b;have m:=qn7 (n:=n) (by omega) (by omega);show qb3 (93::qi n)=_;rw [q93 (by simp) (by simp) (by simp) (by simp) (by simp) rfl];exact zkz (by omega) (by omega)
 .simp at b;obtain ⟨rfl,⟨rfl,rfl,rfl⟩,⟨rfl,rfl,rfl⟩,⟨rfl,rfl,rfl,rfl,rfl⟩,rfl,rfl,rfl,rfl⟩:=b;rfl
 .simp at b;obtain ⟨rfl,⟨rfl,rfl,rfl⟩,⟨rfl,rfl,rfl⟩,⟨rfl,rfl,rfl,rfl,rfl⟩,rfl,rfl,rfl,rfl⟩:=b;rfl
theorem take_drop (t:ZB) (i:Int):t=upto t i++fr t i:=(List.take_append_drop _ _).symm
theorem qxr {s:Sign} (h:zg s=0):zp (qa5 s)=(s,0):=by
 rw [zp,q7i h,fin,zT h]
def qd6 (b:Int):Bool:=decide (33<=b)&&decide (b<=126)&&!decide (b=59)&&!decide (b=34)
theorem q2v {b:Int}:qd6 b=true↔33<=b/\b<=126/\b≠59/\b≠34:=by simp [qd6,and_assoc]
theorem zp5 {s:Sign} (h:zg s=0):(∀ b ∈ qa5 s,qd6 (b.toNat:Int)=true)/\ln (qa5 s)<=10/\qa5 s≠[]:=by
 have app:∀ {a b:ZB} {i j:Int},((∀ x ∈ a,qd6 (x.toNat:Int)=true)/\ln a<=i)->((∀ x ∈ b,qd6 (x.toNat:Int)=true)/\ln b<=j)->((∀ x ∈ a++b,qd6 (x.toNat:Int)=true)/\ln (a++b)<=i+j):=by
  intro a b i j l B;refine ⟨λx g=>(List.mem_append.1 g).elim (l.1 x) (B.1 x),?_⟩;rw [qj];have:=l.2;have:=B.2;omega
 have u:∀ {n:Int},0<=n->n<=100->(∀ x ∈ qcq n,qd6 (x.toNat:Int)=true)/\ln (qcq n)<=3:=by
  intro n w l;refine ⟨λx g=>?_,by have:=q9p w;simp only [ln];omega⟩;obtain ⟨i,a,b,rfl⟩:=q2e g;have:=(qqu w l).2 i a b;rw [<-qmr];exact q2v.2 (by omega)
 have o:∀ {n:Int},-4<=n->n<=100->(∀ x ∈ qi n,qd6 (x.toNat:Int)=true)/\ln (qi n)<=4:=by
  intro n w l;unfold qi;split
  .have:=u (n:=-n) (by omega) (by omega);refine ⟨λx g=>?_,by rw [zh];omega⟩;rcases zD.1 g with g | g
   .subst g;rfl
   .exact this.1 x g
  .have:=u (n:=n) (by omega) l;exact ⟨this.1,by omega⟩
 have C:∀ a:Int,(∀ x ∈ qnk a,qd6 (x.toNat:Int)=true)/\ln (qnk a)<=1:=by
  intro a;unfold qnk
  (repeat' split)<;>decide
 have mk:∀ (b:Bool) (c:UInt8),qd6 (c.toNat:Int)=true->(∀ x ∈ zu b c,qd6 (x.toNat:Int)=true)/\ln (zu b c)<=1:=by
  intro b c y;cases b
  .exact ⟨λx g=>(by cases g),(show (0:Int)<=1 by decide)⟩
  .exact ⟨λx g=>by rw [List.mem_singleton.1 g];exact y,zK _⟩
 have st:∀ k:Int,(∀ x ∈ qia k,qd6 (x.toNat:Int)=true)/\ln (qia k)<=1:=by
  intro k;unfold qia
  (repeat' split)<;>decide
 have sp:∀ k:Int,(∀ x ∈ qmm k,qd6 (x.toNat:Int)=true)/\ln (qmm k)<=1:=by
  intro k;unfold qmm
  (repeat' split)<;>decide
 have f:∀ c:UInt8,qd6 (c.toNat:Int)=true->(∀ x ∈ ([c]:ZB),qd6 (x.toNat:Int)=true)/\ln ([c]:ZB)<=1:=λc y=>⟨λx g=>by rw [List.mem_singleton.1 g];exact y,zK _⟩;have G:∀ m ∈ allM,(∀ x ∈ txM m,qd6 (x.toNat:Int)=true)/\ln (txM m)<=4:=by
  intro m r;simp only [allM,zD,List.not_mem_nil,or_false] at r;rcases r with h | h | h | h | h | h | h | h | h | h | h | h | h | h | h | h<;>subst h<;>decide
 have D:qa5 s≠[]:=by
  intro e;have:=q7i h;rw [e] at this;rw [qb3,zT rfl] at this;cases this
 obtain ⟨H,I,J,r,E,L⟩:=q2j h;refine (λ(q:(∀ b ∈ qa5 s,qd6 (b.toNat:Int)=true)/\ln (qa5 s)<=10)=>⟨q.1,q.2,D⟩) ?_;clear D h J L;unfold qdg at E;obtain ⟨K,v,p,a,c,M,N,la,O,P,Q,R,S,n,d,cs,T⟩:=s;dsimp only at H I r E;have le:∀ {t:ZB} {i:Int},((∀ x ∈ t,qd6 (x.toNat:Int)=true)/\ln t<=i)->i<=10->(∀ b ∈ t,qd6 (b.toNat:Int)=true)/\ln t<=10:=λh W=>⟨h.1,by have:=h.2;omega⟩;have F:1<=v/\v<=8->(∀ x ∈ ltr v,qd6 (x.toNat:Int)=true)/\ln (ltr v)<=1:=by
  intro U;obtain ⟨V,z,-,A⟩:=q9k U;rw [z];refine f V ?_;rcases A with h | h | h | h | h | h | h | h<;>subst h<;>rfl
 have:K=1∨K=2∨K=3∨K=4∨K=5∨K=6∨K=7∨K=8∨K=9∨K=10∨K=11∨K=12:=by omega
 rcases this with e | e | e | e | e | e | e | e | e | e | e | e<;>subst e
 .exact le (app (F (by omega)) (app (app (o (n:=p) (by omega) (by omega)) (C a)) (mk c 42 rfl))) (by decide)
 .exact le (app (f 114 rfl) (F (by omega))) (by decide)
 .exact le (f 46 rfl) (by decide)
 .exact le (app (app (app (app (f 116 rfl) (app (app (o (n:=p) (by omega) (by omega)) (C a)) (mk c 42 rfl))) (st M)) (mk N 126 rfl)) (mk la 33 rfl)) (by decide)
 .exact le (app (app (app (f 40 rfl) (G (O,P,Q,R) (z14 (r rfl)))) (f 41 rfl)) (mk S 124 rfl)) (by decide)
 .have w1:=qh5 (n:=n) (by omega) (by omega);have w2:=qh5 (n:=d) (by omega) (by omega);show (∀ b ∈ qi n++[47]++qi d,_)/\ln (qi n++[47]++qi d)<=10;rw [w1,w2];exact le (app (app (u (n:=n) (by omega) (by omega)) (f 47 rfl)) (u (n:=d) (by omega) (by omega))) (by decide)
 .exact le (app (app (f 64 rfl) (sp cs)) (o (n:=T) (by omega) (by omega))) (by decide)
 .exact le (app (f 38 rfl) (o (n:=n) (by omega) (by omega))) (by decide)
 .exact le (f 91 rfl) (by decide)
 .exact le (app (f 93 rfl) (o (n:=n) (by omega) (by omega))) (by decide)
 .exact le (t:=[116,117,114,110]) (i:=4) (by decide) (by decide)
 .exact le (t:=[115,105,103]) (i:=3) (by decide) (by decide)
theorem q4b {s:Sign} (h:zg s=0):bx (qa5 s) 0≠126:=by
 obtain ⟨i,j,k,l,g,m⟩:=q2j h;clear h k m;unfold qdg at g;obtain ⟨K,v,p,a,c,r,t,la,u,w,x,y,z,n,d,cs,A⟩:=s;dsimp only at i j l g;have:K=1∨K=2∨K=3∨K=4∨K=5∨K=6∨K=7∨K=8∨K=9∨K=10∨K=11∨K=12:=by omega
 rcases this with e | e | e | e | e | e | e | e | e | e | e | e<;>subst e
 .obtain ⟨o,b,-,f⟩:=q9k (v:=v) (by omega);show bx (ltr v++_) 0≠126;rw [b];show ((o.toNat:Nat):Int)≠126;rcases f with h | h | h | h | h | h | h | h<;>subst h<;>decide
 .show ((114:Nat):Int)≠126;decide
 .show ((46:Nat):Int)≠126;decide
 .show ((116:Nat):Int)≠126;decide
 .show ((40:Nat):Int)≠126;decide
 .have w1:=qh5 (n:=n) (by omega) (by omega);have q:=qqu (n:=n) (by omega) (by omega);have B:=q.2 0 (by omega) q.1;show bx (qi n++[47]++qi d) 0≠126;rw [w1,List.append_assoc,qmr,ql0 (by omega) q.1,<-qmr];omega
 .show ((64:Nat):Int)≠126;decide
 .show ((38:Nat):Int)≠126;decide
 .show ((91:Nat):Int)≠126;decide
 .show ((93:Nat):Int)≠126;decide
 .show ((116:Nat):Int)≠126;decide
 .show ((115:Nat):Int)≠126;decide
theorem ze7 {x:Sign} (h:zg x=0):(qb6 x).1=qa5 x/\zl (qb6 x).1=(x,0):=by
 have e:(qb6 x).1=qa5 x:=by unfold qb6;rw [zT h]
 exact ⟨e,by rw [e,zwe,qxr h]⟩
theorem q3g:∀ {l S:List Sign},(∀ x ∈ l,zg x=0)->qkb (qc5 l) S=(S++l,true)
 | [],S,_=>by simp [qc5,qkb]
 | x::l,S,h=>by
  have e:qc5 (x::l)=(qb6 x).1::qc5 l:=rfl;have a:=(ze7 (h x zC)).2;rw [e,qkb,a,zF (by simp),q3g λy b=>h y (zG _ b)];simp
theorem z43 {w:ZB} (h:bx w 0≠126):preB w [126]=false:=by
 unfold preB;cases w with
 | nil=>rfl
 | cons c t=>
  have e:upto (c::t) (ln ([126]:ZB))=[c]:=rfl;rw [e];have:¬ ([c]:ZB)=[126]:=λa=>h (by cases a;rfl);rw [decide_eq_false this,Bool.and_false]
theorem qzv {n c:Int} (d:-4<=n) (e:n<=100) (h:c=10∨c=32):no c (qi n):=by
 intro b f;obtain ⟨i,a,g,rfl⟩:=q2e f;have:=(qn7 d e).2 i a g;rw [<-qmr];omega
theorem zky {x:Sign} {c:Int} (h:zg x=0) (d:c=10∨c=32):no c (qb6 x).1:=by
 rw [(ze7 h).1];intro b a;have:=q2v.1 ((zp5 h).1 b a);omega
theorem qtv {s:Staff} (h:zme s) (t:zxl s):Rd s:=by
 obtain ⟨D,q,E,j⟩:=h;obtain ⟨u,F,v⟩:=t;have c:∀ w ∈ qf7 s,no 10 w/\no 32 w:=by
  intro w c;unfold qf7 at c;rcases List.mem_append.1 c with c | c
  .rcases List.mem_append.1 c with c | c
   .rcases zD.1 c with rfl | c
    .unfold no;exact ⟨by decide,by decide⟩
    .rw [List.mem_singleton.1 c];exact ⟨qzv (by omega) (by omega) (.inl rfl),qzv (by omega) (by omega) (.inr rfl)⟩
   .obtain ⟨x,k,rfl⟩:=List.mem_map.1 c;exact ⟨zky (j x k) (.inl rfl),zky (j x k) (.inr rfl)⟩
  .split at c
   .rw [List.mem_singleton.1 c];exact ⟨q2h (by unfold no;decide) (qzv (by omega) (by omega) (.inl rfl)),q2h (by unfold no;decide) (qzv (by omega) (by omega) (.inr rfl))⟩
   .cases c
 refine ⟨?_,c⟩;have r:2<=ln (qf7 s):=by unfold qf7;simp only [ln,List.length_append,List.length_cons,List.length_nil];omega
 have y:ix (qf7 s) 0=qry:=rfl;have z:ix (qf7 s) 1=qi s.Lead:=rfl;have f:fr (qf7 s) 2=qc5 s.Signs++(if s.Catch=true then [[126]++qi s.Custos] else []):=rfl;have m:qz (qi s.Lead)=(s.Lead,true):=by rw [qh5 q (by omega),qh4 q (by omega)]
 unfold kc;rw [zF (by omega),y,zF (by simp),z,m,zF (by simp)];cases a:s.Catch with
 | true=>
  rw [a,zT rfl] at f;have n:ln (fr (qf7 s) 2)=ln (qc5 s.Signs)+1:=by rw [f,qca]
  have n0:=ln_nonneg (qc5 s.Signs);have d:zhh (qf7 s)=[126]++qi s.Custos:=by
   unfold zhh;rw [n,f];have:ix (qc5 s.Signs++[[126]++qi s.Custos]) (ln (qc5 s.Signs)+1-1)=[126]++qi s.Custos:=by
    rw [show ln (qc5 s.Signs)+1-1=ln (qc5 s.Signs) by omega];unfold ix;rw [List.getD_eq_getElem?_getD,show (ln (qc5 s.Signs)).toNat=(qc5 s.Signs).length by simp only [ln];omega,List.getElem?_append_right (zN _),Nat.sub_self];rfl
   exact this
  have b:qwn (qf7 s)=true:=by
   unfold qwn;rw [d,decide_eq_true (by omega)];unfold preB;have n1:=ln_nonneg (qi s.Custos);have e:upto ([126]++qi s.Custos) (ln ([126]:ZB))=[126]:=rfl;rw [e,qj,decide_eq_true (by omega),decide_eq_true rfl];rfl
  have o:q8y (qf7 s)=(s.Custos,true):=by
   unfold q8y;rw [d];have:fr ([126]++qi s.Custos) 1=qi s.Custos:=rfl;rw [this,zef u (by omega)]
  have g:qg9 (qf7 s)=qc5 s.Signs:=by
   unfold qg9;rw [zT b,n,f];unfold upto;rw [show (ln (qc5 s.Signs)+1-1).toNat=(qc5 s.Signs).length by simp only [ln];omega,List.take_left]
  rw [zT b,o,zF (by simp),g,q3g j];obtain ⟨S,L,C,U⟩:=s;cases a;rfl
 | false=>
  rw [a,zF (by simp),zJ] at f;have b:qwn (qf7 s)=false:=by
   unfold qwn zhh;rw [f];by_cases p:0<ln (qc5 s.Signs)
   .have A:=qam (l:=qc5 s.Signs) (i:=ln (qc5 s.Signs)-1) (by omega) (by omega);obtain ⟨x,k,B⟩:=List.mem_map.1 A;rw [<-B,(ze7 (j x k)).1,z43 (q4b (j x k)),Bool.and_false]
   .rw [decide_eq_false p];rfl
  have g:qg9 (qf7 s)=qc5 s.Signs:=by unfold qg9;rw [zF (by simp [b]),f]
  rw [zF (by simp [b]),g,q3g j];have p:=v a;obtain ⟨S,L,C,U⟩:=s;cases a;cases p;rfl
theorem q5x {nm:ZB} {g:List Page} (a:(qai nm g).1=0) (d:ln (qls nm g)<=20000) (e:no 10 nm):jy nm g=(qls nm g,0)/\qbc (qls nm g)=((nm,g),(0,0)):=
 zvp a d e λp b s c=>qtv (((qc2 a).2 p b).2 s c).1 (((qc2 a).2 p b).2 s c).2
theorem qzu {nm:ZB} (h:jh nm=true):no 10 nm/\ln nm<=20:=by
 simp only [jh,zA,decide_eq_true_eq,List.all_eq_true] at h;refine ⟨λb a=>?_,h.1.1.2⟩;have:=h.2 b a;intro e;rw [e] at this;revert this;decide
theorem z1a:((List.range 104).all λk=>jt (qi ((k:Int)-4)) == ((k:Int)-4,true))=true:=by kernel_rfl
theorem zem {n:Int} (a:-4<=n) (b:n<=99):jt (qi n)=(n,true):=by
 have h:=List.all_eq_true.1 z1a (n+4).toNat (List.mem_range.2 (by omega));rw [show (((n+4).toNat:Nat):Int)-4=n by omega] at h;exact eq_of_beq h
theorem zld:∀ {l S:List Sign},(∀ x ∈ l,zg x=0)->qkc (qc5 l) S=((S++l,false,0),true)
 | [],S,_=>by simp [qc5,qkc]
 | x::l,S,h=>by
  have e:qc5 (x::l)=(qb6 x).1::qc5 l:=rfl;have a:=h x zC;have b:=(ze7 a).1;rw [e,qkc,b,zF (λq=>q4b a q.2.2),qxr a,zF (by simp),zld λy c=>h y (zG _ c)];simp
theorem zlc {c:Int} (b:-4<=c) (d:c<=12):∀ {l S:List Sign},(∀ x ∈ l,zg x=0)->qkc (qc5 l++[[126]++qi c]) S=((S++l,true,c),true)
 | [],S,_=>by
  have e:qc5 []++[[126]++qi c]=[126::qi c]:=rfl;have j:1<=ln (qi c):=by
   have:=(qn7 (n:=c) (by omega) (by omega)).1;omega
  have f:fr (126::qi c) 1=qi c:=rfl;rw [e,qkc,zT ⟨rfl,by rw [zh];omega,rfl⟩,f,zem b (by omega)];simp
 | x::l,S,h=>by
  have e:qc5 (x::l)++[[126]++qi c]=(qb6 x).1::(qc5 l++[[126]++qi c]):=rfl;have a:=h x zC;have g:=(ze7 a).1;rw [e,qkc,g,zF (λq=>q4b a q.2.2),qxr a,zF (by simp),zlc b d λy i=>h y (zG _ i)];simp
theorem zep {s:Staff} (h:zme s) (d:zxl s):kp (qf7 s)=(s,true):=by
 obtain ⟨l,m,n,b⟩:=h;obtain ⟨e,f,g⟩:=d;have c:2<=ln (qf7 s):=by unfold qf7;simp only [ln,List.length_append,List.length_cons,List.length_nil];omega
 have i:ix (qf7 s) 1=qi s.Lead:=rfl;have j:fr (qf7 s) 2=qc5 s.Signs++(if s.Catch=true then [[126]++qi s.Custos] else []):=rfl;unfold kp;rw [zF (by omega),i,zem (by omega) (by omega),zF (by simp),j];cases a:s.Catch with
 | true=>
  rw [zT rfl,zlc e f b];obtain ⟨S,L,C,U⟩:=s;cases a;rfl
 | false=>
  rw [zF (by simp),zJ,zld b];have k:=g a;obtain ⟨S,L,C,U⟩:=s;cases a;cases k;rfl
theorem z5g {s:Staff} (h:Rd s):ix (splitI 32 (qj3 s)) 0=qry:=by rw [qxe h];rfl
theorem z05 (s:Staff):qj3 s≠[101,110,100]:=by
 intro h;have b:(qj3 s).head? = some 115:=by
  unfold qj3 qf7;cases c:(([qi s.Lead]++qc5 s.Signs)++(if s.Catch=true then [[126]++qi s.Custos] else [])) with
  | nil=>simp at c
  | cons a l=>
   have e:([qry,qi s.Lead]++qc5 s.Signs)++(if s.Catch=true then [[126]++qi s.Custos] else [])=qry::a::l:=by rw [<-c];rfl
   rw [e];rfl
 rw [h] at b;cases b
def Rd2 (s:Staff):Prop:=Rd s/\kp (qf7 s)=(s,true)
theorem q23 {t:List ZB}:∀ {g:List Page} {l:List Staff} {P:List Page} {Q:List Staff},(∀ s ∈ l,Rd2 s)->(∀ p ∈ g,∀ s ∈ p.Staves,Rd2 s)->qq1 (l.map qj3++(qbm g++[101,110,100]::t)) P Q=((P++[Page.mk (Q++l)])++g,true)
 | [],[],P,Q,_,_=>by simp [qq1,qbm]
 | p::g,[],P,Q,_,a=>by
  have e:([]:List Staff).map qj3++(qbm (p::g)++[101,110,100]::t)=q2r::(p.Staves.map qj3++(qbm g++[101,110,100]::t)):=by simp [qbm,z4y]
  rw [e,qq1,zF (by decide),zT rfl,q23 (g:=g) (l:=p.Staves) (a p zC) λd f=>a d (zG _ f)];simp
 | g,s::l,P,Q,c,a=>by
  have b:=c s zC;have e:(s::l).map qj3++(qbm g++[101,110,100]::t)=qj3 s::(l.map qj3++(qbm g++[101,110,100]::t)):=rfl;rw [e,qq1,zF (z05 s),zF (zv7 s),z5g b.1,qxe b.1,b.2,zT ⟨rfl,rfl⟩,q23 (g:=g) (l:=l) (λi h=>c i (zG _ h)) a];simp
theorem zou {g:List Page} {t:List ZB} (a:∀ p ∈ g,∀ s ∈ p.Staves,Rd2 s):qtn (qbm g++[101,110,100]::t)=(g,true):=by
 cases g with
 | nil=>rfl
 | cons p g=>
  have e:qbm (p::g)++[101,110,100]::t=q2r::(p.Staves.map qj3++(qbm g++[101,110,100]::t)):=by simp [qbm,z4y]
  rw [e,qtn,zF (by decide),zT rfl,q23 (a p zC) λb c=>a b (zG _ c)];rfl
theorem zn3 {nm:ZB} (h:jh nm=true):no 32 nm:=by
 simp only [jh,zA,decide_eq_true_eq,List.all_eq_true] at h;intro b a;have:=h.2 b a;intro e;rw [e] at this;revert this;decide
theorem q7g {nm:ZB} {g:List Page} (h:(qai nm g).1=0):qbq (splitI 10 (qls nm g))=((nm,g),true):=by
 obtain ⟨⟨d,_⟩,a⟩:=qc2 h;have f:∀ p ∈ g,∀ s ∈ p.Staves,Rd2 s:=λp b s c=>⟨qtv ((a p b).2 s c).1 ((a p b).2 s c).2,zep ((a p b).2 s c).1 ((a p b).2 s c).2⟩;have e:splitI 10 (qls nm g)=(qkm++nm)::(qbm g++[101,110,100]::[[]]):=by
  have:=zc6 (qzu d).1 λp b s c=>(f p b s c).1;unfold qg0 at this;rw [this];simp
 have i:splitI 32 (qkm++nm)=[[98,111,111,107],nm]:=by
  have j:qkm++nm=[98,111,111,107]++32::nm:=rfl;rw [j,qml (by decide) (by decide),qnd (zn3 d)]
 unfold qbq;have k:ix ((qkm++nm)::(qbm g++[101,110,100]::[[]])) 0=qkm++nm:=rfl;have l:fr ((qkm++nm)::(qbm g++[101,110,100]::[[]])) 1=qbm g++[101,110,100]::[[]]:=rfl;have n1:=ln_nonneg (qbm g++[101,110,100]::[[]]);rw [e,k,l,i,zou f,zF (by rw [zh];omega),zF (by intro q;rcases q with q | q;exact q rfl;exact q rfl)];rfl
theorem q3z {nm:ZB} {g:List Page} {t:ZB} (h:(jy nm g).2=0/\(jy nm g).1=t):(qai nm g).1=0/\ln (qls nm g)<=20000/\t=qls nm g:=by
 obtain ⟨a,b⟩:=h;unfold jy at a b;split at a
 .rename_i c;exact absurd a c
 .rename_i c;rw [zF c] at b;split at a
  .exact absurd a (by show ¬ (4:Int)=0;decide)
  .rename_i d;rw [zF d] at b;exact ⟨Decidable.not_not.1 c,by omega,b.symm⟩
theorem zx0 {nm:ZB} {g:List Page}:qwe≠((nm,g),(0,0)):=by
 intro h;have:(3:Int)=0:=congrArg (λx:zqo=>x.2.1) h;exact absurd this (by decide)
theorem q2t (t:ZB):qbc t=qwe∨∃ nm g,qbc t=((nm,g),(0,0))/\(jy nm g).2=0/\(jy nm g).1=t:=by
 unfold qbc;split
 .exact .inl rfl
 split
 .exact .inl rfl
 split
 .exact .inl rfl
 unfold znf;split
 .exact .inl rfl
 .split
  .rename_i h;exact .inr ⟨_,_,rfl,h⟩
  .exact .inl rfl
theorem z0s (t:ZB):qb9 t=qbc t:=by
 rcases q2t t with h | ⟨nm,g,h,b⟩
 .rw [h];unfold qb9;split
  .rfl
  split
  .rfl
  split
  .rename_i e;obtain ⟨a,c,f⟩:=q3z e;have d:=(q5x a c (qzu (qc2 a).1.1).1).2;rw [<-f,h] at d;exact absurd d zx0
  .rfl
 .obtain ⟨a,c,rfl⟩:=q3z b;rw [h];unfold qb9;rw [q7g a,zF (by omega),zF (by simp),zT b]
theorem qq6 (c:Int) (s:ZB):ln (splitI c s)<=ln s+1:=by
 rw [qpa];have:=List.countP_le_length (p:=λb:UInt8=>decide ((b.toNat:Int)=c)) (l:=s);simp only [ln];omega
theorem zeh {r:ZB} (h:ln r<=20100):qi4 (splitI 32 r):=by
 have:=qq6 32 r;exact ⟨by omega,λw a=>by have:=qb5 a;omega⟩
def BdP (M N:Int) (P:List Page):Prop:=∀ p ∈ P,ln p.Staves<=M/\∀ s ∈ p.Staves,ln s.Signs<=N
theorem qub {M N:Int} {P:List Page} {Q:List Staff} (h:BdP M N P) (b:ln Q<=M) (c:∀ s ∈ Q,ln s.Signs<=N):BdP M N (P++[Page.mk Q]):=by
 intro p a;rcases List.mem_append.1 a with a | a
 .exact h p a
 .rw [List.mem_singleton.1 a];exact ⟨b,c⟩
theorem qq7 (P:List Page) (Q:List Staff):ln (qa (P++[Page.mk Q]))=ln (qa P)+ln Q:=by simp [qa,ln]
theorem zwd:∀ {w:List ZB} {S:List Sign},ln (qkb w S).1<=ln S+ln w
 | [],S=>by simp [qkb,ln]
 | x::w,S=>by
  have n0:=ln_nonneg w;rw [qkb];split
  .rw [zh];show ln S<=_;omega
  .have:=zwd (w:=w) (S:=S++[(zl x).1]);rw [qca] at this;rw [zh];omega
theorem zph (r:List ZB):ln (kc r).1.Signs<=ln r:=by
 have n0:=ln_nonneg r;have a:ln (fr r 2)<=ln r:=by simp only [fr,ln,List.length_drop];omega
 have b:ln (qg9 r)<=ln r:=by
  unfold qg9;split
  .have:ln (upto (fr r 2) (ln (fr r 2)-1))<=ln (fr r 2):=by simp only [upto,ln,List.length_take];omega
   omega
  .exact a
 have h:=zwd (w:=qg9 r) (S:=[]);rw [jc] at h;unfold kc
 (repeat' split)<;>first | (rw [jc];exact n0) | omega | (show ln []<=_;rw [jc];exact n0) | (show ln (qkb (qg9 r) []).1<=_;omega)
theorem zib {M N:Int}:∀ {rows:List ZB} {P:List Page} {Q:List Staff} {g:List Page},qtq rows P Q=some g->(∀ r ∈ rows,ln (splitI 32 r)<=N)->BdP M N P->ln Q+ln rows<=M->(∀ s ∈ Q,ln s.Signs<=N)->BdP M N g/\ln g<=ln P+1+ln rows/\ln (qa g)<=ln (qa P)+ln Q+ln rows
 | [],P,Q,g,h,_,c,e,d=>by
  rw [jc] at e;simp only [qtq,zS] at h;subst h;exact ⟨qub c (by omega) d,by rw [qca,jc];omega,by rw [qq7,jc];omega⟩
 | r::rows,P,Q,g,h,j,c,e,d=>by
  have b:=λx l=>j x (zG _ l);have n0:=ln_nonneg Q;have n1:=ln_nonneg rows;rw [zh] at e;rw [qtq] at h;split at h
  .obtain ⟨f,k,i⟩:=zib h b (qub c (by omega) d) (by rw [jc];omega) (λs a=>by cases a);rw [qca] at k;rw [qq7,jc] at i;exact ⟨f,by rw [zh];omega,by rw [zh];omega⟩
  .split at h
   .obtain ⟨f,k,i⟩:=zib h b c (by rw [qca];omega) (λs a=>by
     rcases List.mem_append.1 a with a | a
     .exact d s a
     .rw [List.mem_singleton.1 a];exact Int.le_trans (zph _) (j r zC))
    rw [qca] at i;exact ⟨f,by rw [zh];omega,by rw [zh];omega⟩
   .cases h
theorem zrp {g:List Page} (h:BdP 5000 5000 g) (a:ln g<=5000) (b:ln (qa g)<=50000):smB g:=⟨⟨a,b⟩,h⟩
theorem qwf:smB []:=zrp (λp a=>by cases a) (by decide) (by decide)
theorem zks {t:ZB} (h:ln t<=4000):∀ r ∈ qg0 t,ln r<=4000:=λr a=>Int.le_trans (qb5 a) h
theorem zw0 {t:ZB} (h:ln t<=4000∨(20000<ln t/\ln t<=20100)):okP t:=by
 refine ⟨by omega,λw=>?_⟩;have i:ln t<=4000:=by omega
 have a:=zks i;have d:ln (qg0 t)<=4001:=by have:=qq6 10 t;show ln (splitI 10 t)<=_;omega
 refine ⟨λr c=>zeh (by have:=a r c;omega),λg b=>?_⟩;have j:∀ r ∈ qgg t,ln (splitI 32 r)<=5000:=by
  intro r c;unfold qgg sub at c;have:=a r (List.mem_of_mem_take (List.mem_of_mem_drop c));have:=qq6 32 r;omega
 have f:ln (qgg t)<=4001:=by
  unfold qgg sub;simp only [ln,List.length_drop,List.length_take] at d ⊢;omega
 unfold qy5 at b;split at b
 .cases b;exact qwf
 .rename_i r l e;split at b
  .rw [e,zh] at f;obtain ⟨k,m,n⟩:=zib (M:=5000) (N:=5000) b (λx o=>j x (by rw [e];exact zG _ o)) (λp q=>by cases q) (by rw [jc];omega) (λs u=>by cases u);have v:ln (qa ([]:List Page))=0:=rfl;rw [jc] at m;rw [v,jc] at n;exact zrp k (by omega) (by omega)
  .cases b
theorem zwo:∀ {w:List ZB} {S:List Sign},ln (qkc w S).1.1<=ln S+ln w
 | [],S=>by simp [qkc,ln]
 | x::w,S=>by
  have n0:=ln_nonneg w;rw [qkc];split
  .rw [zh];show ln S<=_;omega
  .split
   .rw [zh];show ln S<=_;omega
   .have:=zwo (w:=w) (S:=S++[(zp x).1]);rw [qca] at this;rw [zh];omega
theorem zpi (r:List ZB):ln (kp r).1.Signs<=ln r:=by
 have n0:=ln_nonneg r;have a:ln (fr r 2)<=ln r:=by simp only [fr,ln,List.length_drop];omega
 have h:=zwo (w:=fr r 2) (S:=[]);rw [jc] at h;unfold kp;split
 .show ln []<=_;rw [jc];exact n0
 split
 .show ln []<=_;rw [jc];exact n0
 .show ln (qkc (fr r 2) []).1.1<=_;omega
theorem zh8 {M N:Int}:∀ {rows:List ZB} {P:List Page} {Q:List Staff},(∀ r ∈ rows,ln (splitI 32 r)<=N)->BdP M N P->ln Q+ln rows<=M->(∀ s ∈ Q,ln s.Signs<=N)->BdP M N (qq1 rows P Q).1/\ln (qq1 rows P Q).1<=ln P+1+ln rows/\ln (qa (qq1 rows P Q).1)<=ln (qa P)+ln Q+ln rows
 | [],P,Q,_,b,f,c=>by
  rw [jc] at f;exact ⟨qub b (by omega) c,by show ln (P++[Page.mk Q])<=_;rw [qca,jc];omega,by show ln (qa (P++[Page.mk Q]))<=_;rw [qq7,jc];omega⟩
 | r::rows,P,Q,i,b,f,c=>by
  have d:=λx k=>i x (zG _ k);have n0:=ln_nonneg Q;have n1:=ln_nonneg rows;have l:=ln_nonneg P;rw [zh] at f;have e:BdP M N (P++[Page.mk Q])/\ln (P++[Page.mk Q])<=ln P+1+ln (r::rows)/\ln (qa (P++[Page.mk Q]))<=ln (qa P)+ln Q+ln (r::rows):=⟨qub b (by omega) c,by rw [qca,zh];omega,by rw [qq7,zh];omega⟩;rw [qq1];split
  .exact e
  split
  .obtain ⟨g,j,h⟩:=zh8 (M:=M) (N:=N) (rows:=rows) (P:=P++[Page.mk Q]) (Q:=[]) d (qub b (by omega) c) (by rw [jc];omega) (λs a=>by cases a);rw [qca] at j;rw [qq7,jc] at h;exact ⟨g,by rw [zh];omega,by rw [zh];omega⟩
  split
  .obtain ⟨g,j,h⟩:=zh8 (M:=M) (N:=N) (rows:=rows) (P:=P) (Q:=Q++[(kp (splitI 32 r)).1]) d b (by rw [qca];omega) (λs a=>by
    rcases List.mem_append.1 a with a | a
    .exact c s a
    .rw [List.mem_singleton.1 a];exact Int.le_trans (zpi _) (i r zC))
   rw [qca] at h;exact ⟨g,by rw [zh];omega,by rw [zh];omega⟩
  .exact e
theorem zwu {t:ZB} (h:ln t<=4000∨(20000<ln t/\ln t<=20100)):okS t:=by
 refine ⟨by omega,λf=>?_⟩;have g:ln t<=4000:=by omega
 have a:=zks g;unfold qg0 at a;have j:=qq6 10 t;refine ⟨⟨by omega,λr b=>by have:=a r b;omega⟩,?_,?_⟩
 .unfold qbq;split
  .show ln []<=_;rw [jc];omega
  split
  .show ln []<=_;rw [jc];omega
  .rename_i A f;have B:ln (splitI 32 (ix (splitI 10 t) 0))=2:=by omega
   have k:=qam (l:=splitI 32 (ix (splitI 10 t) 0)) (i:=1) (by omega) (by omega);have m:=a _ (qam (l:=splitI 10 t) (i:=0) (by omega) (by omega));have:=qb5 k;show ln (ix (splitI 32 (ix (splitI 10 t) 0)) 1)<=_;omega
 .unfold qbq;split
  .exact qwf
  split
  .exact qwf
  .show smB (qtn (fr (splitI 10 t) 1)).1;have n:ln (fr (splitI 10 t) 1)<=ln (splitI 10 t):=by simp only [fr,ln,List.length_drop];omega
   have c:ln (fr (splitI 10 t) 1)<=4001:=by omega
   have d:∀ r ∈ fr (splitI 10 t) 1,ln (splitI 32 r)<=5000:=λr b=>by
    have:=a r (List.mem_of_mem_drop b);have:=qq6 32 r;omega
   unfold qtn;split
   .exact qwf
   .rename_i r l e;split
    .exact qwf
    split
    .rw [e,zh] at c;obtain ⟨o,q,u⟩:=zh8 (M:=5000) (N:=5000) (rows:=l) (P:=[]) (Q:=[]) (λx v=>d x (by rw [e];exact zG _ v)) (λp w=>by cases w) (by rw [jc];omega) (λs y=>by cases y);have z:ln (qa ([]:List Page))=0:=rfl;rw [jc] at q;rw [z,jc] at u;exact zrp o (by omega) (by omega)
    .exact qwf
theorem zzd:((List.range 101).all λk=>qcq (k:Int) == (if (k:Int) / 10=0 then [] else qcq ((k:Int) / 10))++[UInt8.ofNat (Int.toNat (48+(k:Int) % 10))])=true:=by kernel_rfl
theorem zs1 {n:Int} (a:0<=n) (b:n<=100):(if n / 10=0 then [] else qcq (n / 10))++[UInt8.ofNat (Int.toNat (48+n % 10))]=qcq n:=by
 have h:=List.all_eq_true.1 zzd n.toNat (List.mem_range.2 (by omega));rw [show ((n.toNat:Nat):Int)=n by omega] at h;exact (eq_of_beq h).symm
theorem zs0 {a0 n:Int} {o:ZB} (h:qdr a0 n o) (a:0<n∨o=[]):qdr a0 (n / 10) ([UInt8.ofNat (Int.toNat (48+n % 10))]++o):=by
 obtain ⟨c,d,f,g,l,i⟩:=h.get;have e:=zs1 c d;have j:ln o<=99:=by
  rcases a with a | rfl
  .omega
  .decide
 refine ⟨by omega,by omega,f,g,?_,.inr ⟨by simp,?_⟩⟩
 .rw [qj];show 1+ln o<=_;rcases a with a | rfl
  .omega
  .rw [jc];omega
 .rw [<-List.append_assoc,e];rcases i with ⟨rfl,rfl⟩ | ⟨k,b⟩
  .rw [zJ]
  .rw [zF (by rcases a with a | a;omega;exact absurd a k)] at b;exact b
theorem zgu (a0:Int) (c:-100<=a0/\a0<=100):qs2 a0:=by
 unfold qs2;dsimp only;have p:=qas (-a0);simp only [qh,List.length_cons,List.length_nil];refine ⟨λh=>⟨by omega,⟨by omega,by rw [zF (by omega),zT h];omega⟩,by omega,?_,trivial⟩,λh=>⟨⟨h,c.2,h,c.2,by rw [jc];omega,.inl ⟨rfl,rfl⟩⟩,λa d hi=>?_⟩⟩
 .rw [qi,zF (by omega),qi,zT h];rfl
 .have e:=zs0 hi;obtain ⟨i0,q,r,s,j,k⟩:=hi.get;have l:Int.tdiv a 10=a / 10:=Int.tdiv_eq_ediv_of_nonneg i0;have m:Int.tmod a 10=a % 10:=Int.tmod_eq_emod_of_nonneg i0;rw [l,m];have f:(if ([UInt8.ofNat (Int.toNat (48+a % 10))]++d:ZB)=[] then 1 else 0)=0:=zF (by simp);have n:(d.length:Int)<=100-a:=j;refine ⟨λg=>⟨by decide,by omega,by omega,by omega,by omega,⟨by decide,by omega⟩,e (.inl g),?_⟩,λg=>⟨λb=>⟨by decide,by omega,by omega,by omega,by omega,⟨by decide,by omega⟩,e (.inr b),?_⟩,λb=>⟨?_,trivial⟩⟩⟩
  .simp only [qc3];rw [f];omega
  .simp only [qc3];rw [f,zT b];omega
  .obtain rfl:a=0:=by omega
   rcases k with ⟨o,_⟩ | ⟨_,i⟩
   .exact absurd o b
   .rw [zT rfl,List.nil_append] at i;rw [qi,zF (by omega),i]
theorem zzb (a0:ZB) (b:Int) (q:U8 b/\ln a0<=100000000):q8z a0 b:=by
 obtain ⟨_,u⟩:=q;have n0:=ln_nonneg a0;unfold q8z;refine ⟨⟨by omega,by omega,by omega,by rw [jc];omega,.inl ⟨n0,by omega,λj h l=>by omega,by rw [qc9];rfl⟩⟩,λm d a hi=>?_⟩;obtain ⟨i0,v,e,w,n⟩:=hi.get;refine ⟨λr=>?_,λr=>?_⟩
 .obtain ⟨f,g,o,c⟩:a<=ln a0/\d<=a/\(∀ j,d<=j->j<a->bx a0 j≠b)/\m++splitI b (fr a0 d)=splitI b a0:=by
   rcases n with h | ⟨h,_⟩
   .exact h
   .omega
  have stop:(a=ln a0∨bx a0 a=b)->qgz a0 b (m++[sub a0 d a]) (a+1) (a+1):=by
   intro i;rw [zpf e g f o i] at c;refine ⟨by omega,by omega,by omega,by rw [qca];omega,?_⟩;by_cases p:a=ln a0
   .rw [zT p] at c;exact .inr ⟨by omega,c⟩
   .rw [zF p] at c;exact .inl ⟨by omega,zK _,λj h l=>by omega,by rw [<-c];simp⟩
  refine ⟨λi=>⟨⟨e,g,f⟩,trivial,kk (by omega),⟨by omega,by omega⟩,⟨by omega,by omega⟩,stop (.inl i),by simp only [qcy];omega⟩,λs=>⟨⟨by omega,by omega⟩,λk=>⟨⟨e,g,f⟩,trivial,kk (by omega),⟨by omega,by omega⟩,⟨by omega,by omega⟩,stop (.inr k),by simp only [qcy];omega⟩,
   λk=>⟨⟨by omega,by omega⟩,⟨by omega,by omega,e,by omega,.inl ⟨by omega,by omega,λj h l=>?_,c⟩⟩,by simp only [qcy];omega⟩⟩⟩
  by_cases t:j=a
  .rw [t];exact k
  .exact o j h (by omega)
 .rcases n with ⟨h,_⟩ | ⟨_,h⟩
  .omega
  .exact ⟨h,trivial⟩
theorem zen {a t:ZB} {n i:Int} (h:kq a n i t) (hi:i<ln t) (d:bx t i<48∨57<bx t i):q5b t 0=none:=by
 obtain ⟨b,e,f,g,j,k,c⟩:=h.get;rw [<-c,j5 b hi,q5b,zF];rw [<-qmr];omega
theorem zwk {a t:ZB} {n i:Int} (e:ln t<=2) (h:kq a n i t) (hi:i<ln t) (f:48<=bx t i) (g:bx t i<=57):kq a (10 * n+(bx t i-48)) (i+1) t:=by
 obtain ⟨g0,g1,j,c,d,k,b⟩:=h.get;refine ⟨by omega,by omega,by omega,λh=>by omega,λh=>?_,?_,?_⟩
 .have:=c (by omega);omega
 .have:=d (by omega);omega
 .rw [j5 g0 hi,q5b,zT (by rw [<-qmr];omega),<-qmr] at b;exact b
theorem z1b {a t:ZB} {n i:Int} (h:kq a n i t) (hi:ln t<=i):q5b t 0=some n:=by
 obtain ⟨c,d,e,f,g,j,b⟩:=h.get;rw [<-b,qcn hi];rfl
theorem q3m {a:ZB} (h:ln (qxi a)<1∨2<ln (qxi a)):jt a=(0,false):=by unfold jt;rw [zT h]
theorem qyy {a:ZB} (h:q5b (qxi a) 0=none):jt a=(0,false):=by
 unfold jt;split
 .rfl
 .rw [h]
theorem zel {a:ZB} {n:Int} (h:¬ (ln (qxi a)<1∨2<ln (qxi a))) (b:q5b (qxi a) 0=some n):jt a=(zo6 a * n,true):=by unfold jt;rw [zF h,b]
theorem zpd (a0:ZB) (k:ln a0<=100000000):qxh a0:=by
 have n0:=ln_nonneg a0;have s:=ln_nonneg (fr a0 1);have zero:∀ t,1<=ln t->kq a0 0 0 t:=λt h=>⟨by omega,by omega,by omega,λ_=>rfl,λ_=>by omega,by omega,by rw [qc9]⟩;unfold qxh;dsimp only;have e:∀ (t:ZB) (i:Int),(i=1∨i = -1)->qxi a0=t->zo6 a0=i->ln t<=100000000->(ln t<1->(0:Int)=(jt a0).1/\false=(jt a0).2/\True)/\(1<=ln t->(2<ln t->(0:Int)=(jt a0).1/\false=(jt a0).2/\True)/\(ln t<=2->kq a0 0 0 t/\∀ b a:Int,kq a0 b a t->
   (a<ln t->Wn a (ln t)/\(bx t a<48->(0:Int)=(jt a0).1/\false=(jt a0).2/\True)/\(48<=bx t a->Wn a (ln t)/\(57<bx t a->(0:Int)=(jt a0).1/\false=(jt a0).2/\True)/\(bx t a<=57->I64 (10 * b)/\Wn a (ln t)/\U8 (bx t a-48)/\I64 (bx t a-48)/\I64 (10 * b+(bx t a-48))/\I64 (a+1)/\kq a0 (10 * b+(bx t a-48)) (a+1) t/\qbf a0 (10 * b+(bx t a-48)) (a+1) t<qbf a0 b a t)))/\
   (ln t<=a->I64 (i * b)/\(i * b:Int)=(jt a0).1/\true=(jt a0).2/\True))):=by
  intro t i j l m n;subst l;refine ⟨λh=>by rw [q3m (.inl h)];exact ⟨rfl,rfl,trivial⟩,λo=>⟨λh=>by rw [q3m (.inr h)];exact ⟨rfl,rfl,trivial⟩,λp=>⟨zero _ o,λb a hi=>?_⟩⟩⟩;obtain ⟨g0,g1,u,v,w,x,y⟩:=hi.get;refine ⟨λc=>⟨⟨g0,c⟩,λf=>by rw [qyy (zen hi c (.inl f))];exact ⟨rfl,rfl,trivial⟩,λf=>⟨⟨g0,c⟩,λg=>by rw [qyy (zen hi c (.inr g))];exact ⟨rfl,rfl,trivial⟩,λg=>⟨by omega,⟨g0,c⟩,by omega,by omega,by omega,by omega,zwk p hi c f g,by simp only [qbf];omega⟩⟩⟩,λc=>?_⟩;rw [zel (by omega) (z1b hi c),m];refine ⟨?_,rfl,rfl,trivial⟩;rcases j with rfl | rfl<;>omega
 refine ⟨λh=>⟨⟨by omega,h⟩,λf=>⟨⟨by omega,by omega⟩,?_⟩,λf=>?_⟩,λh=>?_⟩
 .have d:zus a0=true:=decide_eq_true ⟨h,f⟩;have r:ln (fr a0 1)<=ln a0:=by simp only [fr,ln,List.length_drop];omega
  exact e (fr a0 1) (-1) (.inr rfl) (by unfold qxi;rw [zT d]) (by unfold zo6;rw [zT d]) (by omega)
 .have d:zus a0=false:=decide_eq_false λq=>f q.2;exact e a0 1 (.inl rfl) (by unfold qxi;rw [zF (by simp [d])]) (by unfold zo6;rw [zF (by simp [d])]) k
 .have d:zus a0=false:=decide_eq_false λq=>by omega
  exact e a0 1 (.inl rfl) (by unfold qxi;rw [zF (by simp [d])]) (by unfold zo6;rw [zF (by simp [d])]) k
theorem zg5 {w:List ZB} {i:Int} (a:0<=i) (h:i<ln w):fr w (i+1)=[]↔i+1=ln w:=by
 constructor
 .intro e;have:=qkg (l:=w) (i:=i+1) (by omega) (by omega);rw [e,jc] at this;omega
 .intro e;exact qcn (by omega)
theorem zpk (a0:List ZB) (v:qi4 a0):qxj a0:=by
 obtain ⟨x,o⟩:=v;have n0:=ln_nonneg a0;unfold qxj;dsimp only
 try simp only [qzy]
 have zero:kp a0=(Staff.mk [] 0 false 0,false)->([]:List Sign)=(kp a0).1.Signs/\(0:Int)=(kp a0).1.Lead/\false=(kp a0).1.Catch/\(0:Int)=(kp a0).1.Custos/\false=(kp a0).2/\True:=λe=>by rw [e];exact ⟨rfl,rfl,rfl,rfl,rfl,trivial⟩
 refine ⟨λh=>zero (by unfold kp;rw [zT h]),λh=>⟨⟨by omega,by omega⟩,?_,λj=>zero (by unfold kp;rw [zF (by omega),zT j]),λj=>⟨⟨by omega,h,by rw [jc];omega,rfl⟩,λa b hi=>?_⟩⟩⟩
 .have:=o _ (qam (l:=a0) (i:=1) (by omega) (by omega));omega
 .obtain ⟨i0,y,z,p⟩:=hi.get;have n3:=ln_nonneg b;have f:kp a0=(Staff.mk (qkc (fr a0 a) b).1.1 (jt (ix a0 1)).1 (qkc (fr a0 a) b).1.2.1 (qkc (fr a0 a) b).1.2.2,(qkc (fr a0 a) b).2):=by
   rw [p];unfold kp;rw [zF (by omega),zF (by simp [j])]
  refine ⟨λc=>?_,λc=>?_⟩
  .have d:=o _ (qam (l:=a0) (i:=a) (by omega) c);have s:=j5 (l:=a0) (i:=a) (by omega) c;have t:=zg5 (w:=a0) (i:=a) (by omega) c;have no:¬ (a+1=ln a0/\1<ln (ix a0 a)/\bx (ix a0 a) 0=126)->qkc (fr a0 a) b=if (zp (ix a0 a)).2≠0 then ((b,false,0),false) else qkc (fr a0 (a+1)) (b++[(zp (ix a0 a)).1]):=λq=>by
    rw [s,qkc,zF (λr=>q ⟨t.1 r.1,r.2⟩)]
   have g:¬ (a+1=ln a0/\1<ln (ix a0 a)/\bx (ix a0 a) 0=126)->(zp (ix a0 a)).2≠0->b=(kp a0).1.Signs/\((jt (ix a0 1)).1:Int)=(kp a0).1.Lead/\false=(kp a0).1.Catch/\(0:Int)=(kp a0).1.Custos/\false=(kp a0).2/\True:=λq r=>by
    rw [f,no q,zT r];exact ⟨rfl,rfl,rfl,rfl,rfl,trivial⟩
   have good:¬ (a+1=ln a0/\1<ln (ix a0 a)/\bx (ix a0 a) 0=126)->(zp (ix a0 a)).2=0->qep a0 (a+1) (b++[(zp (ix a0 a)).1]):=λq r=>
    ⟨by omega,by omega,by rw [qca];omega,by rw [<-p,no q,zF (by simp [r])]⟩
   have k:∀ S,qbg a0 (a+1) S<qbg a0 a b:=λS=>by simp only [qbg];omega
   refine ⟨⟨by omega,by omega⟩,λm=>⟨⟨by omega,c⟩,λu=>⟨⟨by omega,c⟩,⟨by omega,by omega⟩,λn=>⟨⟨by omega,c⟩,⟨by omega,by omega⟩,?_,?_⟩,λn=>?_⟩,λu=>?_⟩,λm=>?_⟩
   .simp only [fr,ln,List.length_drop] at d ⊢;omega
   .rw [f,s,qkc,zT ⟨t.2 m,u,n⟩];exact ⟨rfl,rfl,rfl,rfl,rfl,trivial⟩
   .have q:¬ (a+1=ln a0/\1<ln (ix a0 a)/\bx (ix a0 a) 0=126):=λr=>n r.2.2;exact ⟨⟨by omega,c⟩,d,g q,λr=>⟨trivial,kk (by omega),⟨by omega,by omega⟩,by trivial,good q r,k _⟩⟩
   .have q:¬ (a+1=ln a0/\1<ln (ix a0 a)/\bx (ix a0 a) 0=126):=λr=>by have:=r.2.1;omega
    exact ⟨⟨by omega,c⟩,d,g q,λr=>⟨trivial,kk (by omega),⟨by omega,by omega⟩,by trivial,good q r,k _⟩⟩
   .have q:¬ (a+1=ln a0/\1<ln (ix a0 a)/\bx (ix a0 a) 0=126):=λr=>m r.1;exact ⟨⟨by omega,c⟩,d,g q,λr=>⟨trivial,kk (by omega),⟨by omega,by omega⟩,by trivial,good q r,k _⟩⟩
  .rw [f,qcn c];exact ⟨rfl,rfl,rfl,rfl,rfl,trivial⟩
theorem zv2 (a0:List ZB) (x:okR a0):q21 a0:=by
 obtain ⟨F,y⟩:=x;have n0:=ln_nonneg a0;have row:∀ i,0<=i->i<ln a0->ln (ix a0 i)<=20100:=λi h z=>y _ (qam h z);unfold q21;dsimp only
 try simp only [qrt]
 have a:∀ {P:List Page} {b:Bool} {nm:ZB},qbq a0=((nm,P),b)->nm=(qbq a0).1.1/\P=(qbq a0).1.2/\b=(qbq a0).2/\True:=λe=>by rw [e];exact ⟨rfl,rfl,rfl,trivial⟩
 refine ⟨λh=>a (by unfold qbq;rw [zT h]),λh=>⟨⟨by omega,by omega⟩,⟨by decide,by have:=row 0 (by omega) (by omega);omega⟩,λo=>a (by unfold qbq;rw [zF (by omega),zT (.inl o)]),λo=>⟨⟨by omega,by omega⟩,λp=>a (by unfold qbq;rw [zF (by omega),zT (.inr p)]),λp=>⟨⟨by omega,by omega⟩,?_,?_⟩⟩⟩⟩
 .intro g;have d:qbq a0=((ix (splitI 32 (ix a0 0)) 1,(qtn (fr a0 1)).1),(qtn (fr a0 1)).2):=by unfold qbq;rw [zF (by omega),zF (by intro q;rcases q with q | q;exact q o;exact q p)]
  have r:=j5 (l:=a0) (i:=1) (by omega) g;refine ⟨⟨by omega,g⟩,⟨by decide,by have:=row 1 (by omega) g;omega⟩,⟨by omega,g⟩,λk=>a (by rw [d,r,qtn,zT k]),λk=>⟨⟨by omega,g⟩,λs=>⟨⟨by omega,by omega,rfl,by rw [jc];omega,by rw [jc];omega,by rw [r,qtn,zF k,zT s];rfl⟩,λt G A B hi=>?_⟩,λs=>⟨?_,λC=>?_,λC=>?_⟩⟩⟩
  .obtain ⟨i0,H,f,I,J,m⟩:=hi.get;have K:=ln_nonneg A;have L:=ln_nonneg B;rw [<-m] at d;refine ⟨λj=>?_,λj=>⟨f,trivial,kk (by omega),a (by rw [d,qcn j];rfl)⟩⟩;have c:=j5 (l:=a0) (i:=t) (by omega) j;have u:=row t (by omega) j;have D:1<=ln (splitI 32 (ix a0 t)):=qtt _ _;refine ⟨⟨by omega,j⟩,⟨by decide,by omega⟩,⟨by omega,j⟩,λg1=>⟨f,trivial,kk (by omega),a (by rw [d,c,qq1,zT g1])⟩,λg1=>⟨⟨by omega,j⟩,λn=>?_,λn=>⟨⟨by omega,by omega⟩,λv=>⟨⟨by omega,by omega⟩,λE=>⟨zeh u,λw=>?_,λw=>?_⟩,λE=>?_⟩,λv=>?_⟩⟩⟩
   .rw [c,qq1,zF g1,zT n] at m;exact ⟨f,trivial,kk (by omega),⟨by omega,by omega⟩,by trivial,by trivial,⟨by omega,by omega,rfl,by rw [qca];omega,by rw [jc];omega,m⟩,by simp only [qes];omega⟩
   .exact ⟨f,trivial,kk (by omega),a (by rw [d,c,qq1,zF g1,zF n,zF (by simp [w])])⟩
   .rw [c,qq1,zF g1,zF n,zT ⟨v,w⟩] at m;exact ⟨⟨by omega,by omega⟩,⟨by omega,by omega⟩,by omega,f,trivial,kk (by omega),f,⟨by omega,by omega⟩,by trivial,by trivial,⟨by omega,by omega,f,by omega,by rw [qca];omega,m⟩,by simp only [qes];omega⟩
   .omega
   .exact ⟨f,trivial,kk (by omega),a (by rw [d,c,qq1,zF g1,zF n,zF (λq=>v q.1)])⟩
  .have:=qtt 32 (ix a0 1);exact ⟨by omega,by omega⟩
  .exact a (by rw [d,r,qtn,zF k,zF s])
  .exact a (by rw [d,r,qtn,zF k,zF s])
 .intro g;have d:qbq a0=((ix (splitI 32 (ix a0 0)) 1,(qtn (fr a0 1)).1),(qtn (fr a0 1)).2):=by unfold qbq;rw [zF (by omega),zF (by intro q;rcases q with q | q;exact q o;exact q p)]
  exact a (by rw [d,qcn g];rfl)
theorem qwt {s x:ZB}:∀ {l:List ZB},l≠[]->qbl (l++[x]) s=(qbl l s++s)++x
 | [],h=>absurd rfl h
 | [y],_=>rfl
 | y::z::l,_=>by
  have e:(y::z::l)++[x]=y::z::(l++[x]):=rfl;have a:=qwt (s:=s) (x:=x) (l:=z::l) (by simp);have b:(z::l)++[x]=z::(l++[x]):=rfl;rw [b] at a;rw [e,qbl,a,qbl];simp only [List.append_assoc]
theorem z11 {x:Sign}:ln (qb6 x).1<=30:=zlq (l:=[x]) _ (zC)
theorem zq5 (a0:ZB) (b:List Page) (f:ln a0<=1000000/\smB b):q0h a0 b:=by
 unfold q0h;dsimp only
 try simp only [qzy]
 have n0:=ln_nonneg a0;have n1:=f.2.1;have T:ln ([98,111,111,107,32]:ZB)=5:=rfl;have U:ln qkm=5:=rfl;have V:ln ([112,97,103,101,10]:ZB)=5:=rfl;have W:ln ([101,110,100,10]:ZB)=4:=rfl;have N:ln ([10]:ZB)=1:=rfl;have O:ln ([32]:ZB)=1:=rfl;have C:ln ([32,126]:ZB)=2:=rfl;have X:ln ([115,116,97,102,102,32]:ZB)=6:=rfl;refine ⟨⟨by omega,f.2⟩,λh=>?_,λh=>⟨kz (by omega),kz (by rw [qj];omega),⟨zK _,ln_nonneg _,by rw [k6];show _=_++[];rw [zJ]⟩,λw c D=>⟨λhi=>?_,λhi=>?_⟩⟩⟩
 .unfold jy;rw [zT h];exact ⟨rfl,rfl,trivial⟩
 .obtain ⟨P,a⟩:=qc2 h;obtain ⟨i0,E,e⟩:=D;have y:∀ p ∈ upto b c,ln p.Staves<=12/\∀ s ∈ p.Staves,ln s.Signs<=60:=λp f=>⟨(a p (List.mem_of_mem_take f)).1,λs m=>((a p (List.mem_of_mem_take f)).2 s m).1.1⟩;have F:=qvi y;rw [qda i0 E] at F;have Q:ln w<=140000000:=by rw [e,qj,qj,qj];omega
  obtain ⟨g1,G⟩:=a _ (qam i0 hi);refine ⟨kz (by omega),⟨zK _,ln_nonneg _,by rw [k6,e];show _=_++(_++[]);rw [zJ]⟩,λR d H=>⟨⟨i0,hi⟩,λo=>?_,λo=>?_⟩⟩
  .obtain ⟨q,I,k⟩:=H;have S:=qzx (l:=upto (ix b c).Staves d) λs m=>(G s (List.mem_of_mem_take m)).1.1;rw [qda q I] at S;have Y:ln R<=150000000:=by rw [k,qj,qj,qj,qj,qj];omega
   obtain ⟨⟨Z,s2,s3,s4⟩,u1,u2,u3⟩:=G _ (qam q o);have i:upto (ix b c).Staves (d+1)=upto (ix b c).Staves d++[ix (ix b c).Staves d]:=ke q o;have qL:=qql (ix (ix b c).Staves d).Lead;refine ⟨⟨i0,hi⟩,⟨q,o⟩,⟨by omega,by omega⟩,kz (by omega),⟨zK _,ln_nonneg _,by rw [k6];simp [qc5,qbl]⟩,λJ r K=>⟨λt=>?_,λt=>?_⟩⟩
   .obtain ⟨u,L,j⟩:=K;have z:=qow (q4f (n:=(ix (ix b c).Staves d).Lead) (l:=upto (ix (ix b c).Staves d).Signs r));rw [q6k,qda u L,<-j] at z;have qw:=z11 (x:=ix (ix (ix b c).Staves d).Signs r);refine ⟨⟨u,t⟩,trivial,kz (by omega),kz (by rw [qj];omega),⟨by omega,by omega⟩,by trivial,by trivial,by trivial,by trivial,by trivial,by trivial,⟨by omega,by omega,?_⟩,by simp only [qk5];omega⟩;rw [ke u t,zeg,<-List.append_assoc,qwt (by simp),j]
   .obtain ⟨u,L,j⟩:=K;rw [j9 t] at j;have z:=qow (q4f (n:=(ix (ix b c).Staves d).Lead) (l:=(ix (ix b c).Staves d).Signs));rw [q6k,<-j] at z;refine ⟨λA=>?_,λA=>?_⟩
    .have q2:=qql (ix (ix b c).Staves d).Custos;have B:qvn (ix (ix b c).Staves d)=((J++[32])++([126]++qi (ix (ix b c).Staves d).Custos))++[10]:=by
      unfold qvn qf7;rw [zT A,qwt (by simp),j]
     refine ⟨kz (by omega),⟨by omega,by omega⟩,kz (by rw [qj];omega),kz (by rw [qj,qj];omega),kz (by rw [qj,qj,qj];omega),⟨by omega,by omega⟩,by trivial,by trivial,⟨by omega,by omega,?_⟩,by simp only [qer,qbv];omega⟩;rw [i,qro,k,B];simp only [List.append_assoc,List.cons_append,List.nil_append]
    .have B:qvn (ix (ix b c).Staves d)=J++[10]:=by
      unfold qvn qf7;rw [zF (by simp [A]),zJ,j]
     refine ⟨kz (by omega),kz (by rw [qj];omega),⟨by omega,by omega⟩,by trivial,by trivial,⟨by omega,by omega,?_⟩,by simp only [qer,qbv];omega⟩;rw [i,qro,k,B];simp only [List.append_assoc]
  .obtain ⟨q,I,k⟩:=H;rw [j9 o] at k;refine ⟨⟨by omega,by omega⟩,by trivial,by trivial,⟨by omega,by omega,?_⟩,by simp only [qk4,qfz];omega⟩;rw [ke i0 hi,q7b,k];simp only [List.append_assoc]
 .obtain ⟨P,a⟩:=qc2 h;obtain ⟨i0,E,e⟩:=D;rw [j9 hi] at e;have F:=qvi (g:=b) λp f=>⟨(a p f).1,λs m=>((a p f).2 s m).1.1⟩;have Q:ln w<=140000000:=by rw [e,qj,qj,qj];omega
  have M:w++[101,110,100,10]=qls a0 b:=by rw [e];rfl
  refine ⟨kz (by omega),λv=>?_,λv=>?_⟩
  .rw [M] at v;unfold jy;rw [zF (by simp [h]),zT v];exact ⟨rfl,rfl,trivial⟩
  .rw [M] at v ⊢;unfold jy;rw [zF (by simp [h]),zF (by omega)];exact ⟨rfl,rfl,trivial⟩
theorem zl9 (a0:ZB) (f:okS a0):qv8 a0:=by
 obtain ⟨k,g⟩:=f;unfold qv8;dsimp only;have a:qb9 a0=qwe->([]:ZB)=(qb9 a0).1.1/\([]:List Page)=(qb9 a0).1.2/\(3:Int)=(qb9 a0).2.1/\(0:Int)=(qb9 a0).2.2/\True:=λe=>by rw [e];exact ⟨rfl,rfl,rfl,rfl,trivial⟩
 refine ⟨λh=>a (by unfold qb9;rw [zT h]),λh=>?_⟩;obtain ⟨g1,i,j⟩:=g h;refine ⟨⟨by decide,by omega⟩,g1,λb=>a (by unfold qb9;rw [zF (by omega),zT b]),λb=>⟨⟨i,j⟩,λc=>a (by unfold qb9;rw [zF (by omega),zF (by simp [b]),zF (λq=>c q.1)]),λc=>⟨λd=>a (by unfold qb9;rw [zF (by omega),zF (by simp [b]),zF (λq=>d q.2)]),λd=>?_⟩⟩⟩;have e:qb9 a0=((qbq (splitI 10 a0)).1,(0,0)):=by unfold qb9;rw [zF (by omega),zF (by simp [b]),zT ⟨c,d⟩]
 rw [e];exact ⟨rfl,rfl,rfl,rfl,trivial⟩
theorem z0v (t:ZB) (h:okP t):ln (qbc t).1.2<=5000/\okB (qbc t).1.2:=by
 rcases q2t t with e | ⟨nm,g,e,l,m⟩
 .rw [e];exact ⟨by decide,λp a=>by cases a⟩
 .rw [e];obtain ⟨c,i,j⟩:=q3z ⟨l,m⟩;have n:=q7g c;have b:smB g:=by
   have o:=(q5x c i (qzu (qc2 c).1.1).1).2;obtain ⟨_,k⟩:=qc2 c;have d:∀ p ∈ g,∀ s ∈ p.Staves,Rd s:=λp a s b=>qtv ((k p a).2 s b).1 ((k p a).2 s b).2;have:=((h.2 (by rw [j];exact i)).2 g (by rw [j,(zbh (qzu (qc2 c).1.1).1 d).1,zbi d]));exact this
  exact ⟨b.1.1,λp a=>⟨by have:=(b.2 p a).1;omega,λs f=>by have:=(b.2 p a).2 s f;omega⟩⟩
theorem zic (n:ZB) (g:List Page):qmi n g n g=true:=decide_eq_true ⟨rfl,rfl⟩
theorem zc2 (a0:ZB) (a:List Page) (a2:ZB) (f:ln a0<=9223372036854775807/\ln a<=9223372036854775807/\(∀ p ∈ a,ln p.Staves<=9223372036854775807/\∀ s ∈ p.Staves,ln s.Signs<=9223372036854775807)/\ln a2<=9223372036854775807):qqo a0 a a2:=by
 obtain ⟨p1,p2,g,r⟩:=f;unfold qqo;dsimp only;have i:=z0s a2;have b:qf9 a0 a=true->(ln a2<=4000∨(20000<ln a2/\ln a2<=20100))->(ln a0<=1000000/\smB a)/\okP a2/\okS a2/\(ln (qbc a2).1.2<=5000/\okB (qbc a2).1.2):=by
  intro c d;have j:=zuf c;have t:=(of_decide_eq_true c).1;exact ⟨⟨by omega,j.2.1⟩,zw0 d,zwu d,z0v a2 (zw0 d)⟩
 have sb:=zic (qbc a2).1.1 (qbc a2).1.2;simp only [i,sb];refine ⟨⟨p1,p2,g⟩,λ_=>⟨trivial,by trivial,trivial⟩,λc=>⟨λk=>⟨λ_=>⟨trivial,by trivial,trivial⟩,λl=>⟨λ_=>⟨trivial,by trivial,trivial⟩,λm=>?_⟩⟩,λk=>⟨λh=>by omega,λ_=>?_⟩⟩⟩
 all_goals
  obtain ⟨e,n,o,q⟩:=b c (by omega);refine ⟨e,e,n,o,?_⟩;simp [q]
theorem q4k (a0:ZB) (a:Int) (_:U8 a):qr2 a0 a:=⟨trivial,rfl,trivial⟩
theorem zqz (a0 a:ZB) (b:ln a=1/\ln a0<=100000000):za9 a0 a:=⟨⟨b.1,rfl,rfl,b.2⟩,rfl,trivial⟩
end Go.Proofs.YtpgchdcifbaioaaGreatDoor
