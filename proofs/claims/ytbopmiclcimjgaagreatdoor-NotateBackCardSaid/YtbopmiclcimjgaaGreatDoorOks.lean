import Derived.Test.YtbopmiclcimjgaaGreatDoorVcs
import Derived.Test.YtbopmiclcimjgaaGreatDoorDall
namespace Go.Proofs.YtbopmiclcimjgaaGreatDoor
open Go Go.E2 Go.E3
set_option maxRecDepth 100000
theorem zkj (a:UInt8):ln [a]=1:=rfl
theorem q96 {s:ZB} (h:s≠[]):0<ln s:=by
 cases s with
 | nil=>exact absurd rfl h
 | cons a l=>simp only [ln,List.length_cons];omega
theorem q2q (a0 a1:ZB):qlo a0 a1:=by
 unfold qlo
 have:=qu a1
 refine ⟨fun h=>⟨⟨qu a1,h⟩,?_,trivial⟩,fun h=>⟨?_,trivial⟩⟩
 .simp only [preB,h,decide_true,Bool.true_and]
 .simp only [preB,show ¬ ln a1<=ln a0 by omega,decide_false,Bool.false_and]
theorem zrc (x y:MapIS):q92 XK 24 1 x y=decide (x.key=y.key):=by
 show qgm [(.int .i64 none x.key:PV KT)] [.int .i64 none y.key]=_
 rw [Bool.eq_iff_iff]
 simp [qgm]
theorem qlf (y:MapIS):qgi [] y=y:=rfl
theorem qda (x:MapIS) (l:List MapIS) (y:MapIS):qgi (x::l) y=bif decide (y.key=x.key) then x else qgi l y:=by
 rw [<-zrc];rfl
theorem qtm (y:MapIS):qhf [] y=[y]:=rfl
theorem qyt (x:MapIS) (l:List MapIS) (y:MapIS):qhf (x::l) y=bif decide (y.key=x.key) then y::l else x::qhf l y:=by
 rw [<-zrc];rfl
theorem zoq (a:Int):(qgi (qhf (qhf ([]:List MapIS) (MapIS.mk 2 ([50]:ZB))) (MapIS.mk 3 ([51]:ZB))) (MapIS.mk a ([]:ZB))).v=zfh a:=by
 simp only [qtm,qyt,qlf,qda,zfh]
 by_cases h2:a=2
 .simp [h2,qda]
 .by_cases h3:a=3
  .simp [h3,qda]
  .simp [h2,h3,qda,qlf]
theorem zqn (a:Int):(qgi (qhf (qhf ([]:List MapIS) (MapIS.mk 2 ([67]:ZB))) (MapIS.mk 3 ([79]:ZB))) (MapIS.mk a ([]:ZB))).v=zm1 a:=by
 simp only [qtm,qyt,qlf,qda,zm1]
 by_cases h2:a=2
 .simp [h2,qda]
 .by_cases h3:a=3
  .simp [h3,qda]
  .simp [h2,h3,qda,qlf]
theorem zp7 (a:Int):(qgi (qhf ([]:List MapIS) (MapIS.mk 3 ([46]:ZB))) (MapIS.mk a ([]:ZB))).v=zl7 a:=by
 simp only [qtm,qlf,qda,zl7]
 by_cases h3:a=3
 .simp [h3]
 .simp [h3]
theorem qvz (a:Int):(zfh a).length<=1:=by unfold zfh;(repeat' split)<;>simp
theorem zd6 (a:Int):(zm1 a).length<=1:=by unfold zm1;(repeat' split)<;>simp
theorem zdt (a:Int):(zl7 a).length<=1:=by unfold zl7;(repeat' split)<;>simp
theorem zg8 (a0 a1 a2 a3:Int):qtu a0 a1 a2 a3:=by
 unfold qtu
 dsimp only
 simp only [zoq,zqn,zp7,qh,List.length_append,List.length_nil]
 have h0:=qvz a0
 have h1:=qvz a1
 have h2:=zd6 a2
 have h3:=zdt a3
 unhygienic (repeat' (first | exact trivial | exact And.intro (by omega) trivial | apply And.intro | intro))
 all_goals first
  | omega
  | (simp_all [js];done)
theorem zew (a0 a1 a2 a3:Int):qsk a0 a1 a2 a3:=by
 unfold qsk
 simp only [qkq]
 unhygienic (repeat' (first | exact trivial | apply And.intro | intro))
 all_goals first
  | (simp_all;done)
  | (unfold qcb at *;split<;>simp_all)
theorem zrb (x y:MapSM):q92 XK 23 1 x y=decide (x.key=y.key):=by
 show qgm [(.str x.key:PV KT)] [.str y.key]=_
 rw [Bool.eq_iff_iff]
 simp [qgm]
theorem qx2 (x:MapSM) (l:List MapSM) (y:MapSM):qkx (x::l) y=bif decide (y.key=x.key) then x else qkx l y:=by
 rw [<-zrb];rfl
theorem qx7 (x:MapSM) (l:List MapSM) (y:MapSM):qx8 (x::l) y=(decide (y.key=x.key) || qx8 l y):=by
 rw [<-zrb];rfl
def q57 (m:M4):MapSM:=MapSM.mk (txM m) m.1 m.2.1 m.2.2.1 m.2.2.2
def mapM:List MapSM:=allM.map q57
theorem zjv (s:ZB):∀ (l:List M4),qx8 (l.map q57) (MapSM.mk s 0 0 0 0)=decide ((qnx s l).2=0)/\
  ((qkx (l.map q57) (MapSM.mk s 0 0 0 0)).vMax,(qkx (l.map q57) (MapSM.mk s 0 0 0 0)).vMod,(qkx (l.map q57) (MapSM.mk s 0 0 0 0)).vTem,(qkx (l.map q57) (MapSM.mk s 0 0 0 0)).vPro)=(qnx s l).1/\((qnx s l).2=0∨(qnx s l)=((0,0,0,0),3))
 | []=>⟨rfl,rfl,.inr rfl⟩
 | m::l=>by
  obtain ⟨h1,h2,h3⟩:=zjv s l
  by_cases h:txM m=s
  .have hd:decide (s=(q57 m).key)=true:=decide_eq_true h.symm
   simp only [List.map_cons,qx2,qx7,qnx,zT h,hd]
   exact ⟨by simp,rfl,.inl trivial⟩
  .have hd:decide (s=(q57 m).key)=false:=decide_eq_false fun hh=>h hh.symm
   simp only [List.map_cons,qx2,qx7,qnx,zF h,hd,Bool.false_or,zQ]
   exact ⟨h1,h2,h3⟩
theorem zph:j6 (j6 (j6 (j6 (j6 (j6 (j6 (j6 (j6 (j6 (j6 (j6 (j6 (j6 (j6 (j6 ([]:List MapSM) (MapSM.mk (js 2 2 2 2) 2 2 2 2)) (MapSM.mk (js 2 2 2 3) 2 2 2 3)) (MapSM.mk (js 2 2 3 2) 2 2 3 2)) (MapSM.mk (js 2 2 3 3) 2 2 3 3)) (MapSM.mk (js 2 3 2 2) 2 3 2 2)) (MapSM.mk (js 2 3 2 3) 2 3 2 3)) (MapSM.mk (js 2 3 3 2) 2 3 3 2)) (MapSM.mk (js 2 3 3 3) 2 3 3 3)) (MapSM.mk (js 3 2 2 2) 3 2 2 2)) (MapSM.mk (js 3 2 2 3) 3 2 2 3)) (MapSM.mk (js 3 2 3 2) 3 2 3 2)) (MapSM.mk (js 3 2 3 3) 3 2 3 3)) (MapSM.mk (js 3 3 2 2) 3 3 2 2)) (MapSM.mk (js 3 3 2 3) 3 3 2 3)) (MapSM.mk (js 3 3 3 2) 3 3 3 2)) (MapSM.mk (js 3 3 3 3) 3 3 3 3)=mapM:=by
 rfl
theorem q81 (a0:ZB):qpl a0:=by
 unfold qpl
 dsimp only
 simp only [zph]
 obtain ⟨h1,h2,h3⟩:=zjv a0 allM
 simp only [mapM,h1]
 simp only [Prod.ext_iff] at h2
 obtain ⟨e1,e2,e3,e4⟩:=h2
 unhygienic (repeat' (first | exact trivial | apply And.intro | intro))
 all_goals unfold qgq
 all_goals first
  | exact e1
  | exact e2
  | exact e3
  | exact e4
  | (rcases h3 with h3 | h3
     .simp_all
     .rw [h3])
  | (simp_all;done)
theorem qef {s:ZB} {i n:Int} (h0:0<=i) (h:i<ln s) (h1:48<=bx s i) (h2:bx s i<=57) (h3:10 * n+(bx s i-48)<=1099511627776):qcd s i n=qcd s (i+1) (10 * n+(bx s i-48)):=by
 conv=>lhs;rw [qcd]
 have hd:qd8 (bx s i)=true:=by simp [qd8,h1,h2]
 rw [dif_pos ⟨h0,h⟩,zT hd,zF (by omega)]
theorem zpq {s:ZB} {i n:Int} (h0:0<=i) (h:i<ln s) (h1:bx s i<48∨57<bx s i):qcd s i n=(0,false):=by
 rw [qcd]
 have hd:¬ qd8 (bx s i)=true:=by simp only [qd8,zA,decide_eq_true_eq];omega
 rw [dif_pos ⟨h0,h⟩,zF hd]
theorem zpr {s:ZB} {i n:Int} (h0:0<=i) (h:i<ln s) (h1:48<=bx s i) (h2:bx s i<=57) (h3:1099511627776<10 * n+(bx s i-48)):qcd s i n=(0,false):=by
 rw [qcd]
 have hd:qd8 (bx s i)=true:=by simp [qd8,h1,h2]
 rw [dif_pos ⟨h0,h⟩,zT hd,zT (by omega)]
theorem qrt {s:ZB} {i n:Int} (h:ln s<=i):qcd s i n=(n,true):=by
 rw [qcd,dif_neg (by omega)]
theorem q7e {s:ZB} (h:s=[]∨(bx s 0=48/\1<ln s)):qw s=(0,false):=by
 unfold qw
 rw [zT]
 rcases h with rfl | h
 .exact .inl rfl
 .exact .inr h
theorem zk8 {s:ZB} (h:s≠[]) (h':¬ (bx s 0=48/\1<ln s)):qcd s 0 0=qw s:=by
 unfold qw
 rw [zF]
 have:=q96 h
 rintro (h1 | h1)
 .omega
 .exact h' h1
theorem zgd:∀ {s:ZB} {i n:Int},0<=n->n<=1099511627776->0<=(qcd s i n).1/\(qcd s i n).1<=1099511627776:=by
 intro s i n h0 h1
 fun_induction qcd s i n with
 | case1 i n h hd hb=>simp
 | case2 i n h hd hb ih=>
  have:48<=bx s i:=by simp only [qd8,zA,decide_eq_true_eq] at hd;exact hd.1
  exact ih (by omega) (by omega)
 | case3 i n h hd=>simp
 | case4 i n h=>exact ⟨h0,h1⟩
theorem zk3 (s:ZB):0<=(qw s).1/\(qw s).1<=1099511627776:=by
 unfold qw
 split
 .simp
 .exact zgd (by omega) (by omega)
theorem q7d:∀ {s:ZB} {i n:Int},(qcd s i n).2=false->(qcd s i n).1=0:=by
 intro s i n
 fun_induction qcd s i n with
 | case1 i n h hd hb=>simp
 | case2 i n h hd hb ih=>exact ih
 | case3 i n h hd=>simp
 | case4 i n h=>simp
theorem zk9 {s:ZB} (h:(qw s).2=false):(qw s).1=0:=by
 unfold qw at h ⊢
 split
 .rfl
 .rename_i hn
  rw [zF hn] at h
  exact q7d h
theorem zk5 {s:ZB} {i n:Int} (h:qcd s i n=qw s) (h0:0<=i) (h1:i<ln s) (hb:bx s i<48∨57<bx s i∨1099511627776<10 * n+(bx s i-48)):qw s=(0,false):=by
 rw [<-h]
 by_cases h2:bx s i<48∨57<bx s i
 .exact zpq h0 h1 h2
 .exact zpr h0 h1 (by omega) (by omega) (by omega)
theorem zk4 {s:ZB} {i n:Int} (h:qcd s i n=qw s) (h1:ln s<=i):qw s=(n,true):=by rw [<-h];exact qrt h1
theorem zk7 {s:ZB} {i n:Int} (h:qcd s i n=qw s) (h0:0<=i) (h1:i<ln s) (h2:48<=bx s i) (h3:bx s i<=57) (h4:10 * n+(bx s i-48)<=1099511627776):qcd s (i+1) (10 * n+(bx s i-48))=qw s:=by
 rw [<-h];exact (qef h0 h1 h2 h3 h4).symm
set_option maxHeartbeats 4000000 in
theorem q8y (a0:ZB) (hp:ln a0<=1000000):qpk a0:=by
 unfold qpk
 simp only [qbp,qcs,and_imp]
 have hn:a0≠[]->0<ln a0:=q96
 unhygienic (repeat' (first | exact trivial | exact And.intro (by omega) trivial | apply And.intro | intro))
 all_goals first
  | omega
  | (have:=hn ‹_›;omega)
  | (rw [q7e (.inl ‹_›)];done)
  | (rw [q7e (.inr ⟨by assumption,by assumption⟩)];done)
  | (rw [zk5 ‹_› ‹_› ‹_› (by omega)];done)
  | (rw [zk4 ‹_› ‹_›];done)
  | exact zk7 ‹_› ‹_› ‹_› ‹_› ‹_› ‹_›
  | exact zk8 ‹_› (by omega)
  | exact zK _
  | (have:=hn ‹_›;omega)
theorem ztn {s:ZB} {c:UInt8}:upto s (ln [c])=[c]↔0<ln s/\bx s 0=c.toNat:=by
 cases s with
 | nil=>simp [upto,ln]
 | cons a l=>
  have:upto (a::l) (ln [c])=[a]:=rfl
  rw [this]
  have e:bx (a::l) 0=(a.toNat:Int):=rfl
  rw [e]
  simp only [List.cons.injEq,and_true,jf]
  have:=qu l
  constructor
  .rintro rfl;exact ⟨by omega,rfl⟩
  .rintro ⟨_,h⟩;exact qai h
theorem za9 {s:ZB} (h:¬ (0<ln s/\bx s 0=45)):qbb s=qw s:=by rw [qbb,zF h]
theorem q4o {s:ZB} (h:0<ln s/\bx s 0=45) (h2:(qw (fr s 1)).2=true) (h3:(qw (fr s 1)).1≠0):qbb s=(-(qw (fr s 1)).1,true):=by rw [qbb,zT h,zT ⟨h2,h3⟩]
theorem zd0 {s:ZB} (h:0<ln s/\bx s 0=45) (h2:(qw (fr s 1)).2=false∨(qw (fr s 1)).1=0):qbb s=(0,false):=by
 rw [qbb,zT h,zF]
 rintro ⟨h3,h4⟩
 rcases h2 with h2 | h2
 .rw [h2] at h3;cases h3
 .exact h4 h2
theorem q86 (a0:ZB) (hp:ln a0<=1000000):qpm a0:=by
 unfold qpm
 dsimp only
 have hf:ln (fr a0 (ln ([45]:ZB)))<=ln a0:=by simp only [fr,ln,List.length_drop];omega
 have hb:=zk3 (fr a0 (ln ([45]:ZB)))
 have hz:=@zk9 a0
 have hl:ln ([45]:ZB)=1:=rfl
 have h45:((45:UInt8).toNat:Int)=45:=rfl
 have hn:=qu a0
 unhygienic (repeat' (first | exact trivial | exact And.intro (by omega) trivial | apply And.intro | intro))
 all_goals first
  | omega
  | (rw [ne_eq,ztn] at a_1;rw [za9 a_1]<;>first | assumption | exact (hz ‹_›).symm | (symm;assumption) | rfl)
  | (rw [ztn] at a_1;first | (rw [zd0 a_1 (.inl ‹_›)];done) | (rw [zd0 a_1 (.inr ‹_›)];done) | (rw [q4o a_1 ‹_› ‹_›];done) | (rw [q4o a_1 ‹_› ‹_›];rfl))
  | (rw [za9 (by omega)]<;>first | assumption | exact (hz ‹_›).symm | (symm;assumption) | rfl)
theorem zlx {s:ZB} {c i k m:Int} (h0:0<=i) (h:i<ln s) (hc:bx s i=c):qex s c i k m=qex s c (i+1) i (m+1):=by
 conv=>lhs;rw [qex]
 rw [dif_pos ⟨h0,h⟩,zT hc]
theorem zgn {s:ZB} {c i k m:Int} (h0:0<=i) (h:i<ln s) (hc:bx s i≠c):qex s c i k m=qex s c (i+1) k m:=by
 conv=>lhs;rw [qex]
 rw [dif_pos ⟨h0,h⟩,zF hc]
theorem zly {s:ZB} {c i k:Int} (h:ln s<=i):qex s c i k 1=(upto s k,fr s (k+1),true):=by
 rw [qex,dif_neg (by omega),zT rfl]
theorem q31 {n:Int} (_:0<=n):(qde n).length<=3:=by
 unfold qde
 split
 .simp [d1]
 .split
  .simp [d1]
  .simp
theorem qcq (n:Int):(zd n).length<=4:=by
 unfold zd
 split
 .simp only [List.length_cons];have:=q31 (n:=-n) (by omega);omega
 .have:=q31 (n:=n) (by omega);omega
theorem znw (a:Int):(qib a).length<=1:=by unfold qib;(repeat' split)<;>simp
theorem zn5 (c:Bool):(q3a c).length<=1:=by unfold q3a;(repeat' split)<;>simp
theorem q8b (k:Int):(qe8 k).length<=1:=by unfold qe8;(repeat' split)<;>simp
theorem qrp (b:Bool) (c:UInt8):(zn b c).length<=1:=by unfold zn;(repeat' split)<;>simp
theorem q6z (s:Sign):(qf0 s).length<=6:=by
 unfold qf0
 have h1:=qcq s.Place
 have h2:=znw s.Acc
 have h3:=zn5 s.Color
 simp only [List.length_append];omega
theorem zct {s:ZB} {i:Int} (h0:0<=i) (h:i<ln s) (hb:(48<=bx s i/\bx s i<=57)∨(i=0/\bx s i=45)):hdE s i=hdE s (i+1):=by
 conv=>lhs;rw [hdE]
 rw [dif_pos ⟨h0,h⟩,zT]
 rcases hb with hb | hb
 .exact .inl (by simp [qd8,hb.1,hb.2])
 .exact .inr hb
theorem qoe {s:ZB} {i:Int} (h:ln s<=i∨(¬ (48<=bx s i/\bx s i<=57)/\¬ (i=0/\bx s i=45))):hdE s i=i:=by
 rw [hdE]
 split
 .rename_i h1
  rw [zF]
  rcases h with h | h
  .omega
  .rintro (h2 | h2)
   .simp only [qd8,zA,decide_eq_true_eq] at h2;exact h.1 h2
   .exact h.2 h2
 .rfl
section
variable {w:ZB} (n0:w≠[]) (n1:w≠[46]) (n2:w≠[91]) (n3:w≠[116,117,114,110]) (n4:w≠[115,105,103])
 include n0 n1 n2 n3 n4
theorem za2 (h:bx w 0=114):qbd w=q4i (fr w 1):=by rw [qbd,zF n0,zF n1,zF n2,zF n3,zF n4,zT h]
theorem za3 (h:bx w 0=116):qbd w=q0f (fr w 1):=by rw [qbd,zF n0,zF n1,zF n2,zF n3,zF n4,zF (by omega),zT h]
theorem za1 (h:bx w 0=40):qbd w=q3z (fr w 1):=by rw [qbd,zF n0,zF n1,zF n2,zF n3,zF n4,zF (by omega),zF (by omega),zT h]
theorem za0 (h:bx w 0=64):qbd w=qvm (fr w 1):=by rw [qbd,zF n0,zF n1,zF n2,zF n3,zF n4,zF (by omega),zF (by omega),zF (by omega),zT h]
theorem zaz (h:bx w 0=38):qbd w=qz2 8 (fr w 1):=by rw [qbd,zF n0,zF n1,zF n2,zF n3,zF n4,zF (by omega),zF (by omega),zF (by omega),zF (by omega),zT h]
theorem q4e (h:bx w 0=93):qbd w=qz2 10 (fr w 1):=by rw [qbd,zF n0,zF n1,zF n2,zF n3,zF n4,zF (by omega),zF (by omega),zF (by omega),zF (by omega),zF (by omega),zT h]
theorem qyx (h1:bx w 0≠114) (h2:bx w 0≠116) (h3:bx w 0≠40) (h4:bx w 0≠64) (h5:bx w 0≠38) (h6:bx w 0≠93):qbd w=if (qcx (upto w 1)).2=0 then zab w else qz8 w:=by
 rw [qbd,zF n0,zF n1,zF n2,zF n3,zF n4,zF h1,zF h2,zF h3,zF h4,zF h5,zF h6]
end
theorem qth {s:Sign} (h:kf s=0):1<=s.Kind/\s.Kind<=12/\qnm s/\(s.Kind=5->qcb s.MensMax s.MensMod s.MensTem s.MensPro=0)/\qd0 s/\¬ (s.Oblique=true/\s.Last=true):=by
 unfold kf at h
 split at h
 .cases h
 .rename_i h1
  split at h
  .cases h
  .rename_i h2
   split at h
   .cases h
   .rename_i h3
    split at h
    .cases h
    .rename_i h4
     split at h
     .cases h
     .rename_i h5
      refine ⟨by omega,by omega,Decidable.not_not.1 h2,fun hk=>?_,Decidable.not_not.1 h4,h5⟩
      by_cases hm:qcb s.MensMax s.MensMod s.MensTem s.MensPro=0
      .exact hm
      .exact absurd ⟨hk,hm⟩ h3
theorem qlm {s:Sign} (h:kf s=0):qb1 s=(k8 s,0):=by rw [qb1,zT h]
theorem qzj {s:Sign} (h:kf s≠0):qb1 s=([],kf s):=by rw [qb1,zF h]
theorem zqo {a b c d:Int} (h:qcb a b c d=0):qkq a b c d=(js a b c d,0):=by rw [qkq,zT h]
theorem q8i (a b c d:Int):(js a b c d).length<=4:=by
 unfold js
 have h1:=qvz a
 have h2:=qvz b
 have h3:=zd6 c
 have h4:=zdt d
 split<;>simp only [List.length_append,List.length_nil]<;>omega
theorem qv8 (v:Int):(ltr v).length<=8:=by unfold ltr zkn sub;simp only [List.length_drop,List.length_take,List.length_cons,List.length_nil];omega
theorem zmy (k:Int):(qjx k).length<=1:=by unfold qjx;(repeat' split)<;>simp
theorem zkm {v:Int} (h:1<=v/\v<=8):[UInt8.ofNat (Int.toNat (bx ([88,76,66,83,77,81,70,90]:ZB) (v-1)))]=ltr v/\U8 (bx ([88,76,66,83,77,81,70,90]:ZB) (v-1)):=by
 have hc:v=1∨v=2∨v=3∨v=4∨v=5∨v=6∨v=7∨v=8:=by omega
 rcases hc with rfl | rfl | rfl | rfl | rfl | rfl | rfl | rfl<;>exact ⟨rfl,by decide⟩
theorem zmx {k:Int} (h:0<k/\k<=3):sub ([32,94,118,62]:ZB) k (k+1)=qe8 k:=by
 have hc:k=1∨k=2∨k=3:=by omega
 rcases hc with rfl | rfl | rfl<;>rfl
theorem zg4 {k:Int} (h:¬ 0<k) (h0:0<=k):qe8 k=[]:=by
 obtain rfl:k=0:=by omega
 rfl
theorem zn3 {k:Int} (h:k=0∨k=3∨k=4):[UInt8.ofNat (Int.toNat (bx ([67,46,46,70,71]:ZB) k))]=qjx k/\U8 (bx ([67,46,46,70,71]:ZB) k):=by
 rcases h with rfl | rfl | rfl<;>exact ⟨rfl,by decide⟩
theorem qfc (a:Int):qib a=acA a++acB a++acC a:=by
 unfold qib acA acB acC
 by_cases h1:a = -1
 .simp [h1]
 .by_cases h2:a=1
  .simp [h2]
  .simp [h1,h2]
theorem zbt (a:Int):(acA a).length<=1:=by unfold acA;split<;>simp
theorem zbu (a:Int):(acB a).length<=1:=by unfold acB;split<;>simp
theorem zbv (a:Int):(acC a).length<=1:=by unfold acC;split<;>simp
theorem zwx (a1 a2 a3:Int) (a4:Bool) (a5:Int) (a6 a7:Bool) (a8 a9 a10 a11:Int) (a12:Bool) (a13 a14 a15 a16:Int):k8 (Sign.mk 1 a1 a2 a3 a4 a5 a6 a7 a8 a9 a10 a11 a12 a13 a14 a15 a16)=ltr a1++(zd a2++(acA a3++acB a3++acC a3)++q3a a4):=by
 simp [k8,qia,qf0,qfc]
theorem zwy (a1 a2 a3:Int) (a4:Bool) (a5:Int) (a6 a7:Bool) (a8 a9 a10 a11:Int) (a12:Bool) (a13 a14 a15 a16:Int):k8 (Sign.mk 2 a1 a2 a3 a4 a5 a6 a7 a8 a9 a10 a11 a12 a13 a14 a15 a16)=[114]++ltr a1:=by
 simp [k8,qia,qf0,qfc]
theorem zwz (a1 a2 a3:Int) (a4:Bool) (a5:Int) (a6 a7:Bool) (a8 a9 a10 a11:Int) (a12:Bool) (a13 a14 a15 a16:Int):k8 (Sign.mk 3 a1 a2 a3 a4 a5 a6 a7 a8 a9 a10 a11 a12 a13 a14 a15 a16)=[46]:=by
 simp [k8,qia,qf0,qfc]
theorem zw0 (a1 a2 a3:Int) (a4:Bool) (a5:Int) (a6 a7:Bool) (a8 a9 a10 a11:Int) (a12:Bool) (a13 a14 a15 a16:Int):k8 (Sign.mk 4 a1 a2 a3 a4 a5 a6 a7 a8 a9 a10 a11 a12 a13 a14 a15 a16)=[116]++(zd a2++(acA a3++acB a3++acC a3)++q3a a4)++qe8 a5++zn a6 126++zn a7 33:=by
 simp [k8,qia,qf0,qfc]
theorem zw1 (a1 a2 a3:Int) (a4:Bool) (a5:Int) (a6 a7:Bool) (a8 a9 a10 a11:Int) (a12:Bool) (a13 a14 a15 a16:Int):k8 (Sign.mk 5 a1 a2 a3 a4 a5 a6 a7 a8 a9 a10 a11 a12 a13 a14 a15 a16)=[40]++js a8 a9 a10 a11++[41]++zn a12 124:=by
 simp [k8,qia,qf0,qfc]
theorem zw2 (a1 a2 a3:Int) (a4:Bool) (a5:Int) (a6 a7:Bool) (a8 a9 a10 a11:Int) (a12:Bool) (a13 a14 a15 a16:Int):k8 (Sign.mk 6 a1 a2 a3 a4 a5 a6 a7 a8 a9 a10 a11 a12 a13 a14 a15 a16)=zd a13++[47]++zd a14:=by
 simp [k8,qia,qf0,qfc]
theorem zw3 (a1 a2 a3:Int) (a4:Bool) (a5:Int) (a6 a7:Bool) (a8 a9 a10 a11:Int) (a12:Bool) (a13 a14 a15 a16:Int):k8 (Sign.mk 7 a1 a2 a3 a4 a5 a6 a7 a8 a9 a10 a11 a12 a13 a14 a15 a16)=[64]++qjx a15++zd a16:=by
 simp [k8,qia,qf0,qfc]
theorem zw4 (a1 a2 a3:Int) (a4:Bool) (a5:Int) (a6 a7:Bool) (a8 a9 a10 a11:Int) (a12:Bool) (a13 a14 a15 a16:Int):k8 (Sign.mk 8 a1 a2 a3 a4 a5 a6 a7 a8 a9 a10 a11 a12 a13 a14 a15 a16)=[38]++zd a13:=by
 simp [k8,qia,qf0,qfc]
theorem zw5 (a1 a2 a3:Int) (a4:Bool) (a5:Int) (a6 a7:Bool) (a8 a9 a10 a11:Int) (a12:Bool) (a13 a14 a15 a16:Int):k8 (Sign.mk 9 a1 a2 a3 a4 a5 a6 a7 a8 a9 a10 a11 a12 a13 a14 a15 a16)=[91]:=by
 simp [k8,qia,qf0,qfc]
theorem zuh (a1 a2 a3:Int) (a4:Bool) (a5:Int) (a6 a7:Bool) (a8 a9 a10 a11:Int) (a12:Bool) (a13 a14 a15 a16:Int):k8 (Sign.mk 10 a1 a2 a3 a4 a5 a6 a7 a8 a9 a10 a11 a12 a13 a14 a15 a16)=[93]++zd a13:=by
 simp [k8,qia,qf0,qfc]
theorem zui (a1 a2 a3:Int) (a4:Bool) (a5:Int) (a6 a7:Bool) (a8 a9 a10 a11:Int) (a12:Bool) (a13 a14 a15 a16:Int):k8 (Sign.mk 11 a1 a2 a3 a4 a5 a6 a7 a8 a9 a10 a11 a12 a13 a14 a15 a16)=[116,117,114,110]:=by
 simp [k8,qia,qf0,qfc]
theorem zuj (a1 a2 a3:Int) (a4:Bool) (a5:Int) (a6 a7:Bool) (a8 a9 a10 a11:Int) (a12:Bool) (a13 a14 a15 a16:Int):k8 (Sign.mk 12 a1 a2 a3 a4 a5 a6 a7 a8 a9 a10 a11 a12 a13 a14 a15 a16)=[115,105,103]:=by
 simp [k8,qia,qf0,qfc]
set_option maxHeartbeats 8000000 in
theorem zig (a0 a1 a2 a3:Int) (a4:Bool) (a5:Int) (a6 a7:Bool) (a8 a9 a10 a11:Int) (a12:Bool) (a13 a14 a15 a16:Int):qwp a0 a1 a2 a3 a4 a5 a6 a7 a8 a9 a10 a11 a12 a13 a14 a15 a16:=by
 unfold qwp
 dsimp only
 refine ⟨trivial,fun h=>⟨by rw [qzj h],by rw [qzj h],trivial⟩,fun h=>?_⟩
 obtain ⟨k1,k2,_,km,kr,_⟩:=qth h
 unfold qd0 at kr
 simp only at k1 k2 km kr
 have hV:a0=1∨a0=2->1<=a1/\a1<=8:=by omega
 have hP:a0=1∨a0=4->-4<=a2/\a2<=12:=by omega
 have hS:a0=4->0<=a5/\a5<=3:=by omega
 have h6:a0=6->1<=a13/\a13<=100/\1<=a14/\a14<=100:=by omega
 have h7:a0=7->(a15=0∨a15=3∨a15=4)/\1<=a16/\a16<=5:=by omega
 have h8:a0=8∨a0=10->0<=a13/\a13<=4:=by omega
 clear kr
 simp only [qlm h,qh,List.length_append,List.length_cons,List.length_nil,ln,List.nil_append,qc3,qc4,qc5,qc6,qc7,zj2,forall_eq]
 clear h
 refine ⟨by omega,fun e=>by omega,fun e=>?_,fun e=>?_,fun e=>?_,fun e=>?_,fun e=>?_,fun e=>?_,fun e=>?_,fun e=>?_,fun e=>?_,fun e=>?_,fun e=>?_,fun e=>?_,trivial⟩
 .subst e
  obtain ⟨b1,b2⟩:=zkm (hV (.inl rfl))
  have r1:=hV (.inl rfl)
  have r2:=hP (.inl rfl)
  have l1:=qv8 a1
  have l2:=qcq a2
  have m1:=zbt a3
  have m2:=zbu a3
  have m3:=zbv a3
  clear hV hP hS h6 h7 h8 km k1 k2
  simp only [b1,zwx]
  unhygienic (repeat' (first | exact trivial | (with_reducible exact rfl) | (with_reducible apply And.intro) | intro))
  all_goals first
   | omega
   | (subst_vars;simp [acA,acB,acC,q3a,zn];done)
   | (simp [*,acA,acB,acC,q3a,zn];done)
 .subst e
  obtain ⟨b1,b2⟩:=zkm (hV (.inr rfl))
  have r1:=hV (.inr rfl)
  have l1:=qv8 a1
  clear hV hP hS h6 h7 h8 km k1 k2
  simp only [b1,zwy]
  unhygienic (repeat' (first | exact trivial | (with_reducible exact rfl) | (with_reducible apply And.intro) | intro))
  all_goals first
   | omega
   | (subst_vars;simp [zn];done)
   | (simp [*,zn];done)
 .subst e
  clear hV hP hS h6 h7 h8 km k1 k2
  simp only [zwz]
  unhygienic (repeat' (first | exact trivial | (with_reducible exact rfl) | (with_reducible apply And.intro) | intro))
  all_goals first
   | omega
   | (subst_vars;simp [zn];done)
   | (simp [*,zn];done)
 .subst e
  have r2:=hP (.inr rfl)
  have r3:=hS rfl
  have l2:=qcq a2
  have m1:=zbt a3
  have m2:=zbu a3
  have m3:=zbv a3
  have m4:=qrp a6 126
  have l9:=q8b a5
  have hst:0<a5->sub ([32,94,118,62]:ZB) a5 (a5+1)=qe8 a5:=fun e=>zmx ⟨e,r3.2⟩
  have hst0:a5<=0->qe8 a5=[]:=fun e=>zg4 (by omega) r3.1
  clear hV hP hS h6 h7 h8 km k1 k2
  simp only [zw0]
  unhygienic (repeat' (first | exact trivial | (with_reducible exact rfl) | (with_reducible apply And.intro) | intro))
  all_goals first
   | omega
   | (rw [hst ‹_›];omega)
   | (rw [hst ‹_›];done)
   | (rw [hst0 ‹_›];simp;done)
   | (subst_vars;simp [acA,acB,acC,q3a,zn];done)
   | (simp [*,acA,acB,acC,q3a,zn];done)
 .subst e
  have hT:=zqo (km rfl)
  have l3:=q8i a8 a9 a10 a11
  clear hV hP hS h6 h7 h8 km k1 k2
  simp only [hT,zw1]
  unhygienic (repeat' (first | exact trivial | (with_reducible exact rfl) | (with_reducible apply And.intro) | intro))
  all_goals first
   | omega
   | (subst_vars;simp [zn];done)
   | (simp [*,zn];done)
 .subst e
  have r6:=h6 rfl
  have l4:=qcq a13
  have l5:=qcq a14
  clear hV hP hS h6 h7 h8 km k1 k2
  simp only [zw2]
  unhygienic (repeat' (first | exact trivial | (with_reducible exact rfl) | (with_reducible apply And.intro) | intro))
  all_goals first
   | omega
   | (subst_vars;simp [zn];done)
   | (simp [*,zn];done)
 .subst e
  have r7:=h7 rfl
  obtain ⟨b1,b2⟩:=zn3 r7.1
  have l6:=qcq a16
  have l7:=zmy a15
  clear hV hP hS h6 h7 h8 km k1 k2
  simp only [b1,zw3]
  unhygienic (repeat' (first | exact trivial | (with_reducible exact rfl) | (with_reducible apply And.intro) | intro))
  all_goals first
   | omega
   | (subst_vars;simp [zn];done)
   | (simp [*,zn];done)
 .subst e
  have r8:=h8 (.inl rfl)
  have l4:=qcq a13
  clear hV hP hS h6 h7 h8 km k1 k2
  simp only [zw4]
  unhygienic (repeat' (first | exact trivial | (with_reducible exact rfl) | (with_reducible apply And.intro) | intro))
  all_goals first
   | omega
   | (subst_vars;simp [zn];done)
   | (simp [*,zn];done)
 .subst e
  clear hV hP hS h6 h7 h8 km k1 k2
  simp only [zw5]
  unhygienic (repeat' (first | exact trivial | (with_reducible exact rfl) | (with_reducible apply And.intro) | intro))
  all_goals first
   | omega
   | (subst_vars;simp [zn];done)
   | (simp [*,zn];done)
 .subst e
  have r8:=h8 (.inr rfl)
  have l4:=qcq a13
  clear hV hP hS h6 h7 h8 km k1 k2
  simp only [zuh]
  unhygienic (repeat' (first | exact trivial | (with_reducible exact rfl) | (with_reducible apply And.intro) | intro))
  all_goals first
   | omega
   | (subst_vars;simp [zn];done)
   | (simp [*,zn];done)
 .subst e
  clear hV hP hS h6 h7 h8 km k1 k2
  simp only [zui]
  unhygienic (repeat' (first | exact trivial | (with_reducible exact rfl) | (with_reducible apply And.intro) | intro))
  all_goals first
   | omega
   | (subst_vars;simp [zn];done)
   | (simp [*,zn];done)
 .subst e
  clear hV hP hS h6 h7 h8 km k1 k2
  simp only [zuj]
  unhygienic (repeat' (first | exact trivial | (with_reducible exact rfl) | (with_reducible apply And.intro) | intro))
  all_goals first
   | omega
   | (subst_vars;simp [zn];done)
   | (simp [*,zn];done)
theorem q1p (b:Int):qpb b=true↔((97<=b/\b<=122)∨(48<=b/\b<=57)∨b=45):=by
 simp only [qpb,qrm,Bool.or_eq_true,zA,decide_eq_true_eq];omega
theorem q1o (s:ZB):qae s=true↔(1<=ln s/\ln s<=20/\97<=bx s 0/\bx s 0<=122/\∀ j,0<=j->j<ln s->qpb (bx s j)=true):=by
 simp only [qae,qrm,zA,decide_eq_true_eq,List.all_eq_true]
 constructor
 .rintro ⟨⟨⟨h1,h2⟩,h3,h4⟩,h5⟩
  exact ⟨h1,h2,h3,h4,fun j h0 h=>h5 _ (qh0 h0 h)⟩
 .rintro ⟨h1,h2,h3,h4,h5⟩
  refine ⟨⟨⟨h1,h2⟩,h3,h4⟩,fun b hb=>?_⟩
  obtain ⟨i,i0,i1,rfl⟩:=qtf hb
  exact h5 i i0 i1
theorem zpm {s:ZB} (h:1<=ln s/\ln s<=20/\97<=bx s 0/\bx s 0<=122/\∀ j,0<=j->j<ln s->qpb (bx s j)=true):true=qae s:=((q1o s).2 h).symm
theorem zdk {s:ZB} (h:¬ (1<=ln s/\ln s<=20/\97<=bx s 0/\bx s 0<=122/\∀ j,0<=j->j<ln s->qpb (bx s j)=true)):false=qae s:=by
 cases hb:qae s with
 | false=>rfl
 | true=>exact absurd ((q1o s).1 hb) h
theorem zf9 {s:ZB} {i:Int} (h:∀ j,0<=j->j<i->qpb (bx s j)=true) (hi:(97<=bx s i/\bx s i<=122)∨(48<=bx s i/\bx s i<=57)∨bx s i=45):∀ j,0<=j->j<i+1->qpb (bx s j)=true:=by
 intro j h0 hj
 by_cases he:j=i
 .subst he;exact (q1p _).2 hi
 .exact h j h0 (by omega)
theorem zkw {s:ZB} {i:Int} (h0:0<=i) (h:i<ln s) (hi:¬ ((97<=bx s i/\bx s i<=122)∨(48<=bx s i/\bx s i<=57)∨bx s i=45)):false=qae s:=
 zdk fun hh=>hi ((q1p _).1 (hh.2.2.2.2 i h0 h))
theorem zhx (a0:ZB) (hp:ln a0<=9223372036854775806):qwg a0:=by
 unfold qwg
 have hn:=qu a0
 unhygienic (repeat' (first | exact trivial | exact And.intro (by omega) trivial | apply And.intro | intro))
 all_goals try simp only [qa7,kz] at *
 all_goals first
  | omega
  | exact ⟨by omega,by omega,fun j h0 h=>absurd h (by omega)⟩
  | (refine zdk fun hh=>?_;omega)
  | (exact zf9 a_4.2.2 (by omega) j ‹_› ‹_›)
  | (obtain ⟨i0,i1,i2⟩:=a_4;exact zkw i0 ‹_› (by omega))
  | (obtain ⟨i0,i1,i2⟩:=a_4;exact zpm ⟨by omega,by omega,by omega,by omega,fun j h0 h=>i2 j h0 (by omega)⟩)
theorem q8t (a0:ZB) (a1:List Sign) (hp:ln a0<=1000000000/\ln a1<=1000000000):qpj a0 a1:=by
 unfold qpj
 simp only [qy8]
 unhygienic (repeat' (first | exact trivial | exact And.intro (by omega) trivial | apply And.intro | intro))
 all_goals try simp only [qch,qa8] at *
 all_goals first
  | omega
  | skip
 all_goals grind [zk,qw9,zb2,q25,qnb,zn1,ins]
theorem zgy {a b:List Sign} (h:a=b):qli a b=true:=decide_eq_true h
theorem q75 {a b:List Sign} (h:a≠b):qli a b=false:=decide_eq_false h
theorem zms {a b:Sign} (h1:a.Kind=b.Kind) (h2:a.Value=b.Value) (h3:a.Place=b.Place) (h4:a.Acc=b.Acc) (h5:a.Color=b.Color) (h6:a.Stem=b.Stem) (h7:a.Oblique=b.Oblique) (h8:a.Last=b.Last) (h9:a.MensMax=b.MensMax) (h10:a.MensMod=b.MensMod) (h11:a.MensTem=b.MensTem) (h12:a.MensPro=b.MensPro) (h13:a.Stroke=b.Stroke) (h14:a.N=b.N) (h15:a.D=b.D) (h16:a.ClefStep=b.ClefStep) (h17:a.ClefLine=b.ClefLine):a=b:=by
 cases a;cases b;simp_all
theorem q2w (a0 a1:List Sign) (hp:ln a0<=10000000):qqp a0 a1:=by
 refine ⟨fun h=>⟨(q75 fun he=>h (by rw [he])).symm,trivial⟩,fun hl=>⟨⟨by omega,qu _,fun j j0 j1=>by omega⟩,fun x ⟨i0,i1,i2⟩=>⟨fun h=>⟨⟨i0,h⟩,⟨i0,by omega⟩,fun hc=>⟨(q75 fun he=>?_).symm,trivial⟩,fun hc=>⟨by omega,⟨by omega,by omega,fun j j0 j1=>?_⟩,?_⟩⟩,fun h=>⟨(zgy (q65 hl fun j j0 j1=>i2 j j0 (by omega))).symm,trivial⟩⟩⟩⟩
 .subst he;simp at hc
 .by_cases he:j=x
  .subst he
   obtain ⟨h1,h2,h3,h4,h5,h6,h7,h8,h9,h10,h11,h12,h13,h14,h15,h16,h17⟩:=hc
   exact zms h1 h2 h3 h4 h5 h6 h7 h8 h9 h10 h11 h12 h13 h14 h15 h16 h17
  .exact i2 j j0 (by omega)
 .simp only [qeq];omega
theorem q5d (a0:ZB) (a1:List Sign) (a2:ZB) (a3:List Sign) (hp:ln a1<=10000000):qt8 a0 a1 a2 a3:=by
 refine ⟨fun h=>⟨hp,?_,trivial⟩,fun h=>⟨?_,trivial⟩⟩
 .simp only [qli,jd,h,true_and]
 .simp [jd,h]
theorem zg5 (k:Int):(qjx k).length<=1:=by unfold qjx;(repeat' split)<;>simp
theorem qdc (l m:ZB) {i j k:Nat} (h1:l.length<=i) (h2:m.length<=j) (h:i+j<=k):(l++m).length<=k:=by rw [List.length_append];omega
theorem zm2 (s:Sign):(qia s).length<=10:=
 qdc _ _ (qdc _ _ (qdc _ _ (qdc _ _ (i:=1) (zN _) (q6z s) (zN 7)) (q8b _) (zN 8)) (qrp _ _) (zN 9)) (qrp _ _) (zN 10)
theorem zhh (s:Sign):(k8 s).length<=30:=by
 unfold k8
 split
 .exact qdc _ _ (qv8 _) (q6z s) (by decide)
 split
 .exact qdc _ _ (i:=1) (zN _) (qv8 _) (by decide)
 split
 .decide
 split
 .exact zR (zm2 s) (by decide)
 split
 .exact qdc _ _ (qdc _ _ (qdc _ _ (i:=1) (zN _) (q8i _ _ _ _) (zN 5)) (j:=1) (zN _) (zN 6)) (qrp _ _) (by decide)
 split
 .exact qdc _ _ (qdc _ _ (qcq _) (j:=1) (zN _) (zN 5)) (qcq _) (by decide)
 split
 .exact qdc _ _ (qdc _ _ (i:=1) (zN _) (zg5 _) (zN 2)) (qcq _) (by decide)
 split
 .exact qdc _ _ (i:=1) (zN _) (qcq _) (by decide)
 split
 .decide
 split
 .exact qdc _ _ (i:=1) (zN _) (qcq _) (by decide)
 split<;>decide
theorem znh (s:Sign):(qb1 s).1.length<=30:=by
 unfold qb1
 split
 .exact zhh s
 .exact Nat.zero_le _
theorem zqz (s:Sign):0<=ln (qb1 s).1/\ln (qb1 s).1<=30:=by
 have:=znh s
 simp only [ln];omega
theorem zs0 (l:List Sign) {i:Int} (h:0<=i):ix l i=ix l (i.toNat:Nat):=by rw [Int.toNat_of_nonneg h]
theorem znc (l:List Sign) {i:Int} (h:0<=i):qj1 l (i+1).toNat=qj1 l i.toNat++[qmo i.toNat]++(qb1 (ix l i)).1:=by
 have:(i+1).toNat=i.toNat+1:=by omega
 rw [this,qj1,zs0 l h]
theorem zmo {i:Int} (h0:0<=i) (h:Int.tmod i 16=15):qmo (i+1).toNat=10:=by
 rw [Int.tmod_eq_emod_of_nonneg h0] at h
 rw [qmo,zT (by omega)]
theorem zmp {i:Int} (h0:0<=i) (h:Int.tmod i 16≠15):qmo (i+1).toNat=32:=by
 rw [Int.tmod_eq_emod_of_nonneg h0] at h
 rw [qmo,zF (by omega)]
theorem q2i {n:ZB} {l:List Sign} (h:(zk n l).1≠0):qbl n l=([],(zk n l).1):=by rw [qbl,zF h]
theorem q8h {n:ZB} {l:List Sign} (h:(zk n l).1=0):qbl n l=(([112,97,114,116,32]++n)++qj1 l (ln l).toNat++[10,101,110,100,10],0):=by rw [qbl,zT h]
theorem u10:UInt8.ofNat (Int.toNat 10)=10:=rfl
theorem u32:UInt8.ofNat (Int.toNat 32)=32:=rfl
theorem zk1 (l:ZB):([]:ZB)++l=l:=rfl
theorem qs7 {l m:ZB} {k:Int} (h:ln l+ln m<=k) (hk:k<=1000000000):l.length+m.length<=1000000000:=by
 simp only [ln] at h;omega
theorem zid (a0:ZB) (a1:List Sign) (hp:ln a0<=1000/\ln a1<=1000):qwo a0 a1:=by
 unfold qwo
 dsimp only
 simp only [qy8,u10,u32,zk1]
 have n0:=qu a0
 have n1:=qu a1
 have c5:ln ([112,97,114,116,32]:ZB)=5:=rfl
 have e4:ln ([101,110,100,10]:ZB)=4:=rfl
 have s10:ln ([10]:ZB)=1:=rfl
 have s32:ln ([32]:ZB)=1:=rfl
 have s0:ln ([]:ZB)=0:=rfl
 refine ⟨by omega,fun hc=>⟨by rw [q2i hc],by rw [q2i hc],trivial⟩,fun hc=>⟨qs7 (k:=1010) (by omega) (by decide),qs7 (k:=1010) (by rw [zv];omega) (by decide),qs7 (k:=1010) (by rw [zv,zv];omega) (by decide),
  ⟨zK _,n1,by rw [zv,zv];omega,?_⟩,fun b i ⟨i0,i1,hb,he⟩=>⟨fun hi=>?_,fun hi=>?_⟩⟩⟩
 .have:(if (0:Int)=ln a1 then (10:UInt8) else qmo (0:Int).toNat)=10:=by split<;>rfl
  rw [this]
  show _=_++[]++_
  rw [zJ]
 .have hw:=zqz (ix a1 i)
  have hq:(if i=ln a1 then (10:UInt8) else qmo i.toNat)=qmo i.toNat:=zF (by omega)
  rw [hq] at he
  have step:∀ c:UInt8,(if i+1=ln a1 then (10:UInt8) else qmo (i+1).toNat)=c->qed a0 a1 (b++(qb1 (ix a1 i)).1++[c]) (i+1):=by
   intro c hcc
   have sc:ln [c]=1:=rfl
   refine ⟨by omega,by omega,by rw [zv,zv];omega,?_⟩
   rw [hcc,znc a1 i0,he]
   simp only [List.append_assoc]
  have sh1:b.length+(qb1 (ix a1 i)).1.length<=1000000000:=qs7 (k:=100000) (by omega) (by decide)
  have sh2:∀ c:UInt8,(b++(qb1 (ix a1 i)).1).length + [c].length<=1000000000:=fun c=>qs7 (k:=100000) (by have sc:ln [c]=1:=rfl;rw [zv];omega) (by decide)
  have hi':I64 (i+1):=⟨by omega,by omega⟩
  have hm:∀ x,qa1 a0 a1 x (i+1)<qa1 a0 a1 b i:=fun x=>by simp only [qa1];omega
  refine ⟨⟨i0,hi⟩,trivial,sh1,by decide,fun h15=>⟨⟨by decide,by decide⟩,sh2 _,hi',trivial,trivial,step 10 ?_,hm _⟩,fun h15=>⟨hi',fun hl=>⟨⟨by decide,by decide⟩,sh2 _,hi',trivial,trivial,step 10 (zT hl),hm _⟩,fun hl=>⟨⟨by decide,by decide⟩,sh2 _,hi',trivial,trivial,step 32 ?_,hm _⟩⟩⟩
  .rw [zmo i0 h15];split<;>rfl
  .rw [zF hl,zmp i0 h15]
 .have:i=ln a1:=by omega
  subst this
  rw [zT rfl] at he
  refine ⟨qs7 (k:=100000) (by omega) (by decide),by rw [zv];omega,?_,by rw [q8h hc],trivial⟩
  rw [q8h hc,he,List.append_assoc];rfl
theorem zek (a0 a1 a2 a3:Int):qse a0 a1 a2 a3:=by
 unfold qse
 unhygienic (repeat' (first | exact trivial | apply And.intro | intro))
 all_goals try simp only [j9,zt] at *
 all_goals first
  | omega
  | (unfold qcb;split<;>omega)
set_option maxHeartbeats 4000000 in
theorem znq (a0 a1 a2 a3:Int) (a4:Bool) (a5:Int) (a6 a7:Bool) (a8 a9 a10 a11:Int) (a12:Bool) (a13 a14 a15 a16:Int):q2s a0 a1 a2 a3 a4 a5 a6 a7 a8 a9 a10 a11 a12 a13 a14 a15 a16:=by
 unfold q2s
 unhygienic (repeat' (first | exact trivial | apply And.intro | intro))
 all_goals try omega
 all_goals grind (splits:=40) [kf,qnm,qd0,qcb]
theorem zfa:∀ n:Nat,n<127->bx ZX (n:Int)=jz n:=by decide +kernel
theorem ziw (a0:Int) (hp:U8 a0):q5t a0:=by
 obtain ⟨h0,h1⟩:=hp
 refine ⟨by omega,fun h=>⟨?_,trivial⟩,fun h=>⟨⟨h0,by simp only [ln,List.length_cons,List.length_nil];omega⟩,?_,trivial⟩⟩
 .unfold jz;rw [zT (by omega)]
 .have:=zfa a0.toNat (by omega)
  rwa [show ((a0.toNat:Nat):Int)=a0 by omega] at this
theorem zgt (a0:ZB) (hp:ln a0<=1000000000):q13 a0:=by
 refine ⟨⟨by omega,qu _,fun j h1 h2=>by omega⟩,fun x ⟨h0,h1,h2⟩=>⟨fun h3=>⟨⟨h0,h3⟩,q0x a0 x,fun hc=>⟨?_,trivial⟩,fun hc=>⟨fun hd=>⟨?_,trivial⟩,fun hd=>⟨by omega,⟨by omega,by omega,fun j h4 h5=>?_⟩,?_⟩⟩⟩,fun h3=>⟨?_,trivial⟩⟩⟩
 .exact (qu5 h0 h3 (qup.2 (by have:=qvy.1 hc;omega))).symm
 .exact (qu5 h0 h3 (qup.2 (by have:=qqz.1 hd;omega))).symm
 .by_cases h:j=x
  .subst h
   rw [qun]
   have a:=mt qvy.2 hc
   have b:=mt qqz.2 hd
   omega
  .exact h2 j h4 (by omega)
 .simp only [qho];omega
 .exact (qkm.2 fun i h4 h5=>h2 i h4 (by omega)).symm
theorem qra {a0 a1 x:ZB} {i:Int} {l:List ZB} (hinv:kk a0 a1 0 (-1) x i l) (h:qz (bx a1 0) x=[x]) :
  i<ln l/\upto (l.set i.toNat x) (i+1)=qz (bx a1 0) a0:=by
 obtain ⟨h0,h1,h2,h3,h4⟩:=hinv
 rw [h] at h2 h3
 have hi:i<ln l:=by rw [h1,<-h2];simp only [ln,List.length_cons,List.length_nil];omega
 exact ⟨hi,by rw [q8m h0 hi,h3]⟩
theorem qo6 {a0 a1 x:ZB} {i m:Int} {l:List ZB} (hinv:kk a0 a1 0 (-1) x i l) (hm:0<=m) (hml:m<ln x) (h:qz (bx a1 0) x=upto x m::qz (bx a1 0) (fr x (m+1))) (hi:i<qlc a0 (bx a1 0)) :
  kk a0 a1 0 (-1) (fr x (m+1)) (i+1) (l.set i.toNat (upto x m)):=by
 obtain ⟨h0,h1,h2,h3,h4⟩:=hinv
 rw [h] at h2 h3
 rw [jf] at h2
 refine ⟨by omega,by rw [qyk,h1],by omega,?_,?_⟩
 .rw [q8m h0 (by rw [h1];omega),List.append_assoc]
  exact h3
 .rw [qo7 (by omega) (by omega)];omega
theorem q6v (a0 a1:ZB) (a2 a3:Int) (hp:ln a1=1/\(a2:Int)=0/\(a3:Int) = -1/\ln a0<=100000000):qnf a0 a1 a2 a3:=by
 obtain ⟨h1,rfl,rfl,hl⟩:=hp
 have hc:=q0x a1 0
 have hb:=q28 a0 (bx a1 0)
 have hn:(if ((ln a0)+1)<((qlc a0 (bx a1 0))+1) then ((ln a0)+1) else ((qlc a0 (bx a1 0))+1))=qlc a0 (bx a1 0)+1:=zF (by omega)
 have hz:∀ m:Int,m+0=m:=fun m=>by omega
 unfold qnf
 dsimp only
 simp only [hn]
 refine ⟨fun h=>absurd h (by decide),fun _=>⟨fun h=>(by subst h;cases h1),fun _=>⟨fun _=>⟨fun h=>by omega,fun _=>⟨fun _=>?_,fun h=>absurd h1 h⟩⟩,fun h=>by omega⟩⟩⟩
 refine ⟨by omega,trivial,by omega,by omega,trivial,by omega,trivial,by omega,⟨zK 0,q3v (by omega),?_,?_,zK _⟩,fun x i l hi=>⟨fun hlt=>⟨fun h=>by omega,fun _=>⟨fun hx=>?_,fun hx=>⟨fun _=>?_,fun h=>absurd h1 h⟩⟩⟩,fun hge=>?_⟩⟩
 .rw [qta hc.1 (by omega)];omega
 .rfl
 .
  subst hx
  have hidx:jg a1 (bx a1 0)=0:=by
   rcases zo4 a1 (bx a1 0) with h | h
   .have:=zo3 a1 (bx a1 0)
    by_cases hx:jg a1 (bx a1 0)<0
    .exact absurd rfl (qog hc.1 (by omega) hx 0 (zK 0) (by omega))
    .omega
   .exact absurd rfl (qog hc.1 (by omega) (by omega) 0 (zK 0) (by omega))
  have hst:=qn5 (s:=a1) hc.1 (by omega) (by omega:0<=jg a1 (bx a1 0))
  rw [hidx] at hst
  have hs:=qo6 hi (zK 0) (by omega) hst (by omega)
  obtain ⟨g0,g1,g2,g3,g4⟩:=id hi
  have e:(0:Int)+ln a1=0+1:=by omega
  rw [e]
  refine ⟨by omega,by omega,by omega,by omega,trivial,by omega,by omega,by omega,hs,?_⟩
  show (_:Int).toNat<(_:Int).toNat;omega
 .refine ⟨by omega,trivial,fun hm=>?_,fun hm=>?_⟩
  .obtain ⟨h2,h3⟩:=qra hi (qvg hc.1 (by omega) hm)
   obtain ⟨g0,g1,g2,g3,g4⟩:=id hi
   exact ⟨by omega,by omega,trivial,by omega,by rw [qyk];omega,by rw [qyk];omega,h3,trivial⟩
  .obtain ⟨b1,b2,b3⟩:=qsz hc.1 (by omega) hm
   have hs:=qo6 hi hm b1 (qn5 hc.1 (by omega) hm) (by omega)
   obtain ⟨g0,g1,g2,g3,g4⟩:=id hi
   rw [h1,hz]
   refine ⟨by omega,by omega,by omega,by omega,trivial,by omega,by omega,by omega,hs,?_⟩
   show (_:Int).toNat<(_:Int).toNat;omega
 .obtain ⟨g0,g1,g2,g3,g4⟩:=id hi
  obtain ⟨h2,h3⟩:=qra hi (zbd hc.1 (by omega) (by omega))
  exact ⟨by omega,by omega,trivial,by omega,by rw [qyk];omega,by rw [qyk];omega,h3,trivial⟩
theorem zia (a0 a1:ZB) (hp:ln a1=1/\ln a0<=100000000):q5g a0 a1:=⟨⟨hp.1,rfl,rfl,hp.2⟩,rfl,trivial⟩
theorem qz9 {l:ZB} {a x:Int} (h:zl j8 l (a+1)=x) :
  (((0<a/\bx l (a-1)≠32)∨ln l<=x∨bx l x≠34∨¬ (ln l<=x+1∨bx l (x+1)=32∨bx l (x+1)=59))/\qat l a = -1)∨
  (¬ ((0<a/\bx l (a-1)≠32)∨ln l<=x∨bx l x≠34∨¬ (ln l<=x+1∨bx l (x+1)=32∨bx l (x+1)=59))/\qat l a=x+1):=by
 unfold qat
 rw [h]
 split
 .rename_i hc
  exact .inl ⟨hc,rfl⟩
 .rename_i hc
  exact .inr ⟨hc,rfl⟩
theorem qzi {out:List Word} {w:Word} {r:List Word×Int}:qll out (if r.2<0 then (w::r.1,-1) else ([],r.2))=qll (out++[w]) r:=by
 unfold qll
 by_cases h:r.2<0
 .rw [zT h,zT h,zT (show (-1:Int)<0 by decide),List.append_assoc];rfl
 .rw [zF h,zF h,zF h]
theorem zhe {out:List Word}:qll out ([],-1)=(out,-1):=by simp [qll]
theorem q2o {out:List Word} {x:Int} (h:0<=x):qll out ([],x)=([],x):=by
 unfold qll;rw [zF (by show ¬ x<0;omega)]
section
variable {l:ZB} {f x:Int} {out:List Word} (hi:jn l f 0=qll out (jn l f x))
 include hi
theorem zjc (h:ln l<=x∨bx l x=59):jn l f 0=(out,-1):=by rw [hi,q3e h,zhe]
theorem zjb (h0:0<=x) (h1:x<ln l) (h2:bx l x≠59) (h:(bx l x=34/\qat l x<0)∨(bx l x≠34/\bx l x≠32/\z7 (bx l x)=false)):jn l f 0=([],x):=by rw [hi,zop h1 h2 h h0,q2o h0]
theorem q9k {a e:Int} (ha:a=f+x) (h0:0<=x) (h1:x<ln l) (h:bx l x=34) (he:qat l x=e) (h3:0<=e):jn l f 0=qll (out++[⟨a,sub l (x+1) (e-1),true⟩]) (jn l f e):=by
 rw [hi,zfg h0 h1 h he h3,qzi,ha]
theorem q9j {a e:Int} (ha:a=f+x) (h0:0<=x) (h1:x<ln l) (h:z7 (bx l x)=true) (he:zl z7 l x=e):jn l f 0=qll (out++[⟨a,sub l x e,false⟩]) (jn l f e):=by
 rw [hi,q01 h0 h1 h he,qzi,ha]
end
theorem zfd (l:ZB) (f i:Int) (h:0<=i):(jn l f i).2 = -1∨(0<=(jn l f i).2/\(jn l f i).1=[]):=by
 have hg:=qct (p:=kv) (s:=l) (i:=i)
 fun_induction jn l f i with
 | case1 i h1=>exact .inl rfl
 | case2 i h1 h2 h3 h4 ih=>exact .inl rfl
 | case3 i h1 h2 h3 h4 ih=>
  refine .inr ⟨?_,rfl⟩
  show 0<=(jn l f _).2
  omega
 | case4 i h1 h2 h3=>exact .inr ⟨by show 0<=zl kv l i;omega,rfl⟩
 | case5 i h1 h2 h3 h4 h5 ih=>exact .inl rfl
 | case6 i h1 h2 h3 h4 h5 ih=>
  refine .inr ⟨?_,rfl⟩
  show 0<=(jn l f _).2
  omega
 | case7 i h1 h2 h3 h4=>exact .inr ⟨by show 0<=zl kv l i;omega,rfl⟩
 | case8 i h1 h2 h3=>exact .inr ⟨by show 0<=zl kv l i;omega,rfl⟩
theorem zhf {r:List Word×Int} (h:r.2 = -1∨(0<=r.2/\r.1=[])):r=qll [] r:=by
 obtain ⟨a,b⟩:=r
 rcases h with h | ⟨h,h'⟩
 .cases h;rfl
 .cases h';rw [q2o h]
theorem zhc {out:List Row}:qjy out ([],0,0)=(out,0,0):=by simp [qjy]
theorem qtz {out:List Row} {e x:Int} (h:e≠0):qjy out ([],e,x)=([],e,x):=by
 unfold qjy;rw [zF h]
theorem za6:∀ (l:List ZB) (x:Int),(qax l x).2=(0,0)∨((qax l x).2.1≠0/\(qax l x).1=[])
 | [],_=>.inl rfl
 | l::ls,x=>by
  unfold qax
  split
  .exact .inr ⟨show (4:Int)≠0 by decide,rfl⟩
  .split
   .exact .inr ⟨show (3:Int)≠0 by decide,rfl⟩
   .split
    .exact .inl rfl
    .exact .inr ⟨by assumption,rfl⟩
theorem zhd {r:List Row×Int×Int} (h:r.2=(0,0)∨(r.2.1≠0/\r.1=[])):r=qjy [] r:=by
 obtain ⟨a,b⟩:=r
 rcases h with h | ⟨h,h'⟩
 .cases h;rfl
 .cases h';obtain ⟨b,c⟩:=b;rw [qtz h]
theorem zgx {L:List ZB} {line:ZB} {out:List Row} {R:List Row×Int×Int} {x:Int} (hi:R=qjy out (qax (line::L) x)) :
  (1000<ln line->R=([],4,x))/\(ln line<=1000->0<=(jn line x 0).2->R=([],3,x+(jn line x 0).2))/\
  (ln line<=1000->(jn line x 0).2<0->R=qjy (if (jn line x 0).1=[] then out else out++[⟨x,(jn line x 0).1⟩]) (qax L (x+ln line+1))):=by
 subst hi
 refine ⟨fun h=>?_,fun h h1=>?_,fun h h1=>?_⟩
 .rw [qax,zT h,qtz (by decide)]
 .rw [qax,zF (by omega),zT h1,qtz (by decide)]
 .rw [qax,zF (by omega),zF (by omega)]
  by_cases h2:(qax L (x+ln line+1)).2.1=0
  .rw [zT h2]
   unfold qjy
   rw [zT rfl,zT h2]
   split
   .rfl
   .simp
  .rw [zF h2]
   unfold qjy
   rw [zF h2,zF h2]
theorem qkn {a0:ZB} (h:ln a0<=20000):qd a0=qax (qz 10 a0) 0:=by unfold qd;rw [zF (by omega)]
theorem za5 {a0:ZB} (h:20000<ln a0):qd a0=([],4,20000):=by unfold qd;rw [zT h]
theorem zky {α:Type} {l:List α} (h:0<ln l):¬ l=[]:=by rintro rfl;simp [ln] at h
theorem q5u {b:Int} (h:jz b=120) (h0:0<=b):b≠34/\b≠32/\b≠59/\z7 b=false:=by
 have:=qvy.1 h
 exact ⟨by omega,by omega,by omega,zaq.2 (by omega)⟩
theorem que {b:Int} (hx:jz b≠120) (hq:jz b≠113) (h1:b≠32) (h2:b≠59):z7 b=true:=by
 have h3:=mt qvy.2 hx
 have h4:=mt qqz.2 hq
 exact qft.2 (by omega)
theorem qnz {l:ZB} {x:Int} (h0:0<=x) (h1:x<ln l) :
  (0<x->bx l (x-1)≠32->qat l x = -1)/\(jg (fr l (x+1)) 34<0->qat l x = -1)/\
  (0<=jg (fr l (x+1)) 34->x+1+jg (fr l (x+1)) 34<ln l/\bx l (x+1+jg (fr l (x+1)) 34)=34/\
    (qan (sub l (x+1) (x+1+jg (fr l (x+1)) 34))=false->qat l x = -1)/\
    (qan (sub l (x+1) (x+1+jg (fr l (x+1)) 34))=true->(0<x->bx l (x-1)=32)->
      (x+jg (fr l (x+1)) 34+2<ln l->bx l (x+jg (fr l (x+1)) 34+2)≠32->bx l (x+jg (fr l (x+1)) 34+2)≠59->qat l x = -1)/\
      (ln l<=x+jg (fr l (x+1)) 34+2∨bx l (x+jg (fr l (x+1)) 34+2)=32∨bx l (x+jg (fr l (x+1)) 34+2)=59->qat l x=x+jg (fr l (x+1)) 34+2))):=by
 have hc:=qz9 (l:=l) (a:=x) rfl
 have hg:=qct (p:=j8) (s:=l) (i:=x+1)
 have hle:=qju (p:=j8) (s:=l) (i:=x+1) (by omega)
 have hr:=q2c (p:=j8) (s:=l) (i:=x+1) (by omega)
 have hf:=qo7 (l:=l) (i:=x+1) (by omega) (by omega)
 refine ⟨fun h2 h3=>by omega,fun h2=>?_,fun h2=>?_⟩
 .have hn:=qog (by decide) (by decide) h2
  by_cases hl:ln l<=zl j8 l (x+1)
  .omega
  .have h3:=hn (zl j8 l (x+1)-(x+1)) (by omega) (by omega)
   rw [qj3 (by omega) (by omega),show x+1+(zl j8 l (x+1)-(x+1))=zl j8 l (x+1) by omega] at h3
   omega
 .obtain ⟨a1,a2,a3⟩:=qsz (by decide) (by decide) h2
  generalize jg (fr l (x+1)) 34=n at *
  rw [qj3 (by omega) h2] at a2
  refine ⟨by omega,a2,fun hq=>?_,fun hq hb=>?_⟩
  .have hlt:zl j8 l (x+1)<x+1+n:=by
    apply Decidable.byContradiction
    intro hge
    have hle2:x+1+n<=ln l:=by omega
    have:qan (sub l (x+1) (x+1+n))=true:=qkm.2 fun i h4 h5=>by
     rw [qp6 (l:=l) (i:=x+1) (j:=x+1+n) (by omega) (by omega) hle2] at h5
     rw [q9g (s:=l) (i:=x+1) (j:=x+1+n) (k:=i) (by omega) h4 (by omega)]
     exact q2b (i:=x+1) _ (by omega) (by omega)
    rw [this] at hq
    cases hq
   have h3:=a3 (zl j8 l (x+1)-(x+1)) (by omega) (by omega)
   rw [qj3 (by omega) (by omega),show x+1+(zl j8 l (x+1)-(x+1))=zl j8 l (x+1) by omega] at h3
   omega
  .have he:zl j8 l (x+1)=x+1+n:=by
    refine qn3 (by omega) (by omega) (by omega) (fun j h4 h5=>?_) (.inr (by rw [a2];rfl))
    have:=qkm.1 hq (j-(x+1)) (by omega) (by rw [qp6 (by omega) (by omega) (by omega)];omega)
    rwa [q9g (by omega) (by omega) (by omega),show x+1+(j-(x+1))=j by omega] at this
   rw [he] at hc
   rw [show x+1+n+1=x+n+2 by omega] at hc
   rw [show x+1+n=x+n+1 by omega] at *
   constructor<;>intros<;>omega
theorem qz0 {c:Int} {s:ZB} {k:Int} (h0:0<=k) (h:k<ln (qz c s)):ln (ix (qz c s) k)<=ln s:=qgs (qh0 h0 h)
theorem qqc {L:List ZB} {k:Int} {out:List Row} {R:List Row×Int×Int} {x:Int} (h0:0<=k) (h1:k<ln L) (hi:R=qjy out (qax (fr L k) x)) :
  (1000<ln (ix L k)->R=([],4,x))/\(ln (ix L k)<=1000->0<=(jn (ix L k) x 0).2->R=([],3,x+(jn (ix L k) x 0).2))/\
  (ln (ix L k)<=1000->(jn (ix L k) x 0).2<0->R=qjy (if (jn (ix L k) x 0).1=[] then out else out++[⟨x,(jn (ix L k) x 0).1⟩]) (qax (fr L (k+1)) (x+(ln (ix L k)+1)))):=by
 rw [qka h0 h1] at hi
 have:=zgx hi
 rwa [Int.add_assoc] at this
theorem zjd {l:ZB} {f x y:Int} (h0:0<=x) (hxy:zl kv l x=zl kv l y) (hy:ln l<=y∨bx l y≠32):jn l f x=jn l f y:=by
 rw [qg0 hy] at hxy
 rw [jn,hxy]
 have e:zl kv l y=y:=qg0 hy
 exact (by rw [jn,e]:jn l f y=_).symm
theorem q1q {b:Int} (h:jz b≠112):z7 b=false:=by rw [<-Bool.not_eq_true];exact mt zb3.2 h
set_option maxHeartbeats 4000000 in
theorem zh3 (a0:ZB):qwk a0:=by
 have hl:=qu a0
 have hb:bx [10] 0=10:=rfl
 have hb2:ln ([10]:ZB)=1:=rfl
 have hc:=qta (s:=a0) (c:=10) (by decide) (by decide)
 have hd:=q28 a0 10
 unfold qwk
 dsimp only
 simp only [qar,z9,qy,qb,qhw,qil,qc2,qep,and_imp,qaf,hb,hb2]
 unhygienic (repeat' (first | exact trivial | apply And.intro | (intro;intros)))
 all_goals first
  | omega
  | exact qhh (by omega)
  | (rw [za5 (by omega)];done)
  | exact Eq.trans ‹_› (qeh (by omega) (by omega) (qwy.2 ‹_›))
  | exact Eq.trans ‹_› (qeh (by omega) (by omega) (zb3.1 ‹_›))
  | (have:=q0x (ix (qz 10 a0) x3) x10;omega)
  | (have:=q0x (ix (qz 10 a0) x3) x18;omega)
  | (have h1:=qz0 (s:=a0) (c:=10) (k:=x3) (by omega) (by omega);have h2:=qu (ix (qz 10 a0) x3);omega)
  | (have QP:=qnz (l:=ix (qz 10 a0) x3) (x:=x10) (by omega) (by omega);have Q:=QP.2.2 (by omega);have Q1:=Q.1;first | omega | (rw [qp6 (by omega) (by omega) (by omega)];omega))
  | (have hg:=zml (p:=z7) (s:=ix (qz 10 a0) x3) (i:=x10) (by omega) (by omega) (que ‹_› ‹_› (by omega) (by omega));have hs:=qei (p:=z7) (s:=ix (qz 10 a0) x3) (i:=x18) (by first | exact .inl (by omega) | exact .inr (q1q ‹_›));omega)
  | (have hx:=a_12.trans (congrArg (qll x7) (zjd (by omega) ‹_› (by omega)))
     first
      | exact q9j hx (Int.add_comm _ _) (by omega) (by omega) (que ‹_› ‹_› (by omega) (by omega)) (Eq.trans ‹_› (qei (by first | exact .inl (by omega) | exact .inr (q1q ‹_›))))
      | (have QP:=qnz (l:=ix (qz 10 a0) x3) (x:=x10) (by omega) (by omega)
         exact q9k hx (Int.add_comm _ _) (by omega) (by omega) (qqz.1 ‹_›) (((QP.2.2 (by omega)).2.2.2 ‹_› (fun _=>by omega)).2 (by omega)) (by omega))
      | (have CE:=zjc hx (by omega)
         have L1:=(qqc (by omega) (by omega) (by assumption:qax (qz 10 a0) 0=qjy x1 (qax (fr (qz 10 a0) x3) x2))).2.2 (by omega) (by rw [CE];show (-1:Int)<0;decide)
         rw [CE] at L1
         first
          | exact L1.trans (by rw [zF (zky (by omega))])
          | exact L1.trans (by rw [zT (zpg (by omega))]))
      | (have CB:=zjb hx (by omega) (by omega) (by omega) (by
          first
           | (refine .inr ⟨?_,by omega,?_⟩
              .exact (q5u ‹_› (q0x _ _).1).1
              .exact (q5u ‹_› (q0x _ _).1).2.2.2)
           | (refine .inl ⟨qqz.1 ‹_›,?_⟩
              have QP:=qnz (l:=ix (qz 10 a0) x3) (x:=x10) (by omega) (by omega)
              first
               | (have:=QP.1 (by omega) (by omega);omega)
               | (have:=QP.2.1 (by omega);omega)
               | (have:=(QP.2.2 (by omega)).2.2.1 ‹_›;omega)
               | (have:=((QP.2.2 (by omega)).2.2.2 ‹_› (fun _=>by omega)).1 (by omega) (by omega) (by omega);omega)))
         have L1:=(qqc (by omega) (by omega) (by assumption:qax (qz 10 a0) 0=qjy x1 (qax (fr (qz 10 a0) x3) x2))).2.1 (by omega) (by rw [CB];show (0:Int)<=x10;omega)
         rw [CB] at L1
         rw [qkn (by omega),L1]))
  | exact zhf (zfd _ _ _ (zK 0))
  | (rw [q3n];exact zhd (za6 _ _))
  | (rw [qkn (by omega),a_6,qne (by omega)];simp only [qax,zhc];done)
  | (rw [qkn (by omega),(qqc (by omega) (by omega) (by assumption:qax (qz 10 a0) 0=qjy x1 (qax (fr (qz 10 a0) x3) x2))).1 (by omega)];done)
  | with_reducible exact zK _
  | exact zf6
  | with_reducible rfl
  | exact zK _
section
variable {a0 a1:List Row} {a2:Bool} {x y:Int}
end
section
variable {a b:Row} {off:Bool} {y:Int}
end
theorem q9l (l:ZB) (f i:Int) (h0:0<=i) (h:i<=ln l):ln (jn l f i).1<=ln l-i:=by
 have hg:=qct (p:=kv) (s:=l) (i:=i)
 have hr:=qju (p:=kv) (s:=l) (i:=i) h
 fun_induction jn l f i with
 | case1 i h1=>show ln ([]:List Word)<=_;rw [qdd];omega
 | case2 i h1 h2 h3 h4 ih=>
  have:=ih (by omega) (by omega) qct (qju (by omega))
  show ln (_::_)<=_
  rw [jf];omega
 | case3 i h1 h2 h3 h4 ih=>show ln ([]:List Word)<=_;rw [qdd];omega
 | case4 i h1 h2 h3=>show ln ([]:List Word)<=_;rw [qdd];omega
 | case5 i h1 h2 h3 h4 h5 ih=>
  have:=ih (by omega) (by omega) qct (qju (by omega))
  show ln (_::_)<=_
  rw [jf];omega
 | case6 i h1 h2 h3 h4 h5 ih=>show ln ([]:List Word)<=_;rw [qdd];omega
 | case7 i h1 h2 h3 h4=>show ln ([]:List Word)<=_;rw [qdd];omega
 | case8 i h1 h2 h3=>show ln ([]:List Word)<=_;rw [qdd];omega
theorem q7y:∀ (L:List ZB) (x:Int),ln (qax L x).1<=ln L/\∀ r ∈ (qax L x).1,ln r.Words<=1000
 | [],x=>⟨zK _,fun r h=>by cases h⟩
 | l::L,x=>by
  have hn:ln ([]:List Row)<=ln (l::L)/\∀ r ∈ ([]:List Row),ln r.Words<=1000:=⟨by rw [qdd];exact qu _,fun r h=>by cases h⟩
  have ih:=q7y L (x+ln l+1)
  unfold qax
  split
  .exact hn
  .split
   .exact hn
   .rename_i h1 h2
    have hw:=q9l l x 0 (zK 0) (qu l)
    split
    .split
     .exact ⟨by rw [jf];show ln (qax L _).1<=_;omega,ih.2⟩
     .refine ⟨by show ln (_::_)<=_;rw [jf,jf];omega,fun r hr=>?_⟩
      rcases zD.1 hr with rfl | hr
      .show ln (jn l x 0).1<=1000;omega
      .exact ih.2 r hr
    .exact hn
theorem q7x (a0:ZB):ln (qd a0).1<=20001/\∀ r ∈ (qd a0).1,ln r.Words<=1000:=by
 unfold qd
 split
 .exact ⟨by show ln ([]:List Row)<=_;rw [qdd];omega,fun r h=>by cases h⟩
 .have h1:=q7y (qz 10 a0) 0
  have h2:=qta (s:=a0) (c:=10) (by decide) (by decide)
  have h3:=q28 a0 10
  exact ⟨by omega,h1.2⟩
theorem zsa {w:ZB} {s:Sign} {e:Int} (h:qo w=(s,e)):zj w s.Kind s.Value s.Place s.Acc s.Color s.Stem s.Oblique s.Last s.MensMax s.MensMod s.MensTem s.MensPro s.Stroke s.N s.D s.ClefStep s.ClefLine e:=by
 unfold zj
 rw [h]
 simp
theorem zmd {w:ZB} {k:Int} (h1:1<=k) (h2:k<=12) (hn:∀ j,1<=j->j<k->rdK w j=none):∀ (m:Nat) (i:Int),1<=i->i<=k->(k-i).toNat=m->qmn w i=qmn w k:=by
 intro m
 induction m with
 | zero=>intro i hi hk hm;rw [show i=k by omega]
 | succ m ih=>
  intro i hi hk hm
  have:qmn w i=qmn w (i+1):=by
   conv=>lhs;rw [qmn]
   rw [dif_pos ⟨hi,by omega⟩,hn i hi (by omega)]
  rw [this]
  exact ih (i+1) (by omega) (by omega) (by omega)
theorem zd2 {w:ZB} {k:Int} {s:Sign} (h:qc w (k-1)) (h1:1<=k) (h2:k<=12) (hk:rdK w k=some s):qo w=fin (some s):=by
 rw [qo,zmd h1 h2 (fun j a b=>h.out j a (by omega)) _ 1 (by omega) h1 rfl,qmn,dif_pos ⟨h1,h2⟩,hk]
theorem qvn {w:ZB} (k:Int) {s:Sign} (h:qc w (k-1)) (h1:1<=k) (h2:k<=12) (hk:rdK w k=some s) (h3:kf s≠0):zj w 0 0 0 0 false 0 false false 0 0 0 0 false 0 0 0 0 (kf s):=
 zsa (s:=sg0) (by rw [zd2 h h1 h2 hk,fin,zF h3])
theorem qvo {w:ZB} (k:Int) {a b c d:Int} {e:Bool} {f:Int} {g o:Bool} {m1 m2 m3 m4:Int} {t:Bool} {n1 n2 n3 n4:Int} (h:qc w (k-1)) (h1:1<=k) (h2:k<=12) (hk:rdK w k=some (Sign.mk a b c d e f g o m1 m2 m3 m4 t n1 n2 n3 n4)) (h3:kf (Sign.mk a b c d e f g o m1 m2 m3 m4 t n1 n2 n3 n4)=0) :
  zj w a b c d e f g o m1 m2 m3 m4 t n1 n2 n3 n4 0:=
 zsa (s:=Sign.mk a b c d e f g o m1 m2 m3 m4 t n1 n2 n3 n4) (by rw [zd2 h h1 h2 hk,fin,zT h3])
theorem qd5 {w:ZB} (k:Int) (h:qc w (k-1)) (hk:rdK w k=none):qc w k:=⟨fun j a b=>by
 by_cases hj:j=k
 .rw [hj];exact hk
 .exact h.out j a (by omega)⟩
theorem zw7 {w:ZB} (h:qc w 12):zj w 0 0 0 0 false 0 false false 0 0 0 0 false 0 0 0 0 3:=zsa (s:=sg0) (by
 rw [qo,zmd (w:=w) (k:=12) (by decide) (by decide) (fun j a b=>h.out j a (by omega)) _ 1 (by decide) (by decide) rfl,qmn,dif_pos (by decide),h.out 12 (by decide) (by decide)]
 show fin (qmn w 13)=_
 rw [qmn,dif_neg (by decide)];rfl)
theorem zwr (w:ZB) (i:Int) (c:UInt8):preB (fr w i) [c]=tk w i c:=rfl
def pv (p:Prop):Prop:=p
theorem pv.out {p:Prop} (h:pv p):p:=h
theorem qks {w:ZB} {i:Int} {c:UInt8} (h:tk w i c=true) (h0:0<=i):i<ln w:=by
 simp only [tk,preB,zA,decide_eq_true_eq] at h
 have:=h.1
 simp only [ln,fr,List.length_drop,List.length_cons,List.length_nil] at this ⊢
 omega
section
variable {w m:ZB} {i i0 x k a p v:Int} {b b0 ok c o:Bool} {Q:Prop} {ch:UInt8}
theorem q4w:(tk w i ch=true->Q)↔(pv (tk w i ch=true)->(0<=i->i<ln w)->Q):=⟨fun h t _=>h t,fun h t=>h t (qks t)⟩
theorem w0:(jr w m i i0->Q)↔(pv (jr w m i i0)->i0<=i->i<=ln w->ln m<=1->Q):=⟨fun h t _ _ _=>h t,fun h t=>h t t.out.2.2.1.1 t.out.2.2.1.2 t.out.2.2.2⟩
theorem w1:(zc w i i0->Q)↔(pv (zc w i i0)->i0<=i->i<=ln w->Q):=⟨fun h t _ _=>h t,fun h t=>h t t.out.1.1 t.out.1.2⟩
theorem w2:(qj w i i0->Q)↔(pv (qj w i i0)->i0<=i->i<=ln w->Q):=⟨fun h t _ _=>h t,fun h t=>h t t.out.1.1 t.out.1.2⟩
theorem w3:(jh w b b0 ok->Q)↔(pv (b=(b0 || !ok))->Q):=⟨fun h t=>h ⟨t⟩,fun h t=>h t.out⟩
theorem w4:(qb9 w b b0 ok->Q)↔(pv (b=(b0 || !ok))->Q):=⟨fun h t=>h ⟨t⟩,fun h t=>h t.out⟩
theorem w5:(kj w k i->Q)↔(pv (kj w k i)->0<=k->k<=8->Q):=⟨fun h t _ _=>h t,fun h t=>h t t.out.1 t.out.2.1⟩
theorem w6:(qbq w i b v->Q)↔(pv (qbq w i b v)->0<=i->i<=ln w->Q):=⟨fun h t _ _=>h t,fun h t=>h t t.out.1.1 t.out.1.2⟩
theorem w7:(zy w i a i0->Q)↔(pv (zy w i a i0)->i0<=i->i<=ln w->Q):=⟨fun h t _ _=>h t,fun h t=>h t t.out.1.1 t.out.1.2⟩
theorem w8:(qca w i b p a c i0 b0->Q)↔(pv (qca w i b p a c i0 b0)->i0<=i->i<=ln w->Q):=⟨fun h t _ _=>h t,fun h t=>h t t.out.1.1 t.out.1.2⟩
theorem w9:(jw w i k i0->Q)↔(pv (jw w i k i0)->i0<=i->i<=ln w->Q):=⟨fun h t _ _=>h t,fun h t=>h t t.out.1.1 t.out.1.2⟩
theorem w10:(qaz w i o i0->Q)↔(pv (qaz w i o i0)->i0<=i->i<=ln w->Q):=⟨fun h t _ _=>h t,fun h t=>h t t.out.1.1 t.out.1.2⟩
theorem w11:(qa0 w i b i0 b0->Q)↔(pv (qa0 w i b i0 b0)->i0<=i->i<=ln w->Q):=⟨fun h t _ _=>h t,fun h t=>h t t.out.1.1 t.out.1.2⟩
theorem w12:(jk w i b k i0->Q)↔(pv (jk w i b k i0)->i0<=i->i<=ln w->Q):=⟨fun h t _ _=>h t,fun h t=>h t t.out.1.1 t.out.1.2⟩
end
section
variable {w m:ZB} {i i0 x j e k a p v y z:Int} {b b0 ok c o l:Bool} {ch:UInt8}
theorem zve (h:pv (tk w i 45=true)) (h0:0<=i):jr w [45] (i+1) i:=by
 have:=qks h h0
 exact ⟨⟨by rw [qhc,zT (pv.out h)],by rw [qhc,zT (pv.out h)],⟨by omega,by omega⟩,zK _⟩⟩
theorem zvd (h:tk w i 45=false) (hi:i<=ln w):jr w [] i i:=by
 have h':¬ tk w i 45=true:=by rw [h];simp
 exact ⟨⟨by rw [qhc,zF h'],by rw [qhc,zF h'],⟨zK _,hi⟩,by decide⟩⟩
theorem qlg (hi:i<=ln w):zc w i i:=⟨⟨zK _,hi⟩,rfl⟩
theorem qon (h:pv (zc w x i)) (h0:0<=i) (h1:x<ln w) (h2:48<=bx w x) (h3:bx w x<=57):zc w (x+1) i:=by
 obtain ⟨⟨r1,r2⟩,r3⟩:=Hold.out h
 exact ⟨⟨by omega,by omega⟩,r3.trans (qeh (by omega) h1 (by simp [qd8,h2,h3]))⟩
theorem zku (h:pv (zc w x i)) (hs:ln w<=x∨qd8 (bx w x)=false):qj w x i:=by
 obtain ⟨r,r3⟩:=Hold.out h
 exact ⟨r,by rw [r3];exact (qei hs).symm⟩
theorem qtg (h:pv (zc w x i)) (hs:ln w<=x):qj w x i:=zku h (.inl hs)
theorem q1n (h:pv (zc w x i)) (hs:bx w x<48):qj w x i:=zku h (.inr (by simp only [qd8,Bool.and_eq_false_iff,decide_eq_false_iff_not];omega))
theorem q1m (h:pv (zc w x i)) (hs:57<bx w x):qj w x i:=zku h (.inr (by simp only [qd8,Bool.and_eq_false_iff,decide_eq_false_iff_not];omega))
theorem zpj (h:b0=true):jh w true b0 ok:=⟨by simp [h]⟩
theorem q69 (h:b0=false):jh w (!ok) b0 ok:=⟨by simp [h]⟩
theorem zvn (h:b0=true):qb9 w true b0 ok:=⟨by simp [h]⟩
theorem zpk (h:b0=false):qb9 w (!ok) b0 ok:=⟨by simp [h]⟩
theorem q7a:kj w 0 i:=⟨⟨zK _,by decide,rfl⟩⟩
theorem zdi (h:pv (kj w k i)) (h1:k<8) (h2:preB (fr w i) (sub ([88,76,66,83,77,81,70,90]:ZB) k (k+1))=false):kj w (k+1) i:=by
 obtain ⟨r1,r2,r3⟩:=Hold.out h
 refine ⟨⟨by omega,by omega,?_⟩⟩
 rw [<-r3]
 conv=>rhs;rw [qvi]
 rw [dif_pos ⟨r1,h1⟩,zF (by rw [zkn,h2];simp)]
theorem q4u (h:pv (kj w k i)) (h1:k<8) (h2:preB (fr w i) (sub ([88,76,66,83,77,81,70,90]:ZB) k (k+1))=true):qty w i=some (k+1):=by
 obtain ⟨r1,r2,r3⟩:=Hold.out h
 rw [<-r3,qvi,dif_pos ⟨r1,h1⟩,zT (show preB (fr w i) (sub zkn k (k+1))=true from h2)]
theorem zm6 (h:pv (kj w k i)) (h1:8<=k):qty w i=none:=by
 obtain ⟨r1,r2,r3⟩:=Hold.out h
 rw [<-r3,qvi,dif_neg (by omega)]
theorem zs4 (a b:ZB):ln (a++b)=ln a+ln b:=by simp only [ln,List.length_append];omega
theorem zde (h:k<8) (h0:0<=k):qcc w (k+1) i<qcc w k i:=by simp only [qcc];omega
theorem qol (h:i<ln w):ka w (i+1) i0<ka w i i0:=by simp only [ka];omega
theorem q2y {v:ZB} {r t:Int} (hn:ln w<=1000) (h0:0<=r) (h1:r<=t) (h2:t<=ln w) (h3:ln v<=1):ln (v++sub w r t)<=1001:=by
 rw [zs4,qp6 h0 h1 h2];omega
theorem q0v {v:ZB} {r t:Int} (hn:ln w<=1000) (h0:0<=r) (h1:r<=t) (h2:t<=ln w) (h3:ln v<=1):v.length+(sub w r t).length<=1000000000:=by
 have:=q2y hn h0 h1 h2 h3
 simp only [ln,List.length_append] at this
 omega
theorem qix {r t:Int} (hn:ln w<=1000) (h0:0<=r) (h1:r<=t) (h2:t<=ln w):ln (sub w r t)<=1000000:=by
 rw [qp6 h0 h1 h2];omega
theorem sub_one {k:Int} (h0:0<=k) (h:k<8):ln (sub ([88,76,66,83,77,81,70,90]:ZB) k (k+1))=1:=by
 have hl:ln ([88,76,66,83,77,81,70,90]:ZB)=8:=rfl
 rw [qp6 h0 (by omega) (by omega)];omega
theorem qzd {k:Int} (h0:0<=k) (h:k<8):-9223372036854775808<=ln (sub ([88,76,66,83,77,81,70,90]:ZB) k (k+1)):=by rw [sub_one h0 h];decide
theorem qzc {k:Int} (h0:0<=k) (h:k<8):ln (sub ([88,76,66,83,77,81,70,90]:ZB) k (k+1))<=9223372036854775807:=by rw [sub_one h0 h];decide
theorem q8g {k:Int} (h0:0<=k) (h:k<8):-9223372036854775808<=1+ln (sub ([88,76,66,83,77,81,70,90]:ZB) k (k+1)):=by rw [sub_one h0 h];decide
theorem q8f {k:Int} (h0:0<=k) (h:k<8):1+ln (sub ([88,76,66,83,77,81,70,90]:ZB) k (k+1))<=9223372036854775807:=by rw [sub_one h0 h];decide
theorem pre_nil {s:ZB} (h:preB s []=false):False:=by
 simp [preB,ln,upto] at h
theorem zp5 {s p:ZB} (h:preB s p=true):ln p<=ln s:=by
 simp only [preB,zA,decide_eq_true_eq] at h;exact h.1
theorem zxd (h:pv (kj w k 0)) (h0:0<=k) (h1:k<8) (h2:preB (fr w 0) (sub ([88,76,66,83,77,81,70,90]:ZB) k (k+1))=true):qbq w (ln (sub ([88,76,66,83,77,81,70,90]:ZB) k (k+1))) false (k+1):=by
 have hl:=zp5 h2
 rw [sub_one h0 h1] at hl ⊢
 exact ⟨⟨⟨by decide,hl⟩,.inl ⟨rfl,rfl,q4u h h1 h2⟩⟩⟩
theorem zxc (h:pv (kj w k 0)) (h1:8<=k):qbq w 0 true 0:=⟨⟨⟨by decide,qu w⟩,.inr ⟨rfl,zm6 h h1⟩⟩⟩
theorem zvo (h:pv (tk w i 98=true)) (h0:0<=i):zy w (i+1) (-1) i:=by
 have:=qks h h0
 exact ⟨⟨⟨by omega,by omega⟩,by rw [qkw,zT (pv.out h)],by rw [qkw,zT (pv.out h)]⟩⟩
theorem qdf (h:b=false):¬ b=true:=by rw [h];simp
theorem zvp (h:tk w i 98=false) (h1:pv (tk w i 35=true)) (h0:0<=i):zy w (i+1) 1 i:=by
 have:=qks h1 h0
 exact ⟨⟨⟨by omega,by omega⟩,by rw [qkw,zF (qdf h),zT (pv.out h1)],by rw [qkw,zF (qdf h),zT (pv.out h1)]⟩⟩
theorem zvq (h:tk w i 98=false) (h1:tk w i 35=false) (h2:pv (tk w i 110=true)) (h0:0<=i):zy w (i+1) 2 i:=by
 have:=qks h2 h0
 exact ⟨⟨⟨by omega,by omega⟩,by rw [qkw,zF (qdf h),zF (qdf h1),zT (pv.out h2)],by rw [qkw,zF (qdf h),zF (qdf h1),zT (pv.out h2)]⟩⟩
theorem zvr (h:tk w i 98=false) (h1:tk w i 35=false) (h2:tk w i 110=false) (hi:i<=ln w):zy w i 0 i:=
 ⟨⟨⟨zK _,hi⟩,by rw [qkw,zF (qdf h),zF (qdf h1),zF (qdf h2)],by rw [qkw,zF (qdf h),zF (qdf h1),zF (qdf h2)]⟩⟩
theorem qml (h:pv (tk w i ch=true)):qdp w i ch=(true,i+1):=by rw [qdp,zT (pv.out h)]
theorem qmk (h:tk w i ch=false):qdp w i ch=(false,i):=by rw [qdp,zF (qdf h)]
theorem zao (h0:pv (jr w m j i)) (h2:pv (qj w e j)) (h7:pv (zy w x a e)) (hc:qdp w x 42=(c,y)):qfs w i=((qbb (m++sub w j e)).1,a,c,(qbb (m++sub w j e)).2,y):=by
 obtain ⟨e1,e2,_⟩:=Hold.out h0
 obtain ⟨_,e3⟩:=Hold.out h2
 obtain ⟨_,e4,e5⟩:=Hold.out h7
 subst e1;subst e2;subst e3;subst e4;subst e5
 simp only [qfs,qmp,hc]
theorem zrg (h0:pv (jr w m j i)) (h2:pv (qj w e j)) (h4:pv (b=(b0 || !(qbb (m++sub w j e)).2))) (h7:pv (zy w x a e)) (hc:qdp w x 42=(c,y)) (r1:i<=y) (r2:y<=ln w) :
  qca w y b (qbb (m++sub w j e)).1 a c i b0:=by
 have:=zao h0 h2 h7 hc
 exact ⟨⟨⟨r1,r2⟩,by rw [this],by rw [this],by rw [this],by rw [this];exact h4,by rw [this]⟩⟩
theorem zxe (h:pv (tk w i 94=true)) (h0:0<=i):jw w (i+1) 1 i:=by
 have:=qks h h0
 exact ⟨⟨⟨by omega,by omega⟩,by rw [qk4,zT (pv.out h)],by rw [qk4,zT (pv.out h)]⟩⟩
theorem zxf (h:tk w i 94=false) (h1:pv (tk w i 118=true)) (h0:0<=i):jw w (i+1) 2 i:=by
 have:=qks h1 h0
 exact ⟨⟨⟨by omega,by omega⟩,by rw [qk4,zF (qdf h),zT (pv.out h1)],by rw [qk4,zF (qdf h),zT (pv.out h1)]⟩⟩
theorem zxg (h:tk w i 94=false) (h1:tk w i 118=false) (h2:pv (tk w i 62=true)) (h0:0<=i):jw w (i+1) 3 i:=by
 have:=qks h2 h0
 exact ⟨⟨⟨by omega,by omega⟩,by rw [qk4,zF (qdf h),zF (qdf h1),zT (pv.out h2)],by rw [qk4,zF (qdf h),zF (qdf h1),zT (pv.out h2)]⟩⟩
theorem zxh (h:tk w i 94=false) (h1:tk w i 118=false) (h2:tk w i 62=false) (hi:i<=ln w):jw w i 0 i:=
 ⟨⟨⟨zK _,hi⟩,by rw [qk4,zF (qdf h),zF (qdf h1),zF (qdf h2)],by rw [qk4,zF (qdf h),zF (qdf h1),zF (qdf h2)]⟩⟩
theorem zvg (h:pv (tk w i 126=true)) (h0:0<=i):qaz w (i+1) true i:=by
 have:=qks h h0
 exact ⟨⟨⟨by omega,by omega⟩,by rw [qml h],by rw [qml h]⟩⟩
theorem zvf (h:tk w i 126=false) (hi:i<=ln w):qaz w i false i:=⟨⟨⟨zK _,hi⟩,by rw [qmk h],by rw [qmk h]⟩⟩
theorem zvi (h:pv (tk w i 47=true)) (h0:0<=i):qa0 w (i+1) b i b:=by
 have:=qks h h0
 exact ⟨⟨⟨by omega,by omega⟩,.inl ⟨pv.out h,rfl,rfl⟩⟩⟩
theorem zvh (h:tk w i 47=false) (hi:i<=ln w):qa0 w i true i b:=⟨⟨⟨zK _,hi⟩,.inr ⟨h,rfl⟩⟩⟩
theorem zvj (h:pv (tk w 1 67=true)):jk w (1+1) false 0 1:=by
 have:=qks h (by decide)
 exact ⟨⟨⟨by decide,by omega⟩,.inl ⟨rfl,rfl,by rw [q8d,zT (pv.out h)]⟩⟩⟩
theorem zvk (h:tk w 1 67=false) (h1:pv (tk w 1 70=true)):jk w (1+1) false 3 1:=by
 have:=qks h1 (by decide)
 exact ⟨⟨⟨by decide,by omega⟩,.inl ⟨rfl,rfl,by rw [q8d,zF (qdf h),zT (pv.out h1)]⟩⟩⟩
theorem zvl (h:tk w 1 67=false) (h1:tk w 1 70=false) (h2:pv (tk w 1 71=true)):jk w (1+1) false 4 1:=by
 have:=qks h2 (by decide)
 exact ⟨⟨⟨by decide,by omega⟩,.inl ⟨rfl,rfl,by rw [q8d,zF (qdf h),zF (qdf h1),zT (pv.out h2)]⟩⟩⟩
theorem zvm (h:tk w 1 67=false) (h1:tk w 1 70=false) (h2:tk w 1 71=false) (hi:1<=ln w):jk w 1 true 0 1:=
 ⟨⟨⟨zK _,hi⟩,.inr ⟨rfl,by rw [q8d,zF (qdf h),zF (qdf h1),zF (qdf h2)]⟩⟩⟩
theorem zgk {ok b0:Bool} (h:false=(b0 || !ok)):b0=false/\ok=true:=by cases b0<;>cases ok<;>simp_all
theorem zc1 (h6:pv (qbq w i b0 v)) (h0:pv (jr w m j i)) (h2:pv (qj w e j)) (h4:pv (b=(b0 || !(qbb (m++sub w j e)).2))) (h7:pv (zy w x a e)) (hc:qdp w x 42=(c,y)) (hb:b=false) (hy:y=ln w) :
  rdK w 1=some (Sign.mk 1 v (qbb (m++sub w j e)).1 a c 0 false false 0 0 0 0 false 0 0 0 0):=by
 have hp:=zao h0 h2 h7 hc
 subst hb
 obtain ⟨hb0,hok⟩:=zgk h4
 obtain ⟨_,⟨_,hi,hv⟩ | ⟨h,_⟩⟩:=Hold.out h6
 .subst hi
  rw [rdK,zT rfl,rd1,hv]
  simp only [hp]
  rw [zT ⟨hok,hy⟩]
 .rw [hb0] at h;cases h
theorem zo7 (h6:pv (qbq w i b0 v)) (h0:pv (jr w m j i)) (h2:pv (qj w e j)) (h4:pv (b=(b0 || !(qbb (m++sub w j e)).2))) (h7:pv (zy w x a e)) (hc:qdp w x 42=(c,y)) (hb:b=true∨y≠ln w) :
  rdK w 1=none:=by
 have hp:=zao h0 h2 h7 hc
 obtain ⟨_,⟨h,hi,hv⟩ | ⟨_,hv⟩⟩:=Hold.out h6
 .subst hi
  rw [rdK,zT rfl,rd1,hv]
  simp only [hp]
  rw [zF]
  rintro ⟨q1,q2⟩
  rcases hb with hb | hb
  .have h4':b=(b0 || !(qbb (m++sub w j e)).2):=h4
   rw [hb,h,q1] at h4'
   cases h4'
  .exact hb q2
 .rw [rdK,zT rfl,rd1,hv]
theorem zda:rdK w 2=rd2 w:=rfl
theorem zq9:rdK w 3=rd3 w:=rfl
theorem zka:rdK w 4=rd4 w:=rfl
theorem zkb:rdK w 5=rd5 w:=rfl
theorem zra:rdK w 6=rd6 w:=rfl
theorem zkc:rdK w 7=rd7 w:=rfl
theorem q1f:rdK w 8=rdN w 38 8:=rfl
theorem qs4:rdK w 10=rdN w 93 10:=rfl
theorem zc2 (ht:pv (tk w 0 114=true)) (h:pv (kj w k 1)) (h1:k<8) (h2:preB (fr w 1) (sub ([88,76,66,83,77,81,70,90]:ZB) k (k+1))=true) (hl:1+ln (sub ([88,76,66,83,77,81,70,90]:ZB) k (k+1))=ln w):rdK w 2=some (Sign.mk 2 (k+1) 0 0 false 0 false false 0 0 0 0 false 0 0 0 0):=by
 rw [sub_one h.out.out.1 h1] at hl
 rw [zda,rd2,zT (pv.out ht),q4u h h1 h2];exact zT hl
theorem zo8 (h:pv (kj w k 1)) (h1:k<8) (h2:preB (fr w 1) (sub ([88,76,66,83,77,81,70,90]:ZB) k (k+1))=true) (hl:1+ln (sub ([88,76,66,83,77,81,70,90]:ZB) k (k+1))≠ln w):rdK w 2=none:=by
 rw [sub_one h.out.out.1 h1] at hl
 rw [zda,rd2]
 split
 .simp only [q4u h h1 h2]
  exact zF hl
 .rfl
theorem zvb (h:pv (kj w k 1)) (h1:8<=k):rdK w 2=none:=by
 rw [zda,rd2]
 split
 .rw [zm6 h h1]
 .rfl
theorem zs1 (h:tk w 0 114=false):rdK w 2=none:=by rw [zda,rd2,zF (qdf h)]
theorem zc4 (h:pv (tk w 0 46=true)) (hl:(1:Int)=ln w):rdK w 3=some (Sign.mk 3 0 0 0 false 0 false false 0 0 0 0 false 0 0 0 0):=by rw [zq9,rd3,zT ⟨pv.out h,hl⟩]
theorem zc3 (h:tk w 0 46=false∨(1:Int)≠ln w):rdK w 3=none:=by
 rw [zq9,rd3,zF]
 rintro ⟨h1,h2⟩
 rcases h with h | h
 .rw [h] at h1;cases h1
 .exact h h2
theorem zc5 (ht:pv (tk w 0 116=true)) (h8:pv (qca w i b p a c 1 false)) (h9:pv (jw w j k i)) (h10:pv (qaz w e o j)) (hl:qdp w e 33=(l,y)) (hb:b=false) (hy:y=ln w) :
  rdK w 4=some (Sign.mk 4 0 p a c k o l 0 0 0 0 false 0 0 0 0):=by
 obtain ⟨_,e1,e2,e3,e4,e5⟩:=Hold.out h8
 obtain ⟨_,e6,e7⟩:=Hold.out h9
 obtain ⟨_,e8,e9⟩:=Hold.out h10
 subst hb
 have hok:=(zgk e4).2
 subst e1;subst e2;subst e3;subst e5;subst e6;subst e7;subst e8;subst e9
 rw [zka,rd4]
 simp only [zbl,hl]
 rw [zT ⟨pv.out ht,hok,hy⟩]
theorem zo9 (h8:pv (qca w i b p a c 1 false)) (h9:pv (jw w j k i)) (h10:pv (qaz w e o j)) (hl:qdp w e 33=(l,y)) (hb:b=true∨y≠ln w):rdK w 4=none:=by
 obtain ⟨_,e1,e2,e3,e4,e5⟩:=Hold.out h8
 obtain ⟨_,e6,e7⟩:=Hold.out h9
 obtain ⟨_,e8,e9⟩:=Hold.out h10
 subst e5;subst e7;subst e9
 rw [zka,rd4]
 simp only [zbl,hl]
 rw [zF]
 rintro ⟨_,q1,q2⟩
 rcases hb with hb | hb
 .rw [hb,q1] at e4;cases e4
 .exact hb q2
theorem zs2 (h:tk w 0 116=false):rdK w 4=none:=by rw [zka,rd4,zF fun hh=>qdf h hh.1]
theorem zc6 (ht:pv (tk w 0 40=true)) (h2:pv (tk w (1+qe6 w) 41=true)) (hl:qdp w (1+qe6 w+1) 124=(l,y)) (h0:(qgq (sub w 1 (1+qe6 w))).2=0) (hy:y=ln w) :
  rdK w 5=some (Sign.mk 5 0 0 0 false 0 false false (qgq (sub w 1 (1+qe6 w))).1.1 (qgq (sub w 1 (1+qe6 w))).1.2.1 (qgq (sub w 1 (1+qe6 w))).1.2.2.1 (qgq (sub w 1 (1+qe6 w))).1.2.2.2 l 0 0 0 0):=by
 rw [zkb,rd5]
 simp only [hl,q98]
 rw [zT ⟨pv.out ht,h0,pv.out h2,hy⟩]
theorem zpb (hl:qdp w (1+qe6 w+1) 124=(l,y)) (h:(qgq (sub w 1 (1+qe6 w))).2≠0∨y≠ln w):rdK w 5=none:=by
 rw [zkb,rd5]
 simp only [hl,q98]
 rw [zF]
 rintro ⟨_,q1,_,q2⟩
 rcases h with h | h
 .exact h q1
 .exact h q2
theorem zpa (h:tk w 0 40=false∨tk w (1+qe6 w) 41=false):rdK w 5=none:=by
 rw [zkb,rd5,zF]
 rintro ⟨q1,_,q2,_⟩
 rcases h with h | h
 .exact qdf h q1
 .exact qdf h q2
theorem qnu (h:pv (qj w e i)):qga w i=(qw (sub w i e),e):=by
 obtain ⟨_,e1⟩:=Hold.out h
 subst e1
 rfl
theorem zc7 (h2:pv (qj w e 0)) (h3:pv (b0=(false || !(qw (sub w 0 e)).2))) (h11:pv (qa0 w i b e b0)) (h2':pv (qj w x i)) (h3':pv (c=(b || !(qw (sub w i x)).2))) (hc:c=false) (hx:x=ln w) :
  rdK w 6=some (Sign.mk 6 0 0 0 false 0 false false 0 0 0 0 false (qw (sub w 0 e)).1 (qw (sub w i x)).1 0 0):=by
 subst hc
 obtain ⟨hb,hok⟩:=zgk h3'
 obtain ⟨_,⟨q1,q2,q3⟩ | ⟨_,q⟩⟩:=Hold.out h11
 .subst q2
  rw [hb] at q3
  subst q3
  have hok0:=(zgk h3).2
  rw [zra,rd6]
  simp only [qnu h2,qnu h2']
  rw [zT ⟨hok0,q1,hok,hx⟩]
 .rw [hb] at q;cases q
theorem zpc (h2:pv (qj w e 0)) (h3:pv (b0=(false || !(qw (sub w 0 e)).2))) (h11:pv (qa0 w i b e b0)) (h2':pv (qj w x i)) (h3':pv (c=(b || !(qw (sub w i x)).2))) (hc:c=true∨x≠ln w):rdK w 6=none:=by
 rw [zra,rd6,zF]
 simp only [qnu h2]
 rintro ⟨q1,q2,q3,q4⟩
 obtain ⟨_,⟨p1,p2,p3⟩ | ⟨p,_⟩⟩:=Hold.out h11
 .subst p2
  rw [qnu h2'] at q3 q4
  rcases hc with hc | hc
  .have h3a:b0=(false || !(qw (sub w 0 e)).2):=h3
   have h3b:c=(b || !(qw (sub w (e+1) x)).2):=h3'
   rw [q1] at h3a
   rw [hc,q3,p3,h3a] at h3b
   cases h3b
  .exact hc q4
 .exact qdf p q2
theorem zc8 (ht:pv (tk w 0 64=true)) (h12:pv (jk w i b k 1)) (h2:pv (qj w x i)) (h3:pv (c=(b || !(qw (sub w i x)).2))) (hc:c=false) (hx:x=ln w) :
  rdK w 7=some (Sign.mk 7 0 0 0 false 0 false false 0 0 0 0 false 0 0 k (qw (sub w i x)).1):=by
 subst hc
 obtain ⟨hb,hok⟩:=zgk h3
 obtain ⟨_,⟨_,q2,q3⟩ | ⟨q,_⟩⟩:=Hold.out h12
 .have q2':i=2:=q2
  subst q2'
  rw [zkc,rd7,zT (pv.out ht),q3]
  simp only [qnu h2]
  rw [zT ⟨hok,hx⟩]
 .rw [hb] at q;cases q
theorem zpd (h12:pv (jk w i b k 1)) (h2:pv (qj w x i)) (h3:pv (c=(b || !(qw (sub w i x)).2))) (hc:c=true∨x≠ln w):rdK w 7=none:=by
 rw [zkc,rd7]
 split
 .obtain ⟨_,⟨q1,q2,q3⟩ | ⟨_,q⟩⟩:=Hold.out h12
  .have q2':i=2:=q2
   subst q2'
   rw [q3]
   simp only [qnu h2]
   rw [zF]
   rintro ⟨p1,p2⟩
   rcases hc with hc | hc
   .have h3a:c=(b || !(qw (sub w 2 x)).2):=h3
    rw [hc,q1,p1] at h3a
    cases h3a
   .exact hc p2
  .rw [q]
 .rfl
theorem zs3 (h:tk w 0 64=false):rdK w 7=none:=by rw [zkc,rd7,zF (qdf h)]
theorem qv6 {ch:UInt8} {n:Int} (hk:rdK w n=rdN w ch n) (ht:pv (tk w 0 ch=true)) (h2:pv (qj w x 1)) (h3:pv (c=(false || !(qw (sub w 1 x)).2))) (hc:c=false) (hx:x=ln w) :
  rdK w n=some (Sign.mk n 0 0 0 false 0 false false 0 0 0 0 false (qw (sub w 1 x)).1 0 0 0):=by
 subst hc
 obtain ⟨_,hok⟩:=zgk h3
 rw [hk,rdN]
 simp only [qnu h2]
 rw [zT ⟨pv.out ht,hok,hx⟩]
theorem zc9 {ch:UInt8} {n:Int} (hk:rdK w n=rdN w ch n) (h2:pv (qj w x 1)) (h3:pv (c=(false || !(qw (sub w 1 x)).2))) (hc:c=true∨x≠ln w):rdK w n=none:=by
 rw [hk,rdN,zF]
 simp only [qnu h2]
 rintro ⟨_,q1,q2⟩
 rcases hc with hc | hc
 .have h3a:c=(false || !(qw (sub w 1 x)).2):=h3
  rw [hc,q1] at h3a
  cases h3a
 .exact hc q2
theorem zfy {ch:UInt8} {n:Int} (hk:rdK w n=rdN w ch n) (h:tk w 0 ch=false):rdK w n=none:=by rw [hk,rdN,zF fun hh=>qdf h hh.1]
theorem qoj {p:ZB} {n:Int} (hk:rdK w n=rdW w p n) (h:preB w p=true) (hl:ln p=ln w):rdK w n=some (Sign.mk n 0 0 0 false 0 false false 0 0 0 0 false 0 0 0 0):=by rw [hk,rdW,zT ⟨pv.out h,hl⟩]
theorem qoi {p:ZB} {n:Int} (hk:rdK w n=rdW w p n) (h:preB w p=false∨ln p≠ln w):rdK w n=none:=by
 rw [hk,rdW,zF]
 rintro ⟨h1,h2⟩
 rcases h with h | h
 .exact qdf h h1
 .exact h h2
end
theorem zkt (w:ZB):0<=qe6 w:=by unfold qe6;split<;>omega
theorem zs8 {w:ZB} (h:1<=ln w):1+qe6 w<=ln w:=by
 unfold qe6
 split
 .rename_i h1
  simp only [jg] at h1 ⊢
  split at h1
  .rename_i n hn
   have:=(List.findIdx?_eq_some_iff_getElem.1 hn).1
   simp only [fr,List.length_drop,ln] at *
   omega
  .omega
 .omega
theorem zww {w:ZB} {Q:Prop}:(tk w 0 40=true->Q)↔(pv (tk w 0 40=true)->0<=qe6 w->1+qe6 w<=ln w->Q):=
 ⟨fun h t _ _=>h t,fun h t=>h t (zkt w) (zs8 (by have:=qks t (zK _);omega))⟩
theorem zs7 (w:ZB):(if jg (fr w 1) 41 > 0 then jg (fr w 1) 41 else 0)=qe6 w:=rfl
set_option maxHeartbeats 16000000 in
theorem zh7 (a0:ZB) (hp:ln a0<=1000):qwm a0:=by
 unfold qwm qi3 qmu qgc qmv qmw qmx
 dsimp only
 have q0:ln ([]:ZB)=0:=rfl
 have q4:ln ([116,117,114,110]:ZB)=4:=rfl
 have q3:ln ([115,105,103]:ZB)=3:=rfl
 have q8:ln ([88,76,66,83,77,81,70,90]:ZB)=8:=rfl
 have q5:ln ([32,94,118,62]:ZB)=4:=rfl
 have s1:sub ([32,94,118,62]:ZB) 1 2=[94]:=rfl
 have s2:sub ([32,94,118,62]:ZB) 2 3=[118]:=rfl
 have s3:sub ([32,94,118,62]:ZB) 3 4=[62]:=rfl
 simp only [q0,q4,q3,q8,q5,s1,s2,s3,zkj,Int.zero_add,zwr,zs7,eq_self,true_and]
 clear q0 q4 q3 q8 q5 s1 s2 s3
 have hn:=qu a0
 refine ⟨⟨⟨fun j a b=>absurd a (by omega)⟩,trivial⟩,fun i0=>⟨?_,fun i1=>⟨?_,fun i2=>⟨?_,fun i3=>⟨?_,fun i4=>⟨?_,fun i5=>⟨?_,fun i6=>⟨?_,fun i7=>⟨?_,fun i8=>⟨?_,fun i9=>⟨?_,fun i10=>⟨?_,fun i11=>⟨?_,fun i12=>?_⟩⟩⟩⟩⟩⟩⟩⟩⟩⟩⟩⟩⟩
 .simp only [q4w,w0,w1,w2,w4,w5,w6,w7,qh]
  unhygienic (repeat' (first | exact trivial | (with_reducible exact rfl) | (with_reducible apply And.intro) | intro))
  all_goals first
   | omega
   | (with_reducible exact (pre_nil ‹_›).elim)
   | (with_reducible exact q7a)
   | (with_reducible exact zdi ‹_› ‹_› ‹_›)
   | (with_reducible exact zde ‹_› ‹_›)
   | (with_reducible exact qzd ‹_› ‹_›)
   | (with_reducible exact qzc ‹_› ‹_›)
   | (with_reducible exact q8g ‹_› ‹_›)
   | (with_reducible exact q8f ‹_› ‹_›)
   | (with_reducible exact zxd ‹_› ‹_› ‹_› ‹_›)
   | (with_reducible exact zxc ‹_› ‹_›)
   | (with_reducible exact zve ‹_› (by omega))
   | (with_reducible exact zvd ‹_› (by omega))
   | (with_reducible exact qlg (by omega))
   | (with_reducible exact qon ‹_› (by omega) ‹_› ‹_› ‹_›)
   | (with_reducible exact qol (by omega))
   | (with_reducible exact qtg ‹_› ‹_›)
   | (with_reducible exact q1n ‹_› ‹_›)
   | (with_reducible exact q1m ‹_› ‹_›)
   | (with_reducible exact zvn ‹_›)
   | (with_reducible exact zpk ‹_›)
   | (with_reducible exact zpk rfl)
   | (with_reducible exact q0v hp (by omega) ‹_› ‹_› ‹_›)
   | exact Int.le_trans (q2y hp (by omega) ‹_› ‹_› ‹_›) (by decide)
   | (with_reducible exact zvo ‹_› (by omega))
   | (with_reducible exact zvp ‹_› ‹_› (by omega))
   | (with_reducible exact zvq ‹_› ‹_› ‹_› (by omega))
   | (with_reducible exact zvr ‹_› ‹_› ‹_› ‹_›)
   | exact qvn 1 i0 (by decide) (by decide) (zc1 ‹_› ‹_› ‹_› ‹_› ‹_› (by first | exact qml ‹_› | exact qmk ‹_›) ‹_› (by omega)) ‹_›
   | exact qvo 1 i0 (by decide) (by decide) (zc1 ‹_› ‹_› ‹_› ‹_› ‹_› (by first | exact qml ‹_› | exact qmk ‹_›) ‹_› (by omega)) ‹_›
   | exact qd5 1 i0 (zo7 ‹_› ‹_› ‹_› ‹_› ‹_› (by first | exact qml ‹_› | exact qmk ‹_›) (by first | (left;assumption) | (right;assumption) | (right;omega)))
   | fail "rest"
 .simp only [q4w,w5,qh]
  unhygienic (repeat' (first | exact trivial | (with_reducible exact rfl) | (with_reducible apply And.intro) | intro))
  all_goals first
   | omega
   | (with_reducible exact (pre_nil ‹_›).elim)
   | (with_reducible exact q7a)
   | (with_reducible exact zdi ‹_› ‹_› ‹_›)
   | (with_reducible exact zde ‹_› ‹_›)
   | (with_reducible exact qzd ‹_› ‹_›)
   | (with_reducible exact qzc ‹_› ‹_›)
   | (with_reducible exact q8g ‹_› ‹_›)
   | (with_reducible exact q8f ‹_› ‹_›)
   | exact qvn 2 i1 (by decide) (by decide) (zc2 ‹_› ‹_› ‹_› ‹_› ‹_›) ‹_›
   | exact qvo 2 i1 (by decide) (by decide) (zc2 ‹_› ‹_› ‹_› ‹_› ‹_›) ‹_›
   | exact qd5 2 i1 (zo8 ‹_› ‹_› ‹_› ‹_›)
   | exact qd5 2 i1 (zvb ‹_› ‹_›)
   | exact qd5 2 i1 (zs1 ‹_›)
   | fail "rest"
 .simp only [q4w,qh]
  unhygienic (repeat' (first | exact trivial | (with_reducible exact rfl) | (with_reducible apply And.intro) | intro))
  all_goals first
   | omega
   | (with_reducible exact (pre_nil ‹_›).elim)
   | exact qvn 3 i2 (by decide) (by decide) (zc4 ‹_› (by omega)) ‹_›
   | exact qvo 3 i2 (by decide) (by decide) (zc4 ‹_› (by omega)) ‹_›
   | exact qd5 3 i2 (zc3 (.inl ‹_›))
   | exact qd5 3 i2 (zc3 (.inr (by omega)))
   | fail "rest"
 .simp only [q4w,w0,w1,w2,w4,w7,w8,w9,w10,qh]
  unhygienic (repeat' (first | exact trivial | (with_reducible exact rfl) | (with_reducible apply And.intro) | intro))
  all_goals first
   | omega
   | (with_reducible exact (pre_nil ‹_›).elim)
   | (with_reducible exact zve ‹_› (by omega))
   | (with_reducible exact zvd ‹_› (by omega))
   | (with_reducible exact qlg (by omega))
   | (with_reducible exact qon ‹_› (by omega) ‹_› ‹_› ‹_›)
   | (with_reducible exact qol (by omega))
   | (with_reducible exact qtg ‹_› ‹_›)
   | (with_reducible exact q1n ‹_› ‹_›)
   | (with_reducible exact q1m ‹_› ‹_›)
   | (with_reducible exact zvn ‹_›)
   | (with_reducible exact zpk ‹_›)
   | (with_reducible exact zpk rfl)
   | (with_reducible exact q0v hp (by omega) ‹_› ‹_› ‹_›)
   | exact Int.le_trans (q2y hp (by omega) ‹_› ‹_› ‹_›) (by decide)
   | (with_reducible exact zvo ‹_› (by omega))
   | (with_reducible exact zvp ‹_› ‹_› (by omega))
   | (with_reducible exact zvq ‹_› ‹_› ‹_› (by omega))
   | (with_reducible exact zvr ‹_› ‹_› ‹_› ‹_›)
   | (with_reducible exact zxe ‹_› (by omega))
   | (with_reducible exact zxf ‹_› ‹_› (by omega))
   | (with_reducible exact zxg ‹_› ‹_› ‹_› (by omega))
   | (with_reducible exact zxh ‹_› ‹_› ‹_› ‹_›)
   | (with_reducible exact zvg ‹_› (by omega))
   | (with_reducible exact zvf ‹_› ‹_›)
   | exact zrg ‹_› ‹_› ‹_› ‹_› (qml ‹_›) (by omega) (by omega)
   | exact zrg ‹_› ‹_› ‹_› ‹_› (qmk ‹_›) (by omega) (by omega)
   | exact qvn 4 i3 (by decide) (by decide) (zc5 ‹_› ‹_› ‹_› ‹_› (by first | exact qml ‹_› | exact qmk ‹_›) ‹_› (by omega)) ‹_›
   | exact qvo 4 i3 (by decide) (by decide) (zc5 ‹_› ‹_› ‹_› ‹_› (by first | exact qml ‹_› | exact qmk ‹_›) ‹_› (by omega)) ‹_›
   | exact qd5 4 i3 (zo9 ‹_› ‹_› ‹_› (by first | exact qml ‹_› | exact qmk ‹_›) (by first | (left;assumption) | (right;assumption) | (right;omega)))
   | exact qd5 4 i3 (zs2 ‹_›)
   | fail "rest"
 .simp only [zww,qh]
  simp only [q4w]
  unhygienic (repeat' (first | exact trivial | (with_reducible exact rfl) | (with_reducible apply And.intro) | intro))
  all_goals first
   | omega
   | (with_reducible exact (pre_nil ‹_›).elim)
   | exact qix hp (by omega) (by omega) (by omega)
   | exact Int.le_trans (qix hp (by omega) (by omega) (by omega)) (by decide)
   | exact qvn 5 i4 (by decide) (by decide) (zc6 ‹_› ‹_› (by first | exact qml ‹_› | exact qmk ‹_›) ‹_› (by omega)) ‹_›
   | exact qvo 5 i4 (by decide) (by decide) (zc6 ‹_› ‹_› (by first | exact qml ‹_› | exact qmk ‹_›) ‹_› (by omega)) ‹_›
   | exact qd5 5 i4 (zpb (by first | exact qml ‹_› | exact qmk ‹_›) (by first | (left;assumption) | (right;assumption) | (right;omega)))
   | exact qd5 5 i4 (zpa (.inl ‹_›))
   | exact qd5 5 i4 (zpa (.inr ‹_›))
   | fail "rest"
 .simp only [q4w,w1,w2,w3,w11,qh]
  unhygienic (repeat' (first | exact trivial | (with_reducible exact rfl) | (with_reducible apply And.intro) | intro))
  all_goals first
   | omega
   | (with_reducible exact (pre_nil ‹_›).elim)
   | exact qix hp (by omega) (by omega) (by omega)
   | (with_reducible exact qlg (by omega))
   | (with_reducible exact qon ‹_› (by omega) ‹_› ‹_› ‹_›)
   | (with_reducible exact qol (by omega))
   | (with_reducible exact qtg ‹_› ‹_›)
   | (with_reducible exact q1n ‹_› ‹_›)
   | (with_reducible exact q1m ‹_› ‹_›)
   | (with_reducible exact zpj ‹_›)
   | (with_reducible exact q69 ‹_›)
   | (with_reducible exact q69 rfl)
   | (with_reducible exact zvi ‹_› (by omega))
   | (with_reducible exact zvh ‹_› ‹_›)
   | exact qvn 6 i5 (by decide) (by decide) (zc7 ‹_› ‹_› ‹_› ‹_› ‹_› ‹_› (by omega)) ‹_›
   | exact qvo 6 i5 (by decide) (by decide) (zc7 ‹_› ‹_› ‹_› ‹_› ‹_› ‹_› (by omega)) ‹_›
   | exact qd5 6 i5 (zpc ‹_› ‹_› ‹_› ‹_› ‹_› (by first | (left;assumption) | (right;assumption) | (right;omega)))
   | fail "rest"
 .simp only [q4w,w1,w2,w3,w12,qh]
  unhygienic (repeat' (first | exact trivial | (with_reducible exact rfl) | (with_reducible apply And.intro) | intro))
  all_goals first
   | omega
   | (with_reducible exact (pre_nil ‹_›).elim)
   | exact qix hp (by omega) (by omega) (by omega)
   | (with_reducible exact qlg (by omega))
   | (with_reducible exact qon ‹_› (by omega) ‹_› ‹_› ‹_›)
   | (with_reducible exact qol (by omega))
   | (with_reducible exact qtg ‹_› ‹_›)
   | (with_reducible exact q1n ‹_› ‹_›)
   | (with_reducible exact q1m ‹_› ‹_›)
   | (with_reducible exact zpj ‹_›)
   | (with_reducible exact q69 ‹_›)
   | (with_reducible exact q69 rfl)
   | (with_reducible exact zvj ‹_›)
   | (with_reducible exact zvk ‹_› ‹_›)
   | (with_reducible exact zvl ‹_› ‹_› ‹_›)
   | (with_reducible exact zvm ‹_› ‹_› ‹_› (by omega))
   | exact qvn 7 i6 (by decide) (by decide) (zc8 ‹_› ‹_› ‹_› ‹_› ‹_› (by omega)) ‹_›
   | exact qvo 7 i6 (by decide) (by decide) (zc8 ‹_› ‹_› ‹_› ‹_› ‹_› (by omega)) ‹_›
   | exact qd5 7 i6 (zpd ‹_› ‹_› ‹_› (by first | (left;assumption) | (right;assumption) | (right;omega)))
   | exact qd5 7 i6 (zs3 ‹_›)
   | fail "rest"
 .simp only [q4w,w1,w2,w3,qh]
  unhygienic (repeat' (first | exact trivial | (with_reducible exact rfl) | (with_reducible apply And.intro) | intro))
  all_goals first
   | omega
   | (with_reducible exact (pre_nil ‹_›).elim)
   | exact qix hp (by omega) (by omega) (by omega)
   | (with_reducible exact qlg (by omega))
   | (with_reducible exact qon ‹_› (by omega) ‹_› ‹_› ‹_›)
   | (with_reducible exact qol (by omega))
   | (with_reducible exact qtg ‹_› ‹_›)
   | (with_reducible exact q1n ‹_› ‹_›)
   | (with_reducible exact q1m ‹_› ‹_›)
   | (with_reducible exact zpj ‹_›)
   | (with_reducible exact q69 ‹_›)
   | (with_reducible exact q69 rfl)
   | exact qvn 8 i7 (by decide) (by decide) (qv6 q1f ‹_› ‹_› ‹_› ‹_› (by omega)) ‹_›
   | exact qvo 8 i7 (by decide) (by decide) (qv6 q1f ‹_› ‹_› ‹_› ‹_› (by omega)) ‹_›
   | exact qd5 8 i7 (zc9 q1f ‹_› ‹_› (by first | (left;assumption) | (right;assumption) | (right;omega)))
   | exact qd5 8 i7 (zfy q1f ‹_›)
   | fail "rest"
 .skip
  unhygienic (repeat' (first | exact trivial | (with_reducible exact rfl) | (with_reducible apply And.intro) | intro))
  all_goals first
   | omega
   | (with_reducible exact (pre_nil ‹_›).elim)
   | exact qvn 9 i8 (by decide) (by decide) (qoj (p:=[91]) rfl ‹_› ‹_›) ‹_›
   | exact qvo 9 i8 (by decide) (by decide) (qoj (p:=[91]) rfl ‹_› ‹_›) ‹_›
   | exact qd5 9 i8 (qoi (p:=[91]) rfl (.inl ‹_›))
   | exact qd5 9 i8 (qoi (p:=[91]) rfl (.inr ‹_›))
   | fail "rest"
 .simp only [q4w,w1,w2,w3,qh]
  unhygienic (repeat' (first | exact trivial | (with_reducible exact rfl) | (with_reducible apply And.intro) | intro))
  all_goals first
   | omega
   | (with_reducible exact (pre_nil ‹_›).elim)
   | exact qix hp (by omega) (by omega) (by omega)
   | (with_reducible exact qlg (by omega))
   | (with_reducible exact qon ‹_› (by omega) ‹_› ‹_› ‹_›)
   | (with_reducible exact qol (by omega))
   | (with_reducible exact qtg ‹_› ‹_›)
   | (with_reducible exact q1n ‹_› ‹_›)
   | (with_reducible exact q1m ‹_› ‹_›)
   | (with_reducible exact zpj ‹_›)
   | (with_reducible exact q69 ‹_›)
   | (with_reducible exact q69 rfl)
   | exact qvn 10 i9 (by decide) (by decide) (qv6 qs4 ‹_› ‹_› ‹_› ‹_› (by omega)) ‹_›
   | exact qvo 10 i9 (by decide) (by decide) (qv6 qs4 ‹_› ‹_› ‹_› ‹_› (by omega)) ‹_›
   | exact qd5 10 i9 (zc9 qs4 ‹_› ‹_› (by first | (left;assumption) | (right;assumption) | (right;omega)))
   | exact qd5 10 i9 (zfy qs4 ‹_›)
   | fail "rest"
 .skip
  unhygienic (repeat' (first | exact trivial | (with_reducible exact rfl) | (with_reducible apply And.intro) | intro))
  all_goals first
   | omega
   | (with_reducible exact (pre_nil ‹_›).elim)
   | exact qvn 11 i10 (by decide) (by decide) (qoj (p:=[116,117,114,110]) rfl ‹_› ‹_›) ‹_›
   | exact qvo 11 i10 (by decide) (by decide) (qoj (p:=[116,117,114,110]) rfl ‹_› ‹_›) ‹_›
   | exact qd5 11 i10 (qoi (p:=[116,117,114,110]) rfl (.inl ‹_›))
   | exact qd5 11 i10 (qoi (p:=[116,117,114,110]) rfl (.inr ‹_›))
   | fail "rest"
 .skip
  unhygienic (repeat' (first | exact trivial | (with_reducible exact rfl) | (with_reducible apply And.intro) | intro))
  all_goals first
   | omega
   | (with_reducible exact (pre_nil ‹_›).elim)
   | exact qvn 12 i11 (by decide) (by decide) (qoj (p:=[115,105,103]) rfl ‹_› ‹_›) ‹_›
   | exact qvo 12 i11 (by decide) (by decide) (qoj (p:=[115,105,103]) rfl ‹_› ‹_›) ‹_›
   | exact qd5 12 i11 (qoi (p:=[115,105,103]) rfl (.inl ‹_›))
   | exact qd5 12 i11 (qoi (p:=[115,105,103]) rfl (.inr ‹_›))
   | fail "rest"
 .exact zw7 i12
section
variable {w:ZB} {i:Int} {c:UInt8}
theorem zcn (h0:0<=i):0<ln (fr w i)↔i<ln w:=by simp only [ln,fr,List.length_drop];omega
theorem qd1 (h0:0<=i):tk w i c=true↔i<ln w/\bx w i=c.toNat:=by
 have e:bx (fr w i) 0=bx w i:=by rw [qj3 h0 (zK _),Int.add_zero]
 simp only [tk,preB,zA,decide_eq_true_eq]
 rw [ztn,e,zcn h0]
 constructor
 .exact fun h=>h.2
 .intro h
  refine ⟨?_,h⟩
  have:=(zcn (w:=w) h0).2 h.1
  rw [zkj];omega
theorem qfj {k:Int} (h0:0<=i) (hk:k=c.toNat):je (fr w i) k=(fr w (qdp w i c).2,(qdp w i c).1):=by
 have e:bx (fr w i) 0=bx w i:=by rw [qj3 h0 (zK _),Int.add_zero]
 rw [je,e]
 simp only [zcn (w:=w) h0]
 cases h:tk w i c with
 | true=>
  rw [zT (by rw [hk];exact (qd1 h0).1 h),qdp,zT h,q6r h0 (by decide)]
 | false=>
  rw [zF (by rw [hk,<-qd1 h0,h];simp),qdp,zF (by rw [h];simp)]
theorem zbi (h0:0<=i) (h:i<=ln w):i<=(qdp w i c).2/\(qdp w i c).2<=ln w:=by
 unfold qdp
 split
 .rename_i h1;have:=(qd1 h0).1 h1;exact ⟨by simp only;omega,by simp only;omega⟩
 .exact ⟨zK _,h⟩
theorem zrt (h0:0<=i):qlb (fr w i)=((qkw w i).1,fr w (qkw w i).2):=by
 unfold qlb qkw
 rw [qfj (c:=98) (k:=98) h0 rfl,qfj (c:=35) (k:=35) h0 rfl,qfj (c:=110) (k:=110) h0 rfl]
 unfold qdp
 cases h1:tk w i 98<;>cases h2:tk w i 35<;>cases h3:tk w i 110<;>simp
theorem zik (h0:0<=i) (h:i<=ln w):i<=(qkw w i).2/\(qkw w i).2<=ln w:=by
 unfold qkw
 (repeat' split)<;>(simp only)<;>first | omega | (rename_i h1;have:=(qd1 h0).1 h1;omega)
theorem zua (h0:0<=i):qj0 (fr w i)=((qk4 w i).1,fr w (qk4 w i).2):=by
 unfold qj0 qk4
 rw [qfj (c:=94) (k:=94) h0 rfl,qfj (c:=118) (k:=118) h0 rfl,qfj (c:=62) (k:=62) h0 rfl]
 unfold qdp
 cases h1:tk w i 94<;>cases h2:tk w i 118<;>cases h3:tk w i 62<;>simp
theorem zt9 (h0:0<=i) (h:i<=ln w):i<=(qk4 w i).2/\(qk4 w i).2<=ln w:=by
 unfold qk4
 (repeat' split)<;>(simp only)<;>first | omega | (rename_i h1;have:=(qd1 h0).1 h1;omega)
theorem zjr (h0:0<=i) (h:i<=ln w):fr w i=[]↔i=ln w:=by
 constructor
 .intro h1
  have:=qo7 h0 h
  rw [h1,qdd] at this
  omega
 .intro h1;exact qne (by omega)
theorem zj1:∀ (m:Nat) (s:ZB) (j:Int),1<=j->(ln s-j).toNat=m->hdE s j=zl qd8 s j:=by
 intro m
 induction m with
 | zero=>intro s j h1 hm;rw [qoe (.inl (by omega)),qei (.inl (by omega))]
 | succ m ih=>
  intro s j h1 hm
  by_cases hd:48<=bx s j/\bx s j<=57
  .rw [zct (by omega) (by omega) (.inl hd),qeh (by omega) (by omega) (by simp [qd8,hd.1,hd.2])]
   exact ih s (j+1) (by omega) (by omega)
  .rw [qoe (.inr ⟨hd,by omega⟩),qei (.inr (by simp only [qd8,Bool.and_eq_false_iff,decide_eq_false_iff_not];omega))]
theorem zmm {j:Int} (h0:0<=i) (hi:i<=ln w) (hj:0<=j) (h:i+j<=ln w):zl qd8 w (i+j)=i+zl qd8 (fr w i) j:=by
 have hl:=qo7 h0 hi
 have g1:j<=zl qd8 (fr w i) j:=qct
 have g2:zl qd8 (fr w i) j<=ln (fr w i):=qju (by omega)
 refine qn3 (by omega) (by omega) (by omega) ?_ ?_
 .intro x h1 h2
  have:=q2b (p:=qd8) (s:=fr w i) (i:=j) (x-i) (by omega) (by omega)
  rw [qj3 h0 (by omega)] at this
  rw [show x=i+(x-i) by omega];exact this
 .by_cases he:zl qd8 (fr w i) j<ln (fr w i)
  .right
   have:=q2c (p:=qd8) hj he
   rw [qj3 h0 (by omega)] at this
   exact this
  .left;omega
theorem zq6 (h0:0<=i) (hi:i<=ln w):i+hdE (fr w i) 0=dgE w (qhc w i).2:=by
 have e:bx (fr w i) 0=bx w i:=by rw [qj3 h0 (zK _),Int.add_zero]
 cases h:tk w i 45 with
 | true=>
  have h1:=(qd1 h0).1 h
  have hl:=qo7 h0 hi
  rw [qhc,zT h,zct (zK _) (by omega) (.inr ⟨rfl,by rw [e];exact h1.2⟩),zj1 _ _ _ (by omega) rfl,dgE]
  exact (zmm h0 hi (by omega) (by omega)).symm
 | false=>
  rw [qhc,zF (by rw [h];simp),dgE]
  have h1:¬ (0<ln (fr w i)/\bx (fr w i) 0=45):=by
   rw [e,zcn h0];intro h1
   rw [(qd1 (c:=45) h0).2 h1] at h;cases h
  have h2:=zmm (w:=w) (j:=0) h0 hi (zK _) (by omega)
  rw [Int.add_zero] at h2
  rw [h2]
  congr 1
  by_cases hd:0<ln (fr w i)/\48<=bx (fr w i) 0/\bx (fr w i) 0<=57
  .rw [zct (zK _) hd.1 (.inl hd.2),qeh (zK _) hd.1 (by simp [qd8,hd.2.1,hd.2.2])]
   exact zj1 _ _ _ (by decide) rfl
  .by_cases hl:ln (fr w i)<=0
   .rw [qoe (.inl hl),qei (.inl hl)]
   .rw [qoe (.inr ⟨fun x=>hd ⟨by omega,x⟩,fun x=>h1 ⟨by omega,x.2⟩⟩),qei (.inr (by simp only [qd8,Bool.and_eq_false_iff,decide_eq_false_iff_not];omega))]
theorem zs9 (h0:0<=i) (h:i<=ln w):i<=(qhc w i).2/\(qhc w i).2<=ln w:=by
 unfold qhc
 split
 .rename_i h1;have:=(qd1 h0).1 h1;exact ⟨by simp only;omega,by simp only;omega⟩
 .exact ⟨zK _,h⟩
theorem zmq (h0:0<=i) (h:i<=ln w):i<=(qmp w i).2/\(qmp w i).2<=ln w:=by
 have h1:=zs9 h0 h
 have h2:(qhc w i).2<=dgE w (qhc w i).2:=qct
 have h3:dgE w (qhc w i).2<=ln w:=qju h1.2
 exact ⟨by simp only [qmp];omega,h3⟩
theorem zt0 (h0:0<=i) (hi:i<=ln w):qbb (upto (fr w i) (hdE (fr w i) 0))=(qmp w i).1:=by
 have e:=zq6 h0 hi
 have e':hdE (fr w i) 0=dgE w (qhc w i).2-i:=by omega
 rw [e',qmp]
 congr 1
 have h2:(qhc w i).2<=dgE w (qhc w i).2:=qct
 cases h:tk w i 45 with
 | true=>
  have h1:=(qd1 h0).1 h
  have hm:qhc w i=([45],i+1):=by rw [qhc,zT h]
  rw [hm] at h2 ⊢
  simp only at h2 ⊢
  rw [qka h0 h1.1,qn6 (by omega) h2]
  have hx:ix w i=45:=qai (by rw [<-qmg];exact h1.2)
  rw [hx]
  have:(dgE w (i+1)-i).toNat=(dgE w (i+1)-(i+1)).toNat+1:=by omega
  unfold upto
  rw [this];rfl
 | false=>
  have hm:qhc w i=([],i):=by rw [qhc,zF (by rw [h];simp)]
  rw [hm] at h2 ⊢
  simp only at h2 ⊢
  rw [List.nil_append,qn6 h0 h2]
theorem zj0 (h0:0<=i) (hi:i<=ln w):hdF (fr w i)=(((qfs w i).1,(qfs w i).2.2.2.1),(qfs w i).2.1,(qfs w i).2.2.1,fr w (qfs w i).2.2.2.2):=by
 have h1:=zmq h0 hi
 have h2:=zik (w:=w) (i:=(qmp w i).2) (by omega) h1.2
 have e:fr (fr w i) (hdE (fr w i) 0)=fr w (qmp w i).2:=by
  have:=zq6 h0 hi
  have hg:0<=hdE (fr w i) 0:=by
   have h3:(qmp w i).2=dgE w (qhc w i).2:=rfl
   omega
  rw [q6r h0 hg,this];rfl
 simp only [hdF,e,zt0 h0 hi,zrt (w:=w) (i:=(qmp w i).2) (by omega),qfj (w:=w) (c:=42) (k:=42) (i:=(qkw w (qmp w i).2).2) (by omega) rfl]
 rfl
theorem zl3 (h0:0<=i) (h:i<=ln w):i<=(qfs w i).2.2.2.2/\(qfs w i).2.2.2.2<=ln w:=by
 have h1:=zmq h0 h
 have h2:=zik (w:=w) (i:=(qmp w i).2) (by omega) h1.2
 have h3:=zbi (w:=w) (i:=(qkw w (qmp w i).2).2) (c:=42) (by omega) h2.2
 exact ⟨by simp only [qfs];omega,h3.2⟩
theorem zps {s:ZB}:∀ {i n:Int},0<=i->(qcd s i n).2=true->∀ j,i<=j->j<ln s->qd8 (bx s j)=true:=by
 intro i n
 fun_induction qcd s i n with
 | case1 i n h hd hb=>intro _ h1;simp at h1
 | case2 i n h hd hb ih=>
  intro h0 h1 j h2 h3
  by_cases hj:j=i
  .rw [hj];exact hd
  .exact ih (by omega) h1 j (by omega) h3
 | case3 i n h hd=>intro _ h1;simp at h1
 | case4 i n h=>intro h0 _ j h2 h3;omega
theorem qin {s:ZB} (h:(qw s).2=true):0<ln s/\∀ j,0<=j->j<ln s->qd8 (bx s j)=true:=by
 unfold qw at h
 split at h
 .simp at h
 .rename_i h1
  have:=qu s
  exact ⟨by omega,zps (zK _) h⟩
theorem qyo (h0:0<=i) (hi:i<=ln w):((qga w i).1.2=true/\(qga w i).2=ln w)↔(qw (fr w i)).2=true:=by
 have hf:sub w i (ln w)=fr w i:=by rw [qn6 h0 hi,qr8 (by rw [qo7 h0 hi];omega)]
 constructor
 .rintro ⟨h1,h2⟩
  simp only [qga] at h1 h2
  rw [h2,hf] at h1;exact h1
 .intro h
  have hl:=qo7 h0 hi
  have h1:=qin h
  have h2:dgE w i=ln w:=qn3 h0 hi (zK _) (fun j a b=>by
   have:=h1.2 (j-i) (by omega) (by omega)
   rw [qj3 h0 (by omega)] at this
   rw [show j=i+(j-i) by omega];exact this) (.inl rfl)
  simp only [qga,h2,hf]
  exact ⟨h,trivial⟩
theorem q33 (h0:0<=i) (hi:i<=ln w) (h:(qw (fr w i)).2=true):(qga w i).1.1=(qw (fr w i)).1:=by
 have hf:sub w i (ln w)=fr w i:=by rw [qn6 h0 hi,qr8 (by rw [qo7 h0 hi];omega)]
 have:=((qyo h0 hi).2 h).2
 simp only [qga] at this ⊢
 rw [this,hf]
end
theorem zb1 (c:UInt8) (t:ZB):bx (c::t) 0=(c.toNat:Int):=rfl
theorem qfk (c d:UInt8) (t:ZB):tk (c::t) 0 d=decide (c=d):=by
 rw [Bool.eq_iff_iff,qd1 (zK _),zb1,jf]
 have:=qu t
 simp only [decide_eq_true_eq]
 constructor
 .rintro ⟨_,h⟩;exact qai h
 .rintro rfl;exact ⟨by omega,rfl⟩
theorem qn7 (d:UInt8):tk [] 0 d=false:=by
 rw [<-Bool.not_eq_true,qd1 (zK _),qdd];omega
theorem q4t (w:ZB) (i:Int):qty w i=if tk w i 88=true then some 1 else if tk w i 76=true then some 2 else if tk w i 66=true then some 3 else if tk w i 83=true then some 4 else if tk w i 77=true then some 5 else if tk w i 81=true then some 6 else if tk w i 70=true then some 7 else if tk w i 90=true then some 8 else none:=by
 unfold qty
 iterate 8 (rw [qvi,dif_pos (by decide)])
 rw [qvi,dif_neg (by decide)]
 rfl
theorem qr9 (c:UInt8) (t:ZB):qty (c::t) 0=if (qcx [c]).2=0 then some (qcx [c]).1 else none:=by
 rw [q4t]
 simp only [qfk,decide_eq_true_eq,qcx,List.cons.injEq,and_true]
 by_cases h1:c=88
 .simp [h1]
 by_cases h2:c=76
 .simp [h2]
 by_cases h3:c=66
 .simp [h3]
 by_cases h4:c=83
 .simp [h4]
 by_cases h5:c=77
 .simp [h5]
 by_cases h6:c=81
 .simp [h6]
 by_cases h7:c=70
 .simp [h7]
 by_cases h8:c=90
 .simp [h8]
 simp [h1,h2,h3,h4,h5,h6,h7,h8]
theorem zea:qty [] 0=none:=by rw [q4t];simp only [qn7];rfl
theorem val_two (c d:UInt8) (t:ZB):qcx (c::d::t)=(0,3):=by simp [qcx]
theorem ztq (c:UInt8) (t:ZB) (h:(qcx [c]).2=0):rdK (c::t) 1=zab (c::t):=by
 have hl:1<=ln (c::t):=by rw [jf];have:=qu t;omega
 have hb:=zl3 (w:=c::t) (i:=1) (by decide) hl
 have e:rdK (c::t) 1=rd1 (c::t):=rfl
 rw [e,rd1,qr9,zT h]
 simp only [zab,zj0 (w:=c::t) (i:=1) (by decide) hl]
 simp only [zjr (w:=c::t) (by omega) hb.2]
 rfl
theorem qjq (c:UInt8) (t:ZB) (h:(qcx [c]).2≠0):rdK (c::t) 1=none:=by
 have e:rdK (c::t) 1=rd1 (c::t):=rfl
 rw [e,rd1,qr9,zF h]
theorem ztr (t:ZB):rdK (114::t) 2=q4i t:=by
 have e:rdK (114::t) 2=rd2 (114::t):=rfl
 have hv:qty (114::t) 1=qty t 0:=by rw [q4t,q4t];rfl
 rw [e,rd2,qfk,zT (by decide),hv]
 match t with
 | []=>rw [zea];rfl
 | [d]=>
  rw [qr9,q4i]
  by_cases h:(qcx [d]).2=0
  .rw [zT h,zT h];rfl
  .rw [zF h,zF h]
 | d::a::u=>
  have h2:¬ (2:Int)=ln (114::d::a::u):=by simp only [jf];have:=qu u;omega
  have hr:q4i (d::a::u)=none:=by rw [q4i,val_two];rfl
  rw [qr9,hr]
  by_cases h:(qcx [d]).2=0
  .rw [zT h];exact zF h2
  .rw [zF h]
theorem qh4 {w:ZB} (h:w≠[46]):rdK w 3=none:=by
 have e:rdK w 3=rd3 w:=rfl
 rw [e,rd3,zF]
 rintro ⟨h1,h2⟩
 match w with
 | []=>rw [qn7] at h1;cases h1
 | [c]=>rw [qfk,decide_eq_true_eq] at h1;exact h (by rw [h1])
 | c::d::t=>simp only [jf] at h2;have:=qu t;omega
theorem zl9 (t:ZB):rdK (116::t) 4=q0f t:=by
 have e:rdK (116::t) 4=rd4 (116::t):=rfl
 have hl:1<=ln ((116:UInt8)::t):=by rw [jf];have:=qu t;omega
 have h1:=zl3 (w:=116::t) (i:=1) (by decide) hl
 have h2:=zt9 (w:=116::t) (i:=(qfs (116::t) 1).2.2.2.2) (by omega) h1.2
 have h3:=zbi (w:=116::t) (c:=126) (i:=(qk4 (116::t) (qfs (116::t) 1).2.2.2.2).2) (by omega) h2.2
 have h4:=zbi (w:=116::t) (c:=33) (i:=(qdp (116::t) (qk4 (116::t) (qfs (116::t) 1).2.2.2.2).2 126).2) (by omega) h3.2
 have ht:q0f t=q0f (fr (116::t) 1):=rfl
 rw [e,ht,rd4,qfk,q0f]
 simp only [zj0 (w:=116::t) (i:=1) (by decide) hl,zua (w:=116::t) (i:=(qfs (116::t) 1).2.2.2.2) (by omega),qfj (w:=116::t) (c:=126) (k:=126) (i:=(qk4 (116::t) (qfs (116::t) 1).2.2.2.2).2) (by omega) rfl,
  qfj (w:=116::t) (c:=33) (k:=33) (i:=(qdp (116::t) (qk4 (116::t) (qfs (116::t) 1).2.2.2.2).2 126).2) (by omega) rfl,zbl,decide_true,true_and]
 simp only [zjr (w:=116::t) (by omega) h4.2]
theorem zma:rdK [116,117,114,110] 4=none:=by
 rw [zl9,q0f]
 have h:hdE [117,114,110] 0=0:=qoe (.inr ⟨by decide,by decide⟩)
 have:(hdF [117,114,110]).1.2=false:=by rw [hdF,h];rfl
 simp only [this]
 rfl
theorem zay {w p:ZB} {k:Int} (h:w≠p):rdW w p k=none:=by
 rw [rdW,zF]
 rintro ⟨h1,h2⟩
 simp only [preB,zA,decide_eq_true_eq] at h1
 rw [qr8 (by omega)] at h1
 exact h h1.2
theorem zmc (c:UInt8) (t:ZB) (k:Int):rdN (c::t) c k=qz2 k t:=by
 have hl:1<=ln (c::t):=by rw [jf];have:=qu t;omega
 have hf:fr (c::t) 1=t:=rfl
 have h1:=qyo (w:=c::t) (i:=1) (by decide) hl
 have h2:=q33 (w:=c::t) (i:=1) (by decide) hl
 rw [hf] at h1 h2
 rw [rdN,qfk,qz2]
 by_cases h:(qw t).2=true
 .rw [zT ⟨by simp,h1.2 h⟩,zT h,h2 h]
 .rw [zF (fun x=>h (h1.1 x.2)),zF h]
theorem ztv (t:ZB):rdK (64::t) 7=qvm t:=by
 have e:rdK (64::t) 7=rd7 (64::t):=rfl
 have h67:=qfj (w:=64::t) (i:=1) (c:=67) (k:=67) (by decide) rfl
 have h70:=qfj (w:=64::t) (i:=1) (c:=70) (k:=70) (by decide) rfl
 have h71:=qfj (w:=64::t) (i:=1) (c:=71) (k:=71) (by decide) rfl
 have hf:fr ((64:UInt8)::t) 1=t:=rfl
 rw [hf] at h67 h70 h71
 have key:∀ (k:Int),2<=ln ((64:UInt8)::t)->(if (qga (64::t) 2).1.2=true/\(qga (64::t) 2).2=ln ((64:UInt8)::t) then some (Sign.mk 7 0 0 0 false 0 false false 0 0 0 0 false 0 0 k (qga (64::t) 2).1.1) else none)
   = (if (qw (fr ((64:UInt8)::t) 2)).2=true then some (Sign.mk 7 0 0 0 false 0 false false 0 0 0 0 false 0 0 k (qw (fr ((64:UInt8)::t) 2)).1) else none):=by
  intro k hk
  have h1:=qyo (w:=64::t) (i:=2) (by decide) hk
  by_cases h:(qw (fr ((64:UInt8)::t) 2)).2=true
  .rw [zT (h1.2 h),zT h,q33 (w:=64::t) (i:=2) (by decide) hk h]
  .rw [zF (fun x=>h (h1.1 x)),zF h]
 rw [e,rd7,qfk,zT (by decide),qvm,q8d,h67,h70,h71]
 unfold qdp
 cases a1:tk (64::t) 1 67 with
 | true=>
  have:=((qd1 (by decide)).1 a1).1
  exact key 0 (by omega)
 | false=>
  cases a2:tk (64::t) 1 70 with
  | true=>
   have:=((qd1 (by decide)).1 a2).1
   exact key 3 (by omega)
  | false=>
   cases a3:tk (64::t) 1 71 with
   | true=>
    have:=((qd1 (by decide)).1 a3).1
    exact key 4 (by omega)
   | false=>rfl
def M5 (t:ZB) (b:Bool):ZB:=40::(t++41::zn b 124)
theorem zal:∀ {l:List M4} {t:ZB},(qnx t l).2=0->∃ m ∈ l,txM m=t:=by
 intro l t
 induction l with
 | nil=>intro h;simp [qnx] at h
 | cons m l ih=>
  intro h
  by_cases hm:txM m=t
  .exact ⟨m,zC,hm⟩
  .rw [qnx,zF hm] at h
   obtain ⟨x,hx,hy⟩:=ih h
   exact ⟨x,zG _ hx,hy⟩
theorem zko:∀ m ∈ allM,∀ b,rdK (M5 (txM m) b) 5=q3z (txM m++41::zn b 124):=by
 intro m hm b
 simp only [allM,zD,List.not_mem_nil,or_false] at hm
 rcases hm with h | h | h | h | h | h | h | h | h | h | h | h | h | h | h | h<;>subst h<;>cases b<;>rfl
theorem qp4 {u:ZB} {c:UInt8} (h:0<ln u) (hc:bx u (ln u-1)=c.toNat):u=upto u (ln u-1)++[c]:=by
 have:=zhb (l:=u) (i:=ln u-1) (by omega) (by omega)
 rw [show ln u-1+1=ln u by omega,qr8 (zK _),qai (a:=ix u (ln u-1)) (b:=c) (by rw [<-qmg];exact hc)] at this
 exact this
theorem zco {w:ZB} {i:Int} {c:UInt8} (h0:0<=i) (h:tk w i c=true):fr w i=c::fr w (i+1):=by
 have h1:=(qd1 h0).1 h
 rw [qka h0 h1.1,qai (a:=ix w i) (b:=c) (by rw [<-qmg];exact h1.2)]
theorem ztt {t:ZB} {s:Sign} (h:rdK (40::t) 5=some s):∃ m ∈ allM,∃ b,t=txM m++41::zn b 124:=by
 have e:rdK (40::t) 5=rd5 (40::t):=rfl
 rw [e,rd5] at h
 split at h
 .rename_i hc
  obtain ⟨_,h2,h3,h4⟩:=hc
  have hg:=zkt (40::t)
  have ht:upto t (qe6 (40::t))=sub (40::t) 1 (1+qe6 (40::t)):=by
   rw [qn6 (by decide) (by omega)]
   congr 1
   omega
  obtain ⟨m,hm,hx⟩:=zal (l:=allM) (t:=sub (40::t) 1 (1+qe6 (40::t))) h2
  refine ⟨m,hm,(qdp (40::t) (1+qe6 (40::t)+1) 124).1,?_⟩
  rw [hx,<-ht]
  have hs:t=upto t (qe6 (40::t))++fr t (qe6 (40::t)):=(List.take_append_drop _ _).symm
  have hf:fr t (qe6 (40::t))=fr (40::t) (1+qe6 (40::t)):=by rw [<-q6r (by decide) hg];rfl
  have h5:=zco (by omega) h3
  have h6:fr (40::t) (1+qe6 (40::t)+1)=zn (qdp (40::t) (1+qe6 (40::t)+1) 124).1 124:=by
   unfold qdp at h4 ⊢
   cases hb:tk (40::t) (1+qe6 (40::t)+1) 124 with
   | true=>
    rw [hb,zT rfl] at h4
    rw [zco (by omega) hb,qne (by simp only at h4;omega)]
    rfl
   | false=>
    rw [hb,zF (by decide)] at h4
    exact qne (by simp only at h4;omega)
  rw [<-h6,<-h5,<-hf]
  exact hs
 .cases h
theorem zdg {t:ZB} {s:Sign} (h:q3z t=some s):∃ m ∈ allM,∃ b,t=txM m++41::zn b 124:=by
 by_cases hb:0<ln t/\bx t (ln t-1)=124
 .rw [q3z] at h
  simp only [decide_eq_true hb,if_true] at h
  split at h
  .rename_i hc
   obtain ⟨m,hm,hx⟩:=zal (l:=allM) hc.2.2
   refine ⟨m,hm,true,?_⟩
   rw [hx]
   have h1:=qp4 (c:=124) hb.1 hb.2
   have h2:=qp4 (c:=41) hc.1 hc.2.1
   conv=>lhs;rw [h1,h2]
   rw [List.append_assoc];rfl
  .cases h
 .rw [q3z] at h
  simp only [decide_eq_false hb,Bool.false_eq_true,if_false] at h
  split at h
  .rename_i hc
   obtain ⟨m,hm,hx⟩:=zal (l:=allM) hc.2.2
   refine ⟨m,hm,false,?_⟩
   rw [hx]
   exact qp4 (c:=41) hc.1 hc.2.1
  .cases h
theorem zts (t:ZB):rdK (40::t) 5=q3z t:=by
 cases h:rdK (40::t) 5 with
 | some s=>
  obtain ⟨m,hm,b,ht⟩:=ztt h
  rw [<-h,ht];exact zko m hm b
 | none=>
  cases h':q3z t with
  | none=>rfl
  | some s=>
   obtain ⟨m,hm,b,ht⟩:=zdg h'
   rw [<-h,<-h',ht];exact zko m hm b
theorem q7o {s:ZB} {c k m:Int}:∀ (n:Nat) (i j:Int),0<=i->i<=j->j<=ln s->(∀ x,i<=x->x<j->bx s x≠c)->(j-i).toNat=n->qex s c i k m=qex s c j k m:=by
 intro n
 induction n with
 | zero=>intro i j h0 h1 h2 h3 hn;rw [show i=j by omega]
 | succ n ih=>
  intro i j h0 h1 h2 h3 hn
  rw [zgn h0 (by omega) (h3 i (zK _) (by omega))]
  exact ih (i+1) j (by omega) (by omega) h2 (fun x a b=>h3 x (by omega) b) (by omega)
theorem zp2 {s:ZB} {c i k m:Int} (h:(qex s c i k m).2.2=true) (h0:0<=i) (hk:m=1->0<=k/\k<ln s/\bx s k=c) (hm:0<=m):∃ k',0<=k'/\k'<ln s/\bx s k'=c/\qex s c i k m=(upto s k',fr s (k'+1),true):=by
 fun_induction qex s c i k m with
 | case1 i k m hi hc ih=>exact ih h (by omega) (fun _=>⟨by omega,by omega,hc⟩) (by omega)
 | case2 i k m hi hc ih=>exact ih h (by omega) hk hm
 | case3 i k hi=>exact ⟨k,(hk rfl).1,(hk rfl).2.1,(hk rfl).2.2,rfl⟩
 | case4 i k m hi hm=>simp at h
theorem qoc {a l:ZB} {j:Int} (h0:0<=j) (h:j<ln a):bx (a++l) j=bx a j:=by rw [qmg,qmg,qyg h0 h]
theorem qow (a l:ZB):upto (a++l) (ln a)=a:=by unfold upto ln;exact List.take_left' (by omega)
theorem qv1 (a l:ZB):fr (a++l) (ln a)=l:=by unfold fr ln;exact List.drop_left' (by omega)
theorem qsp (a l:ZB) (c:UInt8):bx (a++c::l) (ln a)=c.toNat:=by
 have:=qj3 (s:=a++c::l) (i:=ln a) (j:=0) (qu a) (zK _)
 rw [qv1,Int.add_zero] at this
 exact this.symm
theorem q9r (a l:ZB) (c:UInt8):fr (a++c::l) (ln a+1)=l:=by
 rw [<-q6r (qu a) (by decide),qv1];rfl
def S6 (n d:Int):Sign:=Sign.mk 6 0 0 0 false 0 false false 0 0 0 0 false n d 0 0
theorem zmb {a b:ZB} (ha:(qw a).2=true) (hb:(qw b).2=true):rdK (a++47::b) 6=some (S6 (qw a).1 (qw b).1):=by
 have e:rdK (a++47::b) 6=rd6 (a++47::b):=rfl
 have hl:ln (a++47::b)=ln a+(ln b+1):=by rw [zv,jf]
 have n1:=qu a
 have n2:=qu b
 have hd:dgE (a++47::b) 0=ln a:=qn3 (zK _) n1 (by omega) (fun j h1 h2=>by rw [qoc h1 h2];exact (qin ha).2 j h1 h2) (.inr (by rw [qsp];rfl))
 have h0:qga (a++47::b) 0=(qw a,ln a):=by
  rw [qga,hd]
  have:sub (a++47::b) 0 (ln a)=a:=qow a (47::b)
  rw [this]
 have ht:tk (a++47::b) (ln a) 47=true:=(qd1 n1).2 ⟨by omega,by rw [qsp]⟩
 have hf:=q9r a b 47
 have h2:=qyo (w:=a++47::b) (i:=ln a+1) (by omega) (by omega)
 have h3:=q33 (w:=a++47::b) (i:=ln a+1) (by omega) (by omega)
 rw [hf] at h2 h3
 rw [e,rd6]
 simp only [h0]
 rw [zT ⟨ha,ht,h2.2 hb⟩,h3 hb]
 rfl
theorem q4b {a b:ZB} (ha:(qw a).2=true) (hb:(qw b).2=true):qz8 (a++47::b)=some (S6 (qw a).1 (qw b).1):=by
 have hl:ln (a++47::b)=ln a+(ln b+1):=by rw [zv,jf]
 have n1:=qu a
 have n2:=qu b
 have hn:∀ {x:Int},qd8 x=true->x≠47:=by
  intro x h hx
  rw [hx] at h;cases h
 have h1:zdq (a++47::b) 47=(a,b,true):=by
  rw [zdq,q7o (s:=a++47::b) (c:=47) _ 0 (ln a) (zK _) n1 (by omega) (fun x h1 h2=>by rw [qoc h1 h2];exact hn ((qin ha).2 x h1 h2)) rfl,
   zlx n1 (by omega) (by rw [qsp];rfl),
   q7o (s:=a++47::b) (c:=47) _ (ln a+1) (ln (a++47::b)) (by omega) (by omega) (zK _) (fun x h1 h2=>by
    have:=qj3 (s:=a++47::b) (i:=ln a+1) (j:=x-(ln a+1)) (by omega) (by omega)
    rw [q9r,show ln a+1+(x-(ln a+1))=x by omega] at this
    rw [<-this]
    exact hn ((qin hb).2 _ (by omega) (by omega))) rfl,
   show (0:Int)+1=1 from rfl,zly (zK _),qow,q9r]
 simp only [qz8,h1]
 rw [zT ⟨trivial,ha,hb⟩]
 rfl
theorem zax {w:ZB} {s:Sign} (h:rdK w 6=some s):∃ a b,(qw a).2=true/\(qw b).2=true/\w=a++47::b:=by
 have e:rdK w 6=rd6 w:=rfl
 rw [e,rd6] at h
 split at h
 .rename_i hc
  obtain ⟨h1,h2,h3⟩:=hc
  have hg:0<=(qga w 0).2:=qct
  have h4:=(qd1 hg).1 h2
  refine ⟨upto w (qga w 0).2,fr w ((qga w 0).2+1),h1,?_,?_⟩
  .exact (qyo (by omega) (by omega)).1 h3
  .rw [<-zco hg h2];exact (List.take_append_drop _ _).symm
 .cases h
theorem zar {w:ZB} {s:Sign} (h:qz8 w=some s):∃ a b,(qw a).2=true/\(qw b).2=true/\w=a++47::b:=by
 simp only [qz8] at h
 split at h
 .rename_i hc
  obtain ⟨h1,h2,h3⟩:=hc
  obtain ⟨k,k0,k1,k2,k3⟩:=zp2 h1 (zK _) (fun h=>by omega) (zK _)
  have k4:zdq w 47=(upto w k,fr w (k+1),true):=k3
  rw [k4] at h2 h3
  refine ⟨_,_,h2,h3,?_⟩
  have h5:tk w k 47=true:=(qd1 k0).2 ⟨k1,k2⟩
  rw [<-zco k0 h5];exact (List.take_append_drop _ _).symm
 .cases h
theorem ztu (w:ZB):rdK w 6=qz8 w:=by
 cases h:rdK w 6 with
 | some s=>
  obtain ⟨a,b,ha,hb,hw⟩:=zax h
  rw [<-h,hw,zmb ha hb,q4b ha hb]
 | none=>
  cases h':qz8 w with
  | none=>rfl
  | some s=>
   obtain ⟨a,b,ha,hb,hw⟩:=zar h'
   rw [<-h,<-h',hw,zmb ha hb,q4b ha hb]
theorem qjr {c:UInt8} {t:ZB} (hd:qd8 c.toNat=false):rdK (c::t) 6=none:=by
 cases h:rdK (c::t) 6 with
 | none=>rfl
 | some s=>
  obtain ⟨a,b,ha,hb,hw⟩:=zax h
  obtain ⟨h1,h2⟩:=qin ha
  have h3:=h2 0 (zK _) h1
  rw [<-qoc (l:=47::b) (zK _) h1,<-hw,zb1,hd] at h3
  cases h3
theorem zo0 {w:ZB}:∀ (m:Nat) (i:Int),1<=i->(13-i).toNat=m->(∀ j,i<=j->j<=12->rdK w j=none)->qmn w i=none:=by
 intro m
 induction m with
 | zero=>intro i h0 hm _;rw [qmn,dif_neg (by omega)]
 | succ m ih=>
  intro i h0 hm h
  rw [qmn,dif_pos ⟨h0,by omega⟩,h i (zK _) (by omega)]
  exact ih (i+1) (by omega) (by omega) (fun j a b=>h j (by omega) b)
theorem zsc {w:ZB} (k:Int) (h1:1<=k) (h2:k<=12) (h:∀ j,1<=j->j<=12->j≠k->rdK w j=none):qmn w 1=rdK w k:=by
 rw [zmd h1 h2 (fun j a b=>h j a (by omega) (by omega)) _ 1 (by decide) h1 rfl,qmn,dif_pos ⟨h1,h2⟩]
 cases he:rdK w k with
 | some s=>rfl
 | none=>exact zo0 _ (k+1) (by omega) rfl (fun j a b=>h j (by omega) b (by omega))
theorem qbu {w:ZB} (k:Int) (h1:1<=k) (h2:k<=12) (r1:1≠k->rdK w 1=none) (r2:2≠k->rdK w 2=none) (r3:3≠k->rdK w 3=none) (r4:4≠k->rdK w 4=none) (r5:5≠k->rdK w 5=none) (r6:6≠k->rdK w 6=none)
  (r7:7≠k->rdK w 7=none) (r8:8≠k->rdK w 8=none) (r9:9≠k->rdK w 9=none) (r10:10≠k->rdK w 10=none) (r11:11≠k->rdK w 11=none) (r12:12≠k->rdK w 12=none):qmn w 1=rdK w k:=by
 refine zsc k h1 h2 fun j a b c=>?_
 have:j=1∨j=2∨j=3∨j=4∨j=5∨j=6∨j=7∨j=8∨j=9∨j=10∨j=11∨j=12:=by omega
 rcases this with h | h | h | h | h | h | h | h | h | h | h | h<;>subst h
 .exact r1 c
 .exact r2 c
 .exact r3 c
 .exact r4 c
 .exact r5 c
 .exact r6 c
 .exact r7 c
 .exact r8 c
 .exact r9 c
 .exact r10 c
 .exact r11 c
 .exact r12 c
theorem qjh {c:UInt8} {t:ZB} (h:c≠114):rdK (c::t) 2=none:=zs1 (by rw [qfk,decide_eq_false h])
theorem qkz {c:UInt8} {t:ZB} (h:c≠116):rdK (c::t) 4=none:=zs2 (by rw [qfk,decide_eq_false h])
theorem qji {c:UInt8} {t:ZB} (h:c≠40):rdK (c::t) 5=none:=zpa (.inl (by rw [qfk,decide_eq_false h]))
theorem qjj {c:UInt8} {t:ZB} (h:c≠64):rdK (c::t) 7=none:=zs3 (by rw [qfk,decide_eq_false h])
theorem qjk {c:UInt8} {t:ZB} (h:c≠38):rdK (c::t) 8=none:=zfy q1f (by rw [qfk,decide_eq_false h])
theorem qgl {c:UInt8} {t:ZB} (h:c≠93):rdK (c::t) 10=none:=zfy qs4 (by rw [qfk,decide_eq_false h])
theorem qh1 {w:ZB} (h:w≠[91]):rdK w 9=none:=zay (k:=9) h
theorem qfh {w:ZB} (h:w≠[116,117,114,110]):rdK w 11=none:=zay (k:=11) h
theorem qfi {w:ZB} (h:w≠[115,105,103]):rdK w 12=none:=zay (k:=12) h
theorem zd9 {c:UInt8} (h:(qcx [c]).2=0):qd8 c.toNat=false:=by
 simp only [qcx,List.cons.injEq,and_true] at h
 by_cases h1:c=88
 .subst h1;rfl
 by_cases h2:c=76
 .subst h2;rfl
 by_cases h3:c=66
 .subst h3;rfl
 by_cases h4:c=83
 .subst h4;rfl
 by_cases h5:c=77
 .subst h5;rfl
 by_cases h6:c=81
 .subst h6;rfl
 by_cases h7:c=70
 .subst h7;rfl
 by_cases h8:c=90
 .subst h8;rfl
 simp [h1,h2,h3,h4,h5,h6,h7,h8] at h
theorem zme (w:ZB):qmn w 1=qbd w:=by
 by_cases e0:w=[]
 .subst e0
  rw [qbu 9 (by decide) (by decide) (fun _=>by show rd1 []=none;rw [rd1,zea]) (fun _=>zs1 (qn7 _)) (fun _=>qh4 (by simp)) (fun _=>zs2 (qn7 _)) (fun _=>zpa (.inl (qn7 _)))
   (fun _=>by
     cases h:rdK [] 6 with
     | none=>rfl
     | some s=>obtain ⟨a,b,_,_,hw⟩:=zax h;simp at hw)
   (fun _=>zs3 (qn7 _)) (fun _=>zfy q1f (qn7 _)) (fun h=>absurd rfl h) (fun _=>zfy qs4 (qn7 _)) (fun _=>qfh (by simp)) (fun _=>qfi (by simp)),qh1 (by simp)]
  rfl
 obtain ⟨c,t,rfl⟩:∃ c t,w=c::t:=by
  cases w with
  | nil=>exact absurd rfl e0
  | cons c t=>exact ⟨c,t,rfl⟩
 have hx:∀ d:UInt8,c≠d->bx (c::t) 0≠d.toNat:=fun d h h'=>h (qai h')
 by_cases e1:c::t=[46]
 .injection e1 with ec et
  subst ec;subst et
  rw [qbu 3 (by decide) (by decide) (fun _=>qjq _ _ (by decide)) (fun _=>qjh (by decide)) (fun h=>absurd rfl h) (fun _=>qkz (by decide)) (fun _=>qji (by decide)) (fun _=>qjr rfl) (fun _=>qjj (by decide)) (fun _=>qjk (by decide)) (fun _=>qh1 (by decide)) (fun _=>qgl (by decide)) (fun _=>qfh (by decide)) (fun _=>qfi (by decide))]
  rfl
 by_cases e2:c::t=[91]
 .injection e2 with ec et
  subst ec;subst et
  rw [qbu 9 (by decide) (by decide) (fun _=>qjq _ _ (by decide)) (fun _=>qjh (by decide)) (fun _=>qh4 e1) (fun _=>qkz (by decide)) (fun _=>qji (by decide)) (fun _=>qjr rfl) (fun _=>qjj (by decide)) (fun _=>qjk (by decide)) (fun h=>absurd rfl h) (fun _=>qgl (by decide)) (fun _=>qfh (by decide)) (fun _=>qfi (by decide))]
  rfl
 by_cases e3:c::t=[116,117,114,110]
 .injection e3 with ec et
  subst ec;subst et
  rw [qbu 11 (by decide) (by decide) (fun _=>qjq _ _ (by decide)) (fun _=>qjh (by decide)) (fun _=>qh4 e1) (fun _=>zma) (fun _=>qji (by decide)) (fun _=>qjr rfl) (fun _=>qjj (by decide)) (fun _=>qjk (by decide)) (fun _=>qh1 e2) (fun _=>qgl (by decide)) (fun h=>absurd rfl h) (fun _=>qfi (by decide))]
  rfl
 by_cases e4:c::t=[115,105,103]
 .injection e4 with ec et
  subst ec;subst et
  rw [qbu 12 (by decide) (by decide) (fun _=>qjq _ _ (by decide)) (fun _=>qjh (by decide)) (fun _=>qh4 e1) (fun _=>qkz (by decide)) (fun _=>qji (by decide)) (fun _=>qjr rfl) (fun _=>qjj (by decide)) (fun _=>qjk (by decide)) (fun _=>qh1 e2) (fun _=>qgl (by decide)) (fun _=>qfh e3) (fun h=>absurd rfl h)]
  rfl
 by_cases c1:c=114
 .subst c1
  rw [za2 e0 e1 e2 e3 e4 rfl,qbu 2 (by decide) (by decide) (fun _=>qjq _ _ (by decide)) (fun h=>absurd rfl h) (fun _=>qh4 e1) (fun _=>qkz (by decide)) (fun _=>qji (by decide)) (fun _=>qjr rfl) (fun _=>qjj (by decide)) (fun _=>qjk (by decide)) (fun _=>qh1 e2) (fun _=>qgl (by decide)) (fun _=>qfh e3) (fun _=>qfi e4)]
  exact ztr t
 by_cases c2:c=116
 .subst c2
  rw [za3 e0 e1 e2 e3 e4 rfl,qbu 4 (by decide) (by decide) (fun _=>qjq _ _ (by decide)) (fun _=>qjh (by decide)) (fun _=>qh4 e1) (fun h=>absurd rfl h) (fun _=>qji (by decide)) (fun _=>qjr rfl) (fun _=>qjj (by decide)) (fun _=>qjk (by decide)) (fun _=>qh1 e2) (fun _=>qgl (by decide)) (fun _=>qfh e3) (fun _=>qfi e4)]
  exact zl9 t
 by_cases c3:c=40
 .subst c3
  rw [za1 e0 e1 e2 e3 e4 rfl,qbu 5 (by decide) (by decide) (fun _=>qjq _ _ (by decide)) (fun _=>qjh (by decide)) (fun _=>qh4 e1) (fun _=>qkz (by decide)) (fun h=>absurd rfl h) (fun _=>qjr rfl) (fun _=>qjj (by decide)) (fun _=>qjk (by decide)) (fun _=>qh1 e2) (fun _=>qgl (by decide)) (fun _=>qfh e3) (fun _=>qfi e4)]
  exact zts t
 by_cases c4:c=64
 .subst c4
  rw [za0 e0 e1 e2 e3 e4 rfl,qbu 7 (by decide) (by decide) (fun _=>qjq _ _ (by decide)) (fun _=>qjh (by decide)) (fun _=>qh4 e1) (fun _=>qkz (by decide)) (fun _=>qji (by decide)) (fun _=>qjr rfl) (fun h=>absurd rfl h) (fun _=>qjk (by decide)) (fun _=>qh1 e2) (fun _=>qgl (by decide)) (fun _=>qfh e3) (fun _=>qfi e4)]
  exact ztv t
 by_cases c5:c=38
 .subst c5
  rw [zaz e0 e1 e2 e3 e4 rfl,qbu 8 (by decide) (by decide) (fun _=>qjq _ _ (by decide)) (fun _=>qjh (by decide)) (fun _=>qh4 e1) (fun _=>qkz (by decide)) (fun _=>qji (by decide)) (fun _=>qjr rfl) (fun _=>qjj (by decide)) (fun h=>absurd rfl h) (fun _=>qh1 e2) (fun _=>qgl (by decide)) (fun _=>qfh e3) (fun _=>qfi e4)]
  exact zmc 38 t 8
 by_cases c6:c=93
 .subst c6
  rw [q4e e0 e1 e2 e3 e4 rfl,qbu 10 (by decide) (by decide) (fun _=>qjq _ _ (by decide)) (fun _=>qjh (by decide)) (fun _=>qh4 e1) (fun _=>qkz (by decide)) (fun _=>qji (by decide)) (fun _=>qjr rfl) (fun _=>qjj (by decide)) (fun _=>qjk (by decide)) (fun _=>qh1 e2) (fun h=>absurd rfl h) (fun _=>qfh e3) (fun _=>qfi e4)]
  exact zmc 93 t 10
 rw [qyx e0 e1 e2 e3 e4 (hx 114 c1) (hx 116 c2) (hx 40 c3) (hx 64 c4) (hx 38 c5) (hx 93 c6)]
 have hu:upto (c::t) 1=[c]:=rfl
 rw [hu]
 by_cases hv:(qcx [c]).2=0
 .rw [zT hv,qbu 1 (by decide) (by decide) (fun h=>absurd rfl h) (fun _=>qjh c1) (fun _=>qh4 e1) (fun _=>qkz c2) (fun _=>qji c3) (fun _=>qjr (zd9 hv)) (fun _=>qjj c4) (fun _=>qjk c5) (fun _=>qh1 e2) (fun _=>qgl c6) (fun _=>qfh e3) (fun _=>qfi e4)]
  exact ztq c t hv
 .rw [zF hv,qbu 6 (by decide) (by decide) (fun _=>qjq _ _ hv) (fun _=>qjh c1) (fun _=>qh4 e1) (fun _=>qkz c2) (fun _=>qji c3) (fun h=>absurd rfl h) (fun _=>qjj c4) (fun _=>qjk c5) (fun _=>qh1 e2) (fun _=>qgl c6) (fun _=>qfh e3) (fun _=>qfi e4)]
  exact ztu (c::t)
theorem qy7 (w:ZB):qo w=qjw w:=by rw [qo,qjw,zme]
theorem sub_le (l:ZB) (i j:Int):ln (sub l i j)<=ln l:=by simp only [ln,sub,List.length_drop,List.length_take];omega
theorem zfe (l:ZB) (f i:Int):∀ w ∈ (jn l f i).1,ln w.Text<=ln l:=by
 fun_induction jn l f i with
 | case1 i h1=>intro w hw;cases hw
 | case2 i h1 h2 h3 h4 ih=>
  intro w hw
  rcases zD.1 hw with rfl | hw
  .exact sub_le _ _ _
  .exact ih w hw
 | case3 i h1 h2 h3 h4 ih=>intro w hw;cases hw
 | case4 i h1 h2 h3=>intro w hw;cases hw
 | case5 i h1 h2 h3 h4 h5 ih=>
  intro w hw
  rcases zD.1 hw with rfl | hw
  .exact sub_le _ _ _
  .exact ih w hw
 | case6 i h1 h2 h3 h4 h5 ih=>intro w hw;cases hw
 | case7 i h1 h2 h3 h4=>intro w hw;cases hw
 | case8 i h1 h2 h3=>intro w hw;cases hw
theorem q7z:∀ (L:List ZB) (x:Int),∀ r ∈ (qax L x).1,1<=ln r.Words/\∀ w ∈ r.Words,ln w.Text<=1000
 | [],x=>fun r h=>by cases h
 | l::L,x=>by
  have ih:=q7z L (x+ln l+1)
  unfold qax
  split
  .intro r h;cases h
  .rename_i hl
   split
   .intro r h;cases h
   .split
    .split
     .exact ih
     .rename_i hne
      intro r hr
      rcases zD.1 hr with rfl | hr
      .refine ⟨?_,fun w hw=>?_⟩
       .show 1<=ln (jn l x 0).1
        cases hc:(jn l x 0).1 with
        | nil=>exact absurd hc hne
        | cons a b=>rw [jf];have:=qu b;omega
       .have:=zfe l x 0 w hw;omega
      .exact ih r hr
    .intro r h;cases h
theorem zmg (t:ZB):∀ r ∈ (qd t).1,1<=ln r.Words/\ln r.Words<=1000/\∀ w ∈ r.Words,ln w.Text<=1000:=by
 intro r hr
 have h1:=(q7x t).2 r hr
 unfold qd at hr
 split at hr
 .cases hr
 .have:=q7z _ _ r hr
  exact ⟨this.1,h1,this.2⟩
section
variable {t:ZB} {x:List Sign} {y:List Word} {z:List Int} {i k:Int} {Q:Prop}
theorem zva {α:Type} [Inhabited α] {l:List α} {i j:Int} (h0:0<=i) (h1:0<=j):ix (fr l i) j=ix l (i+j):=by
 unfold ix fr
 rw [List.getD_eq_getElem?_getD,List.getD_eq_getElem?_getD,List.getElem?_drop,show (i+j).toNat=i.toNat+j.toNat by omega]
theorem q4h (h0:0<=i) (h:i<ln (qd t).1):1<=ln (ix (qd t).1 i).Words/\ln (ix (qd t).1 i).Words<=1000/\∀ w ∈ (ix (qd t).1 i).Words,ln w.Text<=1000:=zmg t _ (qh0 h0 h)
theorem q7w (h0:0<=i) (h:i<ln (qd t).1) (k0:0<=k) (k1:k<ln (ix (qd t).1 i).Words):ln (ix (ix (qd t).1 i).Words k).Text<=1000:=(q4h h0 h).2.2 _ (qh0 k0 k1)
theorem ziq (y:List Word) (w:Word):ats (y++[w])=ats y++[w.At]:=by simp [ats]
theorem zsz (h0:0<=i) (h:i<ln y):ix (ats y) i=(ix y i).At:=by
 have hi:i.toNat<y.length:=by simp only [ln] at h;omega
 unfold ix ats
 rw [List.getD_eq_getElem?_getD,List.getD_eq_getElem?_getD,List.getElem?_map,List.getElem?_eq_getElem hi]
 rfl
def qkv (P:Res) (e x:Int):Prop:=P=qvl e x
theorem zje {P:Res} {e x:Int}:(([]:ZB)=P.1.1/\([]:List Sign)=P.1.2/\(e:Int)=P.2.1/\(x:Int)=P.2.2/\True)↔qkv P e x:=by
 obtain ⟨⟨a,b⟩,c,d⟩:=P
 simp only [qkv,qvl,zP,and_true]
 constructor
 .rintro ⟨rfl,rfl,rfl,rfl⟩;simp
 .rintro ⟨⟨rfl,rfl⟩,rfl,rfl⟩;simp
theorem zl2 (h:(qd t).2.1≠0):qkv (ze t) (qd t).2.1 (qd t).2.2:=by rw [qkv,ze,zT h]
theorem zl0 (h:(qd t).2.1=0) (h1:ln (qd t).1=0):qkv (ze t) 9 (ln t):=by rw [qkv,ze,zF (by omega),zT h1]
theorem zak (h:(qd t).2.1=0) (h1:pv (ln (qd t).1≠0)) (h2:(ix (ix (qd t).1 0).Words 0).Text≠[112,97,114,116]∨(ix (ix (qd t).1 0).Words 0).Quoted=true∨ln (ix (qd t).1 0).Words≠2):qkv (ze t) 3 (ix (ix (qd t).1 0).Words 0).At:=by
 have he:qff t=3:=by rw [qff];exact zT h2
 rw [qkv,ze,zF (by omega),zF (pv.out h1),zT (by rw [he];decide),q9x,zT he,he];rfl
theorem zcw (h3:(ix (ix (qd t).1 0).Words 0).Text=[112,97,114,116]) (h4:(ix (ix (qd t).1 0).Words 0).Quoted=false) (h5:ln (ix (qd t).1 0).Words=2):¬ ((ix (hd0 t).Words 0).Text≠[112,97,114,116]∨(ix (hd0 t).Words 0).Quoted=true∨ln (hd0 t).Words≠2):=by
 rintro (h | h | h)
 .exact h h3
 .have h4':(ix (hd0 t).Words 0).Quoted=false:=h4
  rw [h4'] at h;cases h
 .exact h h5
theorem zlz (h:(qd t).2.1=0) (h1:pv (ln (qd t).1≠0)) (h3:(ix (ix (qd t).1 0).Words 0).Text=[112,97,114,116]) (h4:(ix (ix (qd t).1 0).Words 0).Quoted=false) (h5:ln (ix (qd t).1 0).Words=2)
  (h2:(ix (ix (qd t).1 0).Words 1).Quoted=true∨qae (ix (ix (qd t).1 0).Words 1).Text=false):qkv (ze t) 7 (ix (ix (qd t).1 0).Words 1).At:=by
 have he:qff t=7:=by rw [qff,zF (zcw h3 h4 h5)];exact zT h2
 rw [qkv,ze,zF (by omega),zF (pv.out h1),zT (by rw [he];decide),q9x,zF (by rw [he];decide),he];rfl
theorem ztl (h:(qd t).2.1=0) (h1:ln (qd t).1≠0) (h3:(ix (ix (qd t).1 0).Words 0).Text=[112,97,114,116]) (h4:(ix (ix (qd t).1 0).Words 0).Quoted=false) (h5:ln (ix (qd t).1 0).Words=2)
  (h6:(ix (ix (qd t).1 0).Words 1).Quoted=false) (h7:qae (ix (ix (qd t).1 0).Words 1).Text=true):rws (nmB t) (ln t) (fr (qd t).1 1) [] []=ze t:=by
 have he:qff t=0:=by
  rw [qff,zF (zcw h3 h4 h5),zF]
  rintro (h | h)
  .have h6':(ix (hd0 t).Words 1).Quoted=false:=h6
   rw [h6'] at h;cases h
  .have h7':qae (nmB t)=true:=h7
   rw [h7'] at h;cases h
 rw [ze,zF (by omega),zF h1,zF (by omega)]
theorem ze9 {l:List Sign}:∀ (m:Nat) (i:Int),0<=i->i<=ln l->(ln l-i).toNat=m->(qht l i).1≠0->0<=(qht l i).2/\(qht l i).2<ln l:=by
 intro m
 induction m with
 | zero=>intro i h0 h1 hm h;rw [q25 (by omega)] at h;exact absurd rfl h
 | succ m ih=>
  intro i h0 h1 hm h
  by_cases he:qnb l i=0
  .rw [qw9 (by omega) he] at h ⊢;exact ih (i+1) (by omega) (by omega) (by omega) h
  .rw [zb2 (by omega) he];exact ⟨h0,by show i<ln l;omega⟩
theorem q9h {nm:ZB} {l:List Sign} (hn:qae nm=true) (h:(zk nm l).1≠0):0<=(zk nm l).2/\(zk nm l).2<ln l:=by
 unfold zk at h ⊢
 rw [zF (by rw [hn];decide)] at h ⊢
 split
 .exact ⟨zK _,by show (0:Int)<ln l;omega⟩
 .rename_i hl
  rw [zF hl] at h
  exact ze9 _ 0 (zK _) (qu l) rfl h
variable {nm:ZB} {len:Int} {rs:List Row} {P:Res}
theorem zqh (h:rws nm len (fr rs i) x z=P) (h0:0<=i) (h1:i<ln rs) (h2:(ix (ix rs i).Words 0).Text=[101,110,100]) (h3:(ix (ix rs i).Words 0).Quoted=false):qmm nm (ix rs i) (fr rs (i+1)) x z=P:=by
 rw [qka h0 h1,rws,zT ⟨h2,h3⟩] at h;exact h
theorem zqi (h:rws nm len (fr rs i) x z=P) (h0:0<=i) (h1:i<ln rs) (h2:(ix (ix rs i).Words 0).Text≠[101,110,100]∨(ix (ix rs i).Words 0).Quoted=true):qq0 nm len (fr rs (i+1)) (wds (fr (ix rs i).Words 0) x z)=P:=by
 rw [qka h0 h1,rws,zF] at h
 .exact h
 .rintro ⟨a,b⟩
  rcases h2 with h2 | h2
  .exact h2 a
  .rw [h2] at b;cases b
theorem zmn (h:rws nm len (fr rs i) x z=P) (h1:ln rs<=i):qkv P 9 len:=by rw [qne h1] at h;exact h.symm
theorem zjk (h:qmm nm (ix rs i) (fr rs (i+1)) x z=P) (h1:1<ln (ix rs i).Words):qkv P 3 (ix (ix rs i).Words 1).At:=by rw [qmm,zT h1] at h;exact h.symm
theorem zjl (h:qmm nm (ix rs i) (fr rs (i+1)) x z=P) (h0:0<=i) (h1:ln (ix rs i).Words<=1) (h2:i+1<ln rs):qkv P 3 (ix (ix rs (i+1)).Words 0).At:=by
 have e:ix (fr rs (i+1)) 0=ix rs (i+1):=by rw [zva (by omega) (zK _),Int.add_zero]
 rw [qmm,zF (by omega),zT (by rw [qo7 (by omega) (by omega)];omega),e] at h;exact h.symm
theorem q6p (h:qmm nm (ix rs i) (fr rs (i+1)) x z=P) (h1:ln (ix rs i).Words<=1) (h2:ln rs<=i+1):(if (zk nm x).1≠0 then qvl (zk nm x).1 (ix z (zk nm x).2) else ((nm,x),(0,0)))=P:=by
 rw [qmm,zF (by omega),zF (by rw [qne h2,qdd];omega)] at h;exact h
theorem zow (h:qmm nm (ix rs i) (fr rs (i+1)) x z=P) (h1:ln (ix rs i).Words<=1) (h2:ln rs<=i+1) (h3:(zk nm x).1≠0):qkv P (zk nm x).1 (ix z (zk nm x).2):=by
 have:=q6p h h1 h2
 rw [zT h3] at this;exact this.symm
theorem zjj (h:qmm nm (ix rs i) (fr rs (i+1)) x z=P) (h1:ln (ix rs i).Words<=1) (h2:ln rs<=i+1) (h3:(zk nm x).1=0):P=((nm,x),(0,0)):=by
 have:=q6p h h1 h2
 rw [zF (by omega)] at this;exact this.symm
theorem zug {ws:List Word} (h:qq0 nm len rs (wds (fr ws k) x z)=P) (h0:0<=k) (h1:k<ln ws) (h2:qsb (ix ws k)≠0):qkv P (qsb (ix ws k)) (ix ws k).At:=by
 rw [qka h0 h1,wds,zT h2,qq0,zT h2] at h;exact h.symm
theorem zqx {ws:List Word} (h:qq0 nm len rs (wds (fr ws k) x z)=P) (h0:0<=k) (h1:k<ln ws) (h2:qsb (ix ws k)=0):qq0 nm len rs (wds (fr ws (k+1)) (x++[(qjw (ix ws k).Text).1]) (z++[(ix ws k).At]))=P:=by
 rw [qka h0 h1,wds,zF (by omega)] at h;exact h
theorem zqy {ws:List Word} (h:qq0 nm len rs (wds (fr ws k) x z)=P) (h1:ln ws<=k):rws nm len rs x z=P:=by
 rw [qne h1,wds,qq0,zF (by simp)] at h;exact h
theorem zq3 {w:Word} (h:w.Quoted=true):qsb w=3:=by rw [qsb,zT h]
theorem zjh {w:Word} (h:w.Quoted=false):qsb w=(qjw w.Text).2:=by rw [qsb,zF (by rw [h];simp)]
end
def zro (P:Res) (n:ZB) (l:List Sign):Prop:=P=((n,l),(0,0))
theorem zjf {P:Res} {n:ZB} {l:List Sign}:(n=P.1.1/\l=P.1.2/\(0:Int)=P.2.1/\(0:Int)=P.2.2/\True)↔zro P n l:=by
 obtain ⟨⟨a,b⟩,c,d⟩:=P
 simp only [zro,zP,and_true]
 constructor
 .rintro ⟨rfl,rfl,rfl,rfl⟩;simp
 .rintro ⟨⟨rfl,rfl⟩,rfl,rfl⟩;simp
theorem zng (w:Word):Word.mk w.At w.Text w.Quoted=w:=rfl
section
variable {t:ZB} {x:List Sign} {y:List Word} {z:List Int} {i k:Int} {Q:Prop}
theorem v0:(jj t x y i->Q)↔(pv (jj t x y i)->0<=i->i<=ln (fr (qd t).1 1)->ln y=ln x->ln x<=1000 * i->Q):=⟨fun h a _ _ _ _=>h a,fun h a=>h a a.out.1 a.out.2.1 a.out.2.2.1 a.out.2.2.2.1⟩
theorem v1:(ky t x y k i->Q)↔(pv (ky t x y k i)->0<=k->k<=ln (ix (fr (qd t).1 1) i).Words->ln y=ln x->ln x<=1000 * i+k->Q):=⟨fun h a _ _ _ _=>h a,fun h a=>h a a.out.1 a.out.2.1 a.out.2.2.1 a.out.2.2.2.1⟩
theorem v2:(qri t x z i->Q)↔(pv (qri t x z i)->1<=i->i<=ln (qd t).1->ln z=ln x->ln x<=1000 * i->Q):=⟨fun h a _ _ _ _=>h a,fun h a=>h a a.out.1 a.out.2.1 a.out.2.2.1 a.out.2.2.2.1⟩
theorem v3:(qrj t x z k i->Q)↔(pv (qrj t x z k i)->0<=k->k<=ln (ix (qd t).1 i).Words->ln z=ln x->ln x<=1000 * i+k->Q):=⟨fun h a _ _ _ _=>h a,fun h a=>h a a.out.1 a.out.2.1 a.out.2.2.1 a.out.2.2.2.1⟩
theorem v4:(i<ln (fr (qd t).1 1)->Q)↔(i+1<=ln (fr (qd t).1 1)->(0<=i->1<=ln (ix (fr (qd t).1 1) i).Words/\ln (ix (fr (qd t).1 1) i).Words<=1000)->(0<=i->i+2<=ln (qd t).1)->Q):=by
 constructor
 .intro h a _ _;exact h (by omega)
 .intro h a
  have hl:0<=i->i+2<=ln (qd t).1:=fun h0=>by
   have:ln (fr (qd t).1 1)=(ln (qd t).1-1).toNat:=by simp only [ln,fr,List.length_drop];omega
   omega
  refine h (by omega) (fun h0=>?_) hl
  rw [zj8 (by decide) h0]
  have:=q4h (t:=t) (i:=1+i) (by omega) (by have:=hl h0;omega)
  exact ⟨this.1,this.2.1⟩
theorem v5:(ln (qd t).1≠0->Q)↔(pv (ln (qd t).1≠0)->1<=ln (qd t).1->1<=ln (ix (qd t).1 0).Words->Q):=by
 constructor
 .intro h a _ _;exact h a
 .intro h a
  have:=qu (qd t).1
  exact h a (by omega) (q4h (zK _) (by omega)).1
theorem v6:(i<ln (qd t).1->Q)↔(i+1<=ln (qd t).1->(0<=i->1<=ln (ix (qd t).1 i).Words/\ln (ix (qd t).1 i).Words<=1000)->Q):=by
 constructor
 .intro h a _;exact h (by omega)
 .intro h a
  refine h (by omega) (fun h0=>?_)
  have:=q4h (t:=t) (i:=i) h0 a
  exact ⟨this.1,this.2.1⟩
theorem zpl (h:(qd t).2.1=0) (h1:pv (ln (qd t).1≠0)) (h3:(ix (ix (qd t).1 0).Words 0).Text=[112,97,114,116]) (h4:(ix (ix (qd t).1 0).Words 0).Quoted=false) (h5:ln (ix (qd t).1 0).Words=2)
  (h6:(ix (ix (qd t).1 0).Words 1).Quoted=false) (h7:qae (ix (ix (qd t).1 0).Words 1).Text=true):jj t [] [] 0:=
 ⟨⟨zK _,qu _,rfl,by decide,ztl h h1 h3 h4 h5 h6 h7⟩⟩
theorem zri (h:pv (jj t x y i)) (h0:0<=i) (h1:i+1<=ln (fr (qd t).1 1)) (h2:(ix (ix (fr (qd t).1 1) i).Words 0).Text≠[101,110,100]∨(ix (ix (fr (qd t).1 1) i).Words 0).Quoted=true):ky t x y 0 i:=by
 obtain ⟨_,_,hl,hb,he⟩:=Hold.out h
 exact ⟨⟨zK _,qu _,hl,by omega,zqi he h0 (by show i<ln (fr (qd t).1 1);omega) h2⟩⟩
theorem zdj (h:pv (jj t x y i)) (h0:0<=i) (h1:i+1<=ln (fr (qd t).1 1)) (h2:(ix (ix (fr (qd t).1 1) i).Words 0).Text=[101,110,100]) (h3:(ix (ix (fr (qd t).1 1) i).Words 0).Quoted=false) :
  qmm (nmB t) (ix (fr (qd t).1 1) i) (fr (fr (qd t).1 1) (i+1)) x (ats y)=ze t:=by
 obtain ⟨_,_,hl,hb,he⟩:=Hold.out h
 exact zqh he h0 (by show i<ln (fr (qd t).1 1);omega) h2 h3
theorem ztc (h:qmm (nmB t) (ix (fr (qd t).1 1) i) (fr (fr (qd t).1 1) (i+1)) x z=ze t) (h0:0<=i) (h1:ln (ix (fr (qd t).1 1) i).Words<=1) (h2:i+2+1<=ln (qd t).1):qkv (ze t) 3 (ix (ix (qd t).1 (i+2)).Words 0).At:=by
 have:=zjl h h0 h1 (by rw [qo7 (by decide) (by omega)];omega)
 rw [zj8 (by decide) (by omega),show 1+(i+1)=i+2 by omega] at this;exact this
theorem zrh (h:ln (qd t).1<=i+2) (h0:0<=i):ln (fr (qd t).1 1)<=i+1:=by
 simp only [ln,fr,List.length_drop] at *;omega
theorem ztb (h:pv (jj t x y i)) (h0:0<=i) (h1:i+1<=ln (fr (qd t).1 1)) (h2:(ix (ix (fr (qd t).1 1) i).Words 0).Text=[101,110,100]) (h3:(ix (ix (fr (qd t).1 1) i).Words 0).Quoted=false) (h4:ln (ix (fr (qd t).1 1) i).Words<=1) (h5:ln (qd t).1<=i+2)
  (hl:ln y=ln x) (hn:qae (ix (ix (qd t).1 0).Words 1).Text=true) (hc:(zk (ix (ix (qd t).1 0).Words 1).Text x).1≠0):qkv (ze t) (zk (ix (ix (qd t).1 0).Words 1).Text x).1 (ix y (zk (ix (ix (qd t).1 0).Words 1).Text x).2).At:=by
 have hk:=q9h hn hc
 rw [<-zsz (y:=y) hk.1 (by rw [hl];exact hk.2)]
 exact zow (zdj h h0 h1 h2 h3) h4 (zrh h5 h0) hc
theorem zvs (h:pv (jj t x y i)) (h0:0<=i) (h1:i+1<=ln (fr (qd t).1 1)) (h2:(ix (ix (fr (qd t).1 1) i).Words 0).Text=[101,110,100]) (h3:(ix (ix (fr (qd t).1 1) i).Words 0).Quoted=false) (h4:ln (ix (fr (qd t).1 1) i).Words<=1) (h5:ln (qd t).1<=i+2)
  (hc:(zk (ix (ix (qd t).1 0).Words 1).Text x).1=0):zro (ze t) (ix (ix (qd t).1 0).Words 1).Text x:=zjj (zdj h h0 h1 h2 h3) h4 (zrh h5 h0) hc
theorem zkv (h:pv (ky t x y k i)) (h0:0<=k) (h1:k<ln (ix (fr (qd t).1 1) i).Words) (h2:qsb (ix (ix (fr (qd t).1 1) i).Words k)≠0):qkv (ze t) (qsb (ix (ix (fr (qd t).1 1) i).Words k)) (ix (ix (fr (qd t).1 1) i).Words k).At:=by
 obtain ⟨_,_,hl,hb,he⟩:=Hold.out h
 exact zug he h0 h1 h2
theorem n_q (h:pv (ky t x y k i)) (h0:0<=k) (h1:k<ln (ix (fr (qd t).1 1) i).Words) (h2:(ix (ix (fr (qd t).1 1) i).Words k).Quoted=true):qkv (ze t) 3 (ix (ix (fr (qd t).1 1) i).Words k).At:=by
 have:=zkv h h0 h1 (by rw [zq3 h2];decide)
 rw [zq3 h2] at this;exact this
theorem n_e (h:pv (ky t x y k i)) (h0:0<=k) (h1:k<ln (ix (fr (qd t).1 1) i).Words) (h2:(ix (ix (fr (qd t).1 1) i).Words k).Quoted=false) (h3:(qjw (ix (ix (fr (qd t).1 1) i).Words k).Text).2≠0):qkv (ze t) (qjw (ix (ix (fr (qd t).1 1) i).Words k).Text).2 (ix (ix (fr (qd t).1 1) i).Words k).At:=by
 have:=zkv h h0 h1 (by rw [zjh h2];exact h3)
 rw [zjh h2] at this;exact this
theorem ztd (h:pv (ky t x y k i)) (h0:0<=k) (h1:k<ln (ix (fr (qd t).1 1) i).Words) (h2:(ix (ix (fr (qd t).1 1) i).Words k).Quoted=false) (h3:(qjw (ix (ix (fr (qd t).1 1) i).Words k).Text).2=0) :
  ky t (x++[(qjw (ix (ix (fr (qd t).1 1) i).Words k).Text).1]) (y++[ix (ix (fr (qd t).1 1) i).Words k]) (k+1) i:=by
 obtain ⟨_,_,hl,hb,he⟩:=Hold.out h
 have:=zqx he h0 h1 (by show qsb (ix (ix (fr (qd t).1 1) i).Words k)=0;rw [zjh h2];exact h3)
 exact ⟨⟨by omega,by show k+1<=ln (ix (fr (qd t).1 1) i).Words;omega,by rw [qaf,qaf,hl],by rw [qaf];omega,by rw [ziq];exact this⟩⟩
theorem zta (h:pv (ky t x y k i)) (h0:0<=i) (h1:i+1<=ln (fr (qd t).1 1)) (h2:ln (ix (fr (qd t).1 1) i).Words<=k) (h3:ln (ix (fr (qd t).1 1) i).Words<=1000):jj t x y (i+1):=by
 obtain ⟨_,hk,hl,hb,he⟩:=Hold.out h
 have hk':k<=ln (ix (fr (qd t).1 1) i).Words:=hk
 exact ⟨⟨by omega,h1,hl,by omega,zqy he h2⟩⟩
theorem zte (h:pv (jj t x y i)) (h1:ln (fr (qd t).1 1)<=i):qkv (ze t) 9 (ln t):=by
 obtain ⟨_,_,hl,hb,he⟩:=Hold.out h
 exact zmn he h1
theorem ztf (h0:0<=i) (h:i+1<=ln (fr (qd t).1 1)) (k0:0<=k) (k1:k<ln (ix (fr (qd t).1 1) i).Words):ln (ix (ix (fr (qd t).1 1) i).Words k).Text<=1000:=by
 have hl:ln (fr (qd t).1 1)=(ln (qd t).1-1).toNat:=by simp only [ln,fr,List.length_drop];omega
 rw [zj8 (by decide) h0] at k1 ⊢
 exact q7w (by omega) (by omega) k0 k1
theorem zxi (h1:i+1<=ln (fr (qd t).1 1)) {x':List Sign} {y':List Word}:qbr t x' y' (i+1)<qbr t x y i:=by simp only [qbr,rst];omega
theorem zxj (h1:k<ln (ix (fr (qd t).1 1) i).Words) {x':List Sign} {y':List Word}:qbs t x' y' (k+1) i<qbs t x y k i:=by simp only [qbs,rst];omega
end
set_option maxHeartbeats 4000000 in
theorem zeq (a0:ZB) (hp:ln a0<=1000000000):qsh a0:=by
 unfold qsh qsi qsj
 dsimp only
 simp only [zje]
 simp only [zjf]
 simp only [qy8,zng,qy7,eq_self,true_and,v0,v1,v4,v5]
 simp only [v6]
 have hb:=q7x a0
 have hr:=hb.1
 have hf:ln (fr (qd a0).1 1)<=20001:=by simp only [ln,fr,List.length_drop] at *;omega
 clear hb
 unhygienic (repeat' (first | exact trivial | (with_reducible apply And.intro) | intro))
 all_goals first
  | (with_reducible exact zl2 ‹_›)
  | (with_reducible exact zl0 ‹_› ‹_›)
  | (with_reducible exact zak ‹_› ‹_› (.inl ‹_›))
  | (with_reducible exact zak ‹_› ‹_› (.inr (.inl ‹_›)))
  | (with_reducible exact zak ‹_› ‹_› (.inr (.inr ‹_›)))
  | (with_reducible exact zlz ‹_› ‹_› ‹_› ‹_› ‹_› (.inl ‹_›))
  | (with_reducible exact zlz ‹_› ‹_› ‹_› ‹_› ‹_› (.inr ‹_›))
  | (with_reducible exact zpl ‹_› ‹_› ‹_› ‹_› ‹_› ‹_› ‹_›)
  | (with_reducible exact zri ‹_› ‹_› ‹_› (.inl ‹_›))
  | (with_reducible exact zri ‹_› ‹_› ‹_› (.inr ‹_›))
  | (with_reducible exact zjk (zdj ‹_› ‹_› ‹_› ‹_› ‹_›) ‹_›)
  | (with_reducible exact ztc (zdj ‹_› ‹_› ‹_› ‹_› ‹_›) ‹_› ‹_› ‹_›)
  | (with_reducible exact n_q ‹_› ‹_› ‹_› ‹_›)
  | (with_reducible exact n_e ‹_› ‹_› ‹_› ‹_› ‹_›)
  | (with_reducible exact ztd ‹_› ‹_› ‹_› ‹_› ‹_›)
  | (with_reducible exact zta ‹_› ‹_› ‹_› ‹_› (by omega))
  | (with_reducible exact zte ‹_› ‹_›)
  | (with_reducible exact ztf ‹_› ‹_› ‹_› ‹_›)
  | (with_reducible exact zxi ‹_›)
  | (with_reducible exact zxj ‹_›)
  | (with_reducible exact (q9h ‹_› ‹_›).1)
  | (with_reducible exact ztb ‹_› ‹_› ‹_› ‹_› ‹_› ‹_› ‹_› ‹_› ‹_› ‹_›)
  | (with_reducible exact zvs ‹_› ‹_› ‹_› ‹_› ‹_› ‹_› ‹_› ‹_›)
  | omega
  | (have:=q7w (t:=a0) (i:=0) (k:=1) (by decide) (by omega) (by decide) (by omega);omega)
  | exact qhh (by omega)
  | (have:=(q9h ‹_› ‹_›).2;omega)
  | fail "rest"
section
variable {t:ZB} {x:List Sign} {z:List Int} {i k:Int}
end
theorem zvv {a:UInt8} (h1:(48:Int)<=a.toNat) (h2:(a.toNat:Int)<=57):qw [a]=((a.toNat:Int)-48,true):=by
 have e:bx [a] 0=(a.toNat:Int):=rfl
 have l:ln [a]=1:=rfl
 rw [qw,zF (by rw [l];omega),qef (zK _) (by rw [l];decide) (by rw [e];exact h1) (by rw [e];exact h2) (by rw [e];omega),qrt (by rw [l];decide),e]
 congr 1;omega
theorem zvw {a b:UInt8} (h0:(a.toNat:Int)≠48) (h1:(48:Int)<=a.toNat) (h2:(a.toNat:Int)<=57) (h3:(48:Int)<=b.toNat) (h4:(b.toNat:Int)<=57):qw [a,b]=(10 * ((a.toNat:Int)-48)+((b.toNat:Int)-48),true):=by
 have e:bx [a,b] 0=(a.toNat:Int):=rfl
 have e1:bx [a,b] (0+1)=(b.toNat:Int):=rfl
 have l:ln [a,b]=2:=rfl
 rw [qw,zF (by rw [l,e];omega),qef (zK _) (by rw [l];decide) (by rw [e];exact h1) (by rw [e];exact h2) (by rw [e];omega),
  qef (by decide) (by rw [l];decide) (by rw [e1];exact h3) (by rw [e1];exact h4) (by rw [e,e1];omega),qrt (by rw [l];decide),e,e1]
 congr 1;omega
theorem zti:qw [49,48,48]=(100,true):=by
 have l:ln ([49,48,48]:ZB)=3:=rfl
 rw [qw,zF (by rw [l];decide),qef (zK _) (by rw [l];decide) (by decide) (by decide) (by decide),qef (by decide) (by rw [l];decide) (by decide) (by decide) (by decide),
  qef (by decide) (by rw [l];decide) (by decide) (by decide) (by decide),qrt (by rw [l];decide)]
 rfl
theorem qv0 {n:Int} (h0:0<=n) (h:n<=9):((UInt8.ofNat (48+n.toNat)).toNat:Int)=48+n:=by
 have:n=0∨n=1∨n=2∨n=3∨n=4∨n=5∨n=6∨n=7∨n=8∨n=9:=by omega
 rcases this with h | h | h | h | h | h | h | h | h | h<;>subst h<;>rfl
theorem qhp {n:Int} (h0:0<=n) (h:n<=100):qw (qde n)=(n,true):=by
 unfold qde
 split
 .have:=qv0 h0 (by omega)
  unfold d1
  rw [zvv (by omega) (by omega),this]
  congr 1;omega
 .split
  .have h1:=qv0 (n:=n / 10) (by omega) (by omega)
   have h2:=qv0 (n:=n % 10) (by omega) (by omega)
   show qw [UInt8.ofNat (48+(n / 10).toNat),UInt8.ofNat (48+(n % 10).toNat)]=_
   rw [zvw (by omega) (by omega) (by omega) (by omega) (by omega),h1,h2]
   congr 1;omega
  .have:n=100:=by omega
   subst this;exact zti
theorem zkx {n:Int} (h0:0<=n) (h:n<=100):¬ (0<ln (qde n)/\bx (qde n) 0=45):=by
 have:=(qin (s:=qde n) (by rw [qhp h0 h])).2 0 (zK _)
 rintro ⟨h1,h2⟩
 have h3:=this h1
 rw [h2] at h3;cases h3
theorem zmr {n:Int} (h0:-4<=n) (h:n<=100):qbb (zd n)=(n,true):=by
 unfold zd
 split
 .have hn:=qhp (n:=-n) (by omega) (by omega)
  rw [q4o (s:=45::qde (-n)) ⟨by rw [jf];have:=qu (qde (-n));omega,rfl⟩ (by show (qw (qde (-n))).2=true;rw [hn]) (by show (qw (qde (-n))).1≠0;rw [hn];show -n≠0;omega)]
  show (-(qw (qde (-n))).1,true)=_
  rw [hn];show (- -n,true)=_;rw [Int.neg_neg]
 .rw [za9 (zkx (by omega) h)];exact qhp (by omega) h
def b0 (s:ZB):Int:=match s with
 | []=>-1
 | c::_=>(c.toNat:Int)
theorem qe9 (c:UInt8) (t:ZB) {k:Int} (h:k=c.toNat):je (c::t) k=(t,true):=by
 rw [je,zT ⟨by rw [jf];have:=qu t;omega,by rw [h];rfl⟩];rfl
theorem qkp {t:ZB} {k:Int} (h:b0 t≠k):je t k=(t,false):=by
 rw [je,zF]
 rintro ⟨h1,h2⟩
 cases t with
 | nil=>rw [qdd] at h1;omega
 | cons c t=>exact h h2
theorem qiw {c:UInt8} {t:ZB} {k:Int} (h:(c.toNat:Int)≠k):je (c::t) k=(c::t,false):=qkp h
theorem qk7 {t:ZB} {k:Int} {c:UInt8} (hk:k=c.toNat) (h:(je t k).2=true):t=c::(je t k).1:=by
 by_cases hc:0<ln t/\bx t 0=k
 .rw [je,zT hc]
  cases t with
  | nil=>exact absurd hc.1 (by decide)
  | cons x t=>
   have:x=c:=qai (by rw [<-hk];exact hc.2)
   subst this;rfl
 .rw [je,zF hc] at h;cases h
theorem zuc {t:ZB} {k:Int} (h:(je t k).2=false):(je t k).1=t:=by
 by_cases hc:0<ln t/\bx t 0=k
 .rw [je,zT hc] at h;cases h
 .rw [je,zF hc]
theorem q4s (t:ZB) {k:Int} {c:UInt8} (hk:k=c.toNat):t=zn (je t k).2 c++(je t k).1:=by
 cases h:(je t k).2 with
 | true=>exact qk7 hk h
 | false=>exact (zuc h).symm
theorem qtt {b:Bool} {c:UInt8} {t:ZB} {k:Int} (hk:k=c.toNat) (h:b0 t≠k):je (zn b c++t) k=(t,b):=by
 cases b with
 | true=>exact qe9 c t hk
 | false=>exact qkp h
theorem znz {b:Bool} {c:UInt8} {t:ZB} {Q:Int->Prop} (h1:Q c.toNat) (h2:Q (b0 t)):Q (b0 (zn b c++t)):=by
 cases b with
 | true=>exact h1
 | false=>exact h2
theorem zru (t:ZB):t=qib (qlb t).1++(qlb t).2/\-1<=(qlb t).1/\(qlb t).1<=2:=by
 unfold qlb
 cases h1:(je t 98).2 with
 | true=>exact ⟨qk7 (c:=98) rfl h1,(by decide:(-1:Int)<=-1),(by decide:(-1:Int)<=2)⟩
 | false=>
  cases h2:(je t 35).2 with
  | true=>exact ⟨qk7 (c:=35) rfl h2,(by decide:(-1:Int)<=1),(by decide:(1:Int)<=2)⟩
  | false=>
   cases h3:(je t 110).2 with
   | true=>exact ⟨qk7 (c:=110) rfl h3,(by decide:(-1:Int)<=2),(by decide:(2:Int)<=2)⟩
   | false=>exact ⟨rfl,(by decide:(-1:Int)<=0),(by decide:(0:Int)<=2)⟩
theorem zub (t:ZB):t=qe8 (qj0 t).1++(qj0 t).2:=by
 unfold qj0
 cases h1:(je t 94).2 with
 | true=>exact qk7 (c:=94) rfl h1
 | false=>
  cases h2:(je t 118).2 with
  | true=>exact qk7 (c:=118) rfl h2
  | false=>
   cases h3:(je t 62).2 with
   | true=>exact qk7 (c:=62) rfl h3
   | false=>rfl
theorem zrs {a:Int} {t:ZB} (h0:-1<=a) (h:a<=2) (h1:b0 t≠98) (h2:b0 t≠35) (h3:b0 t≠110):qlb (qib a++t)=(a,t):=by
 have:a = -1∨a=0∨a=1∨a=2:=by omega
 rcases this with h | h | h | h<;>subst h
 .show qlb (98::t)=_
  simp only [qlb,qe9 98 t (k:=98) rfl,if_true]
 .show qlb t=_
  simp only [qlb,qkp h1,qkp h2,qkp h3,Bool.false_eq_true,if_false]
 .show qlb (35::t)=_
  simp only [qlb,qe9 35 t (k:=35) rfl,qiw (c:=35) (t:=t) (k:=98) (by decide),Bool.false_eq_true,if_false,if_true]
 .show qlb (110::t)=_
  simp only [qlb,qe9 110 t (k:=110) rfl,qiw (c:=110) (t:=t) (k:=98) (by decide),qiw (c:=110) (t:=t) (k:=35) (by decide),Bool.false_eq_true,if_false,if_true]
theorem zt8 {a:Int} {t:ZB} (h0:0<=a) (h:a<=3) (h1:b0 t≠94) (h2:b0 t≠118) (h3:b0 t≠62):qj0 (qe8 a++t)=(a,t):=by
 have:a=0∨a=1∨a=2∨a=3:=by omega
 rcases this with h | h | h | h<;>subst h
 .show qj0 t=_
  simp only [qj0,qkp h1,qkp h2,qkp h3,Bool.false_eq_true,if_false]
 .show qj0 (94::t)=_
  simp only [qj0,qe9 94 t (k:=94) rfl,if_true]
 .show qj0 (118::t)=_
  simp only [qj0,qe9 118 t (k:=118) rfl,qiw (c:=118) (t:=t) (k:=94) (by decide),Bool.false_eq_true,if_false,if_true]
 .show qj0 (62::t)=_
  simp only [qj0,qe9 62 t (k:=62) rfl,qiw (c:=62) (t:=t) (k:=94) (by decide),qiw (c:=62) (t:=t) (k:=118) (by decide),Bool.false_eq_true,if_false,if_true]
theorem zu7:∀ (m:Nat) (s:ZB) (i k:Int),0<=i->i<=k->k<=ln s->(∀ j,i<=j->j<k->(48<=bx s j/\bx s j<=57)∨(j=0/\bx s j=45))->(k=ln s∨(¬ (48<=bx s k/\bx s k<=57)/\¬ (k=0/\bx s k=45)))->(k-i).toNat=m->hdE s i=k:=by
 intro m
 induction m with
 | zero=>
  intro s i k h0 h1 h2 h3 h4 hm
  have:i=k:=by omega
  subst this
  exact qoe (h4.imp (fun h=>by omega) id)
 | succ m ih=>
  intro s i k h0 h1 h2 h3 h4 hm
  rw [zct h0 (by omega) (h3 i (zK _) (by omega))]
  exact ih s (i+1) k (by omega) (by omega) h2 (fun j a b=>h3 j (by omega) b) h4 (by omega)
theorem qhm {b:Int}:qd8 b=true↔48<=b/\b<=57:=by simp [qd8]
theorem qrs {n:Int} (h0:0<=n) (h:n<=100):0<ln (qde n)/\∀ j,0<=j->j<ln (qde n)->48<=bx (qde n) j/\bx (qde n) j<=57:=by
 have:=qin (s:=qde n) (by rw [qhp h0 h])
 exact ⟨this.1,fun j a b=>qhm.1 (this.2 j a b)⟩
theorem qs2 {n:Int} (h0:-4<=n) (h:n<=100):0<ln (zd n)/\∀ j,0<=j->j<ln (zd n)->(48<=bx (zd n) j/\bx (zd n) j<=57)∨(j=0/\bx (zd n) j=45):=by
 unfold zd
 split
 .have hd:=qrs (n:=-n) (by omega) (by omega)
  refine ⟨by rw [jf];omega,fun j a b=>?_⟩
  rw [jf] at b
  by_cases hj:j=0
  .subst hj;exact .inr ⟨rfl,rfl⟩
  .left
   have e:bx (45::qde (-n)) j=bx (qde (-n)) (j-1):=by
    have:=qj3 (s:=45::qde (-n)) (i:=1) (j:=j-1) (by decide) (by omega)
    rw [show 1+(j-1)=j by omega] at this
    rw [<-this];rfl
   rw [e];exact hd.2 _ (by omega) (by omega)
 .have hd:=qrs (n:=n) (by omega) h
  exact ⟨hd.1,fun j a b=>.inl (hd.2 j a b)⟩
theorem zo2 {n:Int} {t:ZB} (h0:-4<=n) (h:n<=100) (ht:b0 t<48∨57<b0 t):hdE (zd n++t) 0=ln (zd n):=by
 obtain ⟨d1,d2⟩:=qs2 h0 h
 have hl:ln (zd n++t)=ln (zd n)+ln t:=zv _ _
 have:=qu t
 refine zu7 _ _ _ _ (zK _) (by omega) (by omega) (fun j a b=>by rw [qoc a b];exact d2 j a b) ?_ rfl
 cases t with
 | nil=>left;rw [zJ]
 | cons c t=>
  right
  rw [qsp]
  have ht:(c.toNat:Int)<48∨57<(c.toNat:Int):=ht
  omega
structure Rst (t:ZB):Prop where
 d:b0 t<48∨57<b0 t
 a:b0 t≠98
 b:b0 t≠35
 c:b0 t≠110
 e:b0 t≠42
theorem zjz {p a:Int} {c:Bool} {t:ZB} (p0:-4<=p) (p1:p<=100) (a0:-1<=a) (a1:a<=2) (ht:Rst t):hdF (zd p++(qib a++(zn c 42++t)))=((p,true),a,c,t):=by
 have m1:=znz (b:=c) (c:=42) (t:=t) (Q:=fun x=>(x<48∨57<x)/\x≠98/\x≠35/\x≠110) (by decide) ⟨ht.d,ht.a,ht.b,ht.c⟩
 have hd:b0 (qib a++(zn c 42++t))<48∨57<b0 (qib a++(zn c 42++t)):=by
  have:a = -1∨a=0∨a=1∨a=2:=by omega
  rcases this with h | h | h | h<;>subst h
  .exact .inr (show (57:Int)<98 by decide)
  .exact m1.1
  .exact .inl (show (35:Int)<48 by decide)
  .exact .inr (show (57:Int)<110 by decide)
 have e:=zo2 (t:=qib a++(zn c 42++t)) p0 p1 hd
 simp only [hdF,e,qow,qv1,zmr p0 p1,zrs a0 a1 m1.2.1 m1.2.2.1 m1.2.2.2,qtt (c:=42) (k:=42) rfl ht.e]
theorem zks:∀ m ∈ allM,∀ b,q3z (txM m++41::zn b 124)=some (Sign.mk 5 0 0 0 false 0 false false m.1 m.2.1 m.2.2.1 m.2.2.2 b 0 0 0 0):=by
 intro m hm b
 simp only [allM,zD,List.not_mem_nil,or_false] at hm
 rcases hm with h | h | h | h | h | h | h | h | h | h | h | h | h | h | h | h<;>subst h<;>cases b<;>rfl
theorem zq2 {a b c d:Int} (h:qcb a b c d=0):(a,b,c,d) ∈ allM:=by
 unfold qcb at h
 split at h
 .rename_i hc
  obtain ⟨h1,h2,h3,h4⟩:=hc
  rcases h1 with h1 | h1<;>rcases h2 with h2 | h2<;>rcases h3 with h3 | h3<;>rcases h4 with h4 | h4<;>subst h1<;>subst h2<;>subst h3<;>subst h4<;>decide
 .cases h
theorem eight {v:Int} (h:1<=v/\v<=8):v=1∨v=2∨v=3∨v=4∨v=5∨v=6∨v=7∨v=8:=by omega
theorem q97 {v:Int} (h:1<=v/\v<=8):∃ c,ltr v=[c]/\qcx [c]=(v,0)/\(c=88∨c=76∨c=66∨c=83∨c=77∨c=81∨c=70∨c=90):=by
 rcases eight h with h | h | h | h | h | h | h | h<;>subst h
 .exact ⟨88,rfl,rfl,by decide⟩
 .exact ⟨76,rfl,rfl,by decide⟩
 .exact ⟨66,rfl,rfl,by decide⟩
 .exact ⟨83,rfl,rfl,by decide⟩
 .exact ⟨77,rfl,rfl,by decide⟩
 .exact ⟨81,rfl,rfl,by decide⟩
 .exact ⟨70,rfl,rfl,by decide⟩
 .exact ⟨90,rfl,rfl,by decide⟩
theorem qkj {c d:UInt8} {t u:ZB} (h:c≠d):c::t≠d::u:=fun e=>h (List.cons.inj e).1
theorem qmh {c:UInt8} {t:ZB} {d:UInt8} {k:Int} (hk:k=d.toNat) (h:c≠d):bx (c::t) 0≠k:=fun e=>h (qai (by rw [<-hk];exact e))
theorem ztx {c:UInt8} {v:Int} (t:ZB) (hv:qcx [c]=(v,0)) (hc:c=88∨c=76∨c=66∨c=83∨c=77∨c=81∨c=70∨c=90):qbd (c::t)=zab (c::t):=by
 have hn:∀ d:UInt8,¬ (d=88∨d=76∨d=66∨d=83∨d=77∨d=81∨d=70∨d=90)->c≠d:=by
  rintro d hd rfl;exact hd hc
 rw [qyx (by simp) (qkj (hn 46 (by decide))) (qkj (hn 91 (by decide))) (qkj (hn 116 (by decide))) (qkj (hn 115 (by decide)))
  (qmh (d:=114) rfl (hn _ (by decide))) (qmh (d:=116) rfl (hn _ (by decide))) (qmh (d:=40) rfl (hn _ (by decide))) (qmh (d:=64) rfl (hn _ (by decide))) (qmh (d:=38) rfl (hn _ (by decide))) (qmh (d:=93) rfl (hn _ (by decide)))]
 exact zT (by show (qcx [c]).2=0;rw [hv])
theorem head_eq (s:Sign):qf0 s=zd s.Place++(qib s.Acc++(zn s.Color 42++[])):=by
 rw [qf0,zJ,List.append_assoc];rfl
theorem zqd:Rst []:=⟨.inl (by decide),by decide,by decide,by decide,by decide⟩
theorem zn0 {k:Int} {t:ZB} {Q:Int->Prop} (h1:Q 94) (h2:Q 118) (h3:Q 62) (h4:Q (b0 t)):Q (b0 (qe8 k++t)):=by
 unfold qe8
 (repeat' split)
 .exact h1
 .exact h2
 .exact h3
 .exact h4
theorem qdl {n:Int} (h0:0<=n) (h:n<=100):zd n=qde n:=by rw [zd,zF (by omega)]
theorem zdm {k n:Int} (h0:0<=n) (h:n<=100):qz2 k (zd n)=some (Sign.mk k 0 0 0 false 0 false false 0 0 0 0 false n 0 0 0):=by
 rw [qdl h0 h,qz2,qhp h0 h];rfl
theorem zry {k n:Int} (hk:k=0∨k=3∨k=4) (h0:0<=n) (h:n<=100):qvm (qjx k++zd n)=some (Sign.mk 7 0 0 0 false 0 false false 0 0 0 0 false 0 0 k n):=by
 have hn:=qhp h0 h
 rw [qdl h0 h]
 rcases hk with h | h | h<;>subst h
 .show qvm (67::qde n)=_
  simp only [qvm,qe9 67 (qde n) (k:=67) rfl,if_true,hn]
 .show qvm (70::qde n)=_
  simp only [qvm,qiw (c:=70) (t:=qde n) (k:=67) (by decide),qe9 70 (qde n) (k:=70) rfl,if_true,hn,Bool.false_eq_true,if_false]
 .show qvm (71::qde n)=_
  simp only [qvm,qiw (c:=71) (t:=qde n) (k:=67) (by decide),qiw (c:=71) (t:=qde n) (k:=70) (by decide),qe9 71 (qde n) (k:=71) rfl,if_true,hn,Bool.false_eq_true,if_false]
theorem zud {p a k:Int} {c o l:Bool} (p0:-4<=p) (p1:p<=100) (a0:-1<=a) (a1:a<=2) (k0:0<=k) (k1:k<=3) :
  q0f (zd p++(qib a++(zn c 42++(qe8 k++(zn o 126++(zn l 33++[]))))))=some (Sign.mk 4 0 p a c k o l 0 0 0 0 false 0 0 0 0):=by
 have h1:b0 (zn l 33++[])=33∨b0 (zn l 33++[]) = -1:=by cases l<;>decide
 have h2:b0 (zn o 126++(zn l 33++[]))=126∨b0 (zn o 126++(zn l 33++[]))=33∨b0 (zn o 126++(zn l 33++[])) = -1:=by cases o<;>cases l<;>decide
 have h3:Rst (qe8 k++(zn o 126++(zn l 33++[]))):=by
  have:=zn0 (k:=k) (t:=zn o 126++(zn l 33++[])) (Q:=fun x=>(x<48∨57<x)/\x≠98/\x≠35/\x≠110/\x≠42) (by decide) (by decide) (by decide) (by omega)
  exact ⟨this.1,this.2.1,this.2.2.1,this.2.2.2.1,this.2.2.2.2⟩
 simp only [q0f,zjz p0 p1 a0 a1 h3,zt8 k0 k1 (t:=zn o 126++(zn l 33++[])) (by omega) (by omega) (by omega),qtt (c:=126) (k:=126) (b:=o) (t:=zn l 33++[]) rfl (by omega),
  qtt (c:=33) (k:=33) (b:=l) (t:=[]) rfl (by decide),and_self,if_true]
theorem ztw {n:Int} (t:ZB) (h0:0<=n) (h:n<=100):qbd (zd n++47::t)=qz8 (zd n++47::t):=by
 obtain ⟨h1,h2⟩:=qrs h0 h
 rw [qdl h0 h]
 cases hn:qde n with
 | nil=>rw [hn,qdd] at h1;omega
 | cons c u=>
  have hc:=h2 0 (zK _) h1
  rw [hn] at hc
  have hc:(48:Int)<=(c.toNat:Int)/\(c.toNat:Int)<=57:=hc
  have hx:∀ d:UInt8,¬ ((48:Int)<=(d.toNat:Int)/\(d.toNat:Int)<=57)->c≠d:=by
   rintro d hd rfl;exact hd hc
  rw [List.cons_append,qyx (by simp) (qkj (hx 46 (by decide))) (qkj (hx 91 (by decide))) (qkj (hx 116 (by decide))) (qkj (hx 115 (by decide)))
   (qmh (d:=114) rfl (hx _ (by decide))) (qmh (d:=116) rfl (hx _ (by decide))) (qmh (d:=40) rfl (hx _ (by decide))) (qmh (d:=64) rfl (hx _ (by decide))) (qmh (d:=38) rfl (hx _ (by decide))) (qmh (d:=93) rfl (hx _ (by decide)))]
  refine zF ?_
  show (qcx [c]).2≠0
  intro hv
  have:=zd9 hv
  rw [qhm.2 hc] at this
  cases this
theorem znd (p a st:Int) (c ob la:Bool):k8 (Sign.mk 4 0 p a c st ob la 0 0 0 0 false 0 0 0 0)=116::(zd p++(qib a++(zn c 42++(qe8 st++(zn ob 126++(zn la 33++[])))))):=by
 show qia _=_
 rw [qia,head_eq]
 simp only [List.append_assoc,zJ,List.cons_append,List.nil_append]
theorem zne (m1 m2 m3 m4:Int) (sk:Bool):k8 (Sign.mk 5 0 0 0 false 0 false false m1 m2 m3 m4 sk 0 0 0 0)=40::(txM (m1,m2,m3,m4)++41::zn sk 124):=by
 show [40]++js m1 m2 m3 m4++[41]++zn sk 124=_
 simp only [List.append_assoc,List.cons_append,List.nil_append];rfl
theorem znf (n d:Int):k8 (Sign.mk 6 0 0 0 false 0 false false 0 0 0 0 false n d 0 0)=zd n++47::zd d:=by
 show zd n++[47]++zd d=_
 simp only [List.append_assoc,List.cons_append,List.nil_append]
theorem q14 {s:Sign} (h:kf s=0):qbd (k8 s)=some s:=by
 obtain ⟨k1,k2,hk,hm,hr,ho⟩:=qth h
 obtain ⟨K,v,p,a,c,st,ob,la,m1,m2,m3,m4,sk,n,d,cs,cl⟩:=s
 have:K=1∨K=2∨K=3∨K=4∨K=5∨K=6∨K=7∨K=8∨K=9∨K=10∨K=11∨K=12:=by
  have k1:1<=K:=k1
  have k2:K<=12:=k2
  omega
 unfold qnm at hk
 unfold qd0 at hr
 dsimp only at hk hr hm
 rcases this with e | e | e | e | e | e | e | e | e | e | e | e<;>subst e
 .simp at hk hr
  obtain ⟨⟨rfl,rfl,rfl⟩,⟨rfl,rfl,rfl,rfl,rfl⟩,rfl,rfl,rfl,rfl⟩:=hk
  obtain ⟨x1,hcs,hv,hc8⟩:=q97 (v:=v) hr.1
  have e:=zjz (p:=p) (a:=a) (c:=c) (t:=[]) (by omega) (by omega) (by omega) (by omega) zqd
  show qbd (ltr v++qf0 _)=_
  rw [hcs,head_eq]
  show qbd (x1::(zd p++(qib a++(zn c 42++[]))))=_
  rw [ztx _ hv hc8,zab]
  have ef:fr (x1::(zd p++(qib a++(zn c 42++[])))) 1=zd p++(qib a++(zn c 42++[])):=rfl
  have eu:upto (x1::(zd p++(qib a++(zn c 42++[])))) 1=[x1]:=rfl
  rw [ef,eu,e,hv]
  rfl
 .simp at hk hr
  obtain ⟨⟨rfl,rfl,rfl⟩,⟨rfl,rfl,rfl⟩,⟨rfl,rfl,rfl,rfl,rfl⟩,rfl,rfl,rfl,rfl⟩:=hk
  obtain ⟨x1,hcs,hv,hc8⟩:=q97 (v:=v) hr
  show qbd (114::ltr v)=_
  rw [hcs,za2 (by simp) (by simp) (by simp) (by simp) (by simp) rfl]
  show q4i [x1]=_
  rw [q4i,hv];rfl
 .simp at hk
  obtain ⟨rfl,⟨rfl,rfl,rfl⟩,⟨rfl,rfl,rfl⟩,⟨rfl,rfl,rfl,rfl,rfl⟩,rfl,rfl,rfl,rfl⟩:=hk
  rfl
 .simp at hk hr
  obtain ⟨rfl,⟨rfl,rfl,rfl,rfl,rfl⟩,rfl,rfl,rfl,rfl⟩:=hk
  have h5:=qs2 (n:=p) (by omega) (by omega)
  rw [znd,za3 (by simp) (by simp) (by simp) ?_ (by simp) rfl]
  .exact zud (by omega) (by omega) (by omega) (by omega) (by omega) (by omega)
  .cases hi:zd p with
   | nil=>rw [hi,qdd] at h5;omega
   | cons x u=>
    have h6:=h5.2 0 (zK _) h5.1
    rw [hi] at h6
    have h6:((48:Int)<=(x.toNat:Int)/\(x.toNat:Int)<=57)∨((0:Int)=0/\(x.toNat:Int)=45):=h6
    intro hh
    have hx:x=117:=(List.cons.inj (List.cons.inj hh).2).1
    subst hx
    revert h6;decide
 .simp at hk
  obtain ⟨rfl,⟨rfl,rfl,rfl⟩,⟨rfl,rfl,rfl⟩,rfl,rfl,rfl,rfl⟩:=hk
  have hm:=zq2 (hm rfl)
  have h1:=zks _ hm sk
  rw [zne,za1 (by simp) (by simp) (by simp) (by simp) (by simp) rfl]
  exact h1
 .simp at hk hr
  obtain ⟨rfl,⟨rfl,rfl,rfl⟩,⟨rfl,rfl,rfl⟩,⟨rfl,rfl,rfl,rfl,rfl⟩,rfl,rfl⟩:=hk
  rw [znf,ztw _ (by omega) (by omega),qdl (n:=n) (by omega) (by omega),qdl (n:=d) (by omega) (by omega),q4b (by rw [qhp (n:=n) (by omega) (by omega)]) (by rw [qhp (n:=d) (by omega) (by omega)]),qhp (n:=n) (by omega) (by omega),qhp (n:=d) (by omega) (by omega)]
  rfl
 .simp at hk hr
  obtain ⟨rfl,⟨rfl,rfl,rfl⟩,⟨rfl,rfl,rfl⟩,⟨rfl,rfl,rfl,rfl,rfl⟩,rfl,rfl⟩:=hk
  show qbd ([64]++qjx cs++zd cl)=_
  rw [List.append_assoc]
  show qbd (64::(qjx cs++zd cl))=_
  rw [za0 (by simp) (by simp) (by simp) (by simp) (by simp) rfl]
  exact zry hr.1 (by omega) (by omega)
 .simp at hk hr
  obtain ⟨rfl,⟨rfl,rfl,rfl⟩,⟨rfl,rfl,rfl⟩,⟨rfl,rfl,rfl,rfl,rfl⟩,rfl,rfl,rfl⟩:=hk
  show qbd (38::zd n)=_
  rw [zaz (by simp) (by simp) (by simp) (by simp) (by simp) rfl]
  exact zdm (by omega) (by omega)
 .simp at hk
  obtain ⟨rfl,⟨rfl,rfl,rfl⟩,⟨rfl,rfl,rfl⟩,⟨rfl,rfl,rfl,rfl,rfl⟩,rfl,rfl,rfl,rfl⟩:=hk
  rfl
 .simp at hk hr
  obtain ⟨rfl,⟨rfl,rfl,rfl⟩,⟨rfl,rfl,rfl⟩,⟨rfl,rfl,rfl,rfl,rfl⟩,rfl,rfl,rfl⟩:=hk
  have h5:=qs2 (n:=n) (by omega) (by omega)
  show qbd (93::zd n)=_
  rw [q4e (by simp) (by simp) (by simp) (by simp) (by simp) rfl]
  exact zdm (by omega) (by omega)
 .simp at hk
  obtain ⟨rfl,⟨rfl,rfl,rfl⟩,⟨rfl,rfl,rfl⟩,⟨rfl,rfl,rfl,rfl,rfl⟩,rfl,rfl,rfl,rfl⟩:=hk
  rfl
 .simp at hk
  obtain ⟨rfl,⟨rfl,rfl,rfl⟩,⟨rfl,rfl,rfl⟩,⟨rfl,rfl,rfl,rfl,rfl⟩,rfl,rfl,rfl,rfl⟩:=hk
  rfl
theorem zk6 {s:ZB}:∀ {i n:Int},0<=n->(qcd s i n).2=true->n<=(qcd s i n).1:=by
 intro i n
 fun_induction qcd s i n with
 | case1 i n h hd hb=>intro _ h1;simp at h1
 | case2 i n h hd hb ih=>
  intro h0 h1
  have:=qhm.1 hd
  have:=ih (by omega) h1
  omega
 | case3 i n h hd=>intro _ h1;simp at h1
 | case4 i n h=>intro h0 _;exact zK _
theorem q23 {a:UInt8} {n:Int} (h0:0<=n) (h:n<=9) (ha:(a.toNat:Int)=48+n):UInt8.ofNat (48+n.toNat)=a:=qai (by rw [qv0 h0 h,ha])
theorem num_inv {s:ZB} {n:Int} (h:qw s=(n,true)) (hn:n<=100):0<=n/\s=qde n:=by
 have hb:=zk3 s
 rw [h] at hb
 refine ⟨hb.1,?_⟩
 obtain ⟨h1,h2⟩:=qin (s:=s) (by rw [h])
 have h48:¬ (ln s=0∨(bx s 0=48/\1<ln s)):=by
  intro hh;rw [qw,zT hh] at h;cases h
 have hg:qcd s 0 0=(n,true):=by rw [qw,zF h48] at h;exact h
 match s with
 | []=>rw [qdd] at h1;omega
 | [a]=>
  have ha:=qhm.1 (h2 0 (zK _) (show (0:Int)<ln [a] by rw [zkj];decide))
  have ha:(48:Int)<=(a.toNat:Int)/\(a.toNat:Int)<=57:=ha
  rw [zvv ha.1 ha.2] at h
  have hn:(a.toNat:Int)-48=n:=(Prod.mk.inj h).1
  rw [qde,zT (by omega),d1,q23 (a:=a) (by omega) (by omega) (by omega)]
 | [a,b]=>
  have hl:ln [a,b]=2:=rfl
  have ha:=qhm.1 (h2 0 (zK _) (by rw [hl];decide))
  have hb:=qhm.1 (h2 1 (by decide) (by rw [hl];decide))
  have ha:(48:Int)<=(a.toNat:Int)/\(a.toNat:Int)<=57:=ha
  have hb:(48:Int)<=(b.toNat:Int)/\(b.toNat:Int)<=57:=hb
  have h0:(a.toNat:Int)≠48:=fun e=>h48 (.inr ⟨e,by rw [hl];decide⟩)
  rw [zvw h0 ha.1 ha.2 hb.1 hb.2] at h
  have hn:10 * ((a.toNat:Int)-48)+((b.toNat:Int)-48)=n:=(Prod.mk.inj h).1
  rw [qde,zF (by omega),zT (by omega),d1,d1,q23 (a:=a) (by omega) (by omega) (by omega),q23 (a:=b) (by omega) (by omega) (by omega)]
  rfl
 | a::b::c::t=>
  have hl:ln (a::b::c::t)=ln t+3:=by simp only [jf];omega
  have n0:=qu t
  have ha:=qhm.1 (h2 0 (zK _) (by omega))
  have hb:=qhm.1 (h2 1 (by decide) (by omega))
  have hc:=qhm.1 (h2 2 (by decide) (by omega))
  have ea:bx (a::b::c::t) 0=(a.toNat:Int):=rfl
  have eb:bx (a::b::c::t) (0+1)=(b.toNat:Int):=rfl
  have ec:bx (a::b::c::t) (0+1+1)=(c.toNat:Int):=rfl
  have ha:(48:Int)<=(a.toNat:Int)/\(a.toNat:Int)<=57:=ha
  have hb:(48:Int)<=(b.toNat:Int)/\(b.toNat:Int)<=57:=hb
  have hc:(48:Int)<=(c.toNat:Int)/\(c.toNat:Int)<=57:=hc
  have h0:(a.toNat:Int)≠48:=fun e=>h48 (.inr ⟨e,by omega⟩)
  rw [qef (zK _) (by omega) (by omega) (by omega) (by omega),qef (by decide) (by omega) (by omega) (by omega) (by omega),qef (by decide) (by omega) (by omega) (by omega) (by omega),ea,eb,ec] at hg
  match t with
  | []=>
   rw [qrt (by rw [hl,qdd];decide)] at hg
   have:=(Prod.mk.inj hg).1
   have:n=100:=by omega
   subst this
   have e1:a=49:=qai (by show (a.toNat:Int)=49;omega)
   have e2:b=48:=qai (by show (b.toNat:Int)=48;omega)
   have e3:c=48:=qai (by show (c.toNat:Int)=48;omega)
   subst e1;subst e2;subst e3;rfl
  | d::t=>
   have n1:=qu t
   have hl2:ln (d::t)=ln t+1:=jf _ _
   have hd:=qhm.1 (h2 3 (by decide) (by omega))
   have hd:(48:Int)<=(d.toNat:Int)/\(d.toNat:Int)<=57:=hd
   have ed:bx (a::b::c::d::t) (0+1+1+1)=(d.toNat:Int):=rfl
   rw [qef (by decide) (by omega) (by omega) (by omega) (by omega),ed] at hg
   have hm:=zk6 (s:=a::b::c::d::t) (i:=0+1+1+1+1) (n:=10 * (10 * (10 * (10 * 0+((a.toNat:Int)-48))+((b.toNat:Int)-48))+((c.toNat:Int)-48))+((d.toNat:Int)-48)) (by omega) (by rw [hg])
   rw [hg] at hm
   have hm:_<=n:=hm
   omega
theorem zqj {s:ZB} {p:Int} (h:qbb s=(p,true)) (h0:-100<=p) (h1:p<=100):s=zd p:=by
 rw [qbb] at h
 split at h
 .rename_i hc
  split at h
  .rename_i h2
   have hp:-(qw (fr s 1)).1=p:=(Prod.mk.inj h).1
   obtain ⟨n0,n1⟩:=num_inv (s:=fr s 1) (n:=(qw (fr s 1)).1) (Prod.ext rfl h2.1) (by omega)
   have hne:=h2.2
   cases s with
   | nil=>exact absurd hc.1 (by decide)
   | cons c t=>
    have:c=45:=qai hc.2
    subst this
    have n1:t=qde _:=n1
    rw [zd,zT (by omega),<-hp,Int.neg_neg,<-n1]
  .cases h
 .obtain ⟨n0,n1⟩:=num_inv h h1
  rw [qdl n0 h1];exact n1
theorem take_drop (t:ZB) (i:Int):t=upto t i++fr t i:=(List.take_append_drop _ _).symm
theorem zcs {t:ZB} (h:(hdF t).1.2=true) (h0:-100<=(hdF t).1.1) (h1:(hdF t).1.1<=100):t=zd (hdF t).1.1++(qib (hdF t).2.1++(zn (hdF t).2.2.1 42++(hdF t).2.2.2)):=by
 have e1:upto t (hdE t 0)=zd (hdF t).1.1:=zqj (Prod.ext rfl h) h0 h1
 have e2:=(zru (fr t (hdE t 0))).1
 have e3:=q4s (qlb (fr t (hdE t 0))).2 (k:=42) (c:=42) rfl
 have e4:=take_drop t (hdE t 0)
 rw [e1] at e4
 have e5:fr t (hdE t 0)=qib (hdF t).2.1++(zn (hdF t).2.2.1 42++(hdF t).2.2.2):=e2.trans (congrArg (qib (hdF t).2.1++·) e3)
 rw [<-e5];exact e4
theorem zm5 {t:ZB} (h:(qcx t).2=0):ltr (qcx t).1=t:=by
 by_cases h0:t=[88]
 .subst h0;rfl
 by_cases h1:t=[76]
 .subst h1;rfl
 by_cases h2:t=[66]
 .subst h2;rfl
 by_cases h3:t=[83]
 .subst h3;rfl
 by_cases h4:t=[77]
 .subst h4;rfl
 by_cases h5:t=[81]
 .subst h5;rfl
 by_cases h6:t=[70]
 .subst h6;rfl
 by_cases h7:t=[90]
 .subst h7;rfl
 exact absurd h (by simp [qcx,h0,h1,h2,h3,h4,h5,h6,h7])
theorem zhj {w:ZB} {s:Sign} (h:qbd w=some s) (ho:kf s=0):k8 s=w:=by
 obtain ⟨-,-,-,hm,hr,-⟩:=qth ho
 unfold qd0 at hr
 have cons_of:∀ {u:ZB} {d:UInt8} {k:Int},k=d.toNat->u≠[]->bx u 0=k->u=d::fr u 1:=by
  intro u d k hk hn hb
  cases u with
  | nil=>exact absurd rfl hn
  | cons x u=>rw [qai (a:=x) (b:=d) (by rw [<-hk];exact hb)];rfl
 by_cases w0:w=[]
 .rw [qbd,zT w0] at h;cases h
 by_cases w1:w=[46]
 .rw [qbd,zF w0,zT w1] at h;rw [<-Option.some.inj h,w1];rfl
 by_cases w2:w=[91]
 .rw [qbd,zF w0,zF w1,zT w2] at h;rw [<-Option.some.inj h,w2];rfl
 by_cases w3:w=[116,117,114,110]
 .rw [qbd,zF w0,zF w1,zF w2,zT w3] at h;rw [<-Option.some.inj h,w3];rfl
 by_cases w4:w=[115,105,103]
 .rw [qbd,zF w0,zF w1,zF w2,zF w3,zT w4] at h;rw [<-Option.some.inj h,w4];rfl
 by_cases b114:bx w 0=114
 .have hb:=b114
  rw [za2 w0 w1 w2 w3 w4 hb] at h
  rw [q4i] at h
  split at h
  .rename_i hv
   rw [<-Option.some.inj h,cons_of (d:=114) rfl w0 hb]
   exact congrArg (114::·) (zm5 hv)
  .cases h
 by_cases b116:bx w 0=116
 .have hb:=b116
  rw [za3 w0 w1 w2 w3 w4 hb] at h
  simp only [q0f] at h
  split at h
  .rename_i hv
   have hs:=Option.some.inj h
   rw [<-hs] at hr
   dsimp only at hr
   rw [<-hs]
   have e:=cons_of (d:=116) rfl w0 hb
   generalize fr w 1=t at *
   rw [e]
   have e1:=zcs hv.1 (by omega) (by omega)
   have e2:=zub (hdF t).2.2.2
   have e3:=q4s (qj0 (hdF t).2.2.2).2 (k:=126) (c:=126) rfl
   have e4:=q4s (je (qj0 (hdF t).2.2.2).2 126).1 (k:=33) (c:=33) rfl
   rw [hv.2] at e4
   have e5:(hdF t).2.2.2=qe8 (qj0 (hdF t).2.2.2).1++(zn (je (qj0 (hdF t).2.2.2).2 126).2 126++(zn (je (je (qj0 (hdF t).2.2.2).2 126).1 33).2 33++[])):=
    e2.trans (congrArg (qe8 (qj0 (hdF t).2.2.2).1++·) (e3.trans (congrArg (zn (je (qj0 (hdF t).2.2.2).2 126).2 126++·) e4)))
   rw [znd,<-e5,<-e1]
  .cases h
 by_cases b40:bx w 0=40
 .have hb:=b40
  rw [za1 w0 w1 w2 w3 w4 hb] at h
  have e:=cons_of (d:=40) rfl w0 hb
  generalize fr w 1=t at *
  obtain ⟨m,hm,b,ht⟩:=zdg h
  rw [ht,zks m hm b] at h
  rw [<-Option.some.inj h,zne,e,ht]
 by_cases b64:bx w 0=64
 .have hb:=b64
  rw [za0 w0 w1 w2 w3 w4 hb] at h
  have e:=cons_of (d:=64) rfl w0 hb
  generalize fr w 1=t at *
  have key:∀ {k:Int} {c:UInt8} {r:ZB},(k=0∨k=3∨k=4)->qjx k=[c]->(if (qw r).2=true then some (Sign.mk 7 0 0 0 false 0 false false 0 0 0 0 false 0 0 k (qw r).1) else none)=some s->k8 s=64::c::r:=by
   intro k c r hk hc h
   split at h
   .rename_i hn
    have hs:=Option.some.inj h
    rw [<-hs] at hr
    dsimp only at hr
    obtain ⟨n0,n1⟩:=num_inv (s:=r) (n:=(qw r).1) (Prod.ext rfl hn) (by omega)
    rw [<-hs]
    show [64]++qjx k++zd (qw r).1=_
    rw [hc,qdl n0 (by omega),<-n1];rfl
   .cases h
  rw [e]
  simp only [qvm] at h
  split at h
  .rename_i hv
   rw [qk7 (c:=67) rfl hv];exact key (.inl rfl) rfl h
  split at h
  .rename_i hv
   rw [qk7 (c:=70) rfl hv];exact key (.inr (.inl rfl)) rfl h
  split at h
  .rename_i hv
   rw [qk7 (c:=71) rfl hv];exact key (.inr (.inr rfl)) rfl h
  .cases h
 have keyN:∀ {k:Int} {c:UInt8} {r:ZB},(∀ n,k8 (Sign.mk k 0 0 0 false 0 false false 0 0 0 0 false n 0 0 0)=c::zd n)->(∀ n,qd0 (Sign.mk k 0 0 0 false 0 false false 0 0 0 0 false n 0 0 0)->n<=100)->qd0 s->qz2 k r=some s->k8 s=c::r:=by
  intro k c r hw hn hc h
  rw [qz2] at h
  split at h
  .rename_i hv
   have hs:=Option.some.inj h
   rw [<-hs] at hc
   have hl:=hn _ hc
   obtain ⟨n0,n1⟩:=num_inv (s:=r) (n:=(qw r).1) (Prod.ext rfl hv) hl
   rw [<-hs,hw,qdl n0 hl,<-n1]
  .cases h
 by_cases b38:bx w 0=38
 .have hb:=b38
  rw [zaz w0 w1 w2 w3 w4 hb] at h
  rw [cons_of (d:=38) rfl w0 hb]
  exact keyN (fun n=>rfl) (fun n hc=>by unfold qd0 at hc;dsimp only at hc;omega) (qth ho).2.2.2.2.1 h
 by_cases b93:bx w 0=93
 .have hb:=b93
  rw [q4e w0 w1 w2 w3 w4 hb] at h
  rw [cons_of (d:=93) rfl w0 hb]
  exact keyN (fun n=>rfl) (fun n hc=>by unfold qd0 at hc;dsimp only at hc;omega) (qth ho).2.2.2.2.1 h
 rw [qyx w0 w1 w2 w3 w4 b114 b116 b40 b64 b38 b93] at h
 split at h
 .rename_i hv
  rw [zab] at h
  split at h
  .rename_i hh
   have hs:=Option.some.inj h
   rw [<-hs] at hr
   dsimp only at hr
   have e1:=zcs hh.1 (by omega) (by omega)
   rw [hh.2] at e1
   rw [<-hs]
   show ltr (qcx (upto w 1)).1++qf0 _=w
   rw [zm5 hv,head_eq]
   dsimp only
   rw [<-e1]
   exact (take_drop w 1).symm
  .cases h
 .obtain ⟨a,b,ha,hb,hw⟩:=zar h
  rw [hw,q4b ha hb] at h
  have hs:=Option.some.inj h
  rw [<-hs] at hr
  dsimp only [S6] at hr
  obtain ⟨a0,a1⟩:=num_inv (s:=a) (n:=(qw a).1) (Prod.ext rfl ha) (by omega)
  obtain ⟨b0,b1⟩:=num_inv (s:=b) (n:=(qw b).1) (Prod.ext rfl hb) (by omega)
  rw [<-hs,S6,znf,qdl a0 (by omega),qdl b0 (by omega),<-a1,<-b1,hw]
theorem qxw {o:Option Sign} {s:Sign} (h:fin o=(s,0)):o=some s/\kf s=0:=by
 cases o with
 | none=>exact absurd (congrArg Prod.snd h) (show (3:Int)≠0 by decide)
 | some x=>
  simp only [fin] at h
  split at h
  .rename_i hx
   have:x=s:=congrArg Prod.fst h
   subst this;exact ⟨rfl,hx⟩
  .rename_i hx
   exact absurd (congrArg Prod.snd h) hx
theorem zg1 {w:ZB} {s:Sign} (h:qjw w=(s,0)):kf s=0/\k8 s=w:=
 ⟨(qxw h).2,zhj (qxw h).1 (qxw h).2⟩
theorem qt1 {s:Sign} (h:kf s=0):qjw (k8 s)=(s,0):=by
 rw [qjw,q14 h,fin,zT h]
abbrev WW:=ZB×Bool
def strip (w:Word):WW:=(w.Text,w.Quoted)
def qgt (r:Row):List WW:=r.Words.map strip
def mkW (t:ZB):WW:=(t,false)
def qk1 (s:ZB):Prop:=s≠[]/\∀ b ∈ s,z7 (b.toNat:Int)=true
theorem zds {s:ZB} (h:qk1 s):∀ b ∈ s,(b.toNat:Int)≠10:=fun b hb e=>by
 have:=qft.1 (h.2 b hb);omega
theorem zgr {s:ZB} (h:qk1 s):0<ln s:=q96 h.1
def qnp (p:ZB×List WW):Prop:=ln p.1<=1000/\(∀ b ∈ p.1,(b.toNat:Int)≠10)/\∀ f,∃ ws',jn p.1 f 0=(ws',-1)/\ws'.map strip=p.2
def q0n (l:ZB) (ws:List WW):Prop:=(∀ b ∈ l,(b.toNat:Int)≠10)/\∀ f,∃ ws',ws'.map strip=ws/\∀ t r,jn (l++t) f (ln l)=(r,-1)->jn (l++t) f 0=(ws'++r,-1)
theorem q15:q0n [] []:=⟨fun _ h=>(by cases h),fun _=>⟨[],rfl,fun _ _ h=>h⟩⟩
theorem qym {a b:ZB} (h1:∀ x ∈ a,(x.toNat:Int)≠10) (h2:∀ x ∈ b,(x.toNat:Int)≠10):∀ x ∈ a++b,(x.toNat:Int)≠10:=fun x hx=>(List.mem_append.1 hx).elim (h1 x) (h2 x)
theorem ze5 {l t:ZB} {f:Int}:jn (l++32::t) f (ln l)=jn (l++32::t) f (ln l+1):=
 zff (qu l) (by rw [zv,jf];have:=qu t;omega) (by rw [qsp];rfl)
theorem q8o {l w t:ZB} {f:Int} {r:List Word} (hw:qk1 w) (ht:b0 t = -1∨b0 t=32∨b0 t=59) (h:jn (l++(w++t)) f (ln l+ln w)=(r,-1)):jn (l++(w++t)) f (ln l)=(⟨f+ln l,w,false⟩::r,-1):=by
 have n0:=qu l
 have n1:=zgr hw
 have n2:=qu t
 have hL:ln (l++(w++t))=ln l+(ln w+ln t):=by rw [zv,zv]
 have hf:fr (l++(w++t)) (ln l)=w++t:=qv1 _ _
 have hb:∀ j,0<=j->j<ln w->z7 (bx (l++(w++t)) (ln l+j))=true:=by
  intro j a b
  rw [<-qj3 n0 a,hf,qoc a b,qmg]
  exact hw.2 _ (qh0 a b)
 have hrun:zl z7 (l++(w++t)) (ln l)=ln l+ln w:=by
  refine qn3 n0 (by omega) (by omega) (fun j a b=>by rw [show j=ln l+(j-ln l) by omega];exact hb _ (by omega) (by omega)) ?_
  cases t with
  | nil=>left;rw [hL,qdd,Int.add_zero]
  | cons c t=>
   right
   have e:bx (l++(w++c::t)) (ln l+ln w)=c.toNat:=by
    rw [<-qj3 n0 (by omega),hf,qsp]
   rw [e]
   have ht:(c.toNat:Int) = -1∨(c.toNat:Int)=32∨(c.toNat:Int)=59:=ht
   rcases ht with ht | ht | ht
   .omega
   .rw [ht];rfl
   .rw [ht];rfl
 have hb0:=hb 0 (zK _) n1
 rw [Int.add_zero] at hb0
 rw [q01 n0 (by omega) hb0 hrun,h,zT (show (-1:Int)<0 by decide)]
 have:sub (l++(w++t)) (ln l) (ln l+ln w)=w:=by
  rw [qn6 n0 (by omega),hf,show ln l+ln w-ln l=ln w by omega,qow]
 rw [this]
theorem za4 {l w:ZB} {ws:List WW} (h:q0n l ws) (hw:qk1 w):q0n (l++w++[32]) (ws++[mkW w]):=by
 refine ⟨qym (qym h.1 (zds hw)) (by decide),fun f=>?_⟩
 obtain ⟨ws',e,g⟩:=h.2 f
 refine ⟨ws'++[⟨f+ln l,w,false⟩],by rw [List.map_append,e];rfl,fun t r hr=>?_⟩
 have ea:(l++w++[32])++t=l++(w++32::t):=by simp only [List.append_assoc,List.cons_append,List.nil_append]
 have eb:(l++w)++32::t=l++(w++32::t):=List.append_assoc _ _ _
 have el:ln (l++w++[32])=ln (l++w)+1:=by rw [zv];rfl
 rw [ea,el] at hr
 rw [ea,List.append_assoc]
 refine g _ _ (q8o hw (.inr (.inl rfl)) ?_)
 rw [<-zv,<-eb,ze5,eb];exact hr
theorem zf3 {l:ZB} {ws:List WW} (h:q0n l ws) (hl:ln l<=1000):qnp (l,ws):=by
 refine ⟨hl,h.1,fun f=>?_⟩
 obtain ⟨ws',e,g⟩:=h.2 f
 have:=g [] [] (by rw [zJ];exact q3e (.inl (zK _)))
 rw [zJ,zJ] at this
 exact ⟨ws',this,e⟩
theorem zf4 {l w:ZB} {ws:List WW} (h:q0n l ws) (hw:qk1 w) (hl:ln l+ln w<=1000):qnp (l++w,ws++[mkW w]):=by
 refine ⟨by show ln (l++w)<=1000;rw [zv];exact hl,qym h.1 (zds hw),fun f=>?_⟩
 obtain ⟨ws',e,g⟩:=h.2 f
 have:=g (w++[]) _ (q8o hw (.inl rfl) (q3e (.inl (by rw [zJ,zv];exact zK _))))
 rw [zJ] at this
 exact ⟨_,this,by rw [List.map_append,e];rfl⟩
abbrev LW:=ZB×List WW
def full (ps:List LW):List (List WW):=(ps.map (·.2)).filter fun w=>!w.isEmpty
theorem zdu:∀ (ps:List LW) (x:Int),(∀ p ∈ ps,qnp p)->∃ rows',qax (ps.map (·.1)) x=(rows',0,0)/\rows'.map qgt=full ps
 | [],x,_=>⟨[],rfl,rfl⟩
 | p::ps,x,h=>by
  obtain ⟨h1,_,h3⟩:=h p zC
  obtain ⟨ws',q1,q2⟩:=h3 x
  obtain ⟨rows',q3,q4⟩:=zdu ps (x+ln p.1+1) fun p' hp=>h p' (zG _ hp)
  by_cases hw:ws'=[]
  .subst hw
   refine ⟨rows',?_,?_⟩
   .simp only [List.map_cons,qax,q1,q3,zF (show ¬ 1000<ln p.1 by omega),zF (by decide:¬ (0:Int)<=-1),if_true]
   .have:p.2=[]:=q2.symm
    simp [full,q4,this]
  .refine ⟨⟨x,ws'⟩::rows',?_,?_⟩
   .simp only [List.map_cons,qax,q1,q3,zF (show ¬ 1000<ln p.1 by omega),zF (by decide:¬ (0:Int)<=-1),if_true,zF hw]
   .have hne:p.2≠[]:=by
     rw [<-q2]
     simpa using hw
    have hne':p.2.isEmpty=false:=by
     cases hp:p.2 with
     | nil=>exact absurd hp hne
     | cons a l=>rfl
    simp [full,qgt,q2,q4,hne']
def qo5 (ps:List LW):ZB:=ps.flatMap fun p=>p.1++([10]:ZB)
theorem q8a:∀ (ps:List LW) (q:LW),(∀ p ∈ ps,qnp p)->qnp q->qz 10 (qo5 ps++q.1)=ps.map (·.1)++[q.1]
 | [],q,_,hq=>qko hq.2.1
 | p::ps,q,h,hq=>by
  have hl:qo5 (p::ps)++q.1=p.1++10::(qo5 ps++q.1):=by simp [qo5,List.append_assoc]
  rw [hl,qqg (c:=10) (b:=10) rfl (h p zC).2.1,q8a ps q (fun p' hp=>h p' (zG _ hp)) hq]
  rfl
theorem zp8 {ps:List LW} {q:LW} (h:∀ p ∈ ps,qnp p) (hq:qnp q) (hb:ln (qo5 ps++q.1)<=20000):∃ rows',qd (qo5 ps++q.1)=(rows',0,0)/\rows'.map qgt=full (ps++[q]):=by
 obtain ⟨rows',q1,q2⟩:=zdu (ps++[q]) 0 fun p hp=>(List.mem_append.1 hp).elim (h p) fun hp=>by rw [List.mem_singleton.1 hp];exact hq
 have e:(ps++[q]).map (·.1)=ps.map (·.1)++[q.1]:=by simp
 rw [e,<-q8a ps q h hq] at q1
 exact ⟨rows',by rw [qkn hb];exact q1,q2⟩
theorem q6t (a b:List LW):full (a++b)=full a++full b:=by simp [full]
theorem zoy {l:ZB} {ws:List WW} (h:ws≠[]):full [(l,ws)]=[ws]:=by
 cases ws with
 | nil=>exact absurd rfl h
 | cons a t=>rfl
theorem zjs {l:ZB}:full [(l,[])]=[]:=rfl
theorem zfn (ps:List LW) (l:ZB) (ws:List WW):qo5 (ps++[(l,ws)])=qo5 ps++(l++[10]):=by simp [qo5]
def St (u:ZB) (rs:List (List WW)) (ws:List WW) (B:Int):Prop:=∃ ps l,u=qo5 ps++l/\(∀ p ∈ ps,qnp p)/\full ps=rs/\q0n l ws/\ln l<=B
theorem zt7:St [] [] [] 0:=⟨[],[],rfl,fun _ h=>(by cases h),rfl,q15,zK _⟩
theorem St.mono {u:ZB} {rs:List (List WW)} {ws:List WW} {B C:Int} (h:St u rs ws B) (hc:B<=C):St u rs ws C:=by
 obtain ⟨ps,l,a,b,c,d,e⟩:=h
 exact ⟨ps,l,a,b,c,d,by omega⟩
theorem St.word {u w:ZB} {rs:List (List WW)} {ws:List WW} {B:Int} (h:St u rs ws B) (hw:qk1 w):St (u++w++[32]) rs (ws++[mkW w]) (B+ln w+1):=by
 obtain ⟨ps,l,a,b,c,d,e⟩:=h
 exact ⟨ps,l++w++[32],by rw [a];simp only [List.append_assoc],b,c,za4 d hw,by rw [qaf,zv];omega⟩
theorem ze0 {ps:List LW} {q:LW} (h:∀ p ∈ ps,qnp p) (hq:qnp q):∀ p ∈ ps++[q],qnp p:=fun p hp=>(List.mem_append.1 hp).elim (h p) fun hp=>by rw [List.mem_singleton.1 hp];exact hq
theorem St.row {u w:ZB} {rs:List (List WW)} {ws:List WW} {B:Int} (h:St u rs ws B) (hw:qk1 w) (hl:B+ln w<=990):St (u++w++[10]) (rs++[ws++[mkW w]]) [] 0:=by
 obtain ⟨ps,l,a,b,c,d,e⟩:=h
 exact ⟨ps++[(l++w,ws++[mkW w])],[],by rw [a,zfn];simp only [List.append_assoc,zJ],ze0 b (zf4 d hw (by omega)),by rw [q6t,c,zoy (by simp)],q15,zK _⟩
theorem St.done {u:ZB} {rs:List (List WW)} {B:Int} (h:St u rs [] B) (hl:B<=990) (hb:ln u<=20000):∃ rows',qd u=(rows',0,0)/\rows'.map qgt=rs:=by
 obtain ⟨ps,l,a,b,c,d,e⟩:=h
 rw [a] at hb ⊢
 obtain ⟨rows',q1,q2⟩:=zp8 (q:=(l,[])) b (zf3 d (by omega)) hb
 exact ⟨rows',q1,by rw [q2,q6t,c,zjs,zJ]⟩
theorem qt0 {s:Sign} (h:kf s=0):(∀ b ∈ k8 s,z7 (b.toNat:Int)=true)/\ln (k8 s)<=10/\k8 s≠[]:=by
 have app:∀ {a b:ZB} {i j:Int},((∀ x ∈ a,z7 (x.toNat:Int)=true)/\ln a<=i)->((∀ x ∈ b,z7 (x.toNat:Int)=true)/\ln b<=j)->((∀ x ∈ a++b,z7 (x.toNat:Int)=true)/\ln (a++b)<=i+j):=by
  intro a b i j h1 h2
  refine ⟨fun x hx=>(List.mem_append.1 hx).elim (h1.1 x) (h2.1 x),?_⟩
  rw [zv];have:=h1.2;have:=h2.2;omega
 have dg:∀ {n:Int},0<=n->n<=100->(∀ x ∈ qde n,z7 (x.toNat:Int)=true)/\ln (qde n)<=3:=by
  intro n h0 h1
  refine ⟨fun x hx=>?_,by have:=q31 h0;simp only [ln];omega⟩
  obtain ⟨i,a,b,rfl⟩:=qtf hx
  have:=(qrs h0 h1).2 i a b
  rw [<-qmg];exact qft.2 (by omega)
 have it:∀ {n:Int},-4<=n->n<=100->(∀ x ∈ zd n,z7 (x.toNat:Int)=true)/\ln (zd n)<=4:=by
  intro n h0 h1
  unfold zd
  split
  .have:=dg (n:=-n) (by omega) (by omega)
   refine ⟨fun x hx=>?_,by rw [jf];omega⟩
   rcases zD.1 hx with hx | hx
   .subst hx;rfl
   .exact this.1 x hx
  .have:=dg (n:=n) (by omega) h1
   exact ⟨this.1,by omega⟩
 have ac:∀ a:Int,(∀ x ∈ qib a,z7 (x.toNat:Int)=true)/\ln (qib a)<=1:=by
  intro a;unfold qib
  (repeat' split)<;>decide
 have mk:∀ (b:Bool) (c:UInt8),z7 (c.toNat:Int)=true->(∀ x ∈ zn b c,z7 (x.toNat:Int)=true)/\ln (zn b c)<=1:=by
  intro b c hc;cases b
  .exact ⟨fun x hx=>(by cases hx),(show (0:Int)<=1 by decide)⟩
  .exact ⟨fun x hx=>by rw [List.mem_singleton.1 hx];exact hc,zK _⟩
 have st:∀ k:Int,(∀ x ∈ qe8 k,z7 (x.toNat:Int)=true)/\ln (qe8 k)<=1:=by
  intro k;unfold qe8
  (repeat' split)<;>decide
 have sp:∀ k:Int,(∀ x ∈ qjx k,z7 (x.toNat:Int)=true)/\ln (qjx k)<=1:=by
  intro k;unfold qjx
  (repeat' split)<;>decide
 have one:∀ c:UInt8,z7 (c.toNat:Int)=true->(∀ x ∈ ([c]:ZB),z7 (x.toNat:Int)=true)/\ln ([c]:ZB)<=1:=fun c hc=>⟨fun x hx=>by rw [List.mem_singleton.1 hx];exact hc,zK _⟩
 have tm:∀ m ∈ allM,(∀ x ∈ txM m,z7 (x.toNat:Int)=true)/\ln (txM m)<=4:=by
  intro m hm
  simp only [allM,zD,List.not_mem_nil,or_false] at hm
  rcases hm with h | h | h | h | h | h | h | h | h | h | h | h | h | h | h | h<;>subst h<;>decide
 have hn:k8 s≠[]:=by
  intro e
  have:=q14 h
  rw [e] at this
  rw [qbd,zT rfl] at this
  cases this
 obtain ⟨k1,k2,hk,hm,hr,ho⟩:=qth h
 refine (fun (q:(∀ b ∈ k8 s,z7 (b.toNat:Int)=true)/\ln (k8 s)<=10)=>⟨q.1,q.2,hn⟩) ?_
 clear hn h hk ho
 unfold qd0 at hr
 obtain ⟨K,v,p,a,c,sm,ob,la,m1,m2,m3,m4,sk,n,d,cs,cl⟩:=s
 dsimp only at k1 k2 hm hr
 have le:∀ {t:ZB} {i:Int},((∀ x ∈ t,z7 (x.toNat:Int)=true)/\ln t<=i)->i<=10->(∀ b ∈ t,z7 (b.toNat:Int)=true)/\ln t<=10:=fun h h'=>⟨h.1,by have:=h.2;omega⟩
 have hl:1<=v/\v<=8->(∀ x ∈ ltr v,z7 (x.toNat:Int)=true)/\ln (ltr v)<=1:=by
  intro hv
  obtain ⟨x1,hcs,-,hc8⟩:=q97 hv
  rw [hcs]
  refine one x1 ?_
  rcases hc8 with h | h | h | h | h | h | h | h<;>subst h<;>rfl
 have:K=1∨K=2∨K=3∨K=4∨K=5∨K=6∨K=7∨K=8∨K=9∨K=10∨K=11∨K=12:=by omega
 rcases this with e | e | e | e | e | e | e | e | e | e | e | e<;>subst e
 .exact le (app (hl (by omega)) (app (app (it (n:=p) (by omega) (by omega)) (ac a)) (mk c 42 rfl))) (by decide)
 .exact le (app (one 114 rfl) (hl (by omega))) (by decide)
 .exact le (one 46 rfl) (by decide)
 .exact le (app (app (app (app (one 116 rfl) (app (app (it (n:=p) (by omega) (by omega)) (ac a)) (mk c 42 rfl))) (st sm)) (mk ob 126 rfl)) (mk la 33 rfl)) (by decide)
 .exact le (app (app (app (one 40 rfl) (tm (m1,m2,m3,m4) (zq2 (hm rfl)))) (one 41 rfl)) (mk sk 124 rfl)) (by decide)
 .have w1:=qdl (n:=n) (by omega) (by omega)
  have w2:=qdl (n:=d) (by omega) (by omega)
  show (∀ b ∈ zd n++[47]++zd d,_)/\ln (zd n++[47]++zd d)<=10
  rw [w1,w2]
  exact le (app (app (dg (n:=n) (by omega) (by omega)) (one 47 rfl)) (dg (n:=d) (by omega) (by omega))) (by decide)
 .exact le (app (app (one 64 rfl) (sp cs)) (it (n:=cl) (by omega) (by omega))) (by decide)
 .exact le (app (one 38 rfl) (it (n:=n) (by omega) (by omega))) (by decide)
 .exact le (one 91 rfl) (by decide)
 .exact le (app (one 93 rfl) (it (n:=n) (by omega) (by omega))) (by decide)
 .exact le (t:=[116,117,114,110]) (i:=4) (by decide) (by decide)
 .exact le (t:=[115,105,103]) (i:=3) (by decide) (by decide)
theorem qn9 {s:Sign} (h:kf s=0):qk1 (k8 s):=⟨(qt0 h).2.2,(qt0 h).1⟩
theorem qox {s:Sign} (h:kf s=0):ln (k8 s)<=10:=(qt0 h).2.1
theorem zhg {s:Sign} (h:kf s=0):k8 s≠[101,110,100]:=by
 intro e
 have:=qt1 h
 rw [e] at this
 have e2:qbd [101,110,100]=none:=by
  rw [qyx (by simp) (by simp) (by simp) (by simp) (by simp) (by decide) (by decide) (by decide) (by decide) (by decide) (by decide)]
  cases h:qz8 [101,110,100] with
  | none=>rfl
  | some s=>
   obtain ⟨a,b,ha,hb,hw⟩:=zar h
   obtain ⟨h1,h2⟩:=qin ha
   have h3:=h2 0 (zK _) h1
   rw [<-qoc (l:=47::b) (zK _) h1,<-hw] at h3
   cases h3
 rw [qjw,e2] at this
 exact absurd (congrArg Prod.snd this) (show (3:Int)≠0 by decide)
def wS (s:Sign):WW:=mkW (k8 s)
def zos:WW:=mkW [101,110,100]
def q9w (nm:ZB):List WW:=[mkW [112,97,114,116],mkW nm]
theorem zed:∀ (ws:List Word) (ss acc:List Sign) (pl:List Int),ws.map strip=ss.map wS->(∀ s ∈ ss,kf s=0)->∃ pl',wds ws acc pl=((acc++ss,pl'),(0,0))
 | [],[],acc,pl,_,_=>⟨pl,by rw [zJ];rfl⟩
 | [],_::_,_,_,h,_=>by cases h
 | _::_,[],_,_,h,_=>by cases h
 | w::ws,s::ss,acc,pl,h,hg=>by
  have h1:strip w=wS s:=(List.cons.inj h).1
  have h2:=(List.cons.inj h).2
  have t1:w.Text=k8 s:=congrArg Prod.fst h1
  have t2:w.Quoted=false:=congrArg Prod.snd h1
  have hs:=qt1 (hg s zC)
  obtain ⟨pl',e⟩:=zed ws ss (acc++[s]) (pl++[w.At]) h2 fun x hx=>hg x (zG _ hx)
  have hE:qsb w=0:=by rw [qsb,zF (by rw [t2];simp),t1,hs]
  refine ⟨pl',?_⟩
  rw [wds,zF (by rw [hE];simp),t1,hs,e,List.append_assoc]
  rfl
theorem qts {r:Row} {a:WW} {l:List WW} (h:qgt r=a::l):∃ w ws,r.Words=w::ws/\strip w=a/\ws.map strip=l:=by
 unfold qgt at h
 cases hr:r.Words with
 | nil=>rw [hr] at h;cases h
 | cons w ws=>rw [hr] at h;exact ⟨w,ws,rfl,(List.cons.inj h).1,(List.cons.inj h).2⟩
theorem zdy (nm:ZB) (len:Int) (e:Row) (he:qgt e=[zos]):∀ (rs:List Row) (g:List (List Sign)) (acc:List Sign) (pl:List Int),rs.map qgt=g.map (fun l=>l.map wS)->(∀ l ∈ g,l≠[]/\∀ s ∈ l,kf s=0)->
  (zk nm (acc++g.flatten)).1=0->rws nm len (rs++[e]) acc pl=((nm,acc++g.flatten),(0,0))
 | [],[],acc,pl,_,_,hc=>by
  obtain ⟨w,ws,e1,e2,e3⟩:=qts he
  have e4:ws=[]:=by cases ws with
   | nil=>rfl
   | cons a l=>cases e3
  subst e4
  have hE:qm8 e:=by
   unfold qm8;rw [e1]
   exact ⟨congrArg Prod.fst e2,congrArg Prod.snd e2⟩
  have hl:¬ 1<ln e.Words:=by rw [e1];show ¬ (1:Int)<1;decide
  rw [List.flatten_nil,zJ] at hc ⊢
  show rws nm len [e] acc pl=_
  rw [rws,zT hE,qmm,zF hl,zF (show ¬ (0:Int)<ln ([]:List Row) by decide),zF (by rw [hc];simp)]
 | [],_::_,_,_,h,_,_=>by cases h
 | _::_,[],_,_,h,_,_=>by cases h
 | r::rs,l::g,acc,pl,h,hg,hc=>by
  have h1:qgt r=l.map wS:=(List.cons.inj h).1
  have h2:=(List.cons.inj h).2
  obtain ⟨hne,hgood⟩:=hg l zC
  obtain ⟨pl',ew⟩:=zed r.Words l acc pl h1 hgood
  have hE:¬ qm8 r:=by
   cases l with
   | nil=>exact absurd rfl hne
   | cons s l=>
    obtain ⟨w,ws,e1,e2,e3⟩:=qts h1
    unfold qm8;rw [e1]
    rintro ⟨q,-⟩
    have q:w.Text=[101,110,100]:=q
    rw [show w.Text=k8 s from congrArg Prod.fst e2] at q
    exact zhg (hgood s zC) q
  have ea:acc++(l::g).flatten=(acc++l)++g.flatten:=by rw [List.flatten_cons,List.append_assoc]
  rw [ea] at hc ⊢
  rw [List.cons_append,rws,zF hE,ew,zF (by simp)]
  exact zdy nm len e he rs g (acc++l) pl' h2 (fun x hx=>hg x (zG _ hx)) hc
theorem zl1 {t nm:ZB} {rows:List Row} {g:List (List Sign)} (h:qd t=(rows,0,0)) (hr:rows.map qgt=q9w nm::(g.map (fun l=>l.map wS)++[[zos]])) (hg:∀ l ∈ g,l≠[]/\∀ s ∈ l,kf s=0)
  (hc:(zk nm g.flatten).1=0):ze t=((nm,g.flatten),(0,0)):=by
 have hn:qae nm=true:=by
  cases hn:qae nm with
  | true=>rfl
  | false=>rw [zk,zT hn] at hc;cases hc
 cases rows with
 | nil=>cases hr
 | cons r rs=>
  have r1:qgt r=q9w nm:=(List.cons.inj hr).1
  have r2:rs.map qgt=g.map (fun l=>l.map wS)++[[zos]]:=(List.cons.inj hr).2
  obtain ⟨w1,ws,e1,e2,e3⟩:=qts r1
  obtain ⟨w2,ws2,rfl,e5⟩:∃ w2 ws2,ws=w2::ws2/\strip w2=mkW nm/\ws2.map strip=[]:=by
   cases ws with
   | nil=>cases e3
   | cons a l=>exact ⟨a,l,rfl,(List.cons.inj e3).1,(List.cons.inj e3).2⟩
  have e6:ws2=[]:=List.map_eq_nil_iff.1 e5.2
  subst e6
  have hd:hd0 t=r:=by rw [hd0,h];rfl
  have hN:nmB t=nm:=by rw [nmB,hd,e1];exact congrArg Prod.fst e5.1
  have hE:qff t=0:=by
   have q1:(ix (hd0 t).Words 0).Text=[112,97,114,116]:=by rw [hd,e1];exact congrArg Prod.fst e2
   have q2:(ix (hd0 t).Words 0).Quoted=false:=by rw [hd,e1];exact congrArg Prod.snd e2
   have q3:ln (hd0 t).Words=2:=by rw [hd,e1];rfl
   have q4:(ix (hd0 t).Words 1).Quoted=false:=by rw [hd,e1];exact congrArg Prod.snd e5.1
   rw [qff,zF (by rw [q1,q2,q3];simp),zF (by rw [q4,hN,hn];simp)]
  obtain ⟨rs',e,rfl,he,hrs⟩:∃ rs' e,rs=rs'++[e]/\qgt e=[zos]/\rs'.map qgt=g.map (fun l=>l.map wS):=by
   rcases List.eq_nil_or_concat rs with hq | ⟨rs',e,hq⟩
   .subst hq;exact absurd (congrArg List.length r2) (by simp)
   .rw [List.concat_eq_append] at hq
    subst hq
    rw [List.map_append] at r2
    have:=List.append_inj' r2 rfl
    exact ⟨rs',e,rfl,(List.cons.inj this.2).1,this.1⟩
  have hf:fr (qd t).1 1=rs'++[e]:=by rw [h];rfl
  have q:=zdy nm (ln t) e he rs' g [] [] hrs hg hc
  rw [List.nil_append] at q
  rw [ze,zF (by rw [h];simp),zF (by rw [h];show ¬ ln (r::_)=0;rw [jf];have:=qu (rs'++[e]);omega),zF (by rw [hE];simp),hN,hf]
  exact q
theorem zn2 {l:List Sign}:∀ {i:Int},0<=i->(qht l i).1=0->∀ j,i<=j->j<ln l->qnb l j=0:=by
 intro i
 fun_induction qht l i with
 | case1 i h he=>intro _ hz;exact absurd hz he
 | case2 i h he ih=>
  intro h0 hz j h1 h2
  by_cases hj:j=i
  .subst hj;exact Decidable.not_not.1 he
  .exact ih (by omega) hz j (by omega) h2
 | case3 i h=>intro _ _ j h1 h2;omega
theorem qw8 {nm:ZB} {l:List Sign} (h:(zk nm l).1=0):qae nm=true/\ln l<=400/\∀ s ∈ l,kf s=0:=by
 unfold zk at h
 split at h
 .cases h
 .rename_i hn
  split at h
  .cases h
  .rename_i hl
   refine ⟨by simpa using hn,by omega,fun s hs=>?_⟩
   obtain ⟨i,a,b,rfl⟩:=qtf hs
   have:=zn2 (zK _) h i a b
   unfold qnb at this
   by_cases ho:kf (ix l i)=0
   .exact ho
   .rw [zT ho] at this;exact absurd this ho
theorem ql4 {nm:ZB} (h:qae nm=true):qk1 nm/\ln nm<=20:=by
 simp only [qae,zA,decide_eq_true_eq,List.all_eq_true] at h
 obtain ⟨⟨⟨h1,h2⟩,_⟩,h4⟩:=h
 refine ⟨⟨fun e=>by rw [e,qdd] at h1;omega,fun b hb=>?_⟩,h2⟩
 have:=h4 b hb
 simp only [qpb,qrm,Bool.or_eq_true,zA,decide_eq_true_eq] at this
 exact qft.2 (by omega)
theorem zd4 {nm:ZB} (h:qae nm=true):St (([112,97,114,116,32]++nm)++[10]) [q9w nm] [] 0:=by
 have hp:=ql4 h
 have s1:=zt7.word (w:=[112,97,114,116]) ⟨by simp,by decide⟩
 have s2:=s1.row hp.1 (by show (0:Int)+4+1+ln nm<=990;omega)
 exact s2
theorem zcu (nm:ZB) (g:List (List Sign)) (l:List Sign):(q9w nm::g.map (fun l=>l.map wS))++[l.map wS]=q9w nm::(g++[l]).map (fun l=>l.map wS):=by simp
theorem qyl (c:List Sign) (s:Sign):c.map wS++[mkW (k8 s)]=(c++[s]).map wS:=by rw [List.map_append];rfl
theorem take_succ {l:List Sign} {n:Nat} (h:n<l.length):l.take (n+1)=l.take n++[ix l (n:Int)]:=by
 rw [List.take_add_one,List.getElem?_eq_getElem h,qs3 h];rfl
structure Grp (l:List Sign) (n:Nat) (g:List (List Sign)) (c:List Sign):Prop where
 e:g.flatten++c=l.take n
 g:∀ x ∈ g,x≠[]
theorem zcr {l:List Sign} {n:Nat} {g:List (List Sign)} {c:List Sign} (h:Grp l n g c) (hn:n<l.length):Grp l (n+1) (g++[c++[ix l (n:Int)]]) []:=by
 refine ⟨?_,fun x hx=>?_⟩
 .rw [take_succ hn,<-h.e];simp
 .rcases List.mem_append.1 hx with hx | hx
  .exact h.g x hx
  .rw [List.mem_singleton.1 hx];simp
theorem zjy {l:List Sign} {n:Nat} {g:List (List Sign)} {c:List Sign} (h:Grp l n g c) (hn:n<l.length):Grp l (n+1) g (c++[ix l (n:Int)]):=
 ⟨by rw [take_succ hn,<-h.e,List.append_assoc],h.g⟩
theorem q3q {l:List Sign} (h:∀ s ∈ l,kf s=0) {n:Nat} (hn:n<l.length):kf (ix l (n:Int))=0:=h _ (qh0 (by omega) (by simp only [ln];omega))
theorem zjx {l:List Sign} {n:Nat} {g:List (List Sign)} {c:List Sign} (h:Grp l n g c) (hl:∀ s ∈ l,kf s=0):∀ x ∈ g,x≠[]/\∀ s ∈ x,kf s=0:=by
 refine fun x hx=>⟨h.g x hx,fun s hs=>hl s ?_⟩
 have:s ∈ g.flatten++c:=List.mem_append_left _ (List.mem_flatten.2 ⟨x,hx,hs⟩)
 rw [h.e] at this
 exact List.mem_of_mem_take this
theorem zd8 {nm:ZB} {l:List Sign} (hn:qae nm=true) (hl:∀ s ∈ l,kf s=0):∀ n:Nat,n<=l.length->∃ g c,St ((([112,97,114,116,32]++nm)++qj1 l n)++[qmo n]) (q9w nm::g.map (fun l=>l.map wS)) (c.map wS) (11 * ((n % 16:Nat):Int))/\Grp l n g c
 | 0,_=>⟨[],[],by rw [qj1,zJ];exact zd4 hn,⟨rfl,fun _ h=>(by cases h)⟩⟩
 | n+1,h=>by
  obtain ⟨g,c,hs,hg⟩:=zd8 hn hl n (by omega)
  have ho:=q3q hl (n:=n) (by omega)
  have hw:=qn9 ho
  have h10:=qox ho
  have e:((([112,97,114,116,32]++nm)++qj1 l (n+1))++[qmo (n+1)])=(((([112,97,114,116,32]++nm)++qj1 l n)++[qmo n])++k8 (ix l (n:Int)))++[qmo (n+1)]:=by
   rw [qj1,qlm ho];simp only [List.append_assoc]
  rw [e]
  by_cases hm:(n+1) % 16=0
  .refine ⟨g++[c++[ix l (n:Int)]],[],?_,zcr hg (by omega)⟩
   have s:=hs.row hw (by omega)
   rw [qyl,zcu] at s
   rw [show qmo (n+1)=10 from zT hm,hm]
   exact s
  .refine ⟨g,c++[ix l (n:Int)],?_,zjy hg (by omega)⟩
   have s:=hs.word hw
   rw [qyl] at s
   rw [show qmo (n+1)=32 from zF hm]
   exact s.mono (by omega)
theorem zbo {l:List Sign} (hl:∀ s ∈ l,kf s=0):∀ n:Nat,n<=l.length->ln (qj1 l n)<=11 * (n:Int)
 | 0,_=>zK _
 | n+1,h=>by
  have:=zbo hl n (by omega)
  have ho:=q3q hl (n:=n) (by omega)
  have h10:=qox ho
  rw [qj1,qlm ho,zv,qaf]
  show _+ln (k8 (ix l (n:Int)))<=_
  omega
theorem zfj:qk1 [101,110,100]:=⟨by simp,by decide⟩
theorem qtv {nm:ZB} {l:List Sign} (h:(zk nm l).1=0):qbl nm l=((([112,97,114,116,32]++nm)++qj1 l (ln l).toNat++[10,101,110,100,10]),0)/\ze (qbl nm l).1=((nm,l),(0,0)):=by
 obtain ⟨hn,h400,hl⟩:=qw8 h
 have eT:qbl nm l=((([112,97,114,116,32]++nm)++qj1 l (ln l).toNat++[10,101,110,100,10]),0):=by rw [qbl,zT h]
 refine ⟨eT,?_⟩
 have eN:(ln l).toNat=l.length:=by simp [ln]
 have hA:∃ g,St ((([112,97,114,116,32]++nm)++qj1 l l.length)++[10]) (q9w nm::g.map (fun l=>l.map wS)) [] 0/\Grp l l.length g []:=by
  cases hz:l.length with
  | zero=>exact ⟨[],by rw [qj1,zJ];exact zd4 hn,⟨rfl,fun _ h=>(by cases h)⟩⟩
  | succ n=>
   obtain ⟨g,c,hs,hg⟩:=zd8 hn hl n (by omega)
   have ho:=q3q hl (n:=n) (by omega)
   have hw:=qn9 ho
   have h10:=qox ho
   have s:=hs.row hw (by omega)
   rw [qyl,zcu] at s
   have e:((([112,97,114,116,32]++nm)++qj1 l (n+1))++[10])=(((([112,97,114,116,32]++nm)++qj1 l n)++[qmo n])++k8 (ix l (n:Int)))++[10]:=by
    rw [qj1,qlm ho];simp only [List.append_assoc]
   exact ⟨g++[c++[ix l (n:Int)]],by rw [e];exact s,zcr hg (by omega)⟩
 obtain ⟨g,hs,hg⟩:=hA
 have s:=hs.row zfj (by decide)
 have ex:(((([112,97,114,116,32]++nm)++qj1 l l.length)++[10])++[101,110,100])++[10]=(qbl nm l).1:=by
  rw [eT,eN];simp only [List.append_assoc,List.cons_append,List.nil_append]
 rw [ex] at s
 have hb:ln (qbl nm l).1<=20000:=by
  have h1:=zbo hl l.length (zN _)
  have h2:=(ql4 hn).2
  have h3:(l.length:Int)<=400:=h400
  have h4:ln ([112,97,114,116,32]:ZB)=5:=rfl
  have h5:ln ([10,101,110,100,10]:ZB)=5:=rfl
  rw [eT,eN]
  show ln _<=_
  rw [zv,zv,zv,h4,h5];omega
 obtain ⟨rows,q1,q2⟩:=s.done (by decide) hb
 have hfl:g.flatten=l:=by have:=hg.e;rwa [zJ,List.take_length] at this
 have:=zl1 (nm:=nm) (g:=g) q1 (by rw [q2];rfl) (zjx hg hl) (by rw [hfl];exact h)
 rw [hfl] at this
 exact this
theorem q2d (nm:ZB) (len:Int):∀ (rs:List Row) (acc:List Sign) (pl:List Int),(rws nm len rs acc pl).2.1=0->(zk (rws nm len rs acc pl).1.1 (rws nm len rs acc pl).1.2).1=0
 | [],acc,pl,h=>absurd h (show (9:Int)≠0 by decide)
 | r::rs,acc,pl,h=>by
  by_cases hE:qm8 r
  .have e:rws nm len (r::rs) acc pl=qmm nm r rs acc pl:=by rw [rws,zT hE]
   rw [e] at h ⊢
   by_cases h1:1<ln r.Words
   .rw [qmm,zT h1] at h;exact absurd h (show (3:Int)≠0 by decide)
   .by_cases h2:0<ln rs
    .rw [qmm,zF h1,zT h2] at h;exact absurd h (show (3:Int)≠0 by decide)
    .by_cases h3:(zk nm acc).1≠0
     .rw [qmm,zF h1,zF h2,zT h3] at h;exact absurd h h3
     .rw [qmm,zF h1,zF h2,zF h3];exact Decidable.not_not.1 h3
  .by_cases hw:(wds r.Words acc pl).2.1≠0
   .rw [rws,zF hE,zT hw] at h;exact absurd h hw
   .have e:rws nm len (r::rs) acc pl=rws nm len rs (wds r.Words acc pl).1.1 (wds r.Words acc pl).1.2:=by rw [rws,zF hE,zF hw]
    rw [e] at h ⊢
    exact q2d nm len rs _ _ h
theorem zgo {t:ZB} (h:(ze t).2.1=0):(zk (ze t).1.1 (ze t).1.2).1=0:=by
 by_cases h1:(qd t).2.1≠0
 .rw [ze,zT h1] at h;exact absurd h h1
 by_cases h2:ln (qd t).1=0
 .rw [ze,zF h1,zT h2] at h;exact absurd h (show (9:Int)≠0 by decide)
 by_cases h3:qff t≠0
 .rw [ze,zF h1,zF h2,zT h3] at h;exact absurd h h3
 have e:ze t=rws (nmB t) (ln t) (fr (qd t).1 1) [] []:=by rw [ze,zF h1,zF h2,zF h3]
 rw [e] at h ⊢
 exact q2d _ _ _ _ _ h
def okS (s:Sign):Prop:=kf s=0/\s.Kind≠4
theorem qv3 {s:Sign} (h1:1<=s.Kind) (h2:s.Kind<=12) (h3:qnm s) (h4:s.Kind=5->qcb s.MensMax s.MensMod s.MensTem s.MensPro=0) (h5:qd0 s) (h6:s.Oblique=false):kf s=0:=by
 unfold kf
 rw [zF (by omega),zF (by simp [h3]),zF (by rintro ⟨a,b⟩;exact b (h4 a)),zF (by simp [h5]),zF (by simp [h6])]
theorem qvw {k:Int} (h:k=3∨k=9∨k=11∨k=12):okS (sg k):=by rcases h with h | h | h | h<;>subst h<;>exact ⟨by decide,by decide⟩
theorem q5v {n:Int} (h:2<=n/\n<=4):okS (zac 10 n):=
 ⟨qv3 (show (1:Int)<=10 by decide) (show (10:Int)<=12 by decide) (by simp [qnm,zac]) (fun h=>absurd h (show (10:Int)≠5 by decide)) (by simp [qd0,zac];omega) rfl,show (10:Int)≠4 by decide⟩
theorem zdh {a b c d:Int} {st:Bool} (h:qcb a b c d=0):okS (q99 a b c d st):=
 ⟨qv3 (show (1:Int)<=5 by decide) (show (5:Int)<=12 by decide) (by simp [qnm,q99]) (fun _=>h) (by simp [qd0,q99]) rfl,show (5:Int)≠4 by decide⟩
theorem zxb {i:Int} (h:0<=i):0<=Int.tmod i 9/\Int.tmod i 9<9:=⟨Int.tmod_nonneg _ h,Int.tmod_lt_of_pos _ (by decide)⟩
theorem zdx {n:Int} (h:0<=n):2<=za7 n/\za7 n<=6:=by
 have h1:0<=Int.tmod n 8:=Int.tmod_nonneg _ h
 have h2:Int.tmod n 8<8:=Int.tmod_lt_of_pos _ (by decide)
 unfold za7
 generalize Int.tmod n 8=k at *
 have:k=0∨k=1∨k=2∨k=3∨k=4∨k=5∨k=6∨k=7:=by omega
 rcases this with h | h | h | h | h | h | h | h<;>subst h<;>decide
theorem zdl {v p:Int} {c:Bool} (hv:2<=v/\v<=6) (hp:0<=p/\p<9):okS (Sign.mk 1 v p 0 c 0 false false 0 0 0 0 false 0 0 0 0):=
 ⟨qv3 (show (1:Int)<=1 by decide) (show (1:Int)<=12 by decide) (by simp [qnm]) (fun h=>absurd h (show (1:Int)≠5 by decide)) (by simp [qd0];omega) rfl,show (1:Int)≠4 by decide⟩
theorem zqc {v:Int} (hv:2<=v/\v<=6):okS (Sign.mk 2 v 0 0 false 0 false false 0 0 0 0 false 0 0 0 0):=
 ⟨qv3 (show (1:Int)<=2 by decide) (show (2:Int)<=12 by decide) (by simp [qnm]) (fun h=>absurd h (show (2:Int)≠5 by decide)) (by simp [qd0];omega) rfl,show (2:Int)≠4 by decide⟩
theorem zqe {n i:Int} (hn:0<=n) (hi:0<=i):okS (qn2 n i):=by
 have hv:=zdx hn
 have hp:=zxb hi
 unfold qn2
 split
 .exact zqc hv
 .split
  .exact zdl hv hp
  .exact zdl hv hp
theorem qi7 {P:Sign->Prop} {l:List Sign} {s:Sign} (h:∀ x ∈ l,P x) (hs:P s):∀ x ∈ l++[s],P x:=fun x hx=>(List.mem_append.1 hx).elim (h x) fun hx=>by rw [List.mem_singleton.1 hx];exact hs
theorem zmh {a b c d m:Int} {l:List Int}:∀ (k:Nat) (i:Int) (o:List Sign),(ln l-i).toNat=k->0<=i->(∀ s ∈ o,okS s)->ln o<=m->(∀ s ∈ qph a b c d l m i o,okS s)/\ln (qph a b c d l m i o)<=m:=by
 intro k
 induction k with
 | zero=>intro i o hk hi ho hm;rw [q4j (.inl (by omega))];exact ⟨ho,hm⟩
 | succ k ih=>
  intro i o hk hi ho hm
  by_cases hc:ln o<m
  .rw [qy2 (by omega) hc]
   have hs:=zqe (qrr (a:=ix l i) (b:=504) (by decide)).1 hi
   refine ih (i+1) _ (by omega) (by omega) ?_ ?_
   .unfold qos;split
    .exact qi7 (qi7 ho hs) (qvw (.inl rfl))
    .exact qi7 ho hs
   .unfold qos;split
    .rename_i hd
     rw [qaf,qaf];have:=hd.2.1;omega
    .rw [qaf];omega
  .rw [q4j (.inr (by omega))];exact ⟨ho,hm⟩
theorem zdv (a b c d:Int) (l:List Int) {m:Int} (hm:0<=m):(∀ s ∈ qey a b c d l m,okS s)/\ln (qey a b c d l m)<=m:=zmh _ 0 [] rfl (zK _) (fun _ h=>by cases h) hm
theorem zin {a b c d n i:Int} {o:List Sign} {p:Bool} (hm:qcb a b c d=0) (hi:0<=i) (ho:∀ s ∈ o,okS s):(∀ s ∈ (qa2 a b c d n i o p).1,okS s)/\ln (qa2 a b c d n i o p).1<=ln o+1/\ln o<=ln (qa2 a b c d n i o p).1:=by
 have h3:0<=Int.tmod i 3/\Int.tmod i 3<3:=⟨Int.tmod_nonneg _ hi,Int.tmod_lt_of_pos _ (by decide)⟩
 have one:∀ {s:Sign},okS s->(∀ x ∈ o++[s],okS x)/\ln (o++[s])<=ln o+1/\ln o<=ln (o++[s]):=fun hs=>⟨qi7 ho hs,by rw [qaf];omega,by rw [qaf];omega⟩
 unfold qa2
 split
 .exact one (qvw (.inr (.inr (.inl rfl))))
 split
 .exact one (qvw (.inr (.inr (.inr rfl))))
 split
 .exact one (qvw (.inr (.inl rfl)))
 split
 .exact one (q5v (by omega))
 split
 .exact one (zdh hm)
 split
 .exact one ⟨by decide,by decide⟩
 .exact ⟨ho,by show ln o<=_;omega,zK _⟩
theorem q64 {a b c d i:Int} {g:List Int} {s:Sign} {x:List Sign×Bool} (hm:qcb a b c d=0) (hi:0<=i) (hs:okS s) (ho:∀ s ∈ x.1,okS s):(∀ y ∈ (qjl a b c d g s i x).1,okS y)/\ln (qjl a b c d g s i x).1<=ln x.1+2:=by
 unfold qjl
 by_cases hk:s.Kind=3
 .rw [zT hk];exact ⟨qi7 ho hs,by show ln (x.1++[s])<=_;rw [qaf];omega⟩
 .rw [zF hk]
  have h:=zin (n:=qbv (Int.tdiv (atI g i) 7) 23) (p:=x.2) hm hi ho
  refine ⟨qi7 h.1 hs,?_⟩
  show ln (_++[s])<=_
  rw [qaf];omega
theorem zf2 {a b c d:Int} {g:List Int} {l:List Sign} (hm:qcb a b c d=0) (hl:∀ s ∈ l,okS s):∀ (k:Nat) (i:Int) (x:List Sign×Bool),(ln l-i).toNat=k->0<=i->i<=ln l->(∀ s ∈ x.1,okS s)->ln x.1<=2+2 * i->
  (∀ s ∈ (qh3 a b c d g l i x).1,okS s)/\ln (qh3 a b c d g l i x).1<=2+2 * ln l:=by
 intro k
 induction k with
 | zero=>intro i x hk hi hi' ho hb;rw [qyj (by omega)];exact ⟨ho,by omega⟩
 | succ k ih=>
  intro i x hk hi hi' ho hb
  rw [qs8 (by omega)]
  have h:=q64 (g:=g) (s:=ix l i) hm hi (hl _ (qh0 hi (by omega))) ho
  exact ih (i+1) _ (by omega) (by omega) (by omega) h.1 (by omega)
theorem zkh {a b c d m:Int} {g:List Int} (hm:qcb a b c d=0) (h0:0<=m) (h30:m<=30):(∀ s ∈ qkg a b c d g m,okS s)/\ln (qkg a b c d g m)<=63:=by
 have hr:=zdv a b c d g h0
 have h:=zf2 (g:=g) hm hr.1 _ 0 ([zuo,q99 a b c d false],false) rfl (zK _) (qu _) (fun s hs=>by
  rcases zD.1 hs with hs | hs
  .rw [hs];exact ⟨by decide,by decide⟩
  .rw [List.mem_singleton.1 hs];exact zdh hm) (zK _)
 unfold qkg q26
 split
 .refine ⟨qi7 h.1 (q5v (by decide)),?_⟩
  rw [qaf];have:=h.2;show ln (qh3 _ _ _ _ _ _ _ _).1+1<=63;omega
 .refine ⟨h.1,?_⟩
  have:=h.2;show ln (qh3 _ _ _ _ _ _ _ _).1<=63;omega
theorem zpi (n:Int):qcb (qux n) (quy n) (qu0 n) (quz n)=0:=by
 have h:=qrr (a:=n) (show (0:Int)<16 by decide)
 refine zT ?_
 generalize he:qbv n 16=k at h
 have hk:k=0∨k=1∨k=2∨k=3∨k=4∨k=5∨k=6∨k=7∨k=8∨k=9∨k=10∨k=11∨k=12∨k=13∨k=14∨k=15:=by omega
 unfold qux quy qu0 quz
 rw [he]
 rcases hk with hk | hk | hk | hk | hk | hk | hk | hk | hk | hk | hk | hk | hk | hk | hk | hk<;>subst hk<;>decide
theorem q7q (g:List Int):(∀ s ∈ q7p g,okS s)/\ln (q7p g)<=63:=zkh (zpi _) (by decide) (by decide)
theorem ziu {l:List Sign} (h:∀ s ∈ l,okS s):∀ (k:Nat) (i:Int),(ln l-i).toNat=k->0<=i->qht l i=(0,0):=by
 intro k
 induction k with
 | zero=>intro i hk hi;exact q25 (by omega)
 | succ k ih=>
  intro i hk hi
  have hs:=h _ (qh0 hi (show i<ln l by omega))
  have he:qnb l i=0:=by
   unfold qnb
   rw [zF (by rw [hs.1];simp),zF (fun hb=>hs.2 hb.1)]
  rw [qw9 (by omega) he]
  exact ih (i+1) (by omega) (by omega)
theorem zam:qae qf5=true:=by decide
theorem zan (g:List Int):(zk qf5 (q7p g)).1=0:=by
 have h:=q7q g
 rw [zk,zF (by rw [zam];simp),zF (by omega),ziu h.1 _ 0 rfl (zK _)]
theorem zrq (a0 a1:Int) (hp:I64 a0/\(1:Int)<=a1/\(a1:Int)<=1048576):zhv a0 a1:=by
 obtain ⟨h0,h1,h2⟩:=hp
 have:=q8k (a:=a0) (b:=a1) (by omega)
 refine ⟨fun h=>by omega,fun _=>⟨by omega,fun h=>⟨⟨by omega,by omega⟩,?_,trivial⟩,fun h=>⟨?_,trivial⟩⟩⟩
 .unfold qbv;rw [zF (by omega),zT h]
 .unfold qbv;rw [zF (by omega),zF (by omega)]
theorem zrm (a0:List Int) (a1:Int) (_:ln a0<=9223372036854775807):q8q a0 a1:=by
 unfold q8q
 refine ⟨fun h=>⟨?_,trivial⟩,fun h=>⟨fun h'=>⟨?_,trivial⟩,fun h'=>⟨⟨h,h'⟩,?_,trivial⟩⟩⟩
 .unfold atI;rw [zT (.inl h)]
 .unfold atI;rw [zT (.inr h')]
 .unfold atI;rw [zF (by omega)]
theorem qr3 {a b:Int} (ha:0<=a) (hb:0<b):0<=Int.tdiv a b/\Int.tdiv a b<=a:=by
 rw [Int.tdiv_eq_ediv_of_nonneg ha]
 exact ⟨Int.ediv_nonneg ha (by omega),Int.ediv_le_self b ha⟩
theorem qr5 {a b:Int} (ha:0<=a) (hb:0<b):0<=Int.tmod a b/\Int.tmod a b<b:=⟨Int.tmod_nonneg _ ha,Int.tmod_lt_of_pos a hb⟩
theorem zht (a0:Int) (hp:I64 a0):q44 a0:=by
 have h:=qrr (a:=a0) (b:=16) (by decide)
 have h8:=qr3 h.1 (show (0:Int)<8 by decide)
 have h4:=qr3 h.1 (show (0:Int)<4 by decide)
 have h2:=qr3 h.1 (show (0:Int)<2 by decide)
 have m4:=qr5 h4.1 (show (0:Int)<2 by decide)
 have m2:=qr5 h2.1 (show (0:Int)<2 by decide)
 have m1:=qr5 h.1 (show (0:Int)<2 by decide)
 exact ⟨⟨hp,by decide,by decide⟩,⟨by decide,by omega,by omega⟩,⟨by omega,by omega⟩,⟨by decide,by omega,by omega⟩,by decide,⟨by omega,by omega⟩,⟨by decide,by omega,by omega⟩,by decide,⟨by omega,by omega⟩,by decide,⟨by omega,by omega⟩,rfl,rfl,rfl,rfl,trivial⟩
theorem zhm (a0 a1 a2 a3 a4:Int) (hp:(0:Int)<=a4/\(a4:Int)<=100):qwc a0 a1 a2 a3 a4:=by
 unfold qwc qk8
 refine ⟨⟨by omega,by omega,by omega,by omega,by omega,by omega⟩,fun x ⟨⟨h1,h1',h3,h4,h5,h6⟩⟩=>⟨fun h=>?_,fun h=>⟨?_,trivial⟩⟩⟩
 .have ms:jl a0 a1 a2 a3 a4 (x+1)<jl a0 a1 a2 a3 a4 x:=by simp only [jl];omega
  refine ⟨fun e=>⟨fun e'=>⟨?_,trivial⟩,fun e'=>⟨⟨by omega,by omega⟩,rfl,rfl,rfl,rfl,⟨by omega,by omega,by omega,by omega,by omega,by omega⟩,ms⟩⟩,fun e=>⟨fun f=>⟨fun e'=>⟨?_,trivial⟩,fun e'=>⟨⟨by omega,by omega⟩,rfl,rfl,rfl,rfl,⟨by omega,by omega,by omega,by omega,by omega,by omega⟩,ms⟩⟩,
   fun f=>⟨fun g=>⟨fun e'=>⟨?_,trivial⟩,fun e'=>⟨⟨by omega,by omega⟩,rfl,rfl,rfl,rfl,⟨by omega,by omega,by omega,by omega,by omega,by omega⟩,ms⟩⟩,fun g=>⟨fun k=>⟨fun e'=>⟨?_,trivial⟩,fun e'=>⟨⟨by omega,by omega⟩,rfl,rfl,rfl,rfl,⟨by omega,by omega,by omega,by omega,by omega,by omega⟩,ms⟩⟩,
    fun k=>⟨⟨by omega,by omega⟩,rfl,rfl,rfl,rfl,⟨by omega,by omega,by omega,by omega,by omega,by omega⟩,ms⟩⟩⟩⟩⟩
  all_goals (simp only [qco,Bool.or_eq_true,zA,decide_eq_true_eq,eq_comm (a:=true)];omega)
 .simp only [qco,eq_comm (a:=false),Bool.or_eq_false_iff,Bool.and_eq_false_iff,decide_eq_false_iff_not]
  omega
section
variable {a b c d m i:Int} {l:List Int} {o:List Sign} {s:Sign}
theorem zqf (h:z6 a b c d l m o i) (hi:i<ln l) (ho:ln o<m) (hm:m<=30) (hs:qn2 (qbv (ix l i) 504) i=s) (h1:Int.tdiv (qbv (ix l i) 504) 72=0) (h2:ln (o++[s])<m) (h3:s.Kind=1∨qco a b c d s.Value=true) :
  z6 a b c d l m ((o++[s])++[sg 3]) (i+1):=by
 obtain ⟨h0,hl,_,e⟩:=h
 rw [qaf] at h2
 refine ⟨by omega,by omega,by rw [qaf,qaf];omega,?_⟩
 rw [qy2 hi ho,qos,zT ⟨h1,h2,by rw [hs];exact h3⟩,hs] at e
 exact e
theorem zqg (h:z6 a b c d l m o i) (hi:i<ln l) (ho:ln o<m) (hm:m<=30) (hs:qn2 (qbv (ix l i) 504) i=s) (h1:Int.tdiv (qbv (ix l i) 504) 72≠0∨m<=ln (o++[s])∨(s.Kind≠1/\qco a b c d s.Value=false)) :
  z6 a b c d l m (o++[s]) (i+1):=by
 obtain ⟨h0,hl,_,e⟩:=h
 rw [qaf] at h1
 refine ⟨by omega,by omega,by rw [qaf];omega,?_⟩
 rw [qy2 hi ho,qos,zF,hs] at e
 .exact e
 .rintro ⟨q1,q2,q3⟩
  rw [hs] at q3
  rcases h1 with h1 | h1 | ⟨h1,h2⟩
  .exact h1 q1
  .omega
  .rcases q3 with q3 | q3
   .exact h1 q3
   .rw [h2] at q3;cases q3
theorem zdw {n:Int} (h:Int.tmod (Int.tdiv n 8) 9=0):qn2 n i=Sign.mk 2 (ix ([3,4,4,5,5,3,2,6]:List Int) (Int.tmod n 8)) 0 0 false 0 false false 0 0 0 0 false 0 0 0 0:=zT h
theorem zmi {n:Int} (h:Int.tmod (Int.tdiv n 8) 9=1):qn2 n i=Sign.mk 1 (ix ([3,4,4,5,5,3,2,6]:List Int) (Int.tmod n 8)) (Int.tmod i 9) 0 true 0 false false 0 0 0 0 false 0 0 0 0:=by
 have e:q70 n=1:=h
 rw [qn2,zF (by omega),zT (.inl e)];rfl
theorem zmj {n:Int} (h:Int.tmod (Int.tdiv n 8) 9=2):qn2 n i=Sign.mk 1 (ix ([3,4,4,5,5,3,2,6]:List Int) (Int.tmod n 8)) (Int.tmod i 9) 0 true 0 false false 0 0 0 0 false 0 0 0 0:=by
 have e:q70 n=2:=h
 rw [qn2,zF (by omega),zT (.inr e)];rfl
theorem zmk {n:Int} (h0:Int.tmod (Int.tdiv n 8) 9≠0) (h1:Int.tmod (Int.tdiv n 8) 9≠1) (h2:Int.tmod (Int.tdiv n 8) 9≠2):qn2 n i=Sign.mk 1 (ix ([3,4,4,5,5,3,2,6]:List Int) (Int.tmod n 8)) (Int.tmod i 9) 0 false 0 false false 0 0 0 0 false 0 0 0 0:=by
 have e0:q70 n≠0:=h0
 have e1:¬ (q70 n=1∨q70 n=2):=fun h=>h.elim h1 h2
 rw [qn2,zF e0,zF e1];rfl
theorem ztz (h:z6 a b c d l m o i) (hi:i<ln l) {o':List Sign}:zb a b c d l m o' (i+1)<zb a b c d l m o i:=by
 obtain ⟨h0,-⟩:=h
 simp only [zb];omega
end
set_option maxHeartbeats 4000000 in
theorem znu (a0 a1 a2 a3:Int) (a4:List Int) (a5:Int) (hp:ln a4<=9223372036854775807/\qnh a4/\(a5:Int)<=30/\(0:Int)<=a5):q2t a0 a1 a2 a3 a4 a5:=by
 obtain ⟨hp1,hp2,h30,h0⟩:=hp
 unfold q2t qd2
 dsimp only
 have hn:=qu a4
 refine ⟨trivial,trivial,trivial,trivial,trivial,trivial,trivial,trivial,⟨zK _,hn,by show (0:Int)<=30;decide,rfl⟩,fun x0 x1 hi=>?_⟩
 obtain ⟨i0,i1,i2,i3⟩:=id hi
 have hn0:=qu x0
 have hL:ln ([3,4,4,5,5,3,2,6]:List Int)=8:=rfl
 have hM:=qrr (a:=ix a4 x1) (b:=504) (by decide)
 have hI:x1<ln a4->I64 (ix a4 x1):=fun h=>hp2.2 _ (qh0 i0 h)
 have hS:∀ s:Sign,qh (x0.length + [s].length):=fun s=>qhh (by omega)
 have hS2:∀ s t:Sign,qh ((x0++[s]).length + [t].length):=fun s t=>qhh (by rw [qaf];omega)
 have hV:=zdx hM.1
 unfold za7 at hV
 have h8:=qr5 hM.1 (show (0:Int)<8 by decide)
 have d8:=qr3 hM.1 (show (0:Int)<8 by decide)
 have d72:=qr3 hM.1 (show (0:Int)<72 by decide)
 rw [hL]
 have one:∀ {s:Sign},ln x0<a5->x1<ln a4->qn2 (qbv (ix a4 x1) 504) x1=s->(Int.tdiv (qbv (ix a4 x1) 504) 72≠0∨a5<=ln (x0++[s])∨(s.Kind≠1/\qco a0 a1 a2 a3 s.Value=false))->z6 a0 a1 a2 a3 a4 a5 (x0++[s]) (x1+1):=fun h1 h2 h3 h4=>zqg hi h2 h1 h30 h3 h4
 have two:∀ {s:Sign},ln x0<a5->x1<ln a4->qn2 (qbv (ix a4 x1) 504) x1=s->Int.tdiv (qbv (ix a4 x1) 504) 72=0->ln (x0++[s])<a5->(s.Kind=1∨qco a0 a1 a2 a3 s.Value=true)->z6 a0 a1 a2 a3 a4 a5 ((x0++[s])++[sg 3]) (x1+1):=fun h1 h2 h3 h4 h5 h6=>zqf hi h2 h1 h30 h3 h4 h5 h6
 have en:ln a4<=x1∨a5<=ln x0->x0=qey a0 a1 a2 a3 a4 a5:=fun h=>by rw [q4j h] at i3;exact i3
 have ms:∀ {o:List Sign},x1<ln a4->zb a0 a1 a2 a3 a4 a5 o (x1+1)<zb a0 a1 a2 a3 a4 a5 x0 x1:=fun h=>ztz hi h
 unhygienic (repeat' (first | exact trivial | apply And.intro | (intro;intros)))
 all_goals first
  | rfl
  | omega
  | exact hS _
  | exact hS2 _ _
  | exact ms ‹_›
  | exact en (.inl ‹_›)
  | exact en (.inr ‹_›)
  | exact hI ‹_›
  | exact one ‹_› ‹_› (zdw ‹_›) (.inl ‹_›)
  | exact one ‹_› ‹_› (zdw ‹_›) (.inr (.inl ‹_›))
  | exact one ‹_› ‹_› (zdw ‹_›) (.inr (.inr ⟨(show (2:Int)≠1 by decide),by assumption⟩))
  | exact one ‹_› ‹_› (zmi ‹_›) (.inl ‹_›)
  | exact one ‹_› ‹_› (zmi ‹_›) (.inr (.inl ‹_›))
  | exact one ‹_› ‹_› (zmj ‹_›) (.inl ‹_›)
  | exact one ‹_› ‹_› (zmj ‹_›) (.inr (.inl ‹_›))
  | exact one ‹_› ‹_› (zmk ‹_› ‹_› ‹_›) (.inl ‹_›)
  | exact one ‹_› ‹_› (zmk ‹_› ‹_› ‹_›) (.inr (.inl ‹_›))
  | exact two ‹_› ‹_› (zdw ‹_›) ‹_› ‹_› (.inr ‹_›)
  | exact two ‹_› ‹_› (zmi ‹_›) ‹_› ‹_› (.inl rfl)
  | exact two ‹_› ‹_› (zmj ‹_›) ‹_› ‹_› (.inl rfl)
  | exact two ‹_› ‹_› (zmk ‹_› ‹_› ‹_›) ‹_› ‹_› (.inl rfl)
  | skip
section
variable {a b c d m i n:Int} {l:List Int} {o o':List Sign} {p p':Bool}
theorem A0 (h:n=0):qa2 a b c d n i o p=(o++[sg 11],p):=zT h
theorem A1 (h:n=1):qa2 a b c d n i o p=(o++[sg 12],p):=by rw [qa2,zF (by omega),zT h]
theorem A2 (h:n=2) (hp:p=false):qa2 a b c d n i o p=(o++[sg 9],true):=by rw [qa2,zF (by omega),zF (by omega),zT ⟨h,hp⟩]
theorem A3 (h:2<=n) (h6:n<6) (hp:p=true):qa2 a b c d n i o p=(o++[zac 10 (2+Int.tmod i 3)],false):=by
 rw [qa2,zF (by omega),zF (by omega),zF (by rw [hp];simp),zT ⟨h6,hp⟩]
theorem A4 (h:n=6) (hp:p=false):qa2 a b c d n i o p=(o++[q99 a b c d (decide (Int.tmod i 2=0))],p):=by
 rw [qa2,zF (by omega),zF (by omega),zF (by omega),zF (by omega),zT ⟨h,hp⟩]
theorem A5 (h:n=7) (hp:p=false):qa2 a b c d n i o p=(o++[zvz 3 2],p):=by
 rw [qa2,zF (by omega),zF (by omega),zF (by omega),zF (by omega),zF (by omega),zT ⟨h,hp⟩]
theorem A6 (h:6<=n) (hp:p=true):qa2 a b c d n i o p=(o,p):=by
 rw [qa2,zF (by omega),zF (by omega),zF (by omega),zF (by omega),zF (by rw [hp];simp),zF (by rw [hp];simp)]
theorem A7 (h:2<n) (h6:n≠6) (h7:n≠7) (hp:p=false):qa2 a b c d n i o p=(o,p):=by
 rw [qa2,zF (by omega),zF (by omega),zF (by omega),zF (by rw [hp];simp),zF (by omega),zF (by omega)]
theorem A8 (h:8<=n):qa2 a b c d n i o p=(o,p):=by
 rw [qa2,zF (by omega),zF (by omega),zF (by omega),zF (by omega),zF (by omega),zF (by omega)]
theorem zdb {q:List Sign×Bool} (h:zi a b c d l m o p i) (hi:i<ln (qey a b c d l m)) (hk:(ix (qey a b c d l m) i).Kind≠3) (ha:qa2 a b c d (qbv (Int.tdiv (atI l i) 7) 23) i o p=q) (hl:ln q.1<=ln o+1) :
  zi a b c d l m (q.1++[ix (qey a b c d l m) i]) q.2 (i+1):=by
 obtain ⟨h0,h1,h2,e⟩:=h
 refine ⟨by omega,by omega,by rw [qaf];omega,?_⟩
 rw [qs8 hi,qjl,zF hk,ha] at e
 exact e
theorem zki (h:zi a b c d l m o p i) (hi:i<ln (qey a b c d l m)) (hk:(ix (qey a b c d l m) i).Kind=3):zi a b c d l m (o++[ix (qey a b c d l m) i]) p (i+1):=by
 obtain ⟨h0,h1,h2,e⟩:=h
 refine ⟨by omega,by omega,by rw [qaf];omega,?_⟩
 rw [qs8 hi,qjl,zT hk] at e
 exact e
end
theorem zrw {l:List Int} {i:Int} (h:qnh l):I64 (atI l i):=by
 unfold atI
 split
 .exact ⟨by decide,by decide⟩
 .exact h.2 _ (qh0 (by omega) (by omega))
theorem zwp {x:Int} (h:I64 x):I64 (Int.tdiv x 7):=by
 obtain ⟨h0,h1⟩:=h
 by_cases hx:0<=x
 .rw [Int.tdiv_eq_ediv_of_nonneg hx];exact ⟨by omega,by omega⟩
 .have:Int.tdiv x 7 = -((-x) / 7):=by rw [<-Int.tdiv_eq_ediv_of_nonneg (by omega),Int.neg_tdiv,Int.neg_neg]
  rw [this];exact ⟨by omega,by omega⟩
set_option maxHeartbeats 4000000 in
theorem zhq (a0 a1 a2 a3:Int) (a4:List Int) (a5:Int) (hp:ln a4<=9223372036854775807/\qnh a4/\(a5:Int)<=30/\(0:Int)<=a5):qwf a0 a1 a2 a3 a4 a5:=by
 obtain ⟨hp1,hp2,h30,h0⟩:=id hp
 unfold qwf qad
 dsimp only
 have hr:=(zdv a0 a1 a2 a3 a4 h0).2
 have hn:=qu (qey a0 a1 a2 a3 a4 a5)
 refine ⟨trivial,trivial,hp,⟨zK _,hn,(show (2:Int)<=2+2 * 0 by decide),rfl⟩,fun x0 x1 x2 hi=>?_⟩
 obtain ⟨i0,i1,i2,i3⟩:=id hi
 have hn0:=qu x0
 have hM:=qrr (a:=Int.tdiv (atI a4 x2) 7) (b:=23) (by decide)
 have hI:=zwp (zrw (i:=x2) hp2)
 have hS:∀ s:Sign,qh (x0.length + [s].length):=fun s=>qhh (by omega)
 have hS2:∀ s t:Sign,qh ((x0++[s]).length + [t].length):=fun s t=>qhh (by rw [qaf];omega)
 have h3:=qr5 i0 (show (0:Int)<3 by decide)
 have go1:∀ {s:Sign} {q:Bool},x2<ln (qey a0 a1 a2 a3 a4 a5)->(ix (qey a0 a1 a2 a3 a4 a5) x2).Kind≠3->qa2 a0 a1 a2 a3 (qbv (Int.tdiv (atI a4 x2) 7) 23) x2 x0 x1=(x0++[s],q)->zi a0 a1 a2 a3 a4 a5 ((x0++[s])++[ix (qey a0 a1 a2 a3 a4 a5) x2]) q (x2+1):=
  fun h1 h2 h3=>zdb hi h1 h2 h3 (by rw [qaf];exact zK _)
 have go0:x2<ln (qey a0 a1 a2 a3 a4 a5)->(ix (qey a0 a1 a2 a3 a4 a5) x2).Kind≠3->qa2 a0 a1 a2 a3 (qbv (Int.tdiv (atI a4 x2) 7) 23) x2 x0 x1=(x0,x1)->zi a0 a1 a2 a3 a4 a5 (x0++[ix (qey a0 a1 a2 a3 a4 a5) x2]) x1 (x2+1):=
  fun h1 h2 h3=>zdb hi h1 h2 h3 (by show ln x0<=_;omega)
 have ms:∀ {o:List Sign} {q:Bool},x2<ln (qey a0 a1 a2 a3 a4 a5)->ql a0 a1 a2 a3 a4 a5 o q (x2+1)<ql a0 a1 a2 a3 a4 a5 x0 x1 x2:=fun h=>by simp only [ql];omega
 have dt:x2<ln (qey a0 a1 a2 a3 a4 a5)->(ix (qey a0 a1 a2 a3 a4 a5) x2).Kind=3->zi a0 a1 a2 a3 a4 a5 (x0++[ix (qey a0 a1 a2 a3 a4 a5) x2]) x1 (x2+1):=zki hi
 have e1:ln (qey a0 a1 a2 a3 a4 a5)<=x2->x1=true->x0++[zac 10 2]=qkg a0 a1 a2 a3 a4 a5:=fun h q=>by
  rw [qyj h] at i3;rw [qkg,<-i3,q26,zT q]
 have e0:ln (qey a0 a1 a2 a3 a4 a5)<=x2->x1=false->x0=qkg a0 a1 a2 a3 a4 a5:=fun h q=>by
  rw [qyj h] at i3;rw [qkg,<-i3,q26,zF (by rw [q];simp)]
 unhygienic (repeat' (first | exact trivial | apply And.intro | (intro;intros)))
 all_goals first
  | omega
  | exact hS _
  | exact hS2 _ _
  | exact ms ‹_›
  | exact hp2
  | exact hI
  | exact dt ‹_› ‹_›
  | exact go1 ‹_› ‹_› (A0 ‹_›)
  | exact go1 ‹_› ‹_› (A1 ‹_›)
  | exact go1 ‹_› ‹_› (A2 ‹_› ‹_›)
  | exact go1 ‹_› ‹_› (A3 (by omega) ‹_› ‹_›)
  | exact go1 ‹_› ‹_› (A4 ‹_› ‹_›)
  | exact go1 ‹_› ‹_› (A5 ‹_› ‹_›)
  | exact go0 ‹_› ‹_› (A6 (by omega) ‹_›)
  | exact go0 ‹_› ‹_› (A7 (by omega) (by omega) (by omega) ‹_›)
  | exact go0 ‹_› ‹_› (A8 (by omega))
  | exact e1 ‹_› ‹_›
  | exact e0 ‹_› ‹_›
  | rfl
  | skip
theorem qzq (a0:ZB) (a1:Int) (_:U8 a1):qo1 a0 a1:=⟨trivial,rfl,trivial⟩
theorem qy4 (n:ZB) (l:List Sign):jd n l n l=true:=decide_eq_true ⟨rfl,rfl⟩
theorem zp3 (g:List Int):qkg (qux (ln g)) (quy (ln g)) (qu0 (ln g)) (quz (ln g)) g 30=q7p g:=rfl
theorem zd7 {nm:ZB} {l:List Sign} (h:(zk nm l).1=0):ln (qbl nm l).1<=20000:=by
 obtain ⟨hn,h400,hl⟩:=qw8 h
 have h1:=zbo hl l.length (zN _)
 have h2:=(ql4 hn).2
 have h3:(l.length:Int)<=400:=h400
 have h4:ln ([112,97,114,116,32]:ZB)=5:=rfl
 have h5:ln ([10,101,110,100,10]:ZB)=5:=rfl
 have eN:(ln l).toNat=l.length:=by simp [ln]
 rw [(qtv h).1,eN]
 show ln _<=_
 rw [zv,zv,zv,h4,h5];omega
theorem zhi {s:Sign} (h:(qb1 s).2=0):kf s=0:=by
 by_cases ho:kf s=0
 .exact ho
 .rw [qzj ho] at h;exact h
set_option maxHeartbeats 4000000 in
theorem q94 (a0 a1 a2 a3:Int) (a4:Bool) (a5:Int) (a6 a7:Bool) (a8 a9 a10 a11:Int) (a12:Bool) (a13 a14 a15 a16:Int) (a17:List Int) (a18 a19:ZB) (hp:qnh a17/\ln a18<=9223372036854775807/\ln a19<=9223372036854775807) :
  qp5 a0 a1 a2 a3 a4 a5 a6 a7 a8 a9 a10 a11 a12 a13 a14 a15 a16 a17 a18 a19:=by
 obtain ⟨hp1,hp2,hp3⟩:=hp
 unfold qp5
 dsimp only
 have hA:∀ s:Sign,(qb1 s).2=0->ln (qb1 s).1<=1000/\qo (qb1 s).1=(s,0)/\(qb1 s).1≠[]:=by
  intro s h
  have ho:=zhi h
  rw [qlm ho,qy7]
  exact ⟨by have:=qox ho;show ln (k8 s)<=1000;omega,qt1 ho,(qn9 ho).1⟩
 have hB:(qo a18).2=0->qb1 (qo a18).1=(a18,0):=by
  intro h
  rw [qy7] at h ⊢
  obtain ⟨ho,hw⟩:=zg1 (w:=a18) (s:=(qjw a18).1) (Prod.ext rfl h)
  rw [qlm ho,hw]
 have hC:=zan a17
 have hT:=qtv hC
 have hL:=(q7q a17).2
 have hN:ln qf5<=1000:=by decide
 have hTL:=zd7 hC
 have hD:(ze a19).2.1=0->(zk (ze a19).1.1 (ze a19).1.2).1=0:=zgo
 have hE:(ze a19).2.1=0->ln (ze a19).1.1<=1000/\ln (ze a19).1.2<=1000/\(qbl (ze a19).1.1 (ze a19).1.2).2=0/\ze (qbl (ze a19).1.1 (ze a19).1.2).1=(((ze a19).1.1,(ze a19).1.2),(0,0))/\ln (qbl (ze a19).1.1 (ze a19).1.2).1<=20000:=by
  intro h
  have h1:=hD h
  have h2:=qw8 h1
  have h3:=qtv h1
  exact ⟨by have:=(ql4 h2.1).2;omega,by omega,by rw [h3.1],h3.2,zd7 h1⟩
 have hS:=hA (Sign.mk a0 a1 a2 a3 a4 a5 a6 a7 a8 a9 a10 a11 a12 a13 a14 a15 a16)
 refine ⟨trivial,trivial,⟨⟨fun h=>?_,fun h=>?_⟩,fun _=>⟨fun _=>⟨rfl,trivial⟩,fun _=>⟨fun _=>⟨rfl,trivial⟩,fun _=>⟨?_,⟨⟨fun h=>?_,fun h=>?_⟩,fun _=>?_⟩⟩⟩⟩⟩⟩
 .obtain ⟨q1,q2,q3⟩:=hS h
  simp only [q2]
  simp [q1,q3,qdt,ql0]
 .simp [qdt,ql0]
 .omega
 .have q:=hB h
  simp only [q]
  simp [qdu,ql1]
 .simp [qdu,ql1]
 .have hn:=qu a17
  refine ⟨⟨by omega,hp1.1⟩,⟨hp1.1,hp1,by decide,by decide⟩,?_⟩
  rw [zp3]
  refine ⟨⟨hN,by omega⟩,by omega,?_⟩
  rw [hT.2,show (qbl qf5 (q7p a17)).2=0 by rw [hT.1]]
  refine ⟨fun h=>absurd rfl h,fun _=>⟨fun h=>absurd rfl h,fun _=>⟨by omega,fun h=>?_,fun _=>⟨by omega,fun _=>⟨rfl,trivial⟩,fun h=>?_⟩⟩⟩⟩
  .rw [qy4] at h;cases h
  .obtain ⟨q1,q2,q3,q4,q5⟩:=hE h
   rw [q3,q4]
   refine ⟨⟨q1,q2⟩,by omega,fun _=>⟨fun _=>⟨fun _=>⟨by omega,qy4 _ _,trivial⟩,fun h=>absurd rfl h⟩,fun h=>absurd rfl h⟩,fun h=>by cases h⟩
end Go.Proofs.YtbopmiclcimjgaaGreatDoor
