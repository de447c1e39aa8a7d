/- THE CONDITIONS of the small functions on texts, numbers, mensurations hold. -/
import Derived.Test.YtbopmiclcimjgaaGreatDoorVcs
namespace Go.Proofs.YtbopmiclcimjgaaGreatDoor
open Go Go.E2 Go.E3
set_option maxRecDepth 100000
theorem zp5 (a:UInt8):ln [a]=1:=rfl
theorem q9o {s:ZB} (h:s≠[]):0<ln s:=by
 cases s with
 | nil=>exact absurd rfl h
 | cons a l=>simp only [ln,List.length_cons];omega
theorem q2c (a0 a1:ZB):qlg a0 a1:=by
 unfold qlg
 have:=qt a1
 refine ⟨fun h=>⟨⟨qt a1,h⟩,?_,trivial⟩,fun h=>⟨?_,trivial⟩⟩
 .simp only [preB,h,decide_true,Bool.true_and]
 .simp only [preB,show ¬ ln a1<=ln a0 by omega,decide_false,Bool.false_and]
theorem zp2 (x y:MapIS):q9n XK 24 1 x y=decide (x.key=y.key):=by
 show qgb [(.int .i64 none x.key:PV KT)] [.int .i64 none y.key]=_
 rw [Bool.eq_iff_iff]
 simp [qgb]
theorem qk4 (y:MapIS):qf5 [] y=y:=rfl
theorem qc3 (x:MapIS) (l:List MapIS) (y:MapIS):qf5 (x::l) y=bif decide (y.key=x.key) then x else qf5 l y:=by
 rw [<-zp2];rfl
theorem qtc (y:MapIS):qg8 [] y=[y]:=rfl
theorem qyk (x:MapIS) (l:List MapIS) (y:MapIS):qg8 (x::l) y=bif decide (y.key=x.key) then y::l else x::qg8 l y:=by
 rw [<-zp2];rfl
theorem znh (a:Int):(qf5 (qg8 (qg8 ([]:List MapIS) (MapIS.mk 2 ([50]:ZB))) (MapIS.mk 3 ([51]:ZB))) (MapIS.mk a ([]:ZB))).v=zep a:=by
 simp only [qtc,qyk,qk4,qc3,zep]
 by_cases h2:a=2
 .simp [h2,qc3]
 .by_cases h3:a=3
  .simp [h3,qc3]
  .simp [h2,h3,qc3,qk4]
theorem zpd (a:Int):(qf5 (qg8 (qg8 ([]:List MapIS) (MapIS.mk 2 ([67]:ZB))) (MapIS.mk 3 ([79]:ZB))) (MapIS.mk a ([]:ZB))).v=zl2 a:=by
 simp only [qtc,qyk,qk4,qc3,zl2]
 by_cases h2:a=2
 .simp [h2,qc3]
 .by_cases h3:a=3
  .simp [h3,qc3]
  .simp [h2,h3,qc3,qk4]
theorem zoy (a:Int):(qf5 (qg8 ([]:List MapIS) (MapIS.mk 3 ([46]:ZB))) (MapIS.mk a ([]:ZB))).v=zk1 a:=by
 simp only [qtc,qk4,qc3,zk1]
 by_cases h3:a=3
 .simp [h3]
 .simp [h3]
theorem qvp (a:Int):(zep a).length<=1:=by unfold zep;(repeat' split)<;>simp
theorem zdi (a:Int):(zl2 a).length<=1:=by unfold zl2;(repeat' split)<;>simp
theorem zc4 (a:Int):(zk1 a).length<=1:=by unfold zk1;(repeat' split)<;>simp
theorem zge (a0 a1 a2 a3:Int):qtk a0 a1 a2 a3:=by
 unfold qtk
 dsimp only
 simp only [znh,zpd,zoy,qh,List.length_append,List.length_nil]
 have h0:=qvp a0
 have h1:=qvp a1
 have h2:=zdi a2
 have h3:=zc4 a3
 unhygienic (repeat' (first | exact trivial | exact And.intro (by omega) trivial | apply And.intro | intro))
 all_goals first
  | omega
  | (simp_all [jr];done)
theorem zd6 (a0 a1 a2 a3:Int):qsb a0 a1 a2 a3:=by
 unfold qsb
 simp only [qki]
 unhygienic (repeat' (first | exact trivial | apply And.intro | intro))
 all_goals first
  | (simp_all;done)
  | (unfold qb5 at *;split<;>simp_all)
theorem zp1 (x y:MapSM):q9n XK 23 1 x y=decide (x.key=y.key):=by
 show qgb [(.str x.key:PV KT)] [.str y.key]=_
 rw [Bool.eq_iff_iff]
 simp [qgb]
theorem qxr (x:MapSM) (l:List MapSM) (y:MapSM):qkp (x::l) y=bif decide (y.key=x.key) then x else qkp l y:=by
 rw [<-zp1];rfl
theorem qxw (x:MapSM) (l:List MapSM) (y:MapSM):qxx (x::l) y=(decide (y.key=x.key) || qxx l y):=by
 rw [<-zp1];rfl
def q5n (m:M4):MapSM:=MapSM.mk (txM m) m.1 m.2.1 m.2.2.1 m.2.2.2
def mapM:List MapSM:=allM.map q5n
theorem ziv (s:ZB):∀ (l:List M4),qxx (l.map q5n) (MapSM.mk s 0 0 0 0)=decide ((qnk s l).2=0)/\
  ((qkp (l.map q5n) (MapSM.mk s 0 0 0 0)).vMax,(qkp (l.map q5n) (MapSM.mk s 0 0 0 0)).vMod,(qkp (l.map q5n) (MapSM.mk s 0 0 0 0)).vTem,(qkp (l.map q5n) (MapSM.mk s 0 0 0 0)).vPro)=(qnk s l).1/\((qnk s l).2=0∨(qnk s l)=((0,0,0,0),3))
 | []=>⟨rfl,rfl,.inr rfl⟩
 | m::l=>by
  obtain ⟨h1,h2,h3⟩:=ziv s l
  by_cases h:txM m=s
  .have hd:decide (s=(q5n m).key)=true:=decide_eq_true h.symm
   simp only [List.map_cons,qxr,qxw,qnk,zT h,hd]
   exact ⟨by simp,rfl,.inl trivial⟩
  .have hd:decide (s=(q5n m).key)=false:=decide_eq_false fun hh=>h hh.symm
   simp only [List.map_cons,qxr,qxw,qnk,zF h,hd,Bool.false_or,zQ]
   exact ⟨h1,h2,h3⟩
theorem zn7:j5 (j5 (j5 (j5 (j5 (j5 (j5 (j5 (j5 (j5 (j5 (j5 (j5 (j5 (j5 (j5 ([]:List MapSM) (MapSM.mk (jr 2 2 2 2) 2 2 2 2)) (MapSM.mk (jr 2 2 2 3) 2 2 2 3)) (MapSM.mk (jr 2 2 3 2) 2 2 3 2)) (MapSM.mk (jr 2 2 3 3) 2 2 3 3)) (MapSM.mk (jr 2 3 2 2) 2 3 2 2)) (MapSM.mk (jr 2 3 2 3) 2 3 2 3)) (MapSM.mk (jr 2 3 3 2) 2 3 3 2)) (MapSM.mk (jr 2 3 3 3) 2 3 3 3)) (MapSM.mk (jr 3 2 2 2) 3 2 2 2)) (MapSM.mk (jr 3 2 2 3) 3 2 2 3)) (MapSM.mk (jr 3 2 3 2) 3 2 3 2)) (MapSM.mk (jr 3 2 3 3) 3 2 3 3)) (MapSM.mk (jr 3 3 2 2) 3 3 2 2)) (MapSM.mk (jr 3 3 2 3) 3 3 2 3)) (MapSM.mk (jr 3 3 3 2) 3 3 3 2)) (MapSM.mk (jr 3 3 3 3) 3 3 3 3)=mapM:=by
 rfl
theorem q8m (a0:ZB):qo9 a0:=by
 unfold qo9
 dsimp only
 simp only [zn7]
 obtain ⟨h1,h2,h3⟩:=ziv a0 allM
 simp only [mapM,h1]
 simp only [Prod.ext_iff] at h2
 obtain ⟨e1,e2,e3,e4⟩:=h2
 unhygienic (repeat' (first | exact trivial | apply And.intro | intro))
 all_goals unfold qgf
 all_goals first
  | exact e1
  | exact e2
  | exact e3
  | exact e4
  | (rcases h3 with h3 | h3
     .simp_all
     .rw [h3])
  | (simp_all;done)
theorem qjh {s:ZB} {i n:Int} (h0:0<=i) (h:i<ln s) (h1:48<=bx s i) (h2:bx s i<=57) (h3:10 * n+(bx s i-48)<=1099511627776):qda s i n=qda s (i+1) (10 * n+(bx s i-48)):=by
 conv=>lhs;rw [qda]
 have hd:qdw (bx s i)=true:=by simp [qdw,h1,h2]
 rw [dif_pos ⟨h0,h⟩,zT hd,zF (by omega)]
theorem zoh {s:ZB} {i n:Int} (h0:0<=i) (h:i<ln s) (h1:bx s i<48∨57<bx s i):qda s i n=(0,false):=by
 rw [qda]
 have hd:¬ qdw (bx s i)=true:=by simp only [qdw,zA,decide_eq_true_eq];omega
 rw [dif_pos ⟨h0,h⟩,zF hd]
theorem zoi {s:ZB} {i n:Int} (h0:0<=i) (h:i<ln s) (h1:48<=bx s i) (h2:bx s i<=57) (h3:1099511627776<10 * n+(bx s i-48)):qda s i n=(0,false):=by
 rw [qda]
 have hd:qdw (bx s i)=true:=by simp [qdw,h1,h2]
 rw [dif_pos ⟨h0,h⟩,zT hd,zT (by omega)]
theorem qvy {s:ZB} {i n:Int} (h:ln s<=i):qda s i n=(n,true):=by
 rw [qda,dif_neg (by omega)]
theorem q60 {s:ZB} (h:s=[]∨(bx s 0=48/\1<ln s)):qx s=(0,false):=by
 unfold qx
 rw [zT]
 rcases h with rfl | h
 .exact .inl rfl
 .exact .inr h
theorem zj3 {s:ZB} (h:s≠[]) (h':¬ (bx s 0=48/\1<ln s)):qda s 0 0=qx s:=by
 unfold qx
 rw [zF]
 have:=q9o h
 rintro (h1 | h1)
 .omega
 .exact h' h1
theorem zfl:∀ {s:ZB} {i n:Int},0<=n->n<=1099511627776->0<=(qda s i n).1/\(qda s i n).1<=1099511627776:=by
 intro s i n h0 h1
 fun_induction qda s i n with
 | case1 i n h hd hb=>simp
 | case2 i n h hd hb ih=>
  have:48<=bx s i:=by simp only [qdw,zA,decide_eq_true_eq] at hd;exact hd.1
  exact ih (by omega) (by omega)
 | case3 i n h hd=>simp
 | case4 i n h=>exact ⟨h0,h1⟩
theorem zr8 (s:ZB):0<=(qx s).1/\(qx s).1<=1099511627776:=by
 unfold qx
 split
 .simp
 .exact zfl (by omega) (by omega)
theorem q6z:∀ {s:ZB} {i n:Int},(qda s i n).2=false->(qda s i n).1=0:=by
 intro s i n
 fun_induction qda s i n with
 | case1 i n h hd hb=>simp
 | case2 i n h hd hb ih=>exact ih
 | case3 i n h hd=>simp
 | case4 i n h=>simp
theorem zj4 {s:ZB} (h:(qx s).2=false):(qx s).1=0:=by
 unfold qx at h ⊢
 split
 .rfl
 .rename_i hn
  rw [zF hn] at h
  exact q6z h
theorem zj1 {s:ZB} {i n:Int} (h:qda s i n=qx s) (h0:0<=i) (h1:i<ln s) (hb:bx s i<48∨57<bx s i∨1099511627776<10 * n+(bx s i-48)):qx s=(0,false):=by
 rw [<-h]
 by_cases h2:bx s i<48∨57<bx s i
 .exact zoh h0 h1 h2
 .exact zoi h0 h1 (by omega) (by omega) (by omega)
theorem zj0 {s:ZB} {i n:Int} (h:qda s i n=qx s) (h1:ln s<=i):qx s=(n,true):=by rw [<-h];exact qvy h1
theorem zj2 {s:ZB} {i n:Int} (h:qda s i n=qx s) (h0:0<=i) (h1:i<ln s) (h2:48<=bx s i) (h3:bx s i<=57) (h4:10 * n+(bx s i-48)<=1099511627776):qda s (i+1) (10 * n+(bx s i-48))=qx s:=by
 rw [<-h];exact (qjh h0 h1 h2 h3 h4).symm
set_option maxHeartbeats 4000000 in
theorem q8j (a0:ZB) (hp:ln a0<=1000000):qo8 a0:=by
 unfold qo8
 simp only [qbj,qcl,and_imp]
 have hn:a0≠[]->0<ln a0:=q9o
 unhygienic (repeat' (first | exact trivial | exact And.intro (by omega) trivial | apply And.intro | intro))
 all_goals first
  | omega
  | (have:=hn ‹_›;omega)
  | (rw [q60 (.inl ‹_›)];done)
  | (rw [q60 (.inr ⟨by assumption,by assumption⟩)];done)
  | (rw [zj1 ‹_› ‹_› ‹_› (by omega)];done)
  | (rw [zj0 ‹_› ‹_›];done)
  | exact zj2 ‹_› ‹_› ‹_› ‹_› ‹_› ‹_›
  | exact zj3 ‹_› (by omega)
  | exact zK _
  | (have:=hn ‹_›;omega)
theorem zsd {s:ZB} {c:UInt8}:upto s (ln [c])=[c]↔0<ln s/\bx s 0=c.toNat:=by
 cases s with
 | nil=>simp [upto,ln]
 | cons a l=>
  have:upto (a::l) (ln [c])=[a]:=rfl
  rw [this]
  have e:bx (a::l) 0=(a.toNat:Int):=rfl
  rw [e]
  simp only [List.cons.injEq,and_true,jo]
  have:=qt l
  constructor
  .rintro rfl;exact ⟨by omega,rfl⟩
  .rintro ⟨_,h⟩;exact qe8 h
theorem zam {s:ZB} (h:¬ (0<ln s/\bx s 0=45)):qbg s=qx s:=by rw [qbg,zF h]
theorem q34 {s:ZB} (h:0<ln s/\bx s 0=45) (h2:(qx (fr s 1)).2=true) (h3:(qx (fr s 1)).1≠0):qbg s=(-(qx (fr s 1)).1,true):=by rw [qbg,zT h,zT ⟨h2,h3⟩]
theorem zdd {s:ZB} (h:0<ln s/\bx s 0=45) (h2:(qx (fr s 1)).2=false∨(qx (fr s 1)).1=0):qbg s=(0,false):=by
 rw [qbg,zT h,zF]
 rintro ⟨h3,h4⟩
 rcases h2 with h2 | h2
 .rw [h2] at h3;cases h3
 .exact h4 h2
theorem q8r (a0:ZB) (hp:ln a0<=1000000):qpa a0:=by
 unfold qpa
 dsimp only
 have hf:ln (fr a0 (ln ([45]:ZB)))<=ln a0:=by simp only [fr,ln,List.length_drop];omega
 have hb:=zr8 (fr a0 (ln ([45]:ZB)))
 have hz:=@zj4 a0
 have hl:ln ([45]:ZB)=1:=rfl
 have h45:((45:UInt8).toNat:Int)=45:=rfl
 have hn:=qt a0
 unhygienic (repeat' (first | exact trivial | exact And.intro (by omega) trivial | apply And.intro | intro))
 all_goals first
  | omega
  | (rw [ne_eq,zsd] at a_1;rw [zam a_1]<;>first | assumption | exact (hz ‹_›).symm | (symm;assumption) | rfl)
  | (rw [zsd] at a_1;first | (rw [zdd a_1 (.inl ‹_›)];done) | (rw [zdd a_1 (.inr ‹_›)];done) | (rw [q34 a_1 ‹_› ‹_›];done) | (rw [q34 a_1 ‹_› ‹_›];rfl))
  | (rw [zam (by omega)]<;>first | assumption | exact (hz ‹_›).symm | (symm;assumption) | rfl)
theorem zks {s:ZB} {c i k m:Int} (h0:0<=i) (h:i<ln s) (hc:bx s i=c):qek s c i k m=qek s c (i+1) i (m+1):=by
 conv=>lhs;rw [qek]
 rw [dif_pos ⟨h0,h⟩,zT hc]
theorem zfv {s:ZB} {c i k m:Int} (h0:0<=i) (h:i<ln s) (hc:bx s i≠c):qek s c i k m=qek s c (i+1) k m:=by
 conv=>lhs;rw [qek]
 rw [dif_pos ⟨h0,h⟩,zF hc]
theorem zkt {s:ZB} {c i k:Int} (h:ln s<=i):qek s c i k 1=(upto s k,fr s (k+1),true):=by
 rw [qek,dif_neg (by omega),zT rfl]
theorem q3j {n:Int} (_:0<=n):(qd3 n).length<=3:=by
 unfold qd3
 split
 .simp [d1]
 .split
  .simp [d1]
  .simp
theorem qi9 (n:Int):(zf n).length<=4:=by
 unfold zf
 split
 .simp only [List.length_cons];have:=q3j (n:=-n) (by omega);omega
 .have:=q3j (n:=n) (by omega);omega
theorem zlx (k:Int):(qgo k).length<=1:=by unfold qgo;(repeat' split)<;>simp
theorem zjo (b:Bool) (c:UInt8):(zm b c).length<=1:=by unfold zm;(repeat' split)<;>simp
end Go.Proofs.YtbopmiclcimjgaaGreatDoor
namespace Go.Proofs.YtbopmiclcimjgaaGreatDoor
open Go Go.E2 Go.E3
theorem zb4 {s:ZB} {i:Int} (h0:0<=i) (h:i<ln s) (hb:(48<=bx s i/\bx s i<=57)∨(i=0/\bx s i=45)):hdE s i=hdE s (i+1):=by
 conv=>lhs;rw [hdE]
 rw [dif_pos ⟨h0,h⟩,zT]
 rcases hb with hb | hb
 .exact .inl (by simp [qdw,hb.1,hb.2])
 .exact .inr hb
theorem qn3 {s:ZB} {i:Int} (h:ln s<=i∨(¬ (48<=bx s i/\bx s i<=57)/\¬ (i=0/\bx s i=45))):hdE s i=i:=by
 rw [hdE]
 split
 .rename_i h1
  rw [zF]
  rcases h with h | h
  .omega
  .rintro (h2 | h2)
   .simp only [qdw,zA,decide_eq_true_eq] at h2;exact h.1 h2
   .exact h.2 h2
 .rfl
section
variable {w:ZB} (n0:w≠[]) (n1:w≠[46]) (n2:w≠[91]) (n3:w≠[116,117,114,110]) (n4:w≠[115,105,103])
 include n0 n1 n2 n3 n4
theorem zld (h:bx w 0=114):qcg w=q7m (fr w 1):=by rw [qcg,zF n0,zF n1,zF n2,zF n3,zF n4,zT h]
theorem zle (h:bx w 0=116):qcg w=q38 (fr w 1):=by rw [qcg,zF n0,zF n1,zF n2,zF n3,zF n4,zF (by omega),zT h]
theorem zlc (h:bx w 0=40):qcg w=q3h (fr w 1):=by rw [qcg,zF n0,zF n1,zF n2,zF n3,zF n4,zF (by omega),zF (by omega),zT h]
theorem zlb (h:bx w 0=64):qcg w=qwz (fr w 1):=by rw [qcg,zF n0,zF n1,zF n2,zF n3,zF n4,zF (by omega),zF (by omega),zF (by omega),zT h]
theorem zk9 (h:bx w 0=38):qcg w=q6y 8 (fr w 1):=by rw [qcg,zF n0,zF n1,zF n2,zF n3,zF n4,zF (by omega),zF (by omega),zF (by omega),zF (by omega),zT h]
theorem zc5 (h:bx w 0=93):qcg w=q6y 10 (fr w 1):=by rw [qcg,zF n0,zF n1,zF n2,zF n3,zF n4,zF (by omega),zF (by omega),zF (by omega),zF (by omega),zF (by omega),zT h]
theorem q3v (h1:bx w 0≠114) (h2:bx w 0≠116) (h3:bx w 0≠40) (h4:bx w 0≠64) (h5:bx w 0≠38) (h6:bx w 0≠93):qcg w=if (qdt (upto w 1)).2=0 then zfk w else qzw w:=by
 rw [qcg,zF n0,zF n1,zF n2,zF n3,zF n4,zF h1,zF h2,zF h3,zF h4,zF h5,zF h6]
end
end Go.Proofs.YtbopmiclcimjgaaGreatDoor
namespace Go.Proofs.YtbopmiclcimjgaaGreatDoor
open Go Go.E2 Go.E3
set_option maxRecDepth 100000
theorem q9x {s:Sign} (h:ku s=0):1<=s.Kind/\s.Kind<=12/\qm9 s/\(s.Kind=5->qb5 s.MensMax s.MensMod s.MensTem s.MensPro=0)/\qg9 s/\¬ (s.Oblique=true/\s.Last=true):=by
 unfold ku at h
 split at h
 .cases h
 .rename_i h1
  split at h
  .cases h
  .rename_i h2
   split at h
   .cases h
   .rename_i h3
    split at h
    .cases h
    .rename_i h4
     split at h
     .cases h
     .rename_i h5
      refine ⟨by omega,by omega,Decidable.not_not.1 h2,fun hk=>?_,Decidable.not_not.1 h4,h5⟩
      by_cases hm:qb5 s.MensMax s.MensMod s.MensTem s.MensPro=0
      .exact hm
      .exact absurd ⟨hk,hm⟩ h3
theorem qnx {s:Sign} (h:ku s=0):qle s=(jn s,0):=by rw [qle,zT h]
theorem q79 {s:Sign} (h:ku s≠0):qle s=([],ku s):=by rw [qle,zF h]
theorem zpe {a b c d:Int} (h:qb5 a b c d=0):qki a b c d=(jr a b c d,0):=by rw [qki,zT h]
theorem zl3 (a b c d:Int):(jr a b c d).length<=4:=by
 unfold jr
 have h1:=qvp a
 have h2:=qvp b
 have h3:=zdi c
 have h4:=zc4 d
 split<;>simp only [List.length_append,List.length_nil]<;>omega
theorem zcp (v:Int):(ltr v).length<=8:=by unfold ltr zjl sub;simp only [List.length_drop,List.length_take,List.length_cons,List.length_nil];omega
theorem zlz (k:Int):(qnt k).length<=1:=by unfold qnt;(repeat' split)<;>simp
theorem zjk {v:Int} (h:1<=v/\v<=8):[UInt8.ofNat (Int.toNat (bx ([88,76,66,83,77,81,70,90]:ZB) (v-1)))]=ltr v/\U8 (bx ([88,76,66,83,77,81,70,90]:ZB) (v-1)):=by
 have hc:v=1∨v=2∨v=3∨v=4∨v=5∨v=6∨v=7∨v=8:=by omega
 rcases hc with rfl | rfl | rfl | rfl | rfl | rfl | rfl | rfl<;>exact ⟨rfl,by decide⟩
theorem zly {k:Int} (h:0<k/\k<=3):sub ([32,94,118,62]:ZB) k (k+1)=qgo k:=by
 have hc:k=1∨k=2∨k=3:=by omega
 rcases hc with rfl | rfl | rfl<;>rfl
theorem zgb {k:Int} (h:¬ 0<k) (h0:0<=k):qgo k=[]:=by
 obtain rfl:k=0:=by omega
 rfl
theorem zmw {k:Int} (h:k=0∨k=3∨k=4):[UInt8.ofNat (Int.toNat (bx ([67,46,46,70,71]:ZB) k))]=qnt k/\U8 (bx ([67,46,46,70,71]:ZB) k):=by
 rcases h with rfl | rfl | rfl<;>exact ⟨rfl,by decide⟩
theorem qey (a:Int):qmb a=acA a++acB a++acC a:=by
 unfold qmb acA acB acC
 by_cases h1:a = -1
 .simp [h1]
 .by_cases h2:a=1
  .simp [h2]
  .simp [h1,h2]
theorem za5 (a:Int):(acA a).length<=1:=by unfold acA;split<;>simp
theorem za6 (a:Int):(acB a).length<=1:=by unfold acB;split<;>simp
theorem za7 (a:Int):(acC a).length<=1:=by unfold acC;split<;>simp
theorem zvo (a1 a2 a3:Int) (a4:Bool) (a5:Int) (a6 a7:Bool) (a8 a9 a10 a11:Int) (a12:Bool) (a13 a14 a15 a16:Int):jn (Sign.mk 1 a1 a2 a3 a4 a5 a6 a7 a8 a9 a10 a11 a12 a13 a14 a15 a16)=ltr a1++(zf a2++(acA a3++acB a3++acC a3)++q82 a4):=by
 simp [jn,qjs,qhn,qey]
theorem zvp (a1 a2 a3:Int) (a4:Bool) (a5:Int) (a6 a7:Bool) (a8 a9 a10 a11:Int) (a12:Bool) (a13 a14 a15 a16:Int):jn (Sign.mk 2 a1 a2 a3 a4 a5 a6 a7 a8 a9 a10 a11 a12 a13 a14 a15 a16)=[114]++ltr a1:=by
 simp [jn,qjs,qhn,qey]
theorem zvq (a1 a2 a3:Int) (a4:Bool) (a5:Int) (a6 a7:Bool) (a8 a9 a10 a11:Int) (a12:Bool) (a13 a14 a15 a16:Int):jn (Sign.mk 3 a1 a2 a3 a4 a5 a6 a7 a8 a9 a10 a11 a12 a13 a14 a15 a16)=[46]:=by
 simp [jn,qjs,qhn,qey]
theorem zvr (a1 a2 a3:Int) (a4:Bool) (a5:Int) (a6 a7:Bool) (a8 a9 a10 a11:Int) (a12:Bool) (a13 a14 a15 a16:Int):jn (Sign.mk 4 a1 a2 a3 a4 a5 a6 a7 a8 a9 a10 a11 a12 a13 a14 a15 a16)=[116]++(zf a2++(acA a3++acB a3++acC a3)++q82 a4)++qgo a5++zm a6 126++zm a7 33:=by
 simp [jn,qjs,qhn,qey]
theorem zvs (a1 a2 a3:Int) (a4:Bool) (a5:Int) (a6 a7:Bool) (a8 a9 a10 a11:Int) (a12:Bool) (a13 a14 a15 a16:Int):jn (Sign.mk 5 a1 a2 a3 a4 a5 a6 a7 a8 a9 a10 a11 a12 a13 a14 a15 a16)=[40]++jr a8 a9 a10 a11++[41]++zm a12 124:=by
 simp [jn,qjs,qhn,qey]
theorem zvt (a1 a2 a3:Int) (a4:Bool) (a5:Int) (a6 a7:Bool) (a8 a9 a10 a11:Int) (a12:Bool) (a13 a14 a15 a16:Int):jn (Sign.mk 6 a1 a2 a3 a4 a5 a6 a7 a8 a9 a10 a11 a12 a13 a14 a15 a16)=zf a13++[47]++zf a14:=by
 simp [jn,qjs,qhn,qey]
theorem zvu (a1 a2 a3:Int) (a4:Bool) (a5:Int) (a6 a7:Bool) (a8 a9 a10 a11:Int) (a12:Bool) (a13 a14 a15 a16:Int):jn (Sign.mk 7 a1 a2 a3 a4 a5 a6 a7 a8 a9 a10 a11 a12 a13 a14 a15 a16)=[64]++qnt a15++zf a16:=by
 simp [jn,qjs,qhn,qey]
theorem zvv (a1 a2 a3:Int) (a4:Bool) (a5:Int) (a6 a7:Bool) (a8 a9 a10 a11:Int) (a12:Bool) (a13 a14 a15 a16:Int):jn (Sign.mk 8 a1 a2 a3 a4 a5 a6 a7 a8 a9 a10 a11 a12 a13 a14 a15 a16)=[38]++zf a13:=by
 simp [jn,qjs,qhn,qey]
theorem zvw (a1 a2 a3:Int) (a4:Bool) (a5:Int) (a6 a7:Bool) (a8 a9 a10 a11:Int) (a12:Bool) (a13 a14 a15 a16:Int):jn (Sign.mk 9 a1 a2 a3 a4 a5 a6 a7 a8 a9 a10 a11 a12 a13 a14 a15 a16)=[91]:=by
 simp [jn,qjs,qhn,qey]
theorem zs5 (a1 a2 a3:Int) (a4:Bool) (a5:Int) (a6 a7:Bool) (a8 a9 a10 a11:Int) (a12:Bool) (a13 a14 a15 a16:Int):jn (Sign.mk 10 a1 a2 a3 a4 a5 a6 a7 a8 a9 a10 a11 a12 a13 a14 a15 a16)=[93]++zf a13:=by
 simp [jn,qjs,qhn,qey]
theorem zs6 (a1 a2 a3:Int) (a4:Bool) (a5:Int) (a6 a7:Bool) (a8 a9 a10 a11:Int) (a12:Bool) (a13 a14 a15 a16:Int):jn (Sign.mk 11 a1 a2 a3 a4 a5 a6 a7 a8 a9 a10 a11 a12 a13 a14 a15 a16)=[116,117,114,110]:=by
 simp [jn,qjs,qhn,qey]
theorem zs7 (a1 a2 a3:Int) (a4:Bool) (a5:Int) (a6 a7:Bool) (a8 a9 a10 a11:Int) (a12:Bool) (a13 a14 a15 a16:Int):jn (Sign.mk 12 a1 a2 a3 a4 a5 a6 a7 a8 a9 a10 a11 a12 a13 a14 a15 a16)=[115,105,103]:=by
 simp [jn,qjs,qhn,qey]
set_option maxHeartbeats 8000000 in
theorem zhg (a0 a1 a2 a3:Int) (a4:Bool) (a5:Int) (a6 a7:Bool) (a8 a9 a10 a11:Int) (a12:Bool) (a13 a14 a15 a16:Int):qwf a0 a1 a2 a3 a4 a5 a6 a7 a8 a9 a10 a11 a12 a13 a14 a15 a16:=by
 unfold qwf
 dsimp only
 refine ⟨trivial,fun h=>⟨by rw [q79 h],by rw [q79 h],trivial⟩,fun h=>?_⟩
 obtain ⟨k1,k2,_,km,kr,_⟩:=q9x h
 unfold qg9 at kr
 simp only at k1 k2 km kr
 have hV:a0=1∨a0=2->1<=a1/\a1<=8:=by omega
 have hP:a0=1∨a0=4->-4<=a2/\a2<=12:=by omega
 have hS:a0=4->0<=a5/\a5<=3:=by omega
 have h6:a0=6->1<=a13/\a13<=100/\1<=a14/\a14<=100:=by omega
 have h7:a0=7->(a15=0∨a15=3∨a15=4)/\1<=a16/\a16<=5:=by omega
 have h8:a0=8∨a0=10->0<=a13/\a13<=4:=by omega
 clear kr
 simp only [qnx h,qh,List.length_append,List.length_cons,List.length_nil,ln,List.nil_append,qcw,qcx,qcy,qcz,qc0,zi0,forall_eq]
 clear h
 refine ⟨by omega,fun e=>by omega,fun e=>?_,fun e=>?_,fun e=>?_,fun e=>?_,fun e=>?_,fun e=>?_,fun e=>?_,fun e=>?_,fun e=>?_,fun e=>?_,fun e=>?_,fun e=>?_,trivial⟩
 .subst e
  obtain ⟨b1,b2⟩:=zjk (hV (.inl rfl))
  have r1:=hV (.inl rfl)
  have r2:=hP (.inl rfl)
  have l1:=zcp a1
  have l2:=qi9 a2
  have m1:=za5 a3
  have m2:=za6 a3
  have m3:=za7 a3
  clear hV hP hS h6 h7 h8 km k1 k2
  simp only [b1,zvo]
  unhygienic (repeat' (first | exact trivial | (with_reducible exact rfl) | (with_reducible apply And.intro) | intro))
  all_goals first
   | omega
   | (subst_vars;simp [acA,acB,acC,q82,zm];done)
   | (simp [*,acA,acB,acC,q82,zm];done)
 .subst e
  obtain ⟨b1,b2⟩:=zjk (hV (.inr rfl))
  have r1:=hV (.inr rfl)
  have l1:=zcp a1
  clear hV hP hS h6 h7 h8 km k1 k2
  simp only [b1,zvp]
  unhygienic (repeat' (first | exact trivial | (with_reducible exact rfl) | (with_reducible apply And.intro) | intro))
  all_goals first
   | omega
   | (subst_vars;simp [zm];done)
   | (simp [*,zm];done)
 .subst e
  clear hV hP hS h6 h7 h8 km k1 k2
  simp only [zvq]
  unhygienic (repeat' (first | exact trivial | (with_reducible exact rfl) | (with_reducible apply And.intro) | intro))
  all_goals first
   | omega
   | (subst_vars;simp [zm];done)
   | (simp [*,zm];done)
 .subst e
  have r2:=hP (.inr rfl)
  have r3:=hS rfl
  have l2:=qi9 a2
  have m1:=za5 a3
  have m2:=za6 a3
  have m3:=za7 a3
  have m4:=zjo a6 126
  have l9:=zlx a5
  have hst:0<a5->sub ([32,94,118,62]:ZB) a5 (a5+1)=qgo a5:=fun e=>zly ⟨e,r3.2⟩
  have hst0:a5<=0->qgo a5=[]:=fun e=>zgb (by omega) r3.1
  clear hV hP hS h6 h7 h8 km k1 k2
  simp only [zvr]
  unhygienic (repeat' (first | exact trivial | (with_reducible exact rfl) | (with_reducible apply And.intro) | intro))
  all_goals first
   | omega
   | (rw [hst ‹_›];omega)
   | (rw [hst ‹_›];done)
   | (rw [hst0 ‹_›];simp;done)
   | (subst_vars;simp [acA,acB,acC,q82,zm];done)
   | (simp [*,acA,acB,acC,q82,zm];done)
 .subst e
  have hT:=zpe (km rfl)
  have l3:=zl3 a8 a9 a10 a11
  clear hV hP hS h6 h7 h8 km k1 k2
  simp only [hT,zvs]
  unhygienic (repeat' (first | exact trivial | (with_reducible exact rfl) | (with_reducible apply And.intro) | intro))
  all_goals first
   | omega
   | (subst_vars;simp [zm];done)
   | (simp [*,zm];done)
 .subst e
  have r6:=h6 rfl
  have l4:=qi9 a13
  have l5:=qi9 a14
  clear hV hP hS h6 h7 h8 km k1 k2
  simp only [zvt]
  unhygienic (repeat' (first | exact trivial | (with_reducible exact rfl) | (with_reducible apply And.intro) | intro))
  all_goals first
   | omega
   | (subst_vars;simp [zm];done)
   | (simp [*,zm];done)
 .subst e
  have r7:=h7 rfl
  obtain ⟨b1,b2⟩:=zmw r7.1
  have l6:=qi9 a16
  have l7:=zlz a15
  clear hV hP hS h6 h7 h8 km k1 k2
  simp only [b1,zvu]
  unhygienic (repeat' (first | exact trivial | (with_reducible exact rfl) | (with_reducible apply And.intro) | intro))
  all_goals first
   | omega
   | (subst_vars;simp [zm];done)
   | (simp [*,zm];done)
 .subst e
  have r8:=h8 (.inl rfl)
  have l4:=qi9 a13
  clear hV hP hS h6 h7 h8 km k1 k2
  simp only [zvv]
  unhygienic (repeat' (first | exact trivial | (with_reducible exact rfl) | (with_reducible apply And.intro) | intro))
  all_goals first
   | omega
   | (subst_vars;simp [zm];done)
   | (simp [*,zm];done)
 .subst e
  clear hV hP hS h6 h7 h8 km k1 k2
  simp only [zvw]
  unhygienic (repeat' (first | exact trivial | (with_reducible exact rfl) | (with_reducible apply And.intro) | intro))
  all_goals first
   | omega
   | (subst_vars;simp [zm];done)
   | (simp [*,zm];done)
 .subst e
  have r8:=h8 (.inr rfl)
  have l4:=qi9 a13
  clear hV hP hS h6 h7 h8 km k1 k2
  simp only [zs5]
  unhygienic (repeat' (first | exact trivial | (with_reducible exact rfl) | (with_reducible apply And.intro) | intro))
  all_goals first
   | omega
   | (subst_vars;simp [zm];done)
   | (simp [*,zm];done)
 .subst e
  clear hV hP hS h6 h7 h8 km k1 k2
  simp only [zs6]
  unhygienic (repeat' (first | exact trivial | (with_reducible exact rfl) | (with_reducible apply And.intro) | intro))
  all_goals first
   | omega
   | (subst_vars;simp [zm];done)
   | (simp [*,zm];done)
 .subst e
  clear hV hP hS h6 h7 h8 km k1 k2
  simp only [zs7]
  unhygienic (repeat' (first | exact trivial | (with_reducible exact rfl) | (with_reducible apply And.intro) | intro))
  all_goals first
   | omega
   | (subst_vars;simp [zm];done)
   | (simp [*,zm];done)
end Go.Proofs.YtbopmiclcimjgaaGreatDoor
namespace Go.Proofs.YtbopmiclcimjgaaGreatDoor
open Go Go.E2 Go.E3
set_option maxRecDepth 100000
theorem q1c (b:Int):qoz b=true↔((97<=b/\b<=122)∨(48<=b/\b<=57)∨b=45):=by
 simp only [qoz,qrg,Bool.or_eq_true,zA,decide_eq_true_eq];omega
theorem q1b (s:ZB):qaj s=true↔(1<=ln s/\ln s<=20/\97<=bx s 0/\bx s 0<=122/\∀ j,0<=j->j<ln s->qoz (bx s j)=true):=by
 simp only [qaj,qrg,zA,decide_eq_true_eq,List.all_eq_true]
 constructor
 .rintro ⟨⟨⟨h1,h2⟩,h3,h4⟩,h5⟩
  exact ⟨h1,h2,h3,h4,fun j h0 h=>h5 _ (qg0 h0 h)⟩
 .rintro ⟨h1,h2,h3,h4,h5⟩
  refine ⟨⟨⟨h1,h2⟩,h3,h4⟩,fun b hb=>?_⟩
  obtain ⟨i,i0,i1,rfl⟩:=qyb hb
  exact h5 i i0 i1
theorem zod {s:ZB} (h:1<=ln s/\ln s<=20/\97<=bx s 0/\bx s 0<=122/\∀ j,0<=j->j<ln s->qoz (bx s j)=true):true=qaj s:=((q1b s).2 h).symm
theorem zcw {s:ZB} (h:¬ (1<=ln s/\ln s<=20/\97<=bx s 0/\bx s 0<=122/\∀ j,0<=j->j<ln s->qoz (bx s j)=true)):false=qaj s:=by
 cases hb:qaj s with
 | false=>rfl
 | true=>exact absurd ((q1b s).1 hb) h
theorem zfg {s:ZB} {i:Int} (h:∀ j,0<=j->j<i->qoz (bx s j)=true) (hi:(97<=bx s i/\bx s i<=122)∨(48<=bx s i/\bx s i<=57)∨bx s i=45):∀ j,0<=j->j<i+1->qoz (bx s j)=true:=by
 intro j h0 hj
 by_cases he:j=i
 .subst he;exact (q1c _).2 hi
 .exact h j h0 (by omega)
theorem zju {s:ZB} {i:Int} (h0:0<=i) (h:i<ln s) (hi:¬ ((97<=bx s i/\bx s i<=122)∨(48<=bx s i/\bx s i<=57)∨bx s i=45)):false=qaj s:=
 zcw fun hh=>hi ((q1c _).1 (hh.2.2.2.2 i h0 h))
theorem zg0 (a0:ZB) (hp:ln a0<=9223372036854775806):qv7 a0:=by
 unfold qv7
 have hn:=qt a0
 unhygienic (repeat' (first | exact trivial | exact And.intro (by omega) trivial | apply And.intro | intro))
 all_goals try simp only [qa4,ky] at *
 all_goals first
  | omega
  | exact ⟨by omega,by omega,fun j h0 h=>absurd h (by omega)⟩
  | (refine zcw fun hh=>?_;omega)
  | (exact zfg a_4.2.2 (by omega) j ‹_› ‹_›)
  | (obtain ⟨i0,i1,i2⟩:=a_4;exact zju i0 ‹_› (by omega))
  | (obtain ⟨i0,i1,i2⟩:=a_4;exact zod ⟨by omega,by omega,by omega,by omega,fun j h0 h=>i2 j h0 (by omega)⟩)
theorem q8e (a0:ZB) (a1:List Sign) (hp:ln a0<=1000000000/\ln a1<=1000000000):qo7 a0 a1:=by
 unfold qo7
 simp only [q7u]
 unhygienic (repeat' (first | exact trivial | exact And.intro (by omega) trivial | apply And.intro | intro))
 all_goals try simp only [qb9,qa5] at *
 all_goals first
  | omega
  | skip
 all_goals grind [zy,qwy,zbe,q2p,qqy,zmv,ins]
theorem zf5 {a b:List Sign} (h:a=b):qk9 a b=true:=decide_eq_true h
theorem q7s {a b:List Sign} (h:a≠b):qk9 a b=false:=decide_eq_false h
theorem zls {a b:Sign} (h1:a.Kind=b.Kind) (h2:a.Value=b.Value) (h3:a.Place=b.Place) (h4:a.Acc=b.Acc) (h5:a.Color=b.Color) (h6:a.Stem=b.Stem) (h7:a.Oblique=b.Oblique) (h8:a.Last=b.Last) (h9:a.MensMax=b.MensMax) (h10:a.MensMod=b.MensMod) (h11:a.MensTem=b.MensTem) (h12:a.MensPro=b.MensPro) (h13:a.Stroke=b.Stroke) (h14:a.N=b.N) (h15:a.D=b.D) (h16:a.ClefStep=b.ClefStep) (h17:a.ClefLine=b.ClefLine):a=b:=by
 cases a;cases b;simp_all
theorem q2i (a0 a1:List Sign) (hp:ln a0<=10000000):qqf a0 a1:=by
 refine ⟨fun h=>⟨(q7s fun he=>h (by rw [he])).symm,trivial⟩,fun hl=>⟨⟨by omega,qt _,fun j j0 j1=>by omega⟩,fun x ⟨i0,i1,i2⟩=>⟨fun h=>⟨⟨i0,h⟩,⟨i0,by omega⟩,fun hc=>⟨(q7s fun he=>?_).symm,trivial⟩,fun hc=>⟨by omega,⟨by omega,by omega,fun j j0 j1=>?_⟩,?_⟩⟩,fun h=>⟨(zf5 (q6o hl fun j j0 j1=>i2 j j0 (by omega))).symm,trivial⟩⟩⟩⟩
 .subst he;simp at hc
 .by_cases he:j=x
  .subst he
   obtain ⟨h1,h2,h3,h4,h5,h6,h7,h8,h9,h10,h11,h12,h13,h14,h15,h16,h17⟩:=hc
   exact zls h1 h2 h3 h4 h5 h6 h7 h8 h9 h10 h11 h12 h13 h14 h15 h16 h17
  .exact i2 j j0 (by omega)
 .simp only [qee];omega
theorem q4s (a0:ZB) (a1:List Sign) (a2:ZB) (a3:List Sign) (hp:ln a1<=10000000):qtx a0 a1 a2 a3:=by
 refine ⟨fun h=>⟨hp,?_,trivial⟩,fun h=>⟨?_,trivial⟩⟩
 .simp only [qk9,je,h,true_and]
 .simp [je,h]
end Go.Proofs.YtbopmiclcimjgaaGreatDoor
namespace Go.Proofs.YtbopmiclcimjgaaGreatDoor
open Go Go.E2 Go.E3
set_option maxRecDepth 100000
theorem u10:UInt8.ofNat (Int.toNat 10)=10:=rfl
theorem u32:UInt8.ofNat (Int.toNat 32)=32:=rfl
end Go.Proofs.YtbopmiclcimjgaaGreatDoor
namespace Go.Proofs.YtbopmiclcimjgaaGreatDoor
open Go Go.E2 Go.E3
set_option maxRecDepth 100000
theorem zdu (a0 a1 a2 a3:Int):qr5 a0 a1 a2 a3:=by
 unfold qr5
 unhygienic (repeat' (first | exact trivial | apply And.intro | intro))
 all_goals try simp only [j8,zq] at *
 all_goals first
  | omega
  | (unfold qb5;split<;>omega)
set_option maxHeartbeats 4000000 in
theorem zml (a0 a1 a2 a3:Int) (a4:Bool) (a5:Int) (a6 a7:Bool) (a8 a9 a10 a11:Int) (a12:Bool) (a13 a14 a15 a16:Int):q2e a0 a1 a2 a3 a4 a5 a6 a7 a8 a9 a10 a11 a12 a13 a14 a15 a16:=by
 unfold q2e
 unhygienic (repeat' (first | exact trivial | apply And.intro | intro))
 all_goals try omega
 all_goals grind (splits:=40) [ku,qm9,qg9,qb5]
end Go.Proofs.YtbopmiclcimjgaaGreatDoor
namespace Go.Proofs.YtbopmiclcimjgaaGreatDoor
open Go Go.E2 Go.E3
set_option maxRecDepth 100000
theorem zeh:∀ n:Nat,n<127->bx [120,120,120,120,120,120,120,120,120,120,120,120,120,120,120,120,120,120,120,120,120,120,120,120,120,120,120,120,120,120,120,120,32,112,113,112,112,112,112,112,112,112,112,112,112,112,112,112,112,112,112,112,112,112,112,112,112,112,112,99,112,112,112,112,112,112,112,112,112,112,112,112,112,112,112,112,112,112,112,112,112,112,112,112,112,112,112,112,112,112,112,112,112,112,112,112,112,112,112,112,112,112,112,112,112,112,112,112,112,112,112,112,112,112,112,112,112,112,112,112,112,112,112,112,112,112,112] (n:Int)=jy n:=by decide +kernel
theorem zhw (a0:Int) (hp:U8 a0):q49 a0:=by
 obtain ⟨h0,h1⟩:=hp
 refine ⟨by omega,fun h=>⟨?_,trivial⟩,fun h=>⟨⟨h0,by simp only [ln,List.length_cons,List.length_nil];omega⟩,?_,trivial⟩⟩
 .unfold jy;rw [zT (by omega)]
 .have:=zeh a0.toNat (by omega)
  rwa [show ((a0.toNat:Nat):Int)=a0 by omega] at this
theorem zf0 (a0:ZB) (hp:ln a0<=1000000000):q1p a0:=by
 refine ⟨⟨by omega,qt _,fun j h1 h2=>by omega⟩,fun x ⟨h0,h1,h2⟩=>⟨fun h3=>⟨⟨h0,h3⟩,q0j a0 x,fun hc=>⟨?_,trivial⟩,fun hc=>⟨fun hd=>⟨?_,trivial⟩,fun hd=>⟨by omega,⟨by omega,by omega,fun j h4 h5=>?_⟩,?_⟩⟩⟩,fun h3=>⟨?_,trivial⟩⟩⟩
 .exact (qus h0 h3 (qud.2 (by have:=qvn.1 hc;omega))).symm
 .exact (qus h0 h3 (qud.2 (by have:=qqq.1 hd;omega))).symm
 .by_cases h:j=x
  .subst h
   rw [quc]
   have a:=mt qvn.2 hc
   have b:=mt qqq.2 hd
   omega
  .exact h2 j h4 (by omega)
 .simp only [qhg];omega
 .exact (qkg.2 fun i h4 h5=>h2 i h4 (by omega)).symm
theorem qq3 {a0 a1 x:ZB} {i:Int} {l:List ZB} (hinv:kh a0 a1 0 (-1) x i l) (h:qy (bx a1 0) x=[x]) :
  i<ln l/\upto (l.set i.toNat x) (i+1)=qy (bx a1 0) a0:=by
 obtain ⟨h0,h1,h2,h3,h4⟩:=hinv
 rw [h] at h2 h3
 have hi:i<ln l:=by rw [h1,<-h2];simp only [ln,List.length_cons,List.length_nil];omega
 exact ⟨hi,by rw [q77 h0 hi,h3]⟩
theorem qou {a0 a1 x:ZB} {i m:Int} {l:List ZB} (hinv:kh a0 a1 0 (-1) x i l) (hm:0<=m) (hml:m<ln x) (h:qy (bx a1 0) x=upto x m::qy (bx a1 0) (fr x (m+1))) (hi:i<qk1 a0 (bx a1 0)) :
  kh a0 a1 0 (-1) (fr x (m+1)) (i+1) (l.set i.toNat (upto x m)):=by
 obtain ⟨h0,h1,h2,h3,h4⟩:=hinv
 rw [h] at h2 h3
 rw [jo] at h2
 refine ⟨by omega,by rw [qx9,h1],by omega,?_,?_⟩
 .rw [q77 h0 (by rw [h1];omega),List.append_assoc]
  exact h3
 .rw [qov (by omega) (by omega)];omega
theorem q6b (a0 a1:ZB) (a2 a3:Int) (hp:ln a1=1/\(a2:Int)=0/\(a3:Int) = -1/\ln a0<=100000000):qm3 a0 a1 a2 a3:=by
 obtain ⟨h1,rfl,rfl,hl⟩:=hp
 have hc:=q0j a1 0
 have hb:=q2r a0 (bx a1 0)
 have hn:(if ((ln a0)+1)<((qk1 a0 (bx a1 0))+1) then ((ln a0)+1) else ((qk1 a0 (bx a1 0))+1))=qk1 a0 (bx a1 0)+1:=zF (by omega)
 have hz:∀ m:Int,m+0=m:=fun m=>by omega
 unfold qm3
 dsimp only
 simp only [hn]
 refine ⟨fun h=>absurd h (by decide),fun _=>⟨fun h=>(by subst h;cases h1),fun _=>⟨fun _=>⟨fun h=>by omega,fun _=>⟨fun _=>?_,fun h=>absurd h1 h⟩⟩,fun h=>by omega⟩⟩⟩
 refine ⟨by omega,trivial,by omega,by omega,trivial,by omega,trivial,by omega,⟨zK 0,q3d (by omega),?_,?_,zK _⟩,fun x i l hi=>⟨fun hlt=>⟨fun h=>by omega,fun _=>⟨fun hx=>?_,fun hx=>⟨fun _=>?_,fun h=>absurd h1 h⟩⟩⟩,fun hge=>?_⟩⟩
 .rw [qs2 hc.1 (by omega)];omega
 .rfl
 .
  subst hx
  have hidx:jc a1 (bx a1 0)=0:=by
   rcases znu a1 (bx a1 0) with h | h
   .have:=znt a1 (bx a1 0)
    by_cases hx:jc a1 (bx a1 0)<0
    .exact absurd rfl (qn5 hc.1 (by omega) hx 0 (zK 0) (by omega))
    .omega
   .exact absurd rfl (qn5 hc.1 (by omega) (by omega) 0 (zK 0) (by omega))
  have hst:=qns (s:=a1) hc.1 (by omega) (by omega:0<=jc a1 (bx a1 0))
  rw [hidx] at hst
  have hs:=qou hi (zK 0) (by omega) hst (by omega)
  obtain ⟨g0,g1,g2,g3,g4⟩:=id hi
  have e:(0:Int)+ln a1=0+1:=by omega
  rw [e]
  refine ⟨by omega,by omega,by omega,by omega,trivial,by omega,by omega,by omega,hs,?_⟩
  show (_:Int).toNat<(_:Int).toNat;omega
 .refine ⟨by omega,trivial,fun hm=>?_,fun hm=>?_⟩
  .obtain ⟨h2,h3⟩:=qq3 hi (qu3 hc.1 (by omega) hm)
   obtain ⟨g0,g1,g2,g3,g4⟩:=id hi
   exact ⟨by omega,by omega,trivial,by omega,by rw [qx9];omega,by rw [qx9];omega,h3,trivial⟩
  .obtain ⟨b1,b2,b3⟩:=qss hc.1 (by omega) hm
   have hs:=qou hi hm b1 (qns hc.1 (by omega) hm) (by omega)
   obtain ⟨g0,g1,g2,g3,g4⟩:=id hi
   rw [h1,hz]
   refine ⟨by omega,by omega,by omega,by omega,trivial,by omega,by omega,by omega,hs,?_⟩
   show (_:Int).toNat<(_:Int).toNat;omega
 .obtain ⟨g0,g1,g2,g3,g4⟩:=id hi
  obtain ⟨h2,h3⟩:=qq3 hi (zaq hc.1 (by omega) (by omega))
  exact ⟨by omega,by omega,trivial,by omega,by rw [qx9];omega,by rw [qx9];omega,h3,trivial⟩
theorem zhd (a0 a1:ZB) (hp:ln a1=1/\ln a0<=100000000):q4v a0 a1:=⟨⟨hp.1,rfl,rfl,hp.2⟩,rfl,trivial⟩
theorem qzx {l:ZB} {a x:Int} (h:zj j7 l (a+1)=x) :
  (((0<a/\bx l (a-1)≠32)∨ln l<=x∨bx l x≠34∨¬ (ln l<=x+1∨bx l (x+1)=32∨bx l (x+1)=59))/\qar l a = -1)∨
  (¬ ((0<a/\bx l (a-1)≠32)∨ln l<=x∨bx l x≠34∨¬ (ln l<=x+1∨bx l (x+1)=32∨bx l (x+1)=59))/\qar l a=x+1):=by
 unfold qar
 rw [h]
 split
 .rename_i hc
  exact .inl ⟨hc,rfl⟩
 .rename_i hc
  exact .inr ⟨hc,rfl⟩
theorem qy7 {out:List Word} {w:Word} {r:List Word×Int}:qld out (if r.2<0 then (w::r.1,-1) else ([],r.2))=qld (out++[w]) r:=by
 unfold qld
 by_cases h:r.2<0
 .rw [zT h,zT h,zT (show (-1:Int)<0 by decide),List.append_assoc];rfl
 .rw [zF h,zF h,zF h]
theorem zgk {out:List Word}:qld out ([],-1)=(out,-1):=by simp [qld]
theorem q19 {out:List Word} {x:Int} (h:0<=x):qld out ([],x)=([],x):=by
 unfold qld;rw [zF (by show ¬ x<0;omega)]
section
variable {l:ZB} {f x:Int} {out:List Word} (hi:jf l f 0=qld out (jf l f x))
 include hi
theorem zib (h:ln l<=x∨bx l x=59):jf l f 0=(out,-1):=by rw [hi,qqt h,zgk]
theorem zia (h0:0<=x) (h1:x<ln l) (h2:bx l x≠59) (h:(bx l x=34/\qar l x<0)∨(bx l x≠34/\bx l x≠32/\z6 (bx l x)=false)):jf l f 0=([],x):=by rw [hi,zng h1 h2 h h0,q19 h0]
theorem q85 {a e:Int} (ha:a=f+x) (h0:0<=x) (h1:x<ln l) (h:bx l x=34) (he:qar l x=e) (h3:0<=e):jf l f 0=qld (out++[⟨a,sub l (x+1) (e-1),true⟩]) (jf l f e):=by
 rw [hi,zeo h0 h1 h he h3,qy7,ha]
theorem q84 {a e:Int} (ha:a=f+x) (h0:0<=x) (h1:x<ln l) (h:z6 (bx l x)=true) (he:zj z6 l x=e):jf l f 0=qld (out++[⟨a,sub l x e,false⟩]) (jf l f e):=by
 rw [hi,q0n h0 h1 h he,qy7,ha]
end
theorem zel (l:ZB) (f i:Int) (h:0<=i):(jf l f i).2 = -1∨(0<=(jf l f i).2/\(jf l f i).1=[]):=by
 have hg:=qcm (p:=kq) (s:=l) (i:=i)
 fun_induction jf l f i with
 | case1 i h1=>exact .inl rfl
 | case2 i h1 h2 h3 h4 ih=>exact .inl rfl
 | case3 i h1 h2 h3 h4 ih=>
  refine .inr ⟨?_,rfl⟩
  show 0<=(jf l f _).2
  omega
 | case4 i h1 h2 h3=>exact .inr ⟨by show 0<=zj kq l i;omega,rfl⟩
 | case5 i h1 h2 h3 h4 h5 ih=>exact .inl rfl
 | case6 i h1 h2 h3 h4 h5 ih=>
  refine .inr ⟨?_,rfl⟩
  show 0<=(jf l f _).2
  omega
 | case7 i h1 h2 h3 h4=>exact .inr ⟨by show 0<=zj kq l i;omega,rfl⟩
 | case8 i h1 h2 h3=>exact .inr ⟨by show 0<=zj kq l i;omega,rfl⟩
theorem zgl {r:List Word×Int} (h:r.2 = -1∨(0<=r.2/\r.1=[])):r=qld [] r:=by
 obtain ⟨a,b⟩:=r
 rcases h with h | ⟨h,h'⟩
 .cases h;rfl
 .cases h';rw [q19 h]
theorem zgi {out:List Row}:qjt out ([],0,0)=(out,0,0):=by simp [qjt]
theorem qto {out:List Row} {e x:Int} (h:e≠0):qjt out ([],e,x)=([],e,x):=by
 unfold qjt;rw [zF h]
theorem zai:∀ (l:List ZB) (x:Int),(qau l x).2=(0,0)∨((qau l x).2.1≠0/\(qau l x).1=[])
 | [],_=>.inl rfl
 | l::ls,x=>by
  unfold qau
  split
  .exact .inr ⟨show (4:Int)≠0 by decide,rfl⟩
  .split
   .exact .inr ⟨show (3:Int)≠0 by decide,rfl⟩
   .split
    .exact .inl rfl
    .exact .inr ⟨by assumption,rfl⟩
theorem zgj {r:List Row×Int×Int} (h:r.2=(0,0)∨(r.2.1≠0/\r.1=[])):r=qjt [] r:=by
 obtain ⟨a,b⟩:=r
 rcases h with h | ⟨h,h'⟩
 .cases h;rfl
 .cases h';obtain ⟨b,c⟩:=b;rw [qto h]
theorem zf4 {L:List ZB} {line:ZB} {out:List Row} {R:List Row×Int×Int} {x:Int} (hi:R=qjt out (qau (line::L) x)) :
  (1000<ln line->R=([],4,x))/\(ln line<=1000->0<=(jf line x 0).2->R=([],3,x+(jf line x 0).2))/\
  (ln line<=1000->(jf line x 0).2<0->R=qjt (if (jf line x 0).1=[] then out else out++[⟨x,(jf line x 0).1⟩]) (qau L (x+ln line+1))):=by
 subst hi
 refine ⟨fun h=>?_,fun h h1=>?_,fun h h1=>?_⟩
 .rw [qau,zT h,qto (by decide)]
 .rw [qau,zF (by omega),zT h1,qto (by decide)]
 .rw [qau,zF (by omega),zF (by omega)]
  by_cases h2:(qau L (x+ln line+1)).2.1=0
  .rw [zT h2]
   unfold qjt
   rw [zT rfl,zT h2]
   split
   .rfl
   .simp
  .rw [zF h2]
   unfold qjt
   rw [zF h2,zF h2]
theorem qhs {a0:ZB} (h:ln a0<=20000):qd a0=qau (qy 10 a0) 0:=by unfold qd;rw [zF (by omega)]
theorem zah {a0:ZB} (h:20000<ln a0):qd a0=([],4,20000):=by unfold qd;rw [zT h]
theorem zjw {α:Type} {l:List α} (h:0<ln l):¬ l=[]:=by rintro rfl;simp [ln] at h
theorem q5a {b:Int} (h:jy b=120) (h0:0<=b):b≠34/\b≠32/\b≠59/\z6 b=false:=by
 have:=qvn.1 h
 exact ⟨by omega,by omega,by omega,q98.2 (by omega)⟩
theorem qt3 {b:Int} (hx:jy b≠120) (hq:jy b≠113) (h1:b≠32) (h2:b≠59):z6 b=true:=by
 have h3:=mt qvn.2 hx
 have h4:=mt qqq.2 hq
 exact qfg.2 (by omega)
theorem qnm {l:ZB} {x:Int} (h0:0<=x) (h1:x<ln l) :
  (0<x->bx l (x-1)≠32->qar l x = -1)/\(jc (fr l (x+1)) 34<0->qar l x = -1)/\
  (0<=jc (fr l (x+1)) 34->x+1+jc (fr l (x+1)) 34<ln l/\bx l (x+1+jc (fr l (x+1)) 34)=34/\
    (qal (sub l (x+1) (x+1+jc (fr l (x+1)) 34))=false->qar l x = -1)/\
    (qal (sub l (x+1) (x+1+jc (fr l (x+1)) 34))=true->(0<x->bx l (x-1)=32)->
      (x+jc (fr l (x+1)) 34+2<ln l->bx l (x+jc (fr l (x+1)) 34+2)≠32->bx l (x+jc (fr l (x+1)) 34+2)≠59->qar l x = -1)/\
      (ln l<=x+jc (fr l (x+1)) 34+2∨bx l (x+jc (fr l (x+1)) 34+2)=32∨bx l (x+jc (fr l (x+1)) 34+2)=59->qar l x=x+jc (fr l (x+1)) 34+2))):=by
 have hc:=qzx (l:=l) (a:=x) rfl
 have hg:=qcm (p:=j7) (s:=l) (i:=x+1)
 have hle:=qjq (p:=j7) (s:=l) (i:=x+1) (by omega)
 have hr:=q1x (p:=j7) (s:=l) (i:=x+1) (by omega)
 have hf:=qov (l:=l) (i:=x+1) (by omega) (by omega)
 refine ⟨fun h2 h3=>by omega,fun h2=>?_,fun h2=>?_⟩
 .have hn:=qn5 (by decide) (by decide) h2
  by_cases hl:ln l<=zj j7 l (x+1)
  .omega
  .have h3:=hn (zj j7 l (x+1)-(x+1)) (by omega) (by omega)
   rw [qjv (by omega) (by omega),show x+1+(zj j7 l (x+1)-(x+1))=zj j7 l (x+1) by omega] at h3
   omega
 .obtain ⟨a1,a2,a3⟩:=qss (by decide) (by decide) h2
  generalize jc (fr l (x+1)) 34=n at *
  rw [qjv (by omega) h2] at a2
  refine ⟨by omega,a2,fun hq=>?_,fun hq hb=>?_⟩
  .have hlt:zj j7 l (x+1)<x+1+n:=by
    apply Decidable.byContradiction
    intro hge
    have hle2:x+1+n<=ln l:=by omega
    have:qal (sub l (x+1) (x+1+n))=true:=qkg.2 fun i h4 h5=>by
     rw [qpv (l:=l) (i:=x+1) (j:=x+1+n) (by omega) (by omega) hle2] at h5
     rw [q80 (s:=l) (i:=x+1) (j:=x+1+n) (k:=i) (by omega) h4 (by omega)]
     exact q1w (i:=x+1) _ (by omega) (by omega)
    rw [this] at hq
    cases hq
   have h3:=a3 (zj j7 l (x+1)-(x+1)) (by omega) (by omega)
   rw [qjv (by omega) (by omega),show x+1+(zj j7 l (x+1)-(x+1))=zj j7 l (x+1) by omega] at h3
   omega
  .have he:zj j7 l (x+1)=x+1+n:=by
    refine qnq (by omega) (by omega) (by omega) (fun j h4 h5=>?_) (.inr (by rw [a2];rfl))
    have:=qkg.1 hq (j-(x+1)) (by omega) (by rw [qpv (by omega) (by omega) (by omega)];omega)
    rwa [q80 (by omega) (by omega) (by omega),show x+1+(j-(x+1))=j by omega] at this
   rw [he] at hc
   rw [show x+1+n+1=x+n+2 by omega] at hc
   rw [show x+1+n=x+n+1 by omega] at *
   constructor<;>intros<;>omega
theorem qzp {c:Int} {s:ZB} {k:Int} (h0:0<=k) (h:k<ln (qy c s)):ln (ix (qy c s) k)<=ln s:=qgj (qg0 h0 h)
theorem qp1 {L:List ZB} {k:Int} {out:List Row} {R:List Row×Int×Int} {x:Int} (h0:0<=k) (h1:k<ln L) (hi:R=qjt out (qau (fr L k) x)) :
  (1000<ln (ix L k)->R=([],4,x))/\(ln (ix L k)<=1000->0<=(jf (ix L k) x 0).2->R=([],3,x+(jf (ix L k) x 0).2))/\
  (ln (ix L k)<=1000->(jf (ix L k) x 0).2<0->R=qjt (if (jf (ix L k) x 0).1=[] then out else out++[⟨x,(jf (ix L k) x 0).1⟩]) (qau (fr L (k+1)) (x+(ln (ix L k)+1)))):=by
 rw [qj2 h0 h1] at hi
 have:=zf4 hi
 rwa [Int.add_assoc] at this
theorem zic {l:ZB} {f x y:Int} (h0:0<=x) (hxy:zj kq l x=zj kq l y) (hy:ln l<=y∨bx l y≠32):jf l f x=jf l f y:=by
 rw [qgr hy] at hxy
 rw [jf,hxy]
 have e:zj kq l y=y:=qgr hy
 exact (by rw [jf,e]:jf l f y=_).symm
theorem q1d {b:Int} (h:jy b≠112):z6 b=false:=by rw [<-Bool.not_eq_true];exact mt zbf.2 h
set_option maxHeartbeats 4000000 in
theorem zg6 (a0:ZB):qwb a0:=by
 have hl:=qt a0
 have hb:bx [10] 0=10:=rfl
 have hb2:ln ([10]:ZB)=1:=rfl
 have hc:=qs2 (s:=a0) (c:=10) (by decide) (by decide)
 have hd:=q2r a0 10
 unfold qwb
 dsimp only
 simp only [qap,z8,qw,qb,qho,qid,qcv,qed,and_imp,qad,hb,hb2]
 unhygienic (repeat' (first | exact trivial | apply And.intro | (intro;intros)))
 all_goals first
  | omega
  | exact qhb (by omega)
  | (rw [zah (by omega)];done)
  | exact Eq.trans ‹_› (qd5 (by omega) (by omega) (qwo.2 ‹_›))
  | exact Eq.trans ‹_› (qd5 (by omega) (by omega) (zbf.1 ‹_›))
  | (have:=q0j (ix (qy 10 a0) x3) x10;omega)
  | (have:=q0j (ix (qy 10 a0) x3) x18;omega)
  | (have h1:=qzp (s:=a0) (c:=10) (k:=x3) (by omega) (by omega);have h2:=qt (ix (qy 10 a0) x3);omega)
  | (have QP:=qnm (l:=ix (qy 10 a0) x3) (x:=x10) (by omega) (by omega);have Q:=QP.2.2 (by omega);have Q1:=Q.1;first | omega | (rw [qpv (by omega) (by omega) (by omega)];omega))
  | (have hg:=zlm (p:=z6) (s:=ix (qy 10 a0) x3) (i:=x10) (by omega) (by omega) (qt3 ‹_› ‹_› (by omega) (by omega));have hs:=qd6 (p:=z6) (s:=ix (qy 10 a0) x3) (i:=x18) (by first | exact .inl (by omega) | exact .inr (q1d ‹_›));omega)
  | (have hx:=a_12.trans (congrArg (qld x7) (zic (by omega) ‹_› (by omega)))
     first
      | exact q84 hx (Int.add_comm _ _) (by omega) (by omega) (qt3 ‹_› ‹_› (by omega) (by omega)) (Eq.trans ‹_› (qd6 (by first | exact .inl (by omega) | exact .inr (q1d ‹_›))))
      | (have QP:=qnm (l:=ix (qy 10 a0) x3) (x:=x10) (by omega) (by omega)
         exact q85 hx (Int.add_comm _ _) (by omega) (by omega) (qqq.1 ‹_›) (((QP.2.2 (by omega)).2.2.2 ‹_› (fun _=>by omega)).2 (by omega)) (by omega))
      | (have CE:=zib hx (by omega)
         have L1:=(qp1 (by omega) (by omega) (by assumption:qau (qy 10 a0) 0=qjt x1 (qau (fr (qy 10 a0) x3) x2))).2.2 (by omega) (by rw [CE];show (-1:Int)<0;decide)
         rw [CE] at L1
         first
          | exact L1.trans (by rw [zF (zjw (by omega))])
          | exact L1.trans (by rw [zT (zn6 (by omega))]))
      | (have CB:=zia hx (by omega) (by omega) (by omega) (by
          first
           | (refine .inr ⟨?_,by omega,?_⟩
              .exact (q5a ‹_› (q0j _ _).1).1
              .exact (q5a ‹_› (q0j _ _).1).2.2.2)
           | (refine .inl ⟨qqq.1 ‹_›,?_⟩
              have QP:=qnm (l:=ix (qy 10 a0) x3) (x:=x10) (by omega) (by omega)
              first
               | (have:=QP.1 (by omega) (by omega);omega)
               | (have:=QP.2.1 (by omega);omega)
               | (have:=(QP.2.2 (by omega)).2.2.1 ‹_›;omega)
               | (have:=((QP.2.2 (by omega)).2.2.2 ‹_› (fun _=>by omega)).1 (by omega) (by omega) (by omega);omega)))
         have L1:=(qp1 (by omega) (by omega) (by assumption:qau (qy 10 a0) 0=qjt x1 (qau (fr (qy 10 a0) x3) x2))).2.1 (by omega) (by rw [CB];show (0:Int)<=x10;omega)
         rw [CB] at L1
         rw [qhs (by omega),L1]))
  | exact zgl (zel _ _ _ (zK 0))
  | (rw [q24];exact zgj (zai _ _))
  | (rw [qhs (by omega),a_6,qm2 (by omega)];simp only [qau,zgi];done)
  | (rw [qhs (by omega),(qp1 (by omega) (by omega) (by assumption:qau (qy 10 a0) 0=qjt x1 (qau (fr (qy 10 a0) x3) x2))).1 (by omega)];done)
  | with_reducible exact zK _
  | exact zfd
  | with_reducible rfl
  | exact zK _
section
variable {a0 a1:List Row} {a2:Bool} {x y:Int}
end
section
variable {a b:Row} {off:Bool} {y:Int}
end
theorem q86 (l:ZB) (f i:Int) (h0:0<=i) (h:i<=ln l):ln (jf l f i).1<=ln l-i:=by
 have hg:=qcm (p:=kq) (s:=l) (i:=i)
 have hr:=qjq (p:=kq) (s:=l) (i:=i) h
 fun_induction jf l f i with
 | case1 i h1=>show ln ([]:List Word)<=_;rw [qdn];omega
 | case2 i h1 h2 h3 h4 ih=>
  have:=ih (by omega) (by omega) qcm (qjq (by omega))
  show ln (_::_)<=_
  rw [jo];omega
 | case3 i h1 h2 h3 h4 ih=>show ln ([]:List Word)<=_;rw [qdn];omega
 | case4 i h1 h2 h3=>show ln ([]:List Word)<=_;rw [qdn];omega
 | case5 i h1 h2 h3 h4 h5 ih=>
  have:=ih (by omega) (by omega) qcm (qjq (by omega))
  show ln (_::_)<=_
  rw [jo];omega
 | case6 i h1 h2 h3 h4 h5 ih=>show ln ([]:List Word)<=_;rw [qdn];omega
 | case7 i h1 h2 h3 h4=>show ln ([]:List Word)<=_;rw [qdn];omega
 | case8 i h1 h2 h3=>show ln ([]:List Word)<=_;rw [qdn];omega
theorem q7k:∀ (L:List ZB) (x:Int),ln (qau L x).1<=ln L/\∀ r ∈ (qau L x).1,ln r.Words<=1000
 | [],x=>⟨zK _,fun r h=>by cases h⟩
 | l::L,x=>by
  have hn:ln ([]:List Row)<=ln (l::L)/\∀ r ∈ ([]:List Row),ln r.Words<=1000:=⟨by rw [qdn];exact qt _,fun r h=>by cases h⟩
  have ih:=q7k L (x+ln l+1)
  unfold qau
  split
  .exact hn
  .split
   .exact hn
   .rename_i h1 h2
    have hw:=q86 l x 0 (zK 0) (qt l)
    split
    .split
     .exact ⟨by rw [jo];show ln (qau L _).1<=_;omega,ih.2⟩
     .refine ⟨by show ln (_::_)<=_;rw [jo,jo];omega,fun r hr=>?_⟩
      rcases zD.1 hr with rfl | hr
      .show ln (jf l x 0).1<=1000;omega
      .exact ih.2 r hr
    .exact hn
theorem q7j (a0:ZB):ln (qd a0).1<=20001/\∀ r ∈ (qd a0).1,ln r.Words<=1000:=by
 unfold qd
 split
 .exact ⟨by show ln ([]:List Row)<=_;rw [qdn];omega,fun r h=>by cases h⟩
 .have h1:=q7k (qy 10 a0) 0
  have h2:=qs2 (s:=a0) (c:=10) (by decide) (by decide)
  have h3:=q2r a0 10
  exact ⟨by omega,h1.2⟩
end Go.Proofs.YtbopmiclcimjgaaGreatDoor
namespace Go.Proofs.YtbopmiclcimjgaaGreatDoor
open Go Go.E2 Go.E3
set_option maxRecDepth 100000
theorem zqz {w:ZB} {s:Sign} {e:Int} (h:zg w=(s,e)):zi w s.Kind s.Value s.Place s.Acc s.Color s.Stem s.Oblique s.Last s.MensMax s.MensMod s.MensTem s.MensPro s.Stroke s.N s.D s.ClefStep s.ClefLine e:=by
 unfold zi
 rw [h]
 simp
theorem zk8 {w:ZB} {k:Int} (h1:1<=k) (h2:k<=12) (hn:∀ j,1<=j->j<k->rdK w j=none):∀ (m:Nat) (i:Int),1<=i->i<=k->(k-i).toNat=m->qmc w i=qmc w k:=by
 intro m
 induction m with
 | zero=>intro i hi hk hm;rw [show i=k by omega]
 | succ m ih=>
  intro i hi hk hm
  have:qmc w i=qmc w (i+1):=by
   conv=>lhs;rw [qmc]
   rw [dif_pos ⟨hi,by omega⟩,hn i hi (by omega)]
  rw [this]
  exact ih (i+1) (by omega) (by omega) (by omega)
theorem zdf {w:ZB} {k:Int} {s:Sign} (h:qc w (k-1)) (h1:1<=k) (h2:k<=12) (hk:rdK w k=some s):zg w=fin (some s):=by
 rw [zg,zk8 h1 h2 (fun j a b=>h.out j a (by omega)) _ 1 (by omega) h1 rfl,qmc,dif_pos ⟨h1,h2⟩,hk]
theorem qvb {w:ZB} (k:Int) {s:Sign} (h:qc w (k-1)) (h1:1<=k) (h2:k<=12) (hk:rdK w k=some s) (h3:ku s≠0):zi w 0 0 0 0 false 0 false false 0 0 0 0 false 0 0 0 0 (ku s):=
 zqz (s:=sg0) (by rw [zdf h h1 h2 hk,fin,zF h3])
theorem qvc {w:ZB} (k:Int) {a b c d:Int} {e:Bool} {f:Int} {g o:Bool} {m1 m2 m3 m4:Int} {t:Bool} {n1 n2 n3 n4:Int} (h:qc w (k-1)) (h1:1<=k) (h2:k<=12) (hk:rdK w k=some (Sign.mk a b c d e f g o m1 m2 m3 m4 t n1 n2 n3 n4)) (h3:ku (Sign.mk a b c d e f g o m1 m2 m3 m4 t n1 n2 n3 n4)=0) :
  zi w a b c d e f g o m1 m2 m3 m4 t n1 n2 n3 n4 0:=
 zqz (s:=Sign.mk a b c d e f g o m1 m2 m3 m4 t n1 n2 n3 n4) (by rw [zdf h h1 h2 hk,fin,zT h3])
theorem qds {w:ZB} (k:Int) (h:qc w (k-1)) (hk:rdK w k=none):qc w k:=⟨fun j a b=>by
 by_cases hj:j=k
 .rw [hj];exact hk
 .exact h.out j a (by omega)⟩
theorem zvy {w:ZB} (h:qc w 12):zi w 0 0 0 0 false 0 false false 0 0 0 0 false 0 0 0 0 3:=zqz (s:=sg0) (by
 rw [zg,zk8 (w:=w) (k:=12) (by decide) (by decide) (fun j a b=>h.out j a (by omega)) _ 1 (by decide) (by decide) rfl,qmc,dif_pos (by decide),h.out 12 (by decide) (by decide)]
 show fin (qmc w 13)=_
 rw [qmc,dif_neg (by decide)];rfl)
theorem zvi (w:ZB) (i:Int) (c:UInt8):preB (fr w i) [c]=tk w i c:=rfl
def pv (p:Prop):Prop:=p
theorem pv.out {p:Prop} (h:pv p):p:=h
theorem qkk {w:ZB} {i:Int} {c:UInt8} (h:tk w i c=true) (h0:0<=i):i<ln w:=by
 simp only [tk,preB,zA,decide_eq_true_eq] at h
 have:=h.1
 simp only [ln,fr,List.length_drop,List.length_cons,List.length_nil] at this ⊢
 omega
section
variable {w m:ZB} {i i0 x k a p v:Int} {b b0 ok c o:Bool} {Q:Prop} {ch:UInt8}
theorem q4c:(tk w i ch=true->Q)↔(pv (tk w i ch=true)->(0<=i->i<ln w)->Q):=⟨fun h t _=>h t,fun h t=>h t (qkk t)⟩
theorem w0:(jq w m i i0->Q)↔(pv (jq w m i i0)->i0<=i->i<=ln w->ln m<=1->Q):=⟨fun h t _ _ _=>h t,fun h t=>h t t.out.2.2.1.1 t.out.2.2.1.2 t.out.2.2.2⟩
theorem w1:(zb w i i0->Q)↔(pv (zb w i i0)->i0<=i->i<=ln w->Q):=⟨fun h t _ _=>h t,fun h t=>h t t.out.1.1 t.out.1.2⟩
theorem w2:(qj w i i0->Q)↔(pv (qj w i i0)->i0<=i->i<=ln w->Q):=⟨fun h t _ _=>h t,fun h t=>h t t.out.1.1 t.out.1.2⟩
theorem w3:(jd w b b0 ok->Q)↔(pv (b=(b0 || !ok))->Q):=⟨fun h t=>h ⟨t⟩,fun h t=>h t.out⟩
theorem w4:(qb3 w b b0 ok->Q)↔(pv (b=(b0 || !ok))->Q):=⟨fun h t=>h ⟨t⟩,fun h t=>h t.out⟩
theorem w5:(kg w k i->Q)↔(pv (kg w k i)->0<=k->k<=8->Q):=⟨fun h t _ _=>h t,fun h t=>h t t.out.1 t.out.2.1⟩
theorem w6:(qbk w i b v->Q)↔(pv (qbk w i b v)->0<=i->i<=ln w->Q):=⟨fun h t _ _=>h t,fun h t=>h t t.out.1.1 t.out.1.2⟩
theorem w7:(zv w i a i0->Q)↔(pv (zv w i a i0)->i0<=i->i<=ln w->Q):=⟨fun h t _ _=>h t,fun h t=>h t t.out.1.1 t.out.1.2⟩
theorem w8:(qb4 w i b p a c i0 b0->Q)↔(pv (qb4 w i b p a c i0 b0)->i0<=i->i<=ln w->Q):=⟨fun h t _ _=>h t,fun h t=>h t t.out.1.1 t.out.1.2⟩
theorem w9:(ju w i k i0->Q)↔(pv (ju w i k i0)->i0<=i->i<=ln w->Q):=⟨fun h t _ _=>h t,fun h t=>h t t.out.1.1 t.out.1.2⟩
theorem w10:(qax w i o i0->Q)↔(pv (qax w i o i0)->i0<=i->i<=ln w->Q):=⟨fun h t _ _=>h t,fun h t=>h t t.out.1.1 t.out.1.2⟩
theorem w11:(qay w i b i0 b0->Q)↔(pv (qay w i b i0 b0)->i0<=i->i<=ln w->Q):=⟨fun h t _ _=>h t,fun h t=>h t t.out.1.1 t.out.1.2⟩
theorem w12:(ji w i b k i0->Q)↔(pv (ji w i b k i0)->i0<=i->i<=ln w->Q):=⟨fun h t _ _=>h t,fun h t=>h t t.out.1.1 t.out.1.2⟩
end
section
variable {w m:ZB} {i i0 x j e k a p v y z:Int} {b b0 ok c o l:Bool} {ch:UInt8}
theorem zt7 (h:pv (tk w i 45=true)) (h0:0<=i):jq w [45] (i+1) i:=by
 have:=qkk h h0
 exact ⟨⟨by rw [qg5,zT (pv.out h)],by rw [qg5,zT (pv.out h)],⟨by omega,by omega⟩,zK _⟩⟩
theorem zt6 (h:tk w i 45=false) (hi:i<=ln w):jq w [] i i:=by
 have h':¬ tk w i 45=true:=by rw [h];simp
 exact ⟨⟨by rw [qg5,zF h'],by rw [qg5,zF h'],⟨zK _,hi⟩,by decide⟩⟩
theorem qk6 (hi:i<=ln w):zb w i i:=⟨⟨zK _,hi⟩,rfl⟩
theorem qoc (h:pv (zb w x i)) (h0:0<=i) (h1:x<ln w) (h2:48<=bx w x) (h3:bx w x<=57):zb w (x+1) i:=by
 obtain ⟨⟨r1,r2⟩,r3⟩:=Hold.out h
 exact ⟨⟨by omega,by omega⟩,r3.trans (qd5 (by omega) h1 (by simp [qdw,h2,h3]))⟩
theorem zjs (h:pv (zb w x i)) (hs:ln w<=x∨qdw (bx w x)=false):qj w x i:=by
 obtain ⟨r,r3⟩:=Hold.out h
 exact ⟨r,by rw [r3];exact (qd6 hs).symm⟩
theorem qs7 (h:pv (zb w x i)) (hs:ln w<=x):qj w x i:=zjs h (.inl hs)
theorem q1a (h:pv (zb w x i)) (hs:bx w x<48):qj w x i:=zjs h (.inr (by simp only [qdw,Bool.and_eq_false_iff,decide_eq_false_iff_not];omega))
theorem q09 (h:pv (zb w x i)) (hs:57<bx w x):qj w x i:=zjs h (.inr (by simp only [qdw,Bool.and_eq_false_iff,decide_eq_false_iff_not];omega))
theorem zoa (h:b0=true):jd w true b0 ok:=⟨by simp [h]⟩
theorem q6u (h:b0=false):jd w (!ok) b0 ok:=⟨by simp [h]⟩
theorem zug (h:b0=true):qb3 w true b0 ok:=⟨by simp [h]⟩
theorem zob (h:b0=false):qb3 w (!ok) b0 ok:=⟨by simp [h]⟩
theorem q6v:kg w 0 i:=⟨⟨zK _,by decide,rfl⟩⟩
theorem zcu (h:pv (kg w k i)) (h1:k<8) (h2:preB (fr w i) (sub ([88,76,66,83,77,81,70,90]:ZB) k (k+1))=false):kg w (k+1) i:=by
 obtain ⟨r1,r2,r3⟩:=Hold.out h
 refine ⟨⟨by omega,by omega,?_⟩⟩
 rw [<-r3]
 conv=>rhs;rw [qu6]
 rw [dif_pos ⟨r1,h1⟩,zF (by rw [zjl,h2];simp)]
theorem q4a (h:pv (kg w k i)) (h1:k<8) (h2:preB (fr w i) (sub ([88,76,66,83,77,81,70,90]:ZB) k (k+1))=true):qtn w i=some (k+1):=by
 obtain ⟨r1,r2,r3⟩:=Hold.out h
 rw [<-r3,qu6,dif_pos ⟨r1,h1⟩,zT (show preB (fr w i) (sub zjl k (k+1))=true from h2)]
theorem zl6 (h:pv (kg w k i)) (h1:8<=k):qtn w i=none:=by
 obtain ⟨r1,r2,r3⟩:=Hold.out h
 rw [<-r3,qu6,dif_neg (by omega)]
theorem zrs (a b:ZB):ln (a++b)=ln a+ln b:=by simp only [ln,List.length_append];omega
theorem zcq (h:k<8) (h0:0<=k):qb6 w (k+1) i<qb6 w k i:=by simp only [qb6];omega
theorem qoa (h:i<ln w):z9 w (i+1) i0<z9 w i i0:=by simp only [z9];omega
theorem q2k {v:ZB} {r t:Int} (hn:ln w<=1000) (h0:0<=r) (h1:r<=t) (h2:t<=ln w) (h3:ln v<=1):ln (v++sub w r t)<=1001:=by
 rw [zrs,qpv h0 h1 h2];omega
theorem q0g {v:ZB} {r t:Int} (hn:ln w<=1000) (h0:0<=r) (h1:r<=t) (h2:t<=ln w) (h3:ln v<=1):v.length+(sub w r t).length<=1000000000:=by
 have:=q2k hn h0 h1 h2 h3
 simp only [ln,List.length_append] at this
 omega
theorem qio {r t:Int} (hn:ln w<=1000) (h0:0<=r) (h1:r<=t) (h2:t<=ln w):ln (sub w r t)<=1000000:=by
 rw [qpv h0 h1 h2];omega
theorem sub_one {k:Int} (h0:0<=k) (h:k<8):ln (sub ([88,76,66,83,77,81,70,90]:ZB) k (k+1))=1:=by
 have hl:ln ([88,76,66,83,77,81,70,90]:ZB)=8:=rfl
 rw [qpv h0 (by omega) (by omega)];omega
theorem qy1 {k:Int} (h0:0<=k) (h:k<8):-9223372036854775808<=ln (sub ([88,76,66,83,77,81,70,90]:ZB) k (k+1)):=by rw [sub_one h0 h];decide
theorem qy0 {k:Int} (h0:0<=k) (h:k<8):ln (sub ([88,76,66,83,77,81,70,90]:ZB) k (k+1))<=9223372036854775807:=by rw [sub_one h0 h];decide
theorem q73 {k:Int} (h0:0<=k) (h:k<8):-9223372036854775808<=1+ln (sub ([88,76,66,83,77,81,70,90]:ZB) k (k+1)):=by rw [sub_one h0 h];decide
theorem q72 {k:Int} (h0:0<=k) (h:k<8):1+ln (sub ([88,76,66,83,77,81,70,90]:ZB) k (k+1))<=9223372036854775807:=by rw [sub_one h0 h];decide
theorem pre_nil {s:ZB} (h:preB s []=false):False:=by
 simp [preB,ln,upto] at h
theorem zow {s p:ZB} (h:preB s p=true):ln p<=ln s:=by
 simp only [preB,zA,decide_eq_true_eq] at h;exact h.1
theorem zv4 (h:pv (kg w k 0)) (h0:0<=k) (h1:k<8) (h2:preB (fr w 0) (sub ([88,76,66,83,77,81,70,90]:ZB) k (k+1))=true):qbk w (ln (sub ([88,76,66,83,77,81,70,90]:ZB) k (k+1))) false (k+1):=by
 have hl:=zow h2
 rw [sub_one h0 h1] at hl ⊢
 exact ⟨⟨⟨by decide,hl⟩,.inl ⟨rfl,rfl,q4a h h1 h2⟩⟩⟩
theorem zv3 (h:pv (kg w k 0)) (h1:8<=k):qbk w 0 true 0:=⟨⟨⟨by decide,qt w⟩,.inr ⟨rfl,zl6 h h1⟩⟩⟩
theorem zuh (h:pv (tk w i 98=true)) (h0:0<=i):zv w (i+1) (-1) i:=by
 have:=qkk h h0
 exact ⟨⟨⟨by omega,by omega⟩,by rw [qko,zT (pv.out h)],by rw [qko,zT (pv.out h)]⟩⟩
theorem qc4 (h:b=false):¬ b=true:=by rw [h];simp
theorem zui (h:tk w i 98=false) (h1:pv (tk w i 35=true)) (h0:0<=i):zv w (i+1) 1 i:=by
 have:=qkk h1 h0
 exact ⟨⟨⟨by omega,by omega⟩,by rw [qko,zF (qc4 h),zT (pv.out h1)],by rw [qko,zF (qc4 h),zT (pv.out h1)]⟩⟩
theorem zuj (h:tk w i 98=false) (h1:tk w i 35=false) (h2:pv (tk w i 110=true)) (h0:0<=i):zv w (i+1) 2 i:=by
 have:=qkk h2 h0
 exact ⟨⟨⟨by omega,by omega⟩,by rw [qko,zF (qc4 h),zF (qc4 h1),zT (pv.out h2)],by rw [qko,zF (qc4 h),zF (qc4 h1),zT (pv.out h2)]⟩⟩
theorem zuk (h:tk w i 98=false) (h1:tk w i 35=false) (h2:tk w i 110=false) (hi:i<=ln w):zv w i 0 i:=
 ⟨⟨⟨zK _,hi⟩,by rw [qko,zF (qc4 h),zF (qc4 h1),zF (qc4 h2)],by rw [qko,zF (qc4 h),zF (qc4 h1),zF (qc4 h2)]⟩⟩
theorem qma (h:pv (tk w i ch=true)):qde w i ch=(true,i+1):=by rw [qde,zT (pv.out h)]
theorem ql9 (h:tk w i ch=false):qde w i ch=(false,i):=by rw [qde,zF (qc4 h)]
theorem q96 (h0:pv (jq w m j i)) (h2:pv (qj w e j)) (h7:pv (zv w x a e)) (hc:qde w x 42=(c,y)):qff w i=((qbg (m++sub w j e)).1,a,c,(qbg (m++sub w j e)).2,y):=by
 obtain ⟨e1,e2,_⟩:=Hold.out h0
 obtain ⟨_,e3⟩:=Hold.out h2
 obtain ⟨_,e4,e5⟩:=Hold.out h7
 subst e1;subst e2;subst e3;subst e4;subst e5
 simp only [qff,qmd,hc]
theorem zp7 (h0:pv (jq w m j i)) (h2:pv (qj w e j)) (h4:pv (b=(b0 || !(qbg (m++sub w j e)).2))) (h7:pv (zv w x a e)) (hc:qde w x 42=(c,y)) (r1:i<=y) (r2:y<=ln w) :
  qb4 w y b (qbg (m++sub w j e)).1 a c i b0:=by
 have:=q96 h0 h2 h7 hc
 exact ⟨⟨⟨r1,r2⟩,by rw [this],by rw [this],by rw [this],by rw [this];exact h4,by rw [this]⟩⟩
theorem zv5 (h:pv (tk w i 94=true)) (h0:0<=i):ju w (i+1) 1 i:=by
 have:=qkk h h0
 exact ⟨⟨⟨by omega,by omega⟩,by rw [qkv,zT (pv.out h)],by rw [qkv,zT (pv.out h)]⟩⟩
theorem zv6 (h:tk w i 94=false) (h1:pv (tk w i 118=true)) (h0:0<=i):ju w (i+1) 2 i:=by
 have:=qkk h1 h0
 exact ⟨⟨⟨by omega,by omega⟩,by rw [qkv,zF (qc4 h),zT (pv.out h1)],by rw [qkv,zF (qc4 h),zT (pv.out h1)]⟩⟩
theorem zv7 (h:tk w i 94=false) (h1:tk w i 118=false) (h2:pv (tk w i 62=true)) (h0:0<=i):ju w (i+1) 3 i:=by
 have:=qkk h2 h0
 exact ⟨⟨⟨by omega,by omega⟩,by rw [qkv,zF (qc4 h),zF (qc4 h1),zT (pv.out h2)],by rw [qkv,zF (qc4 h),zF (qc4 h1),zT (pv.out h2)]⟩⟩
theorem zv8 (h:tk w i 94=false) (h1:tk w i 118=false) (h2:tk w i 62=false) (hi:i<=ln w):ju w i 0 i:=
 ⟨⟨⟨zK _,hi⟩,by rw [qkv,zF (qc4 h),zF (qc4 h1),zF (qc4 h2)],by rw [qkv,zF (qc4 h),zF (qc4 h1),zF (qc4 h2)]⟩⟩
theorem zt9 (h:pv (tk w i 126=true)) (h0:0<=i):qax w (i+1) true i:=by
 have:=qkk h h0
 exact ⟨⟨⟨by omega,by omega⟩,by rw [qma h],by rw [qma h]⟩⟩
theorem zt8 (h:tk w i 126=false) (hi:i<=ln w):qax w i false i:=⟨⟨⟨zK _,hi⟩,by rw [ql9 h],by rw [ql9 h]⟩⟩
theorem zub (h:pv (tk w i 47=true)) (h0:0<=i):qay w (i+1) b i b:=by
 have:=qkk h h0
 exact ⟨⟨⟨by omega,by omega⟩,.inl ⟨pv.out h,rfl,rfl⟩⟩⟩
theorem zua (h:tk w i 47=false) (hi:i<=ln w):qay w i true i b:=⟨⟨⟨zK _,hi⟩,.inr ⟨h,rfl⟩⟩⟩
theorem zuc (h:pv (tk w 1 67=true)):ji w (1+1) false 0 1:=by
 have:=qkk h (by decide)
 exact ⟨⟨⟨by decide,by omega⟩,.inl ⟨rfl,rfl,by rw [q70,zT (pv.out h)]⟩⟩⟩
theorem zud (h:tk w 1 67=false) (h1:pv (tk w 1 70=true)):ji w (1+1) false 3 1:=by
 have:=qkk h1 (by decide)
 exact ⟨⟨⟨by decide,by omega⟩,.inl ⟨rfl,rfl,by rw [q70,zF (qc4 h),zT (pv.out h1)]⟩⟩⟩
theorem zue (h:tk w 1 67=false) (h1:tk w 1 70=false) (h2:pv (tk w 1 71=true)):ji w (1+1) false 4 1:=by
 have:=qkk h2 (by decide)
 exact ⟨⟨⟨by decide,by omega⟩,.inl ⟨rfl,rfl,by rw [q70,zF (qc4 h),zF (qc4 h1),zT (pv.out h2)]⟩⟩⟩
theorem zuf (h:tk w 1 67=false) (h1:tk w 1 70=false) (h2:tk w 1 71=false) (hi:1<=ln w):ji w 1 true 0 1:=
 ⟨⟨⟨zK _,hi⟩,.inr ⟨rfl,by rw [q70,zF (qc4 h),zF (qc4 h1),zF (qc4 h2)]⟩⟩⟩
theorem zfs {ok b0:Bool} (h:false=(b0 || !ok)):b0=false/\ok=true:=by cases b0<;>cases ok<;>simp_all
theorem zcc (h6:pv (qbk w i b0 v)) (h0:pv (jq w m j i)) (h2:pv (qj w e j)) (h4:pv (b=(b0 || !(qbg (m++sub w j e)).2))) (h7:pv (zv w x a e)) (hc:qde w x 42=(c,y)) (hb:b=false) (hy:y=ln w) :
  rdK w 1=some (Sign.mk 1 v (qbg (m++sub w j e)).1 a c 0 false false 0 0 0 0 false 0 0 0 0):=by
 have hp:=q96 h0 h2 h7 hc
 subst hb
 obtain ⟨hb0,hok⟩:=zfs h4
 obtain ⟨_,⟨_,hi,hv⟩ | ⟨h,_⟩⟩:=Hold.out h6
 .subst hi
  rw [rdK,zT rfl,rd1,hv]
  simp only [hp]
  rw [zT ⟨hok,hy⟩]
 .rw [hb0] at h;cases h
theorem znx (h6:pv (qbk w i b0 v)) (h0:pv (jq w m j i)) (h2:pv (qj w e j)) (h4:pv (b=(b0 || !(qbg (m++sub w j e)).2))) (h7:pv (zv w x a e)) (hc:qde w x 42=(c,y)) (hb:b=true∨y≠ln w) :
  rdK w 1=none:=by
 have hp:=q96 h0 h2 h7 hc
 obtain ⟨_,⟨h,hi,hv⟩ | ⟨_,hv⟩⟩:=Hold.out h6
 .subst hi
  rw [rdK,zT rfl,rd1,hv]
  simp only [hp]
  rw [zF]
  rintro ⟨q1,q2⟩
  rcases hb with hb | hb
  .have h4':b=(b0 || !(qbg (m++sub w j e)).2):=h4
   rw [hb,h,q1] at h4'
   cases h4'
  .exact hb q2
 .rw [rdK,zT rfl,rd1,hv]
theorem zcl:rdK w 2=rd2 w:=rfl
theorem zpz:rdK w 3=rd3 w:=rfl
theorem zi8:rdK w 4=rd4 w:=rfl
theorem zi9:rdK w 5=rd5 w:=rfl
theorem zp0:rdK w 6=rd6 w:=rfl
theorem zja:rdK w 7=rd7 w:=rfl
theorem q01:rdK w 8=rdN w 38 8:=rfl
theorem qsx:rdK w 10=rdN w 93 10:=rfl
theorem zcd (ht:pv (tk w 0 114=true)) (h:pv (kg w k 1)) (h1:k<8) (h2:preB (fr w 1) (sub ([88,76,66,83,77,81,70,90]:ZB) k (k+1))=true) (hl:1+ln (sub ([88,76,66,83,77,81,70,90]:ZB) k (k+1))=ln w):rdK w 2=some (Sign.mk 2 (k+1) 0 0 false 0 false false 0 0 0 0 false 0 0 0 0):=by
 rw [sub_one h.out.out.1 h1] at hl
 rw [zcl,rd2,zT (pv.out ht),q4a h h1 h2];exact zT hl
theorem zny (h:pv (kg w k 1)) (h1:k<8) (h2:preB (fr w 1) (sub ([88,76,66,83,77,81,70,90]:ZB) k (k+1))=true) (hl:1+ln (sub ([88,76,66,83,77,81,70,90]:ZB) k (k+1))≠ln w):rdK w 2=none:=by
 rw [sub_one h.out.out.1 h1] at hl
 rw [zcl,rd2]
 split
 .simp only [q4a h h1 h2]
  exact zF hl
 .rfl
theorem zt4 (h:pv (kg w k 1)) (h1:8<=k):rdK w 2=none:=by
 rw [zcl,rd2]
 split
 .rw [zl6 h h1]
 .rfl
theorem zrp (h:tk w 0 114=false):rdK w 2=none:=by rw [zcl,rd2,zF (qc4 h)]
theorem zcf (h:pv (tk w 0 46=true)) (hl:(1:Int)=ln w):rdK w 3=some (Sign.mk 3 0 0 0 false 0 false false 0 0 0 0 false 0 0 0 0):=by rw [zpz,rd3,zT ⟨pv.out h,hl⟩]
theorem zce (h:tk w 0 46=false∨(1:Int)≠ln w):rdK w 3=none:=by
 rw [zpz,rd3,zF]
 rintro ⟨h1,h2⟩
 rcases h with h | h
 .rw [h] at h1;cases h1
 .exact h h2
theorem zcg (ht:pv (tk w 0 116=true)) (h8:pv (qb4 w i b p a c 1 false)) (h9:pv (ju w j k i)) (h10:pv (qax w e o j)) (hl:qde w e 33=(l,y)) (hb:b=false) (hy:y=ln w) :
  rdK w 4=some (Sign.mk 4 0 p a c k o l 0 0 0 0 false 0 0 0 0):=by
 obtain ⟨_,e1,e2,e3,e4,e5⟩:=Hold.out h8
 obtain ⟨_,e6,e7⟩:=Hold.out h9
 obtain ⟨_,e8,e9⟩:=Hold.out h10
 subst hb
 have hok:=(zfs e4).2
 subst e1;subst e2;subst e3;subst e5;subst e6;subst e7;subst e8;subst e9
 rw [zi8,rd4]
 simp only [zay,hl]
 rw [zT ⟨pv.out ht,hok,hy⟩]
theorem znz (h8:pv (qb4 w i b p a c 1 false)) (h9:pv (ju w j k i)) (h10:pv (qax w e o j)) (hl:qde w e 33=(l,y)) (hb:b=true∨y≠ln w):rdK w 4=none:=by
 obtain ⟨_,e1,e2,e3,e4,e5⟩:=Hold.out h8
 obtain ⟨_,e6,e7⟩:=Hold.out h9
 obtain ⟨_,e8,e9⟩:=Hold.out h10
 subst e5;subst e7;subst e9
 rw [zi8,rd4]
 simp only [zay,hl]
 rw [zF]
 rintro ⟨_,q1,q2⟩
 rcases hb with hb | hb
 .rw [hb,q1] at e4;cases e4
 .exact hb q2
theorem zrq (h:tk w 0 116=false):rdK w 4=none:=by rw [zi8,rd4,zF fun hh=>qc4 h hh.1]
theorem zch (ht:pv (tk w 0 40=true)) (h2:pv (tk w (1+qet w) 41=true)) (hl:qde w (1+qet w+1) 124=(l,y)) (h0:(qgf (sub w 1 (1+qet w))).2=0) (hy:y=ln w) :
  rdK w 5=some (Sign.mk 5 0 0 0 false 0 false false (qgf (sub w 1 (1+qet w))).1.1 (qgf (sub w 1 (1+qet w))).1.2.1 (qgf (sub w 1 (1+qet w))).1.2.2.1 (qgf (sub w 1 (1+qet w))).1.2.2.2 l 0 0 0 0):=by
 rw [zi9,rd5]
 simp only [hl,q9r]
 rw [zT ⟨pv.out ht,h0,pv.out h2,hy⟩]
theorem zn1 (hl:qde w (1+qet w+1) 124=(l,y)) (h:(qgf (sub w 1 (1+qet w))).2≠0∨y≠ln w):rdK w 5=none:=by
 rw [zi9,rd5]
 simp only [hl,q9r]
 rw [zF]
 rintro ⟨_,q1,_,q2⟩
 rcases h with h | h
 .exact h q1
 .exact h q2
theorem zn0 (h:tk w 0 40=false∨tk w (1+qet w) 41=false):rdK w 5=none:=by
 rw [zi9,rd5,zF]
 rintro ⟨q1,_,q2,_⟩
 rcases h with h | h
 .exact qc4 h q1
 .exact qc4 h q2
theorem qnh (h:pv (qj w e i)):qfx w i=(qx (sub w i e),e):=by
 obtain ⟨_,e1⟩:=Hold.out h
 subst e1
 rfl
theorem zci (h2:pv (qj w e 0)) (h3:pv (b0=(false || !(qx (sub w 0 e)).2))) (h11:pv (qay w i b e b0)) (h2':pv (qj w x i)) (h3':pv (c=(b || !(qx (sub w i x)).2))) (hc:c=false) (hx:x=ln w) :
  rdK w 6=some (Sign.mk 6 0 0 0 false 0 false false 0 0 0 0 false (qx (sub w 0 e)).1 (qx (sub w i x)).1 0 0):=by
 subst hc
 obtain ⟨hb,hok⟩:=zfs h3'
 obtain ⟨_,⟨q1,q2,q3⟩ | ⟨_,q⟩⟩:=Hold.out h11
 .subst q2
  rw [hb] at q3
  subst q3
  have hok0:=(zfs h3).2
  rw [zp0,rd6]
  simp only [qnh h2,qnh h2']
  rw [zT ⟨hok0,q1,hok,hx⟩]
 .rw [hb] at q;cases q
theorem zn2 (h2:pv (qj w e 0)) (h3:pv (b0=(false || !(qx (sub w 0 e)).2))) (h11:pv (qay w i b e b0)) (h2':pv (qj w x i)) (h3':pv (c=(b || !(qx (sub w i x)).2))) (hc:c=true∨x≠ln w):rdK w 6=none:=by
 rw [zp0,rd6,zF]
 simp only [qnh h2]
 rintro ⟨q1,q2,q3,q4⟩
 obtain ⟨_,⟨p1,p2,p3⟩ | ⟨p,_⟩⟩:=Hold.out h11
 .subst p2
  rw [qnh h2'] at q3 q4
  rcases hc with hc | hc
  .have h3a:b0=(false || !(qx (sub w 0 e)).2):=h3
   have h3b:c=(b || !(qx (sub w (e+1) x)).2):=h3'
   rw [q1] at h3a
   rw [hc,q3,p3,h3a] at h3b
   cases h3b
  .exact hc q4
 .exact qc4 p q2
theorem zcj (ht:pv (tk w 0 64=true)) (h12:pv (ji w i b k 1)) (h2:pv (qj w x i)) (h3:pv (c=(b || !(qx (sub w i x)).2))) (hc:c=false) (hx:x=ln w) :
  rdK w 7=some (Sign.mk 7 0 0 0 false 0 false false 0 0 0 0 false 0 0 k (qx (sub w i x)).1):=by
 subst hc
 obtain ⟨hb,hok⟩:=zfs h3
 obtain ⟨_,⟨_,q2,q3⟩ | ⟨q,_⟩⟩:=Hold.out h12
 .have q2':i=2:=q2
  subst q2'
  rw [zja,rd7,zT (pv.out ht),q3]
  simp only [qnh h2]
  rw [zT ⟨hok,hx⟩]
 .rw [hb] at q;cases q
theorem zn3 (h12:pv (ji w i b k 1)) (h2:pv (qj w x i)) (h3:pv (c=(b || !(qx (sub w i x)).2))) (hc:c=true∨x≠ln w):rdK w 7=none:=by
 rw [zja,rd7]
 split
 .obtain ⟨_,⟨q1,q2,q3⟩ | ⟨_,q⟩⟩:=Hold.out h12
  .have q2':i=2:=q2
   subst q2'
   rw [q3]
   simp only [qnh h2]
   rw [zF]
   rintro ⟨p1,p2⟩
   rcases hc with hc | hc
   .have h3a:c=(b || !(qx (sub w 2 x)).2):=h3
    rw [hc,q1,p1] at h3a
    cases h3a
   .exact hc p2
  .rw [q]
 .rfl
theorem zrr (h:tk w 0 64=false):rdK w 7=none:=by rw [zja,rd7,zF (qc4 h)]
theorem qvw {ch:UInt8} {n:Int} (hk:rdK w n=rdN w ch n) (ht:pv (tk w 0 ch=true)) (h2:pv (qj w x 1)) (h3:pv (c=(false || !(qx (sub w 1 x)).2))) (hc:c=false) (hx:x=ln w) :
  rdK w n=some (Sign.mk n 0 0 0 false 0 false false 0 0 0 0 false (qx (sub w 1 x)).1 0 0 0):=by
 subst hc
 obtain ⟨_,hok⟩:=zfs h3
 rw [hk,rdN]
 simp only [qnh h2]
 rw [zT ⟨pv.out ht,hok,hx⟩]
theorem zck {ch:UInt8} {n:Int} (hk:rdK w n=rdN w ch n) (h2:pv (qj w x 1)) (h3:pv (c=(false || !(qx (sub w 1 x)).2))) (hc:c=true∨x≠ln w):rdK w n=none:=by
 rw [hk,rdN,zF]
 simp only [qnh h2]
 rintro ⟨_,q1,q2⟩
 rcases hc with hc | hc
 .have h3a:c=(false || !(qx (sub w 1 x)).2):=h3
  rw [hc,q1] at h3a
  cases h3a
 .exact hc q2
theorem ze6 {ch:UInt8} {n:Int} (hk:rdK w n=rdN w ch n) (h:tk w 0 ch=false):rdK w n=none:=by rw [hk,rdN,zF fun hh=>qc4 h hh.1]
theorem qn8 {p:ZB} {n:Int} (hk:rdK w n=rdW w p n) (h:preB w p=true) (hl:ln p=ln w):rdK w n=some (Sign.mk n 0 0 0 false 0 false false 0 0 0 0 false 0 0 0 0):=by rw [hk,rdW,zT ⟨pv.out h,hl⟩]
theorem qn7 {p:ZB} {n:Int} (hk:rdK w n=rdW w p n) (h:preB w p=false∨ln p≠ln w):rdK w n=none:=by
 rw [hk,rdW,zF]
 rintro ⟨h1,h2⟩
 rcases h with h | h
 .exact qc4 h h1
 .exact h h2
end
theorem zjr (w:ZB):0<=qet w:=by unfold qet;split<;>omega
theorem zrx {w:ZB} (h:1<=ln w):1+qet w<=ln w:=by
 unfold qet
 split
 .rename_i h1
  simp only [jc] at h1 ⊢
  split at h1
  .rename_i n hn
   have:=(List.findIdx?_eq_some_iff_getElem.1 hn).1
   simp only [fr,List.length_drop,ln] at *
   omega
  .omega
 .omega
theorem zvn {w:ZB} {Q:Prop}:(tk w 0 40=true->Q)↔(pv (tk w 0 40=true)->0<=qet w->1+qet w<=ln w->Q):=
 ⟨fun h t _ _=>h t,fun h t=>h t (zjr w) (zrx (by have:=qkk t (zK _);omega))⟩
theorem zrw (w:ZB):(if jc (fr w 1) 41 > 0 then jc (fr w 1) 41 else 0)=qet w:=rfl
end Go.Proofs.YtbopmiclcimjgaaGreatDoor
namespace Go.Proofs.YtbopmiclcimjgaaGreatDoor
open Go Go.E2 Go.E3
set_option maxRecDepth 100000
set_option maxHeartbeats 16000000 in
theorem zha (a0:ZB) (hp:ln a0<=1000):qwd a0:=by
 unfold qwd qiv qmi qfz qmj qmk qml
 dsimp only
 have q0:ln ([]:ZB)=0:=rfl
 have q4:ln ([116,117,114,110]:ZB)=4:=rfl
 have q3:ln ([115,105,103]:ZB)=3:=rfl
 have q8:ln ([88,76,66,83,77,81,70,90]:ZB)=8:=rfl
 have q5:ln ([32,94,118,62]:ZB)=4:=rfl
 have s1:sub ([32,94,118,62]:ZB) 1 2=[94]:=rfl
 have s2:sub ([32,94,118,62]:ZB) 2 3=[118]:=rfl
 have s3:sub ([32,94,118,62]:ZB) 3 4=[62]:=rfl
 simp only [q0,q4,q3,q8,q5,s1,s2,s3,zp5,Int.zero_add,zvi,zrw,eq_self,true_and]
 clear q0 q4 q3 q8 q5 s1 s2 s3
 have hn:=qt a0
 refine ⟨⟨⟨fun j a b=>absurd a (by omega)⟩,trivial⟩,fun i0=>⟨?_,fun i1=>⟨?_,fun i2=>⟨?_,fun i3=>⟨?_,fun i4=>⟨?_,fun i5=>⟨?_,fun i6=>⟨?_,fun i7=>⟨?_,fun i8=>⟨?_,fun i9=>⟨?_,fun i10=>⟨?_,fun i11=>⟨?_,fun i12=>?_⟩⟩⟩⟩⟩⟩⟩⟩⟩⟩⟩⟩⟩
 .simp only [q4c,w0,w1,w2,w4,w5,w6,w7,qh]
  unhygienic (repeat' (first | exact trivial | (with_reducible exact rfl) | (with_reducible apply And.intro) | intro))
  all_goals first
   | omega
   | (with_reducible exact (pre_nil ‹_›).elim)
   | (with_reducible exact q6v)
   | (with_reducible exact zcu ‹_› ‹_› ‹_›)
   | (with_reducible exact zcq ‹_› ‹_›)
   | (with_reducible exact qy1 ‹_› ‹_›)
   | (with_reducible exact qy0 ‹_› ‹_›)
   | (with_reducible exact q73 ‹_› ‹_›)
   | (with_reducible exact q72 ‹_› ‹_›)
   | (with_reducible exact zv4 ‹_› ‹_› ‹_› ‹_›)
   | (with_reducible exact zv3 ‹_› ‹_›)
   | (with_reducible exact zt7 ‹_› (by omega))
   | (with_reducible exact zt6 ‹_› (by omega))
   | (with_reducible exact qk6 (by omega))
   | (with_reducible exact qoc ‹_› (by omega) ‹_› ‹_› ‹_›)
   | (with_reducible exact qoa (by omega))
   | (with_reducible exact qs7 ‹_› ‹_›)
   | (with_reducible exact q1a ‹_› ‹_›)
   | (with_reducible exact q09 ‹_› ‹_›)
   | (with_reducible exact zug ‹_›)
   | (with_reducible exact zob ‹_›)
   | (with_reducible exact zob rfl)
   | (with_reducible exact q0g hp (by omega) ‹_› ‹_› ‹_›)
   | exact Int.le_trans (q2k hp (by omega) ‹_› ‹_› ‹_›) (by decide)
   | (with_reducible exact zuh ‹_› (by omega))
   | (with_reducible exact zui ‹_› ‹_› (by omega))
   | (with_reducible exact zuj ‹_› ‹_› ‹_› (by omega))
   | (with_reducible exact zuk ‹_› ‹_› ‹_› ‹_›)
   | exact qvb 1 i0 (by decide) (by decide) (zcc ‹_› ‹_› ‹_› ‹_› ‹_› (by first | exact qma ‹_› | exact ql9 ‹_›) ‹_› (by omega)) ‹_›
   | exact qvc 1 i0 (by decide) (by decide) (zcc ‹_› ‹_› ‹_› ‹_› ‹_› (by first | exact qma ‹_› | exact ql9 ‹_›) ‹_› (by omega)) ‹_›
   | exact qds 1 i0 (znx ‹_› ‹_› ‹_› ‹_› ‹_› (by first | exact qma ‹_› | exact ql9 ‹_›) (by first | (left;assumption) | (right;assumption) | (right;omega)))
   | fail "rest"
 .simp only [q4c,w5,qh]
  unhygienic (repeat' (first | exact trivial | (with_reducible exact rfl) | (with_reducible apply And.intro) | intro))
  all_goals first
   | omega
   | (with_reducible exact (pre_nil ‹_›).elim)
   | (with_reducible exact q6v)
   | (with_reducible exact zcu ‹_› ‹_› ‹_›)
   | (with_reducible exact zcq ‹_› ‹_›)
   | (with_reducible exact qy1 ‹_› ‹_›)
   | (with_reducible exact qy0 ‹_› ‹_›)
   | (with_reducible exact q73 ‹_› ‹_›)
   | (with_reducible exact q72 ‹_› ‹_›)
   | exact qvb 2 i1 (by decide) (by decide) (zcd ‹_› ‹_› ‹_› ‹_› ‹_›) ‹_›
   | exact qvc 2 i1 (by decide) (by decide) (zcd ‹_› ‹_› ‹_› ‹_› ‹_›) ‹_›
   | exact qds 2 i1 (zny ‹_› ‹_› ‹_› ‹_›)
   | exact qds 2 i1 (zt4 ‹_› ‹_›)
   | exact qds 2 i1 (zrp ‹_›)
   | fail "rest"
 .simp only [q4c,qh]
  unhygienic (repeat' (first | exact trivial | (with_reducible exact rfl) | (with_reducible apply And.intro) | intro))
  all_goals first
   | omega
   | (with_reducible exact (pre_nil ‹_›).elim)
   | exact qvb 3 i2 (by decide) (by decide) (zcf ‹_› (by omega)) ‹_›
   | exact qvc 3 i2 (by decide) (by decide) (zcf ‹_› (by omega)) ‹_›
   | exact qds 3 i2 (zce (.inl ‹_›))
   | exact qds 3 i2 (zce (.inr (by omega)))
   | fail "rest"
 .simp only [q4c,w0,w1,w2,w4,w7,w8,w9,w10,qh]
  unhygienic (repeat' (first | exact trivial | (with_reducible exact rfl) | (with_reducible apply And.intro) | intro))
  all_goals first
   | omega
   | (with_reducible exact (pre_nil ‹_›).elim)
   | (with_reducible exact zt7 ‹_› (by omega))
   | (with_reducible exact zt6 ‹_› (by omega))
   | (with_reducible exact qk6 (by omega))
   | (with_reducible exact qoc ‹_› (by omega) ‹_› ‹_› ‹_›)
   | (with_reducible exact qoa (by omega))
   | (with_reducible exact qs7 ‹_› ‹_›)
   | (with_reducible exact q1a ‹_› ‹_›)
   | (with_reducible exact q09 ‹_› ‹_›)
   | (with_reducible exact zug ‹_›)
   | (with_reducible exact zob ‹_›)
   | (with_reducible exact zob rfl)
   | (with_reducible exact q0g hp (by omega) ‹_› ‹_› ‹_›)
   | exact Int.le_trans (q2k hp (by omega) ‹_› ‹_› ‹_›) (by decide)
   | (with_reducible exact zuh ‹_› (by omega))
   | (with_reducible exact zui ‹_› ‹_› (by omega))
   | (with_reducible exact zuj ‹_› ‹_› ‹_› (by omega))
   | (with_reducible exact zuk ‹_› ‹_› ‹_› ‹_›)
   | (with_reducible exact zv5 ‹_› (by omega))
   | (with_reducible exact zv6 ‹_› ‹_› (by omega))
   | (with_reducible exact zv7 ‹_› ‹_› ‹_› (by omega))
   | (with_reducible exact zv8 ‹_› ‹_› ‹_› ‹_›)
   | (with_reducible exact zt9 ‹_› (by omega))
   | (with_reducible exact zt8 ‹_› ‹_›)
   | exact zp7 ‹_› ‹_› ‹_› ‹_› (qma ‹_›) (by omega) (by omega)
   | exact zp7 ‹_› ‹_› ‹_› ‹_› (ql9 ‹_›) (by omega) (by omega)
   | exact qvb 4 i3 (by decide) (by decide) (zcg ‹_› ‹_› ‹_› ‹_› (by first | exact qma ‹_› | exact ql9 ‹_›) ‹_› (by omega)) ‹_›
   | exact qvc 4 i3 (by decide) (by decide) (zcg ‹_› ‹_› ‹_› ‹_› (by first | exact qma ‹_› | exact ql9 ‹_›) ‹_› (by omega)) ‹_›
   | exact qds 4 i3 (znz ‹_› ‹_› ‹_› (by first | exact qma ‹_› | exact ql9 ‹_›) (by first | (left;assumption) | (right;assumption) | (right;omega)))
   | exact qds 4 i3 (zrq ‹_›)
   | fail "rest"
 .simp only [zvn,qh]
  simp only [q4c]
  unhygienic (repeat' (first | exact trivial | (with_reducible exact rfl) | (with_reducible apply And.intro) | intro))
  all_goals first
   | omega
   | (with_reducible exact (pre_nil ‹_›).elim)
   | exact qio hp (by omega) (by omega) (by omega)
   | exact Int.le_trans (qio hp (by omega) (by omega) (by omega)) (by decide)
   | exact qvb 5 i4 (by decide) (by decide) (zch ‹_› ‹_› (by first | exact qma ‹_› | exact ql9 ‹_›) ‹_› (by omega)) ‹_›
   | exact qvc 5 i4 (by decide) (by decide) (zch ‹_› ‹_› (by first | exact qma ‹_› | exact ql9 ‹_›) ‹_› (by omega)) ‹_›
   | exact qds 5 i4 (zn1 (by first | exact qma ‹_› | exact ql9 ‹_›) (by first | (left;assumption) | (right;assumption) | (right;omega)))
   | exact qds 5 i4 (zn0 (.inl ‹_›))
   | exact qds 5 i4 (zn0 (.inr ‹_›))
   | fail "rest"
 .simp only [q4c,w1,w2,w3,w11,qh]
  unhygienic (repeat' (first | exact trivial | (with_reducible exact rfl) | (with_reducible apply And.intro) | intro))
  all_goals first
   | omega
   | (with_reducible exact (pre_nil ‹_›).elim)
   | exact qio hp (by omega) (by omega) (by omega)
   | (with_reducible exact qk6 (by omega))
   | (with_reducible exact qoc ‹_› (by omega) ‹_› ‹_› ‹_›)
   | (with_reducible exact qoa (by omega))
   | (with_reducible exact qs7 ‹_› ‹_›)
   | (with_reducible exact q1a ‹_› ‹_›)
   | (with_reducible exact q09 ‹_› ‹_›)
   | (with_reducible exact zoa ‹_›)
   | (with_reducible exact q6u ‹_›)
   | (with_reducible exact q6u rfl)
   | (with_reducible exact zub ‹_› (by omega))
   | (with_reducible exact zua ‹_› ‹_›)
   | exact qvb 6 i5 (by decide) (by decide) (zci ‹_› ‹_› ‹_› ‹_› ‹_› ‹_› (by omega)) ‹_›
   | exact qvc 6 i5 (by decide) (by decide) (zci ‹_› ‹_› ‹_› ‹_› ‹_› ‹_› (by omega)) ‹_›
   | exact qds 6 i5 (zn2 ‹_› ‹_› ‹_› ‹_› ‹_› (by first | (left;assumption) | (right;assumption) | (right;omega)))
   | fail "rest"
 .simp only [q4c,w1,w2,w3,w12,qh]
  unhygienic (repeat' (first | exact trivial | (with_reducible exact rfl) | (with_reducible apply And.intro) | intro))
  all_goals first
   | omega
   | (with_reducible exact (pre_nil ‹_›).elim)
   | exact qio hp (by omega) (by omega) (by omega)
   | (with_reducible exact qk6 (by omega))
   | (with_reducible exact qoc ‹_› (by omega) ‹_› ‹_› ‹_›)
   | (with_reducible exact qoa (by omega))
   | (with_reducible exact qs7 ‹_› ‹_›)
   | (with_reducible exact q1a ‹_› ‹_›)
   | (with_reducible exact q09 ‹_› ‹_›)
   | (with_reducible exact zoa ‹_›)
   | (with_reducible exact q6u ‹_›)
   | (with_reducible exact q6u rfl)
   | (with_reducible exact zuc ‹_›)
   | (with_reducible exact zud ‹_› ‹_›)
   | (with_reducible exact zue ‹_› ‹_› ‹_›)
   | (with_reducible exact zuf ‹_› ‹_› ‹_› (by omega))
   | exact qvb 7 i6 (by decide) (by decide) (zcj ‹_› ‹_› ‹_› ‹_› ‹_› (by omega)) ‹_›
   | exact qvc 7 i6 (by decide) (by decide) (zcj ‹_› ‹_› ‹_› ‹_› ‹_› (by omega)) ‹_›
   | exact qds 7 i6 (zn3 ‹_› ‹_› ‹_› (by first | (left;assumption) | (right;assumption) | (right;omega)))
   | exact qds 7 i6 (zrr ‹_›)
   | fail "rest"
 .simp only [q4c,w1,w2,w3,qh]
  unhygienic (repeat' (first | exact trivial | (with_reducible exact rfl) | (with_reducible apply And.intro) | intro))
  all_goals first
   | omega
   | (with_reducible exact (pre_nil ‹_›).elim)
   | exact qio hp (by omega) (by omega) (by omega)
   | (with_reducible exact qk6 (by omega))
   | (with_reducible exact qoc ‹_› (by omega) ‹_› ‹_› ‹_›)
   | (with_reducible exact qoa (by omega))
   | (with_reducible exact qs7 ‹_› ‹_›)
   | (with_reducible exact q1a ‹_› ‹_›)
   | (with_reducible exact q09 ‹_› ‹_›)
   | (with_reducible exact zoa ‹_›)
   | (with_reducible exact q6u ‹_›)
   | (with_reducible exact q6u rfl)
   | exact qvb 8 i7 (by decide) (by decide) (qvw q01 ‹_› ‹_› ‹_› ‹_› (by omega)) ‹_›
   | exact qvc 8 i7 (by decide) (by decide) (qvw q01 ‹_› ‹_› ‹_› ‹_› (by omega)) ‹_›
   | exact qds 8 i7 (zck q01 ‹_› ‹_› (by first | (left;assumption) | (right;assumption) | (right;omega)))
   | exact qds 8 i7 (ze6 q01 ‹_›)
   | fail "rest"
 .skip
  unhygienic (repeat' (first | exact trivial | (with_reducible exact rfl) | (with_reducible apply And.intro) | intro))
  all_goals first
   | omega
   | (with_reducible exact (pre_nil ‹_›).elim)
   | exact qvb 9 i8 (by decide) (by decide) (qn8 (p:=[91]) rfl ‹_› ‹_›) ‹_›
   | exact qvc 9 i8 (by decide) (by decide) (qn8 (p:=[91]) rfl ‹_› ‹_›) ‹_›
   | exact qds 9 i8 (qn7 (p:=[91]) rfl (.inl ‹_›))
   | exact qds 9 i8 (qn7 (p:=[91]) rfl (.inr ‹_›))
   | fail "rest"
 .simp only [q4c,w1,w2,w3,qh]
  unhygienic (repeat' (first | exact trivial | (with_reducible exact rfl) | (with_reducible apply And.intro) | intro))
  all_goals first
   | omega
   | (with_reducible exact (pre_nil ‹_›).elim)
   | exact qio hp (by omega) (by omega) (by omega)
   | (with_reducible exact qk6 (by omega))
   | (with_reducible exact qoc ‹_› (by omega) ‹_› ‹_› ‹_›)
   | (with_reducible exact qoa (by omega))
   | (with_reducible exact qs7 ‹_› ‹_›)
   | (with_reducible exact q1a ‹_› ‹_›)
   | (with_reducible exact q09 ‹_› ‹_›)
   | (with_reducible exact zoa ‹_›)
   | (with_reducible exact q6u ‹_›)
   | (with_reducible exact q6u rfl)
   | exact qvb 10 i9 (by decide) (by decide) (qvw qsx ‹_› ‹_› ‹_› ‹_› (by omega)) ‹_›
   | exact qvc 10 i9 (by decide) (by decide) (qvw qsx ‹_› ‹_› ‹_› ‹_› (by omega)) ‹_›
   | exact qds 10 i9 (zck qsx ‹_› ‹_› (by first | (left;assumption) | (right;assumption) | (right;omega)))
   | exact qds 10 i9 (ze6 qsx ‹_›)
   | fail "rest"
 .skip
  unhygienic (repeat' (first | exact trivial | (with_reducible exact rfl) | (with_reducible apply And.intro) | intro))
  all_goals first
   | omega
   | (with_reducible exact (pre_nil ‹_›).elim)
   | exact qvb 11 i10 (by decide) (by decide) (qn8 (p:=[116,117,114,110]) rfl ‹_› ‹_›) ‹_›
   | exact qvc 11 i10 (by decide) (by decide) (qn8 (p:=[116,117,114,110]) rfl ‹_› ‹_›) ‹_›
   | exact qds 11 i10 (qn7 (p:=[116,117,114,110]) rfl (.inl ‹_›))
   | exact qds 11 i10 (qn7 (p:=[116,117,114,110]) rfl (.inr ‹_›))
   | fail "rest"
 .skip
  unhygienic (repeat' (first | exact trivial | (with_reducible exact rfl) | (with_reducible apply And.intro) | intro))
  all_goals first
   | omega
   | (with_reducible exact (pre_nil ‹_›).elim)
   | exact qvb 12 i11 (by decide) (by decide) (qn8 (p:=[115,105,103]) rfl ‹_› ‹_›) ‹_›
   | exact qvc 12 i11 (by decide) (by decide) (qn8 (p:=[115,105,103]) rfl ‹_› ‹_›) ‹_›
   | exact qds 12 i11 (qn7 (p:=[115,105,103]) rfl (.inl ‹_›))
   | exact qds 12 i11 (qn7 (p:=[115,105,103]) rfl (.inr ‹_›))
   | fail "rest"
 .exact zvy i12
end Go.Proofs.YtbopmiclcimjgaaGreatDoor
