/- THE CONDITIONS of the small functions on texts, numbers, mensurations hold. -/
import Derived.Test.YtbopmiclcimjgaaGreatDoorVcs
namespace Go.Proofs.YtbopmiclcimjgaaGreatDoor
open Go Go.E2 Go.E3
set_option maxRecDepth 100000

theorem zh0 (a:UInt8):ln [a]=1:=rfl
theorem qi1 {s:List UInt8} (h:s≠[]):0<ln s:=by
  cases s with
  | nil=>exact absurd rfl h
  | cons a l=>simp only [ln,List.length_cons];omega

theorem qxu (a0 a1:List UInt8):qjh a0 a1:=by
  unfold qjh
  have:=kb a1
  refine ⟨fun h=>⟨⟨kb a1,h⟩,?_,trivial⟩,fun h=>⟨?_,trivial⟩⟩
  . simp only [preB,h,decide_true,Bool.true_and]
  . simp only [preB,show ¬ ln a1<=ln a0 by omega,decide_false,Bool.false_and]

/-! ### Maps of mensurations -/
theorem zhy (x y:MapIS):q4c XK 24 1 x y=decide (x.key=y.key):=by
  show qfb [(.int .i64 none x.key:PV KT)] [.int .i64 none y.key]=_
  rw [Bool.eq_iff_iff]
  simp [qfb]
theorem qjb (y:MapIS):kx [] y=y:=rfl
theorem qcg (x:MapIS) (l:List MapIS) (y:MapIS):kx (x::l) y=bif decide (y.key=x.key) then x else kx l y:=by
  rw [<-zhy];rfl
theorem qp6 (y:MapIS):zi [] y=[y]:=rfl
theorem que (x:MapIS) (l:List MapIS) (y:MapIS):zi (x::l) y=bif decide (y.key=x.key) then y::l else x::zi l y:=by
  rw [<-zhy];rfl
theorem zfo (a:Int):(kx (zi (zi ([]:List MapIS) (MapIS.mk 2 ([50]:List UInt8))) (MapIS.mk 3 ([51]:List UInt8))) (MapIS.mk a ([]:List UInt8))).v=q3x a:=by
  simp only [qp6,que,qjb,qcg,q3x]
  by_cases h2:a=2
  . simp [h2,qcg]
  . by_cases h3:a=3
    . simp [h3,qcg]
    . simp [h2,h3,qcg,qjb]
theorem zg8 (a:Int):(kx (zi (zi ([]:List MapIS) (MapIS.mk 2 ([67]:List UInt8))) (MapIS.mk 3 ([79]:List UInt8))) (MapIS.mk a ([]:List UInt8))).v=q9x a:=by
  simp only [qp6,que,qjb,qcg,q9x]
  by_cases h2:a=2
  . simp [h2,qcg]
  . by_cases h3:a=3
    . simp [h3,qcg]
    . simp [h2,h3,qcg,qjb]
theorem zg1 (a:Int):(kx (zi ([]:List MapIS) (MapIS.mk 3 ([46]:List UInt8))) (MapIS.mk a ([]:List UInt8))).v=q9j a:=by
  simp only [qp6,qjb,qcg,q9j]
  by_cases h3:a=3
  . simp [h3]
  . simp [h3]
theorem qr5 (a:Int):(q3x a).length<=1:=by unfold q3x;(repeat' split)<;>simp
theorem q7i (a:Int):(q9x a).length<=1:=by unfold q9x;(repeat' split)<;>simp
theorem q7b (a:Int):(q9j a).length<=1:=by unfold q9j;(repeat' split)<;>simp
theorem q9z (a0 a1 a2 a3:Int):qqe a0 a1 a2 a3:=by
  unfold qqe
  simp only [zfo,zg8,zg1,qx,List.length_append,List.length_nil]
  have h0:=qr5 a0
  have h1:=qr5 a1
  have h2:=q7i a2
  have h3:=q7b a3
  unhygienic (repeat' (first | exact trivial | exact And.intro (by omega) trivial | apply And.intro | intro))
  all_goals first
    | omega
    | (simp_all [qp];done)
theorem q71 (a0 a1 a2 a3:Int):qpb a0 a1 a2 a3:=by
  unfold qpb
  simp only [z6]
  unhygienic (repeat' (first | exact trivial | apply And.intro | intro))
  all_goals first
    | (simp_all;done)
    | (unfold jy at *;split<;>simp_all)
theorem zhx (x y:MapSM):q4c XK 23 1 x y=decide (x.key=y.key):=by
  show qfb [(.str x.key:PV KT)] [.str y.key]=_
  rw [Bool.eq_iff_iff]
  simp [qfb]
theorem qto (x:MapSM) (l:List MapSM) (y:MapSM):qix (x::l) y=bif decide (y.key=x.key) then x else qix l y:=by
  rw [<-zhx];rfl
theorem qtu (x:MapSM) (l:List MapSM) (y:MapSM):qtv (x::l) y=(decide (y.key=x.key) || qtv l y):=by
  rw [<-zhx];rfl
def q0i (m:M4):MapSM:=MapSM.mk (txM m) m.1 m.2.1 m.2.2.1 m.2.2.2
def mapM:List MapSM:=allM.map q0i
theorem zbm (s:List UInt8):∀ (l:List M4),qtv (l.map q0i) (MapSM.mk s 0 0 0 0)=decide ((qfn s l).2=0)/\
    ((qix (l.map q0i) (MapSM.mk s 0 0 0 0)).vMax,(qix (l.map q0i) (MapSM.mk s 0 0 0 0)).vMod,(qix (l.map q0i) (MapSM.mk s 0 0 0 0)).vTem,(qix (l.map q0i) (MapSM.mk s 0 0 0 0)).vPro)=(qfn s l).1/\((qfn s l).2=0∨(qfn s l)=((0,0,0,0),3))
  | []=>⟨rfl,rfl,.inr rfl⟩
  | m::l=>by
    obtain ⟨h1,h2,h3⟩:=zbm s l
    by_cases h:txM m=s
    . have hd:decide (s=(q0i m).key)=true:=decide_eq_true h.symm
      simp only [List.map_cons,qto,qtu,qfn,if_pos h,hd]
      exact ⟨by simp,rfl,.inl trivial⟩
    . have hd:decide (s=(q0i m).key)=false:=decide_eq_false fun hh=>h hh.symm
      simp only [List.map_cons,qto,qtu,qfn,if_neg h,hd,Bool.false_or,cond_false]
      exact ⟨h1,h2,h3⟩
theorem zga:qj (qj (qj (qj (qj (qj (qj (qj (qj (qj (qj (qj (qj (qj (qj (qj ([]:List MapSM) (MapSM.mk (qp 2 2 2 2) 2 2 2 2)) (MapSM.mk (qp 2 2 2 3) 2 2 2 3)) (MapSM.mk (qp 2 2 3 2) 2 2 3 2)) (MapSM.mk (qp 2 2 3 3) 2 2 3 3)) (MapSM.mk (qp 2 3 2 2) 2 3 2 2)) (MapSM.mk (qp 2 3 2 3) 2 3 2 3)) (MapSM.mk (qp 2 3 3 2) 2 3 3 2)) (MapSM.mk (qp 2 3 3 3) 2 3 3 3)) (MapSM.mk (qp 3 2 2 2) 3 2 2 2)) (MapSM.mk (qp 3 2 2 3) 3 2 2 3)) (MapSM.mk (qp 3 2 3 2) 3 2 3 2)) (MapSM.mk (qp 3 2 3 3) 3 2 3 3)) (MapSM.mk (qp 3 3 2 2) 3 3 2 2)) (MapSM.mk (qp 3 3 2 3) 3 3 2 3)) (MapSM.mk (qp 3 3 3 2) 3 3 3 2)) (MapSM.mk (qp 3 3 3 3) 3 3 3 3)=mapM:=by
  rfl
theorem q3c (a0:List UInt8):qmn a0:=by
  unfold qmn
  simp only [zga]
  obtain ⟨h1,h2,h3⟩:=zbm a0 allM
  simp only [mapM,h1]
  simp only [Prod.ext_iff] at h2
  obtain ⟨e1,e2,e3,e4⟩:=h2
  unhygienic (repeat' (first | exact trivial | apply And.intro | intro))
  all_goals unfold za
  all_goals first
    | exact e1
    | exact e2
    | exact e3
    | exact e4
    | (rcases h3 with h3 | h3
       . simp_all
       . rw [h3])
    | (simp_all;done)

/-! ### Numbers -/
theorem zcr {s:List UInt8} {i n:Int} (h0:0<=i) (h:i<ln s) (h1:48<=bx s i) (h2:bx s i<=57) (h3:10 * n+(bx s i-48)<=1099511627776):qcd s i n=qcd s (i+1) (10 * n+(bx s i-48)):=by
  conv=>lhs;rw [qcd]
  have hd:qdr (bx s i)=true:=by simp [qdr,h1,h2]
  rw [dif_pos ⟨h0,h⟩,if_pos hd,if_neg (by omega)]
theorem zgh {s:List UInt8} {i n:Int} (h0:0<=i) (h:i<ln s) (h1:bx s i<48∨57<bx s i):qcd s i n=(0,false):=by
  rw [qcd]
  have hd:¬ qdr (bx s i)=true:=by simp only [qdr,Bool.and_eq_true,decide_eq_true_eq];omega
  rw [dif_pos ⟨h0,h⟩,if_neg hd]
theorem zgi {s:List UInt8} {i n:Int} (h0:0<=i) (h:i<ln s) (h1:48<=bx s i) (h2:bx s i<=57) (h3:1099511627776<10 * n+(bx s i-48)):qcd s i n=(0,false):=by
  rw [qcd]
  have hd:qdr (bx s i)=true:=by simp [qdr,h1,h2]
  rw [dif_pos ⟨h0,h⟩,if_pos hd,if_pos (by omega)]
theorem zgk {s:List UInt8} {i n:Int} (h:ln s<=i):qcd s i n=(n,true):=by
  rw [qcd,dif_neg (by omega)]
theorem qom {s:List UInt8} (h:s=[]∨(bx s 0=48/\1<ln s)):qd s=(0,false):=by
  unfold qd
  rw [if_pos]
  rcases h with rfl | h
  . exact .inl rfl
  . exact .inr h
theorem q1i {s:List UInt8} (h:s≠[]) (h':¬ (bx s 0=48/\1<ln s)):qcd s 0 0=qd s:=by
  unfold qd
  rw [if_neg]
  have:=qi1 h
  rintro (h1 | h1)
  . omega
  . exact h' h1
theorem q86:∀ {s:List UInt8} {i n:Int},0<=n->n<=1099511627776->0<=(qcd s i n).1/\(qcd s i n).1<=1099511627776:=by
  intro s i n h0 h1
  fun_induction qcd s i n with
  | case1 i n h hd hb=>simp
  | case2 i n h hd hb ih=>
    have:48<=bx s i:=by simp only [qdr,Bool.and_eq_true,decide_eq_true_eq] at hd;exact hd.1
    exact ih (by omega) (by omega)
  | case3 i n h hd=>simp
  | case4 i n h=>exact ⟨h0,h1⟩
theorem zcq (s:List UInt8):0<=(qd s).1/\(qd s).1<=1099511627776:=by
  unfold qd
  split
  . simp
  . exact q86 (by omega) (by omega)
theorem q1g:∀ {s:List UInt8} {i n:Int},(qcd s i n).2=false->(qcd s i n).1=0:=by
  intro s i n
  fun_induction qcd s i n with
  | case1 i n h hd hb=>simp
  | case2 i n h hd hb ih=>exact ih
  | case3 i n h hd=>simp
  | case4 i n h=>simp
theorem q1j {s:List UInt8} (h:(qd s).2=false):(qd s).1=0:=by
  unfold qd at h ⊢
  split
  . rfl
  . rename_i hn
    rw [if_neg hn] at h
    exact q1g h

theorem q1f {s:List UInt8} {i n:Int} (h:qcd s i n=qd s) (h0:0<=i) (h1:i<ln s) (hb:bx s i<48∨57<bx s i∨1099511627776<10 * n+(bx s i-48)):qd s=(0,false):=by
  rw [<-h]
  by_cases h2:bx s i<48∨57<bx s i
  . exact zgh h0 h1 h2
  . exact zgi h0 h1 (by omega) (by omega) (by omega)
theorem q1e {s:List UInt8} {i n:Int} (h:qcd s i n=qd s) (h1:ln s<=i):qd s=(n,true):=by rw [<-h];exact zgk h1
theorem q1h {s:List UInt8} {i n:Int} (h:qcd s i n=qd s) (h0:0<=i) (h1:i<ln s) (h2:48<=bx s i) (h3:bx s i<=57) (h4:10 * n+(bx s i-48)<=1099511627776):qcd s (i+1) (10 * n+(bx s i-48))=qd s:=by
  rw [<-h];exact (zcr h0 h1 h2 h3 h4).symm

set_option maxHeartbeats 4000000 in
theorem q25 (a0:List UInt8) (hp:ln a0<=1000000):qml a0:=by
  unfold qml
  simp only [qaz,qb0,and_imp]
  have hn:a0≠[]->0<ln a0:=qi1
  unhygienic (repeat' (first | exact trivial | exact And.intro (by omega) trivial | apply And.intro | intro))
  all_goals first
    | omega
    | (have:=hn (by assumption);omega)
    | (rw [qom (.inl (by assumption))];done)
    | (rw [qom (.inr ⟨by assumption,by assumption⟩)];done)
    | (rw [q1f (by assumption) (by assumption) (by assumption) (by omega)];done)
    | (rw [q1e (by assumption) (by assumption)];done)
    | exact q1h (by assumption) (by assumption) (by assumption) (by assumption) (by assumption) (by assumption)
    | exact q1i (by assumption) (by omega)
    | exact Int.le_refl _
    | (have:=hn (by assumption);omega)
set_option maxHeartbeats 4000000 in
theorem q22 (a0:List UInt8) (hp:ln a0<=1000000):qmk a0:=by
  unfold qmk
  simp only [qay,qbz,and_imp]
  have hn:a0≠[]->0<ln a0:=qi1
  unhygienic (repeat' (first | exact trivial | exact And.intro (by omega) trivial | apply And.intro | intro))
  all_goals first
    | omega
    | (have:=hn (by assumption);omega)
    | (rw [qom (.inl (by assumption))];done)
    | (rw [qom (.inr ⟨by assumption,by assumption⟩)];done)
    | (rw [q1f (by assumption) (by assumption) (by assumption) (by omega)];done)
    | (rw [q1e (by assumption) (by assumption)];done)
    | exact q1h (by assumption) (by assumption) (by assumption) (by assumption) (by assumption) (by assumption)
    | exact q1i (by assumption) (by omega)
    | exact Int.le_refl _
    | (have:=hn (by assumption);omega)

theorem zi9 {s:List UInt8} {c:UInt8}:upto s (ln [c])=[c]↔0<ln s/\bx s 0=c.toNat:=by
  cases s with
  | nil=>simp [upto,ln]
  | cons a l=>
    have:upto (a::l) (ln [c])=[a]:=rfl
    rw [this]
    have e:bx (a::l) 0=(a.toNat:Int):=rfl
    rw [e]
    simp only [List.cons.injEq,and_true,qg1]
    have:=kb l
    constructor
    . rintro rfl;exact ⟨by omega,rfl⟩
    . rintro ⟨_,h⟩;exact qfq h
theorem q4z {s:List UInt8} (h:¬ (0<ln s/\bx s 0=45)):z7 s=qd s:=by rw [z7,if_neg h]
theorem qsc {s:List UInt8} (h:0<ln s/\bx s 0=45) (h2:(qd (fr s 1)).2=true) (h3:(qd (fr s 1)).1≠0):z7 s=(-(qd (fr s 1)).1,true):=by rw [z7,if_pos h,if_pos ⟨h2,h3⟩]
theorem qlx {s:List UInt8} (h:0<ln s/\bx s 0=45) (h2:(qd (fr s 1)).2=false∨(qd (fr s 1)).1=0):z7 s=(0,false):=by
  rw [z7,if_pos h,if_neg]
  rintro ⟨h3,h4⟩
  rcases h2 with h2 | h2
  . rw [h2] at h3;cases h3
  . exact h4 h2
theorem q3j (a0:List UInt8) (hp:ln a0<=1000000):qmp a0:=by
  unfold qmp
  have hf:ln (fr a0 (ln ([45]:List UInt8)))<=ln a0:=by simp only [fr,ln,List.length_drop];omega
  have hb:=zcq (fr a0 (ln ([45]:List UInt8)))
  have hz:=@q1j a0
  have hl:ln ([45]:List UInt8)=1:=rfl
  have h45:((45:UInt8).toNat:Int)=45:=rfl
  have hn:=kb a0
  unhygienic (repeat' (first | exact trivial | exact And.intro (by omega) trivial | apply And.intro | intro))
  all_goals first
    | omega
    | (rw [ne_eq,zi9] at a_1;rw [q4z a_1]<;>first | assumption | exact (hz (by assumption)).symm | (symm;assumption) | rfl)
    | (rw [zi9] at a_1;first | (rw [qlx a_1 (.inl (by assumption))];done) | (rw [qlx a_1 (.inr (by assumption))];done) | (rw [qsc a_1 (by assumption) (by assumption)];done) | (rw [qsc a_1 (by assumption) (by assumption)];rfl))
    | (rw [q4z (by omega)]<;>first | assumption | exact (hz (by assumption)).symm | (symm;assumption) | rfl)
theorem q3g (a0:List UInt8) (hp:ln a0<=1000000):qmo a0:=by
  unfold qmo
  have hf:ln (fr a0 1)<=ln a0:=by simp only [fr,ln,List.length_drop];omega
  have hb:=zcq (fr a0 1)
  have hz:=@q1j (fr a0 1)
  have hn:a0≠[]->0<ln a0:=qi1
  have hn':=kb a0
  unhygienic (repeat' (first | exact trivial | exact And.intro (by omega) trivial | apply And.intro | intro))
  all_goals first
    | omega
    | (have:=hn (by assumption);omega)
    | (subst a;rfl)
    | (rw [q4z (by omega)];done)
    | skip
  all_goals have hpos:=hn a
  . by_cases h0:(qd (fr a0 1)).1=0
    . rw [qlx ⟨hpos,a_1⟩ (.inr h0),h0];rfl
    . rw [qsc ⟨hpos,a_1⟩ a_2 h0]
  . by_cases h0:(qd (fr a0 1)).1=0
    . rw [qlx ⟨hpos,a_1⟩ (.inr h0),h0];rfl
    . rw [qsc ⟨hpos,a_1⟩ a_2 h0,decide_eq_true (by omega)]
  . rw [qlx ⟨hpos,a_1⟩ (.inl a_2),hz a_2];rfl
  . rw [qlx ⟨hpos,a_1⟩ (.inl a_2)]

theorem q1u {s:List UInt8} {c i k m:Int} (h0:0<=i) (h:i<ln s) (hc:bx s i=c):qbe s c i k m=qbe s c (i+1) i (m+1):=by
  conv=>lhs;rw [qbe]
  rw [dif_pos ⟨h0,h⟩,if_pos hc]
theorem qw9 {s:List UInt8} {c i k m:Int} (h0:0<=i) (h:i<ln s) (hc:bx s i≠c):qbe s c i k m=qbe s c (i+1) k m:=by
  conv=>lhs;rw [qbe]
  rw [dif_pos ⟨h0,h⟩,if_neg hc]
theorem q1v {s:List UInt8} {c i k:Int} (h:ln s<=i):qbe s c i k 1=(upto s k,fr s (k+1),true):=by
  rw [qbe,dif_neg (by omega),if_pos rfl]
theorem zgv {s:List UInt8} {c i k m:Int} (h:ln s<=i) (hm:m≠1):qbe s c i k m=([],[],false):=by
  rw [qbe,dif_neg (by omega),if_neg hm]
theorem q99 (a0:List UInt8) (a1:Int) (hp:U8 a1/\ln a0<=1000000):qsh a0 a1:=by
  unfold qsh
  simp only [qer,qdk,and_imp,qo9]
  have hn:=kb a0
  unhygienic (repeat' (first | exact trivial | exact And.intro (by omega) trivial | apply And.intro | intro))
  all_goals first
    | omega
    | rfl
    | (rw [<-q1u (by assumption) (by assumption) (by assumption)];assumption)
    | (rw [<-qw9 (by assumption) (by assumption) (by assumption)];assumption)
    | (rw [<-a_7,zgv (by assumption) (by assumption)];done)
    | (subst a_9;rw [<-a_7,q1v (by assumption)];done)
    | skip

/-! ### Mensurations again -/
theorem q7y (a0 a1 a2 a3:Int):qpa a0 a1 a2 a3:=by
  unfold qpa
  have hv:jy a0 a1 a2 a3=0->(a0=2∨a0=3)/\(a1=2∨a1=3)/\(a2=2∨a2=3)/\(a3=2∨a3=3):=by
    unfold jy
    split
    . exact fun _=>by assumption
    . intro h;omega
  by_cases hm:jy a0 a1 a2 a3=0
  . obtain ⟨h0,h1,h2,h3⟩:=hv hm
    rcases h0 with rfl | rfl<;>rcases h1 with rfl | rfl<;>rcases h2 with rfl | rfl<;>rcases h3 with rfl | rfl<;>simp (config:={decide:=true}) [z6,qp,q3x,q9x,q9j,jy,qx]
  . simp only [z6,hm,if_false,ne_eq,not_false_eq_true,true_and,and_true,forall_const,false_imp_iff]
    unfold jy at *
    split at hm
    . exact absurd rfl hm
    . rename_i hh
      rw [if_neg hh]
theorem zh6 (a0:Int) (hp:0<=a0/\a0<=15):q27 a0:=by
  unfold q27
  have e1:Int.tdiv a0 8=a0 / 8:=Int.tdiv_eq_ediv_of_nonneg hp.1
  have e2:Int.tdiv a0 4=a0 / 4:=Int.tdiv_eq_ediv_of_nonneg hp.1
  have e3:Int.tdiv a0 2=a0 / 2:=Int.tdiv_eq_ediv_of_nonneg hp.1
  have e4:Int.tmod (a0 / 4) 2=a0 / 4 % 2:=Int.tmod_eq_emod_of_nonneg (by omega)
  have e5:Int.tmod (a0 / 2) 2=a0 / 2 % 2:=Int.tmod_eq_emod_of_nonneg (by omega)
  have e6:Int.tmod a0 2=a0 % 2:=Int.tmod_eq_emod_of_nonneg hp.1
  simp only [e1,e2,e3,e4,e5,e6,qr4,ofM]
  unhygienic (repeat' (first | exact trivial | exact And.intro (by omega) trivial | apply And.intro | intro))
  all_goals first
    | omega
    | rfl
theorem zcv {i:Int} (h0:0<=i) (h:i<16):fr allM i=ofM i::fr allM (i+1):=by
  have hc:i=0∨i=1∨i=2∨i=3∨i=4∨i=5∨i=6∨i=7∨i=8∨i=9∨i=10∨i=11∨i=12∨i=13∨i=14∨i=15:=by omega
  rcases hc with rfl | rfl | rfl | rfl | rfl | rfl | rfl | rfl | rfl | rfl | rfl | rfl | rfl | rfl | rfl | rfl<;>rfl
theorem q68 {i:Int} (h0:0<=i) (h:i<16):(z6 (ofM i).1 (ofM i).2.1 (ofM i).2.2.1 (ofM i).2.2.2).1=txM (ofM i):=by
  have hc:i=0∨i=1∨i=2∨i=3∨i=4∨i=5∨i=6∨i=7∨i=8∨i=9∨i=10∨i=11∨i=12∨i=13∨i=14∨i=15:=by omega
  rcases hc with rfl | rfl | rfl | rfl | rfl | rfl | rfl | rfl | rfl | rfl | rfl | rfl | rfl | rfl | rfl | rfl<;>rfl
theorem zgx {s:List UInt8} {i:Int} (hg:qfn s (fr allM i)=za s) (h0:0<=i) (h:i<16) (he:(z6 (ofM i).1 (ofM i).2.1 (ofM i).2.2.1 (ofM i).2.2.2).1=s):za s=(ofM i,0):=by
  rw [q68 h0 h] at he
  rw [<-hg,zcv h0 h,qfn,if_pos he]
theorem zde {s:List UInt8} {i:Int} (hg:qfn s (fr allM i)=za s) (h0:0<=i) (h:i<16) (he:(z6 (ofM i).1 (ofM i).2.1 (ofM i).2.2.1 (ofM i).2.2.2).1≠s):qfn s (fr allM (i+1))=za s:=by
  rw [q68 h0 h] at he
  rw [<-hg,zcv h0 h,qfn,if_neg he]
theorem zgw {s:List UInt8} {i:Int} (hg:qfn s (fr allM i)=za s) (h:16<=i):za s=((0,0,0,0),3):=by
  rw [<-hg,qx8 (show ln allM<=i from h)];rfl
theorem q29 (a0:List UInt8):qmm a0:=by
  unfold qmm
  simp only [qdy,qfe,and_imp,qke]
  unhygienic (repeat' (first | exact trivial | exact And.intro (by omega) trivial | apply And.intro | intro))
  all_goals first
    | omega
    | rfl
    | (rw [zgx a_2 (by assumption) (by assumption) (by assumption)];done)
    | exact zde a_2 (by assumption) (by assumption) (by assumption)
    | (rw [zgw a_2 (by assumption)];done)

/-! ### Numbers as texts, letters -/
theorem zl8 {n:Int} (h0:0<=n) (h:n<=9):n=0∨n=1∨n=2∨n=3∨n=4∨n=5∨n=6∨n=7∨n=8∨n=9:=by omega
theorem zfp {n:Int} (h0:0<=n) (h:n<=9):sub ([48,49,50,51,52,53,54,55,56,57]:List UInt8) n (n+1)=zb n:=by
  rcases zl8 h0 h with rfl | rfl | rfl | rfl | rfl | rfl | rfl | rfl | rfl | rfl<;>rfl
theorem q65 {n:Int} (_:0<=n):(qrz n).length<=3:=by
  unfold qrz
  split
  . simp [d1]
  . split
    . simp [d1]
    . simp
theorem qa7 (n:Int):(zb n).length<=4:=by
  unfold zb
  split
  . simp only [List.length_cons];have:=q65 (n:=-n) (by omega);omega
  . have:=q65 (n:=n) (by omega);omega
theorem q82 {n:Int} (h:9<n) (h':n<=100):qrz (n / 10)++qrz (n % 10)=qrz n:=by
  by_cases h1:n<=99
  . have e1:qrz (n / 10)=d1 (n / 10):=by rw [qrz,if_pos (by omega)]
    have e2:qrz (n % 10)=d1 (n % 10):=by rw [qrz,if_pos (by omega)]
    rw [e1,e2,qrz,if_neg (by omega),if_pos h1]
  . obtain rfl:n=100:=by omega
    rfl
theorem q3z (a0:Int) (hp:-100<=a0/\a0<=100):qmw a0:=by
  unfold qmw
  have l1:=qa7 (-a0)
  have l2:=qa7 (Int.tdiv a0 10)
  have l3:=qa7 (Int.tmod a0 10)
  simp only [qx,List.length_cons,List.length_nil]
  refine ⟨fun h=>⟨by omega,⟨by omega,by rw [if_neg (by omega),if_pos h];omega⟩,by omega,?_,trivial⟩,fun h=>⟨fun h9=>?_,fun h9=>⟨by omega,⟨h,by omega,?_⟩,zfp h h9,trivial⟩⟩⟩
  . rw [zb,if_neg (by omega),zb,if_pos h];rfl
  . have e1:Int.tdiv a0 10=a0 / 10:=Int.tdiv_eq_ediv_of_nonneg h
    have e2:Int.tmod a0 10=a0 % 10:=Int.tmod_eq_emod_of_nonneg h
    rw [e1] at l2
    rw [e2] at l3
    rw [e1,e2]
    refine ⟨⟨by decide,by omega⟩,⟨by omega,by rw [if_neg (by omega),if_neg (by omega)];omega⟩,by decide,⟨by omega,by rw [if_neg (by omega),if_neg (by omega)];omega⟩,by omega,?_,trivial⟩
    rw [zb,if_neg (by omega),zb,if_neg (by omega),zb,if_neg (by omega)]
    exact q82 h9 (by omega)
  . have:ln ([48,49,50,51,52,53,54,55,56,57]:List UInt8)=10:=rfl
    omega
theorem zd7 (a0:List UInt8) (a1:Int) (hp:U8 a1):quy a0 a1:=by
  unfold quy
  simp only [qe]
  have hn:a0≠[]->0<ln a0:=qi1
  unhygienic (repeat' (first | exact trivial | exact And.intro (by omega) trivial | apply And.intro | intro))
  all_goals first
    | omega
    | (have:=hn (by assumption);omega)
    | (rw [if_pos ⟨hn (by assumption),by assumption⟩];done)
    | (rw [if_neg (fun h=>(by assumption:bx a0 0≠a1) h.2)];done)
    | (subst a;rfl)
theorem q2z (a0:Int):qmj a0:=by
  unfold qmj
  simp only [qi0,ltr,q81]
  have hl:ln ([88,76,66,83,77,81,70,90]:List UInt8)=8:=rfl
  unhygienic (repeat' (first | exact trivial | exact And.intro (by omega) trivial | apply And.intro | intro))
  all_goals first
    | omega
    | (rw [if_pos (by omega)];done)
    | (rw [if_neg (by omega)];done)
theorem q74 (a0:List UInt8):qpc a0:=by
  unfold qpc
  have e0:sub ([88,76,66,83,77,81,70,90]:List UInt8) 0 1=[88]:=rfl
  have e1:sub ([88,76,66,83,77,81,70,90]:List UInt8) 1 2=[76]:=rfl
  have e2:sub ([88,76,66,83,77,81,70,90]:List UInt8) 2 3=[66]:=rfl
  have e3:sub ([88,76,66,83,77,81,70,90]:List UInt8) 3 4=[83]:=rfl
  have e4:sub ([88,76,66,83,77,81,70,90]:List UInt8) 4 5=[77]:=rfl
  have e5:sub ([88,76,66,83,77,81,70,90]:List UInt8) 5 6=[81]:=rfl
  have e6:sub ([88,76,66,83,77,81,70,90]:List UInt8) 6 7=[70]:=rfl
  have e7:sub ([88,76,66,83,77,81,70,90]:List UInt8) 7 8=[90]:=rfl
  have hl:ln ([88,76,66,83,77,81,70,90]:List UInt8)=8:=rfl
  simp only [e0,e1,e2,e3,e4,e5,e6,e7,hl,jf]
  unhygienic (repeat' (first | exact trivial | exact And.intro (by omega) trivial | apply And.intro | intro))
  all_goals first
    | omega
    | (simp only [*,if_true,if_false,ne_eq,not_false_eq_true,reduceCtorEq,List.cons.injEq,and_true];done)
    | (simp_all;done)
theorem zey (a:Int):(q78 a).length<=1:=by unfold q78;(repeat' split)<;>simp
theorem ze3 (c:Bool):(qvh c).length<=1:=by unfold qvh;(repeat' split)<;>simp
theorem q2e (k:Int):(qmh k).length<=1:=by unfold qmh;(repeat' split)<;>simp
theorem zci (b:Bool) (c:UInt8):(ju b c).length<=1:=by unfold ju;(repeat' split)<;>simp
theorem q0y (s:Sign):(j6 s).length<=6:=by
  unfold j6
  have h1:=qa7 s.Place
  have h2:=zey s.Acc
  have h3:=ze3 s.Color
  simp only [List.length_append];omega
theorem zbr (a0 a1 a2 a3:Int) (a4:Bool) (a5:Int) (a6 a7:Bool) (a8 a9 a10 a11:Int) (a12:Bool) (a13 a14 a15 a16:Int) (hp:-100<=a2/\a2<=100):qtw a0 a1 a2 a3 a4 a5 a6 a7 a8 a9 a10 a11 a12 a13 a14 a15 a16:=by
  unfold qtw
  have hl:=qa7 a2
  simp only [j6,q78,qvh,qx,List.length_append,List.length_cons,List.length_nil]
  unhygienic (repeat' (first | exact trivial | exact And.intro (by omega) trivial | apply And.intro | intro))
  all_goals first
    | omega
    | (simp_all;done)
theorem zea (a0 a1 a2 a3:Int) (a4:Bool) (a5:Int) (a6 a7:Bool) (a8 a9 a10 a11:Int) (a12:Bool) (a13 a14 a15 a16:Int) (hp:-100<=a2/\a2<=100/\0<=a5/\a5<=3):qu0 a0 a1 a2 a3 a4 a5 a6 a7 a8 a9 a10 a11 a12 a13 a14 a15 a16:=by
  unfold qu0
  have hl:=q0y (Sign.mk a0 a1 a2 a3 a4 a5 a6 a7 a8 a9 a10 a11 a12 a13 a14 a15 a16)
  have hx:ix ([[],[94],[118],[62]]:List (List UInt8)) a5=qmh a5:=by
    have hc:a5=0∨a5=1∨a5=2∨a5=3:=by omega
    rcases hc with rfl | rfl | rfl | rfl<;>rfl
  have hs:=q2e a5
  have hl4:ln ([[],[94],[118],[62]]:List (List UInt8))=4:=rfl
  simp only [hx,qd1,ju,qx,List.length_append,List.length_cons,List.length_nil]
  unhygienic (repeat' (first | exact trivial | exact And.intro (by omega) trivial | apply And.intro | intro))
  all_goals first
    | omega
    | (simp [*];done)
end Go.Proofs.YtbopmiclcimjgaaGreatDoor
