/- THE CONDITIONS of the small functions on texts, numbers, mensurations hold. -/
import Derived.Test.YtbopmiclcimjgaaGreatDoorVcs
namespace Go.Proofs.YtbopmiclcimjgaaGreatDoor
open Go Go.E2 Go.E3
set_option maxRecDepth 100000

theorem q76 {s:List UInt8} (h:s≠[]):0<ln s:=by
  cases s with
  | nil=>exact absurd rfl h
  | cons a l=>simp only [ln,List.length_cons];omega

theorem qvd (a0 a1:List UInt8):qhv a0 a1:=by
  unfold qhv
  have:=qbc a1
  refine ⟨fun h=>⟨⟨qbc a1,h⟩,?_,trivial⟩,fun h=>⟨?_,trivial⟩⟩
  . simp only [preB,h,decide_true,Bool.true_and]
  . simp only [preB,show ¬ ln a1<=ln a0 by omega,decide_false,Bool.false_and]

/-! ### Maps of mensurations -/
theorem zcv (x y:MapIS):q1f XK 24 1 x y=decide (x.key=y.key):=by
  show qeb [(.int .i64 none x.key:PV KT)] [.int .i64 none y.key]=_
  rw [Bool.eq_iff_iff]
  simp [qeb]
theorem qhp (y:MapIS):z8 [] y=y:=rfl
theorem qbs (x:MapIS) (l:List MapIS) (y:MapIS):z8 (x::l) y=bif decide (y.key=x.key) then x else z8 l y:=by
  rw [<-zcv];rfl
theorem qn2 (y:MapIS):za [] y=[y]:=rfl
theorem qr8 (x:MapIS) (l:List MapIS) (y:MapIS):za (x::l) y=bif decide (y.key=x.key) then y::l else x::za l y:=by
  rw [<-zcv];rfl
theorem za7 (a:Int):(z8 (za (za ([]:List MapIS) (MapIS.mk 2 ([50]:List UInt8))) (MapIS.mk 3 ([51]:List UInt8))) (MapIS.mk a ([]:List UInt8))).v=q00 a:=by
  simp only [qn2,qr8,qhp,qbs,q00]
  by_cases h2:a=2
  . simp [h2,qbs]
  . by_cases h3:a=3
    . simp [h3,qbs]
    . simp [h2,h3,qbs,qhp]
theorem zcc (a:Int):(z8 (za (za ([]:List MapIS) (MapIS.mk 2 ([67]:List UInt8))) (MapIS.mk 3 ([79]:List UInt8))) (MapIS.mk a ([]:List UInt8))).v=q54 a:=by
  simp only [qn2,qr8,qhp,qbs,q54]
  by_cases h2:a=2
  . simp [h2,qbs]
  . by_cases h3:a=3
    . simp [h3,qbs]
    . simp [h2,h3,qbs,qhp]
theorem zb4 (a:Int):(z8 (za ([]:List MapIS) (MapIS.mk 3 ([46]:List UInt8))) (MapIS.mk a ([]:List UInt8))).v=q5r a:=by
  simp only [qn2,qhp,qbs,q5r]
  by_cases h3:a=3
  . simp [h3]
  . simp [h3]
theorem qp3 (a:Int):(q00 a).length<=1:=by unfold q00;(repeat' split)<;>simp
theorem q3v (a:Int):(q54 a).length<=1:=by unfold q54;(repeat' split)<;>simp
theorem q3o (a:Int):(q5r a).length<=1:=by unfold q5r;(repeat' split)<;>simp
theorem q56 (a0 a1 a2 a3:Int):qn9 a0 a1 a2 a3:=by
  unfold qn9
  simp only [za7,zcc,zb4,qn,List.length_append,List.length_nil]
  have h0:=qp3 a0
  have h1:=qp3 a1
  have h2:=q3v a2
  have h3:=q3o a3
  unhygienic (repeat' (first | exact trivial | exact And.intro (by omega) trivial | apply And.intro | intro))
  all_goals first
    | omega
    | (simp_all [qj];done)
theorem q4c (a0 a1 a2 a3:Int):qnb a0 a1 a2 a3:=by
  unfold qnb
  simp only [zs]
  unhygienic (repeat' (first | exact trivial | apply And.intro | intro))
  all_goals first
    | (simp_all;done)
    | (unfold jf at *;split<;>simp_all)
theorem zcu (x y:MapSM):q1f XK 23 1 x y=decide (x.key=y.key):=by
  show qeb [(.str x.key:PV KT)] [.str y.key]=_
  rw [Bool.eq_iff_iff]
  simp [qeb]
theorem qrl (x:MapSM) (l:List MapSM) (y:MapSM):qhd (x::l) y=bif decide (y.key=x.key) then x else qhd l y:=by
  rw [<-zcu];rfl
theorem qrr (x:MapSM) (l:List MapSM) (y:MapSM):qrs (x::l) y=(decide (y.key=x.key) || qrs l y):=by
  rw [<-zcu];rfl
def qx3 (m:M4):MapSM:=MapSM.mk (txM m) m.1 m.2.1 m.2.2.1 m.2.2.2
def mapM:List MapSM:=allM.map qx3
theorem q7p (s:List UInt8):∀ (l:List M4),qrs (l.map qx3) (MapSM.mk s 0 0 0 0)=decide ((qpe s l).2=0)/\
    ((qhd (l.map qx3) (MapSM.mk s 0 0 0 0)).vMax,(qhd (l.map qx3) (MapSM.mk s 0 0 0 0)).vMod,(qhd (l.map qx3) (MapSM.mk s 0 0 0 0)).vTem,(qhd (l.map qx3) (MapSM.mk s 0 0 0 0)).vPro)=(qpe s l).1/\((qpe s l).2=0∨(qpe s l)=((0,0,0,0),3))
  | []=>⟨rfl,rfl,.inr rfl⟩
  | m::l=>by
    obtain ⟨h1,h2,h3⟩:=q7p s l
    by_cases h:txM m=s
    . have hd:decide (s=(qx3 m).key)=true:=decide_eq_true h.symm
      simp only [List.map_cons,qrl,qrr,qpe,if_pos h,hd]
      exact ⟨by simp,rfl,.inl trivial⟩
    . have hd:decide (s=(qx3 m).key)=false:=decide_eq_false fun hh=>h hh.symm
      simp only [List.map_cons,qrl,qrr,qpe,if_neg h,hd,Bool.false_or,cond_false]
      exact ⟨h1,h2,h3⟩
theorem zbm:qd (qd (qd (qd (qd (qd (qd (qd (qd (qd (qd (qd (qd (qd (qd (qd ([]:List MapSM) (MapSM.mk (qj 2 2 2 2) 2 2 2 2)) (MapSM.mk (qj 2 2 2 3) 2 2 2 3)) (MapSM.mk (qj 2 2 3 2) 2 2 3 2)) (MapSM.mk (qj 2 2 3 3) 2 2 3 3)) (MapSM.mk (qj 2 3 2 2) 2 3 2 2)) (MapSM.mk (qj 2 3 2 3) 2 3 2 3)) (MapSM.mk (qj 2 3 3 2) 2 3 3 2)) (MapSM.mk (qj 2 3 3 3) 2 3 3 3)) (MapSM.mk (qj 3 2 2 2) 3 2 2 2)) (MapSM.mk (qj 3 2 2 3) 3 2 2 3)) (MapSM.mk (qj 3 2 3 2) 3 2 3 2)) (MapSM.mk (qj 3 2 3 3) 3 2 3 3)) (MapSM.mk (qj 3 3 2 2) 3 3 2 2)) (MapSM.mk (qj 3 3 2 3) 3 3 2 3)) (MapSM.mk (qj 3 3 3 2) 3 3 3 2)) (MapSM.mk (qj 3 3 3 3) 3 3 3 3)=mapM:=by
  rfl
theorem q0j (a0:List UInt8):qkp a0:=by
  unfold qkp
  simp only [zbm]
  obtain ⟨h1,h2,h3⟩:=q7p a0 allM
  simp only [mapM,h1]
  simp only [Prod.ext_iff] at h2
  obtain ⟨e1,e2,e3,e4⟩:=h2
  unhygienic (repeat' (first | exact trivial | apply And.intro | intro))
  all_goals unfold qj1
  all_goals first
    | exact e1
    | exact e2
    | exact e3
    | exact e4
    | (rcases h3 with h3 | h3
       . simp_all
       . rw [h3])
    | (simp_all;done)

/-! ### Numbers -/
theorem q8l {s:List UInt8} {i n:Int} (h0:0<=i) (h:i<ln s) (h1:48<=bx s i) (h2:bx s i<=57) (h3:10 * n+(bx s i-48)<=1099511627776):qcl s i n=qcl s (i+1) (10 * n+(bx s i-48)):=by
  conv=>lhs;rw [qcl]
  have hd:qvr (bx s i)=true:=by simp [qvr,h1,h2]
  rw [dif_pos ⟨h0,h⟩,if_pos hd,if_neg (by omega)]
theorem zbq {s:List UInt8} {i n:Int} (h0:0<=i) (h:i<ln s) (h1:bx s i<48∨57<bx s i):qcl s i n=(0,false):=by
  rw [qcl]
  have hd:¬ qvr (bx s i)=true:=by simp only [qvr,Bool.and_eq_true,decide_eq_true_eq];omega
  rw [dif_pos ⟨h0,h⟩,if_neg hd]
theorem zbr {s:List UInt8} {i n:Int} (h0:0<=i) (h:i<ln s) (h1:48<=bx s i) (h2:bx s i<=57) (h3:1099511627776<10 * n+(bx s i-48)):qcl s i n=(0,false):=by
  rw [qcl]
  have hd:qvr (bx s i)=true:=by simp [qvr,h1,h2]
  rw [dif_pos ⟨h0,h⟩,if_pos hd,if_pos (by omega)]
theorem zbs {s:List UInt8} {i n:Int} (h:ln s<=i):qcl s i n=(n,true):=by
  rw [qcl,dif_neg (by omega)]
theorem qyz {s:List UInt8} (h:s=[]∨(bx s 0=48/\1<ln s)):kh s=(0,false):=by
  unfold kh
  rw [if_pos]
  rcases h with rfl | h
  . exact .inl rfl
  . exact .inr h
theorem q8k {s:List UInt8} (h:s≠[]) (h':¬ (bx s 0=48/\1<ln s)):qcl s 0 0=kh s:=by
  unfold kh
  rw [if_neg]
  have:=q76 h
  rintro (h1 | h1)
  . omega
  . exact h' h1
theorem q5f:∀ {s:List UInt8} {i n:Int},0<=n->n<=1099511627776->0<=(qcl s i n).1/\(qcl s i n).1<=1099511627776:=by
  intro s i n h0 h1
  fun_induction qcl s i n with
  | case1 i n h hd hb=>simp
  | case2 i n h hd hb ih=>
    have:48<=bx s i:=by simp only [qvr,Bool.and_eq_true,decide_eq_true_eq] at hd;exact hd.1
    exact ih (by omega) (by omega)
  | case3 i n h hd=>simp
  | case4 i n h=>exact ⟨h0,h1⟩
theorem zd2 (s:List UInt8):0<=(kh s).1/\(kh s).1<=1099511627776:=by
  unfold kh
  split
  . simp
  . exact q5f (by omega) (by omega)
theorem qyy:∀ {s:List UInt8} {i n:Int},(qcl s i n).2=false->(qcl s i n).1=0:=by
  intro s i n
  fun_induction qcl s i n with
  | case1 i n h hd hb=>simp
  | case2 i n h hd hb ih=>exact ih
  | case3 i n h hd=>simp
  | case4 i n h=>simp
theorem q8m {s:List UInt8} (h:(kh s).2=false):(kh s).1=0:=by
  unfold kh at h ⊢
  split
  . rfl
  . rename_i hn
    rw [if_neg hn] at h
    exact qyy h

theorem q8i {s:List UInt8} {i n:Int} (h:qcl s i n=kh s) (h0:0<=i) (h1:i<ln s) (hb:bx s i<48∨57<bx s i∨1099511627776<10 * n+(bx s i-48)):kh s=(0,false):=by
  rw [<-h]
  by_cases h2:bx s i<48∨57<bx s i
  . exact zbq h0 h1 h2
  . exact zbr h0 h1 (by omega) (by omega) (by omega)
theorem q8h {s:List UInt8} {i n:Int} (h:qcl s i n=kh s) (h1:ln s<=i):kh s=(n,true):=by rw [<-h];exact zbs h1
theorem q8j {s:List UInt8} {i n:Int} (h:qcl s i n=kh s) (h0:0<=i) (h1:i<ln s) (h2:48<=bx s i) (h3:bx s i<=57) (h4:10 * n+(bx s i-48)<=1099511627776):qcl s (i+1) (10 * n+(bx s i-48))=kh s:=by
  rw [<-h];exact (q8l h0 h1 h2 h3 h4).symm

set_option maxHeartbeats 4000000 in
theorem q0d (a0:List UInt8) (hp:ln a0<=1000000):qko a0:=by
  unfold qko
  simp only [qai,qbf,and_imp]
  have hn:a0≠[]->0<ln a0:=q76
  unhygienic (repeat' (first | exact trivial | exact And.intro (by omega) trivial | apply And.intro | intro))
  all_goals first
    | omega
    | (have:=hn (by assumption);omega)
    | (rw [qyz (.inl (by assumption))];done)
    | (rw [qyz (.inr ⟨by assumption,by assumption⟩)];done)
    | (rw [q8i (by assumption) (by assumption) (by assumption) (by omega)];done)
    | (rw [q8h (by assumption) (by assumption)];done)
    | exact q8j (by assumption) (by assumption) (by assumption) (by assumption) (by assumption) (by assumption)
    | exact q8k (by assumption) (by omega)
    | exact Int.le_refl _
    | (have:=hn (by assumption);omega)
theorem zfg {s:List UInt8} {c:UInt8}:upto s (ln [c])=[c]↔0<ln s/\bx s 0=c.toNat:=by
  cases s with
  | nil=>simp [upto,ln]
  | cons a l=>
    have:upto (a::l) (ln [c])=[a]:=rfl
    rw [this]
    have e:bx (a::l) 0=(a.toNat:Int):=rfl
    rw [e]
    simp only [List.cons.injEq,and_true,zbl]
    have:=qbc l
    constructor
    . rintro rfl;exact ⟨by omega,rfl⟩
    . rintro ⟨_,h⟩;exact q0x h
theorem q9e {s:List UInt8} (h:¬ (0<ln s/\bx s 0=45)):qej s=kh s:=by rw [qej,if_neg h]
theorem q3r {s:List UInt8} (h:0<ln s/\bx s 0=45) (h2:(kh (fr s 1)).2=true) (h3:(kh (fr s 1)).1≠0):qej s=(-(kh (fr s 1)).1,true):=by rw [qej,if_pos h,if_pos ⟨h2,h3⟩]
theorem q3q {s:List UInt8} (h:0<ln s/\bx s 0=45) (h2:(kh (fr s 1)).2=false∨(kh (fr s 1)).1=0):qej s=(0,false):=by
  rw [qej,if_pos h,if_neg]
  rintro ⟨h3,h4⟩
  rcases h2 with h2 | h2
  . rw [h2] at h3;cases h3
  . exact h4 h2
theorem q0n (a0:List UInt8) (hp:ln a0<=1000000):qkq a0:=by
  unfold qkq
  have hf:ln (fr a0 (ln ([45]:List UInt8)))<=ln a0:=by simp only [fr,ln,List.length_drop];omega
  have hb:=zd2 (fr a0 (ln ([45]:List UInt8)))
  have hz:=@q8m a0
  have hl:ln ([45]:List UInt8)=1:=rfl
  have h45:((45:UInt8).toNat:Int)=45:=rfl
  have hn:=qbc a0
  unhygienic (repeat' (first | exact trivial | exact And.intro (by omega) trivial | apply And.intro | intro))
  all_goals first
    | omega
    | (rw [ne_eq,zfg] at a_1;rw [q9e a_1]<;>first | assumption | exact (hz (by assumption)).symm | (symm;assumption) | rfl)
    | (rw [zfg] at a_1;first | (rw [q3q a_1 (.inl (by assumption))];done) | (rw [q3q a_1 (.inr (by assumption))];done) | (rw [q3r a_1 (by assumption) (by assumption)];done) | (rw [q3r a_1 (by assumption) (by assumption)];rfl))
    | (rw [q9e (by omega)]<;>first | assumption | exact (hz (by assumption)).symm | (symm;assumption) | rfl)
/-! ### Mensurations again -/
theorem q39 (a0 a1 a2 a3:Int):qna a0 a1 a2 a3:=by
  unfold qna
  have hv:jf a0 a1 a2 a3=0->(a0=2∨a0=3)/\(a1=2∨a1=3)/\(a2=2∨a2=3)/\(a3=2∨a3=3):=by
    unfold jf
    split
    . exact fun _=>by assumption
    . intro h;omega
  by_cases hm:jf a0 a1 a2 a3=0
  . obtain ⟨h0,h1,h2,h3⟩:=hv hm
    rcases h0 with rfl | rfl<;>rcases h1 with rfl | rfl<;>rcases h2 with rfl | rfl<;>rcases h3 with rfl | rfl<;>simp (config:={decide:=true}) [zs,qj,q00,q54,q5r,jf,qn]
  . simp only [zs,hm,if_false,ne_eq,not_false_eq_true,true_and,and_true,forall_const,false_imp_iff]
    unfold jf at *
    split at hm
    . exact absurd rfl hm
    . rename_i hh
      rw [if_neg hh]
/-! ### Numbers as texts, letters -/
theorem zf7 {n:Int} (h0:0<=n) (h:n<=9):n=0∨n=1∨n=2∨n=3∨n=4∨n=5∨n=6∨n=7∨n=8∨n=9:=by omega
theorem za8 {n:Int} (h0:0<=n) (h:n<=9):sub ([48,49,50,51,52,53,54,55,56,57]:List UInt8) n (n+1)=qu n:=by
  rcases zf7 h0 h with rfl | rfl | rfl | rfl | rfl | rfl | rfl | rfl | rfl | rfl<;>rfl
theorem q3j {n:Int} (_:0<=n):(qpy n).length<=3:=by
  unfold qpy
  split
  . simp [d1]
  . split
    . simp [d1]
    . simp
theorem k7 (n:Int):(qu n).length<=4:=by
  unfold qu
  split
  . simp only [List.length_cons];have:=q3j (n:=-n) (by omega);omega
  . have:=q3j (n:=n) (by omega);omega
theorem q5b {n:Int} (h:9<n) (h':n<=100):qpy (n / 10)++qpy (n % 10)=qpy n:=by
  by_cases h1:n<=99
  . have e1:qpy (n / 10)=d1 (n / 10):=by rw [qpy,if_pos (by omega)]
    have e2:qpy (n % 10)=d1 (n % 10):=by rw [qpy,if_pos (by omega)]
    rw [e1,e2,qpy,if_neg (by omega),if_pos h1]
  . obtain rfl:n=100:=by omega
    rfl
theorem q02 (a0:Int) (hp:-100<=a0/\a0<=100):qkw a0:=by
  unfold qkw
  have l1:=k7 (-a0)
  have l2:=k7 (Int.tdiv a0 10)
  have l3:=k7 (Int.tmod a0 10)
  simp only [qn,List.length_cons,List.length_nil]
  refine ⟨fun h=>⟨by omega,⟨by omega,by rw [if_neg (by omega),if_pos h];omega⟩,by omega,?_,trivial⟩,fun h=>⟨fun h9=>?_,fun h9=>⟨by omega,⟨h,by omega,?_⟩,za8 h h9,trivial⟩⟩⟩
  . rw [qu,if_neg (by omega),qu,if_pos h];rfl
  . have e1:Int.tdiv a0 10=a0 / 10:=Int.tdiv_eq_ediv_of_nonneg h
    have e2:Int.tmod a0 10=a0 % 10:=Int.tmod_eq_emod_of_nonneg h
    rw [e1] at l2
    rw [e2] at l3
    rw [e1,e2]
    refine ⟨⟨by decide,by omega⟩,⟨by omega,by rw [if_neg (by omega),if_neg (by omega)];omega⟩,by decide,⟨by omega,by rw [if_neg (by omega),if_neg (by omega)];omega⟩,by omega,?_,trivial⟩
    rw [qu,if_neg (by omega),qu,if_neg (by omega),qu,if_neg (by omega)]
    exact q5b h9 (by omega)
  . have:ln ([48,49,50,51,52,53,54,55,56,57]:List UInt8)=10:=rfl
    omega
theorem q0a (a0:Int):qkn a0:=by
  unfold qkn
  simp only [qhf,ltr,zdx]
  have hl:ln ([88,76,66,83,77,81,70,90]:List UInt8)=8:=rfl
  unhygienic (repeat' (first | exact trivial | exact And.intro (by omega) trivial | apply And.intro | intro))
  all_goals first
    | omega
    | (rw [if_pos (by omega)];done)
    | (rw [if_neg (by omega)];done)
theorem zac (a:Int):(q4i a).length<=1:=by unfold q4i;(repeat' split)<;>simp
theorem zag (c:Bool):(qs7 c).length<=1:=by unfold qs7;(repeat' split)<;>simp
theorem qsm (k:Int):(qkj k).length<=1:=by unfold qkj;(repeat' split)<;>simp
theorem qmm (b:Bool) (c:UInt8):(j3 b c).length<=1:=by unfold j3;(repeat' split)<;>simp
theorem qmd (s:Sign):(jm s).length<=6:=by
  unfold jm
  have h1:=k7 s.Place
  have h2:=zac s.Acc
  have h3:=zag s.Color
  simp only [List.length_append];omega
theorem q7s (a0 a1 a2 a3:Int) (a4:Bool) (a5:Int) (a6 a7:Bool) (a8 a9 a10 a11:Int) (a12:Bool) (a13 a14 a15 a16:Int) (hp:-100<=a2/\a2<=100):qrt a0 a1 a2 a3 a4 a5 a6 a7 a8 a9 a10 a11 a12 a13 a14 a15 a16:=by
  unfold qrt
  have hl:=k7 a2
  simp only [jm,q4i,qs7,qn,List.length_append,List.length_cons,List.length_nil]
  unhygienic (repeat' (first | exact trivial | exact And.intro (by omega) trivial | apply And.intro | intro))
  all_goals first
    | omega
    | (simp_all;done)
theorem q9o (a0 a1 a2 a3:Int) (a4:Bool) (a5:Int) (a6 a7:Bool) (a8 a9 a10 a11:Int) (a12:Bool) (a13 a14 a15 a16:Int) (hp:-100<=a2/\a2<=100/\0<=a5/\a5<=3):qsp a0 a1 a2 a3 a4 a5 a6 a7 a8 a9 a10 a11 a12 a13 a14 a15 a16:=by
  unfold qsp
  have hl:=qmd (Sign.mk a0 a1 a2 a3 a4 a5 a6 a7 a8 a9 a10 a11 a12 a13 a14 a15 a16)
  have hx:ix ([[],[94],[118],[62]]:List (List UInt8)) a5=qkj a5:=by
    have hc:a5=0∨a5=1∨a5=2∨a5=3:=by omega
    rcases hc with rfl | rfl | rfl | rfl<;>rfl
  have hs:=qsm a5
  have hl4:ln ([[],[94],[118],[62]]:List (List UInt8))=4:=rfl
  simp only [hx,qc0,j3,qn,List.length_append,List.length_cons,List.length_nil]
  unhygienic (repeat' (first | exact trivial | exact And.intro (by omega) trivial | apply And.intro | intro))
  all_goals first
    | omega
    | (simp [*];done)
end Go.Proofs.YtbopmiclcimjgaaGreatDoor
