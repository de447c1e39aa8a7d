import Derived.Test.YtbopmiclcimjgaaGreatDoorVcs
namespace Go.Proofs.YtbopmiclcimjgaaGreatDoor
open Go Go.E2 Go.E3
set_option maxRecDepth 100000
theorem zpf (a:UInt8):ln [a]=1:=rfl
theorem qki {s:ZB} (h:s≠[]):0<ln s:=by
 cases s with
 | nil=>exact absurd rfl h
 | cons a l=>simp only [ln,List.length_cons];omega
theorem q1s (a0 a1:ZB):qk1 a0 a1:=by
 unfold qk1
 have:=zb a1
 refine ⟨fun h=>⟨⟨zb a1,h⟩,?_,trivial⟩,fun h=>⟨?_,trivial⟩⟩
 .simp only [preB,h,decide_true,Bool.true_and]
 .simp only [preB,show ¬ ln a1<=ln a0 by omega,decide_false,Bool.false_and]
theorem zpd (x y:MapIS):q9p XK 24 1 x y=decide (x.key=y.key):=by
 show qgb [(.int .i64 none x.key:PV KT)] [.int .i64 none y.key]=_
 rw [Bool.eq_iff_iff]
 simp [qgb]
theorem qku (y:MapIS):qf7 [] y=y:=rfl
theorem qdb (x:MapIS) (l:List MapIS) (y:MapIS):qf7 (x::l) y=bif decide (y.key=x.key) then x else qf7 l y:=by
 rw [<-zpd];rfl
theorem qso (y:MapIS):qha [] y=[y]:=rfl
theorem qxq (x:MapIS) (l:List MapIS) (y:MapIS):qha (x::l) y=bif decide (y.key=x.key) then y::l else x::qha l y:=by
 rw [<-zpd];rfl
theorem zmy (a:Int):(qf7 (qha (qha ([]:List MapIS) (MapIS.mk 2 ([50]:ZB))) (MapIS.mk 3 ([51]:ZB))) (MapIS.mk a ([]:ZB))).v=q86 a:=by
 simp only [qso,qxq,qku,qdb,q86]
 by_cases h2:a=2
 .simp [h2,qdb]
 .by_cases h3:a=3
  .simp [h3,qdb]
  .simp [h2,h3,qdb,qku]
theorem zon (a:Int):(qf7 (qha (qha ([]:List MapIS) (MapIS.mk 2 ([67]:ZB))) (MapIS.mk 3 ([79]:ZB))) (MapIS.mk a ([]:ZB))).v=zf3 a:=by
 simp only [qso,qxq,qku,qdb,zf3]
 by_cases h2:a=2
 .simp [h2,qdb]
 .by_cases h3:a=3
  .simp [h3,qdb]
  .simp [h2,h3,qdb,qku]
theorem zoe (a:Int):(qf7 (qha ([]:List MapIS) (MapIS.mk 3 ([46]:ZB))) (MapIS.mk a ([]:ZB))).v=zfn a:=by
 simp only [qso,qku,qdb,zfn]
 by_cases h3:a=3
 .simp [h3]
 .simp [h3]
theorem zbj (a:Int):(q86 a).length<=1:=by unfold q86;(repeat' split)<;>simp
theorem zoo (a:Int):(zf3 a).length<=1:=by unfold zf3;(repeat' split)<;>simp
theorem zof (a:Int):(zfn a).length<=1:=by unfold zfn;(repeat' split)<;>simp
theorem zf5 (a0 a1 a2 a3:Int):qsz a0 a1 a2 a3:=by
 unfold qsz
 dsimp only
 simp only [zmy,zon,zoe,zk,List.length_append,List.length_nil]
 have h0:=zbj a0
 have h1:=zbj a1
 have h2:=zoo a2
 have h3:=zof a3
 unhygienic (repeat' (first | exact trivial | exact And.intro (by omega) trivial | apply And.intro | intro))
 all_goals first
  | omega
  | (simp_all [qaf];done)
theorem zdz (a0 a1 a2 a3:Int):qro a0 a1 a2 a3:=by
 unfold qro
 simp only [qe0]
 unhygienic (repeat' (first | exact trivial | apply And.intro | intro))
 all_goals first
  | (simp_all;done)
  | (unfold qa0 at *;split<;>simp_all)
theorem zpc (x y:MapSM):q9p XK 23 1 x y=decide (x.key=y.key):=by
 show qgb [(.str x.key:PV KT)] [.str y.key]=_
 rw [Bool.eq_iff_iff]
 simp [qgb]
theorem qwz (x:MapSM) (l:List MapSM) (y:MapSM):qkf (x::l) y=bif decide (y.key=x.key) then x else qkf l y:=by
 rw [<-zpc];rfl
theorem qw4 (x:MapSM) (l:List MapSM) (y:MapSM):qw5 (x::l) y=(decide (y.key=x.key) || qw5 l y):=by
 rw [<-zpc];rfl
def q45 (m:M4):MapSM:=MapSM.mk (txM m) m.1 m.2.1 m.2.2.1 m.2.2.2
def mapM:List MapSM:=allM.map q45
theorem zim (s:ZB):∀ (l:List M4),qw5 (l.map q45) (MapSM.mk s 0 0 0 0)=decide ((qgp s l).2=0)/\
  ((qkf (l.map q45) (MapSM.mk s 0 0 0 0)).vMax,(qkf (l.map q45) (MapSM.mk s 0 0 0 0)).vMod,(qkf (l.map q45) (MapSM.mk s 0 0 0 0)).vTem,(qkf (l.map q45) (MapSM.mk s 0 0 0 0)).vPro)=(qgp s l).1/\((qgp s l).2=0∨(qgp s l)=((0,0,0,0),3))
 | []=>⟨rfl,rfl,.inr rfl⟩
 | m::l=>by
  obtain ⟨h1,h2,h3⟩:=zim s l
  by_cases h:txM m=s
  .have hd:decide (s=(q45 m).key)=true:=decide_eq_true h.symm
   simp only [List.map_cons,qwz,qw4,qgp,if_pos h,hd]
   exact ⟨by simp,rfl,.inl trivial⟩
  .have hd:decide (s=(q45 m).key)=false:=decide_eq_false fun hh=>h hh.symm
   simp only [List.map_cons,qwz,qw4,qgp,if_neg h,hd,Bool.false_or,cond_false]
   exact ⟨h1,h2,h3⟩
theorem znl:qab (qab (qab (qab (qab (qab (qab (qab (qab (qab (qab (qab (qab (qab (qab (qab ([]:List MapSM) (MapSM.mk (qaf 2 2 2 2) 2 2 2 2)) (MapSM.mk (qaf 2 2 2 3) 2 2 2 3)) (MapSM.mk (qaf 2 2 3 2) 2 2 3 2)) (MapSM.mk (qaf 2 2 3 3) 2 2 3 3)) (MapSM.mk (qaf 2 3 2 2) 2 3 2 2)) (MapSM.mk (qaf 2 3 2 3) 2 3 2 3)) (MapSM.mk (qaf 2 3 3 2) 2 3 3 2)) (MapSM.mk (qaf 2 3 3 3) 2 3 3 3)) (MapSM.mk (qaf 3 2 2 2) 3 2 2 2)) (MapSM.mk (qaf 3 2 2 3) 3 2 2 3)) (MapSM.mk (qaf 3 2 3 2) 3 2 3 2)) (MapSM.mk (qaf 3 2 3 3) 3 2 3 3)) (MapSM.mk (qaf 3 3 2 2) 3 3 2 2)) (MapSM.mk (qaf 3 3 2 3) 3 3 2 3)) (MapSM.mk (qaf 3 3 3 2) 3 3 3 2)) (MapSM.mk (qaf 3 3 3 3) 3 3 3 3)=mapM:=by
 rfl
theorem q8g (a0:ZB):qom a0:=by
 unfold qom
 dsimp only
 simp only [znl]
 obtain ⟨h1,h2,h3⟩:=zim a0 allM
 simp only [mapM,h1]
 simp only [Prod.ext_iff] at h2
 obtain ⟨e1,e2,e3,e4⟩:=h2
 unhygienic (repeat' (first | exact trivial | apply And.intro | intro))
 all_goals unfold kc
 all_goals first
  | exact e1
  | exact e2
  | exact e3
  | exact e4
  | (rcases h3 with h3 | h3
     .simp_all
     .rw [h3])
  | (simp_all;done)
theorem zjm {s:ZB} {i n:Int} (h0:0<=i) (h:i<ln s) (h1:48<=bx s i) (h2:bx s i<=57) (h3:10 * n+(bx s i-48)<=1099511627776):qc7 s i n=qc7 s (i+1) (10 * n+(bx s i-48)):=by
 conv=>lhs;rw [qc7]
 have hd:qeo (bx s i)=true:=by simp [qeo,h1,h2]
 rw [dif_pos ⟨h0,h⟩,if_pos hd,if_neg (by omega)]
theorem znt {s:ZB} {i n:Int} (h0:0<=i) (h:i<ln s) (h1:bx s i<48∨57<bx s i):qc7 s i n=(0,false):=by
 rw [qc7]
 have hd:¬ qeo (bx s i)=true:=by simp only [qeo,zA,decide_eq_true_eq];omega
 rw [dif_pos ⟨h0,h⟩,if_neg hd]
theorem znu {s:ZB} {i n:Int} (h0:0<=i) (h:i<ln s) (h1:48<=bx s i) (h2:bx s i<=57) (h3:1099511627776<10 * n+(bx s i-48)):qc7 s i n=(0,false):=by
 rw [qc7]
 have hd:qeo (bx s i)=true:=by simp [qeo,h1,h2]
 rw [dif_pos ⟨h0,h⟩,if_pos hd,if_pos (by omega)]
theorem znw {s:ZB} {i n:Int} (h:ln s<=i):qc7 s i n=(n,true):=by
 rw [qc7,dif_neg (by omega)]
theorem qqt {s:ZB} (h:s=[]∨(bx s 0=48/\1<ln s)):qi s=(0,false):=by
 unfold qi
 rw [if_pos]
 rcases h with rfl | h
 .exact .inl rfl
 .exact .inr h
theorem q6g {s:ZB} (h:s≠[]) (h':¬ (bx s 0=48/\1<ln s)):qc7 s 0 0=qi s:=by
 unfold qi
 rw [if_neg]
 have:=qki h
 rintro (h1 | h1)
 .omega
 .exact h' h1
theorem ze7:∀ {s:ZB} {i n:Int},0<=n->n<=1099511627776->0<=(qc7 s i n).1/\(qc7 s i n).1<=1099511627776:=by
 intro s i n h0 h1
 fun_induction qc7 s i n with
 | case1 i n h hd hb=>simp
 | case2 i n h hd hb ih=>
  have:48<=bx s i:=by simp only [qeo,zA,decide_eq_true_eq] at hd;exact hd.1
  exact ih (by omega) (by omega)
 | case3 i n h hd=>simp
 | case4 i n h=>exact ⟨h0,h1⟩
theorem zjl (s:ZB):0<=(qi s).1/\(qi s).1<=1099511627776:=by
 unfold qi
 split
 .simp
 .exact ze7 (by omega) (by omega)
theorem q6e:∀ {s:ZB} {i n:Int},(qc7 s i n).2=false->(qc7 s i n).1=0:=by
 intro s i n
 fun_induction qc7 s i n with
 | case1 i n h hd hb=>simp
 | case2 i n h hd hb ih=>exact ih
 | case3 i n h hd=>simp
 | case4 i n h=>simp
theorem q6h {s:ZB} (h:(qi s).2=false):(qi s).1=0:=by
 unfold qi at h ⊢
 split
 .rfl
 .rename_i hn
  rw [if_neg hn] at h
  exact q6e h
theorem q6d {s:ZB} {i n:Int} (h:qc7 s i n=qi s) (h0:0<=i) (h1:i<ln s) (hb:bx s i<48∨57<bx s i∨1099511627776<10 * n+(bx s i-48)):qi s=(0,false):=by
 rw [<-h]
 by_cases h2:bx s i<48∨57<bx s i
 .exact znt h0 h1 h2
 .exact znu h0 h1 (by omega) (by omega) (by omega)
theorem q6c {s:ZB} {i n:Int} (h:qc7 s i n=qi s) (h1:ln s<=i):qi s=(n,true):=by rw [<-h];exact znw h1
theorem q6f {s:ZB} {i n:Int} (h:qc7 s i n=qi s) (h0:0<=i) (h1:i<ln s) (h2:48<=bx s i) (h3:bx s i<=57) (h4:10 * n+(bx s i-48)<=1099511627776):qc7 s (i+1) (10 * n+(bx s i-48))=qi s:=by
 rw [<-h];exact (zjm h0 h1 h2 h3 h4).symm
set_option maxHeartbeats 4000000 in
theorem q79 (a0:ZB) (hp:ln a0<=1000000):qok a0:=by
 unfold qok
 simp only [qbs,qcy,and_imp]
 have hn:a0≠[]->0<ln a0:=qki
 unhygienic (repeat' (first | exact trivial | exact And.intro (by omega) trivial | apply And.intro | intro))
 all_goals first
  | omega
  | (have:=hn ‹_›;omega)
  | (rw [qqt (.inl ‹_›)];done)
  | (rw [qqt (.inr ⟨by assumption,by assumption⟩)];done)
  | (rw [q6d ‹_› ‹_› ‹_› (by omega)];done)
  | (rw [q6c ‹_› ‹_›];done)
  | exact q6f ‹_› ‹_› ‹_› ‹_› ‹_› ‹_›
  | exact q6g ‹_› (by omega)
  | exact Int.le_refl _
  | (have:=hn ‹_›;omega)
set_option maxHeartbeats 4000000 in
theorem q76 (a0:ZB) (hp:ln a0<=1000000):qoj a0:=by
 unfold qoj
 simp only [qbr,qcx,and_imp]
 have hn:a0≠[]->0<ln a0:=qki
 unhygienic (repeat' (first | exact trivial | exact And.intro (by omega) trivial | apply And.intro | intro))
 all_goals first
  | omega
  | (have:=hn ‹_›;omega)
  | (rw [qqt (.inl ‹_›)];done)
  | (rw [qqt (.inr ⟨by assumption,by assumption⟩)];done)
  | (rw [q6d ‹_› ‹_› ‹_› (by omega)];done)
  | (rw [q6c ‹_› ‹_›];done)
  | exact q6f ‹_› ‹_› ‹_› ‹_› ‹_› ‹_›
  | exact q6g ‹_› (by omega)
  | exact Int.le_refl _
  | (have:=hn ‹_›;omega)
theorem zq8 {s:ZB} {c:UInt8}:upto s (ln [c])=[c]↔0<ln s/\bx s 0=c.toNat:=by
 cases s with
 | nil=>simp [upto,ln]
 | cons a l=>
  have:upto (a::l) (ln [c])=[a]:=rfl
  rw [this]
  have e:bx (a::l) 0=(a.toNat:Int):=rfl
  rw [e]
  simp only [List.cons.injEq,and_true,qa5]
  have:=zb l
  constructor
  .rintro rfl;exact ⟨by omega,rfl⟩
  .rintro ⟨_,h⟩;exact qgv h
theorem zah {s:ZB} (h:¬ (0<ln s/\bx s 0=45)):k8 s=qi s:=by rw [k8,if_neg h]
theorem qvc {s:ZB} (h:0<ln s/\bx s 0=45) (h2:(qi (fr s 1)).2=true) (h3:(qi (fr s 1)).1≠0):k8 s=(-(qi (fr s 1)).1,true):=by rw [k8,if_pos h,if_pos ⟨h2,h3⟩]
theorem qns {s:ZB} (h:0<ln s/\bx s 0=45) (h2:(qi (fr s 1)).2=false∨(qi (fr s 1)).1=0):k8 s=(0,false):=by
 rw [k8,if_pos h,if_neg]
 rintro ⟨h3,h4⟩
 rcases h2 with h2 | h2
 .rw [h2] at h3;cases h3
 .exact h4 h2
theorem q8p (a0:ZB) (hp:ln a0<=1000000):qoo a0:=by
 unfold qoo
 dsimp only
 have hf:ln (fr a0 (ln ([45]:ZB)))<=ln a0:=by simp only [fr,ln,List.length_drop];omega
 have hb:=zjl (fr a0 (ln ([45]:ZB)))
 have hz:=@q6h a0
 have hl:ln ([45]:ZB)=1:=rfl
 have h45:((45:UInt8).toNat:Int)=45:=rfl
 have hn:=zb a0
 unhygienic (repeat' (first | exact trivial | exact And.intro (by omega) trivial | apply And.intro | intro))
 all_goals first
  | omega
  | (rw [ne_eq,zq8] at a_1;rw [zah a_1]<;>first | assumption | exact (hz ‹_›).symm | (symm;assumption) | rfl)
  | (rw [zq8] at a_1;first | (rw [qns a_1 (.inl ‹_›)];done) | (rw [qns a_1 (.inr ‹_›)];done) | (rw [qvc a_1 ‹_› ‹_›];done) | (rw [qvc a_1 ‹_› ‹_›];rfl))
  | (rw [zah (by omega)]<;>first | assumption | exact (hz ‹_›).symm | (symm;assumption) | rfl)
theorem q8m (a0:ZB) (hp:ln a0<=1000000):qon a0:=by
 unfold qon
 have hf:ln (fr a0 1)<=ln a0:=by simp only [fr,ln,List.length_drop];omega
 have hb:=zjl (fr a0 1)
 have hz:=@q6h (fr a0 1)
 have hn:a0≠[]->0<ln a0:=qki
 have hn':=zb a0
 unhygienic (repeat' (first | exact trivial | exact And.intro (by omega) trivial | apply And.intro | intro))
 all_goals first
  | omega
  | (have:=hn ‹_›;omega)
  | (subst a;rfl)
  | (rw [zah (by omega)];done)
  | skip
 all_goals have hpos:=hn a
 .by_cases h0:(qi (fr a0 1)).1=0
  .rw [qns ⟨hpos,a_1⟩ (.inr h0),h0];rfl
  .rw [qvc ⟨hpos,a_1⟩ a_2 h0]
 .by_cases h0:(qi (fr a0 1)).1=0
  .rw [qns ⟨hpos,a_1⟩ (.inr h0),h0];rfl
  .rw [qvc ⟨hpos,a_1⟩ a_2 h0,decide_eq_true (by omega)]
 .rw [qns ⟨hpos,a_1⟩ (.inl a_2),hz a_2];rfl
 .rw [qns ⟨hpos,a_1⟩ (.inl a_2)]
theorem q6s {s:ZB} {c i k m:Int} (h0:0<=i) (h:i<ln s) (hc:bx s i=c):qcb s c i k m=qcb s c (i+1) i (m+1):=by
 conv=>lhs;rw [qcb]
 rw [dif_pos ⟨h0,h⟩,if_pos hc]
theorem q00 {s:ZB} {c i k m:Int} (h0:0<=i) (h:i<ln s) (hc:bx s i≠c):qcb s c i k m=qcb s c (i+1) k m:=by
 conv=>lhs;rw [qcb]
 rw [dif_pos ⟨h0,h⟩,if_neg hc]
theorem q6t {s:ZB} {c i k:Int} (h:ln s<=i):qcb s c i k 1=(upto s k,fr s (k+1),true):=by
 rw [qcb,dif_neg (by omega),if_pos rfl]
theorem zn7 {s:ZB} {c i k m:Int} (h:ln s<=i) (hm:m≠1):qcb s c i k m=([],[],false):=by
 rw [qcb,dif_neg (by omega),if_neg hm]
theorem zgl (a0:ZB) (a1:Int) (hp:U8 a1/\ln a0<=1000000):qvj a0 a1:=by
 unfold qvj
 simp only [qfp,qef,and_imp,qri]
 have hn:=zb a0
 unhygienic (repeat' (first | exact trivial | exact And.intro (by omega) trivial | apply And.intro | intro))
 all_goals first
  | omega
  | rfl
  | (rw [<-q6s ‹_› ‹_› ‹_›];assumption)
  | (rw [<-q00 ‹_› ‹_› ‹_›];assumption)
  | (rw [<-a_7,zn7 ‹_› ‹_›];done)
  | (subst a_9;rw [<-a_7,q6t ‹_›];done)
  | skip
theorem zdw (a0 a1 a2 a3:Int):qrn a0 a1 a2 a3:=by
 unfold qrn
 dsimp only
 have hv:qa0 a0 a1 a2 a3=0->(a0=2∨a0=3)/\(a1=2∨a1=3)/\(a2=2∨a2=3)/\(a3=2∨a3=3):=by
  unfold qa0
  split
  .exact fun _=>by assumption
  .intro h;omega
 by_cases hm:qa0 a0 a1 a2 a3=0
 .obtain ⟨h0,h1,h2,h3⟩:=hv hm
  rcases h0 with rfl | rfl<;>rcases h1 with rfl | rfl<;>rcases h2 with rfl | rfl<;>rcases h3 with rfl | rfl<;>simp (config:={decide:=true}) [qe0,qaf,q86,zf3,zfn,qa0,zk]
 .simp only [qe0,hm,if_false,ne_eq,not_false_eq_true,true_and,and_true,forall_const,false_imp_iff]
  unfold qa0 at *
  split at hm
  .exact absurd rfl hm
  .rename_i hh
   rw [if_neg hh]
theorem zpo (a0:Int) (hp:0<=a0/\a0<=15):q8b a0:=by
 unfold q8b
 have e1:Int.tdiv a0 8=a0 / 8:=Int.tdiv_eq_ediv_of_nonneg hp.1
 have e2:Int.tdiv a0 4=a0 / 4:=Int.tdiv_eq_ediv_of_nonneg hp.1
 have e3:Int.tdiv a0 2=a0 / 2:=Int.tdiv_eq_ediv_of_nonneg hp.1
 have e4:Int.tmod (a0 / 4) 2=a0 / 4 % 2:=Int.tmod_eq_emod_of_nonneg (by omega)
 have e5:Int.tmod (a0 / 2) 2=a0 / 2 % 2:=Int.tmod_eq_emod_of_nonneg (by omega)
 have e6:Int.tmod a0 2=a0 % 2:=Int.tmod_eq_emod_of_nonneg hp.1
 simp only [e1,e2,e3,e4,e5,e6,qu1,ofM]
 unhygienic (repeat' (first | exact trivial | exact And.intro (by omega) trivial | apply And.intro | intro))
 all_goals first
  | omega
  | rfl
theorem zjq {i:Int} (h0:0<=i) (h:i<16):fr allM i=ofM i::fr allM (i+1):=by
 have hc:i=0∨i=1∨i=2∨i=3∨i=4∨i=5∨i=6∨i=7∨i=8∨i=9∨i=10∨i=11∨i=12∨i=13∨i=14∨i=15:=by omega
 rcases hc with rfl | rfl | rfl | rfl | rfl | rfl | rfl | rfl | rfl | rfl | rfl | rfl | rfl | rfl | rfl | rfl<;>rfl
theorem zcs {i:Int} (h0:0<=i) (h:i<16):(qe0 (ofM i).1 (ofM i).2.1 (ofM i).2.2.1 (ofM i).2.2.2).1=txM (ofM i):=by
 have hc:i=0∨i=1∨i=2∨i=3∨i=4∨i=5∨i=6∨i=7∨i=8∨i=9∨i=10∨i=11∨i=12∨i=13∨i=14∨i=15:=by omega
 rcases hc with rfl | rfl | rfl | rfl | rfl | rfl | rfl | rfl | rfl | rfl | rfl | rfl | rfl | rfl | rfl | rfl<;>rfl
theorem zn9 {s:ZB} {i:Int} (hg:qgp s (fr allM i)=kc s) (h0:0<=i) (h:i<16) (he:(qe0 (ofM i).1 (ofM i).2.1 (ofM i).2.2.1 (ofM i).2.2.2).1=s):kc s=(ofM i,0):=by
 rw [zcs h0 h] at he
 rw [<-hg,zjq h0 h,qgp,if_pos he]
theorem zkd {s:ZB} {i:Int} (hg:qgp s (fr allM i)=kc s) (h0:0<=i) (h:i<16) (he:(qe0 (ofM i).1 (ofM i).2.1 (ofM i).2.2.1 (ofM i).2.2.2).1≠s):qgp s (fr allM (i+1))=kc s:=by
 rw [zcs h0 h] at he
 rw [<-hg,zjq h0 h,qgp,if_neg he]
theorem zn8 {s:ZB} {i:Int} (hg:qgp s (fr allM i)=kc s) (h:16<=i):kc s=((0,0,0,0),3):=by
 rw [<-hg,qla (show ln allM<=i from h)];rfl
theorem q8d (a0:ZB):qol a0:=by
 unfold qol
 simp only [qew,qge,and_imp,ql1]
 unhygienic (repeat' (first | exact trivial | exact And.intro (by omega) trivial | apply And.intro | intro))
 all_goals first
  | omega
  | rfl
  | (rw [zn9 a_2 ‹_› ‹_› ‹_›];done)
  | exact zkd a_2 ‹_› ‹_› ‹_›
  | (rw [zn8 a_2 ‹_›];done)
theorem zk9 (a0:ZB) (a1:Int) (hp:U8 a1):qyc a0 a1:=by
 unfold qyc
 simp only [qu]
 have hn:a0≠[]->0<ln a0:=qki
 unhygienic (repeat' (first | exact trivial | exact And.intro (by omega) trivial | apply And.intro | intro))
 all_goals first
  | omega
  | (have:=hn ‹_›;omega)
  | (rw [if_pos ⟨hn ‹_›,by assumption⟩];done)
  | (rw [if_neg (fun h=>(by assumption:bx a0 0≠a1) h.2)];done)
  | (subst a;rfl)
theorem zd2 (a0:ZB):qrp a0:=by
 unfold qrp
 have e0:sub ([88,76,66,83,77,81,70,90]:ZB) 0 1=[88]:=rfl
 have e1:sub ([88,76,66,83,77,81,70,90]:ZB) 1 2=[76]:=rfl
 have e2:sub ([88,76,66,83,77,81,70,90]:ZB) 2 3=[66]:=rfl
 have e3:sub ([88,76,66,83,77,81,70,90]:ZB) 3 4=[83]:=rfl
 have e4:sub ([88,76,66,83,77,81,70,90]:ZB) 4 5=[77]:=rfl
 have e5:sub ([88,76,66,83,77,81,70,90]:ZB) 5 6=[81]:=rfl
 have e6:sub ([88,76,66,83,77,81,70,90]:ZB) 6 7=[70]:=rfl
 have e7:sub ([88,76,66,83,77,81,70,90]:ZB) 7 8=[90]:=rfl
 have hl:ln ([88,76,66,83,77,81,70,90]:ZB)=8:=rfl
 simp only [e0,e1,e2,e3,e4,e5,e6,e7,hl,jy]
 unhygienic (repeat' (first | exact trivial | exact And.intro (by omega) trivial | apply And.intro | intro))
 all_goals first
  | omega
  | (simp only [*,if_true,if_false,ne_eq,not_false_eq_true,reduceCtorEq,List.cons.injEq,and_true];done)
  | (simp_all;done)
end Go.Proofs.YtbopmiclcimjgaaGreatDoor
