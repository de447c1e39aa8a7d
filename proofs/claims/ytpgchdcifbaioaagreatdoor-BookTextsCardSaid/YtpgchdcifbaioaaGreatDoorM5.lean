/- A VERIFIED EVALUATOR, texts E3v, E3w, E3x, E3y, E3z, E3za, E3zb, E3zd, L3a in one. -/
import Derived.Test.YtpgchdcifbaioaaGreatDoorM4
import Derived.ChangeBook
import Derived.ChangeStays
import Derived.ChangeArms
import Derived.ChangeMaps5
import Derived.OpenShut
/- E3: CODE against E2's. -/
namespace Go.E3
open Go Go.E2
variable {K:Nat->Type}
section
variable {X:Codecs K} {sz:Nat->Nat} {C:ZC K} {base:Heap}
variable {tbl:Tbl K} {inv:Nat->List (NV K)->Prop} {meas:Nat->List (NV K)->Nat} {inl:ZI K}
theorem zek {d:Fr} {g:Heap} {w2:Wd} {s:RSlot} {h us:List V} (f:zi7 d g w2 s h) (i:zi7 d g w2 s us):h=us:=by
 cases s with
 | one t k=>
  obtain ⟨v,a,rfl⟩:=f;obtain ⟨u,b,rfl⟩:=i;rw [a] at b;cases b;rfl
 | var id ks=>
  obtain ⟨_,e,ex,a⟩:=f;obtain ⟨_,j,ex',b⟩:=i;rw [a] at b;cases b;rfl
 | ml id c=>exact False.elim f
theorem qu2 {st0 st2:StV K}:∀ {ks:List SK} {f e:List (PV K)} {c:List Prop},qiu (qo X tbl inv meas) st2 ks f e=some c->(∀ q ∈ c,q)->∀ (i:Nat) (p:PV K),ks[i]? = some .keep->f[i]? = some p->
  ∃ p2 o,e[i]? = some p2/\qb4 (qo X tbl inv meas) st2 p p2=some o/\∀ q ∈ o,q
 | [],f,e,c,h,l,i,p,g,j=>by simp at g
 | k::ks,[],e,c,h,l,i,p,g,j=>by simp at j
 | k::ks,a::f,[],c,h,l,i,p,g,j=>by cases k<;>simp [qiu] at h
 | k::ks,a::f,b::e,c,h,l,i,p,g,j=>by
  have m:∀ d,qiu (qo X tbl inv meas) st2 ks f e=some d->(∀ q ∈ d,q)->∀ n,i=n+1->∃ p2 o,(b::e)[i]? = some p2/\qb4 (qo X tbl inv meas) st2 p p2=some o/\∀ q ∈ o,q:=by
   intro d r t n hi;subst hi;obtain ⟨p2,o,u,v,w⟩:=qu2 (st0:=st0) (st2:=st2) r t n p (by simpa using g) (by simpa using j);exact ⟨p2,o,by simpa using u,v,w⟩
  cases k with
  | keep=>
   obtain ⟨x,z,r⟩:=zI.1 h;obtain ⟨y,B,rfl⟩:=zM.1 r;cases i with
   | zero=>
    simp only [List.getElem?_cons_zero,zS] at j;subst j;exact ⟨b,x,rfl,z,λq A=>l q (List.mem_append_left _ A)⟩
   | succ i=>simp_all
  | grow=>
   have s:qiu (qo X tbl inv meas) st2 ks f e=some c:=by
    cases a with
    | mlist=>cases b with
     | mlist=>
      rcases je h with ⟨_,h⟩ | ⟨_,h⟩
      .cases h
      .exact h
     | _=>cases h
    | _=>cases h
   cases i with
   | zero=>simp at g
   | succ i=>simp_all
  | _=>
   have s:qiu (qo X tbl inv meas) st2 ks f e=some c:=h;cases i with
   | zero=>simp at g
   | succ i=>exact m c s l i rfl
theorem qyi {st2:StV K}:∀ {ks:List SK} {e f:List (PV K)} {d:List Prop},qiu (qo X tbl inv meas) st2 ks e f=some d->∀ (i id c:Nat) (fx:Bool) (g:Int),ks[i]? = some .grow->e[i]? = some (.mlist id c fx g)->∃ p,f[i]? = some (.mlist id c fx p)
 | [],e,f,d,h,i,id,c,fx,g,j,l=>by simp at j
 | k::ks,[],f,d,h,i,id,c,fx,g,j,l=>by simp at l
 | k::ks,a::e,[],d,h,i,id,c,fx,g,j,l=>by cases k<;>simp [qiu] at h
 | k::ks,a::e,b::f,d,h,i,id,c,fx,g,j,l=>by
  cases i with
  | zero=>
   cases j;cases l;cases b with
   | mlist w z A q=>
    rcases je h with ⟨_,h⟩ | ⟨m,_⟩
    .cases h
    .simp only [zA] at m;have r:=zE m.1.1;have s:=zE m.1.2;have t:=eq_of_beq m.2;subst r;subst s;subst t;exact ⟨q,rfl⟩
   | _=>cases h
  | succ i=>
   have n:∃ o,qiu (qo X tbl inv meas) st2 ks e f=some o:=by
    cases k with
    | keep=>
     obtain ⟨x,B,u⟩:=zI.1 h;obtain ⟨y,v,_⟩:=zM.1 u;exact ⟨y,v⟩
    | grow=>
     cases a with
     | mlist=>cases b with
      | mlist=>
       rcases je h with ⟨_,h⟩ | ⟨_,h⟩
       .cases h
       .exact ⟨_,h⟩
      | _=>cases h
     | _=>cases h
    | _=>exact ⟨_,h⟩
   obtain ⟨o,n⟩:=n;exact qyi n i id c fx g (by simpa using j) (by simpa using l)
theorem qj8 {st0 st2:StV K}:∀ {b:List RSlot} {d:List Prop},qiv (qo X tbl inv meas) st0 st2 b=some d->(∀ q ∈ d,q)->∀ s ∈ b,(∃ id c,s=.ml id c)∨∃ x y o,qfe st0 s=some x/\qfe st2 s=some y/\qiu (qo X tbl inv meas) st2 x.1 x.2 y.2=some o/\∀ q ∈ o,q
 | [],d,_,_,s,e=>by cases e
 | j::b,d,h,g,s,e=>by
  by_cases f:∃ id c,j=.ml id c
  .obtain ⟨id,c,rfl⟩:=f;simp only [qiv] at h;rcases zD.1 e with rfl | e
   .exact .inl ⟨id,c,rfl⟩
   .exact qj8 h g s e
  have k:∀ id c,j=.ml id c->False:=λid c l=>f ⟨id,c,l⟩;simp only [qiv] at h;obtain ⟨x,m,n⟩:=zI.1 h;obtain ⟨y,p,t⟩:=zI.1 n;obtain ⟨a,u,v⟩:=zI.1 t;obtain ⟨r,w,rfl⟩:=zM.1 v;rcases zD.1 e with rfl | e
  .exact .inr ⟨x,y,a,m,p,u,λq i=>g q (List.mem_append_left _ i)⟩
  .exact qj8 w (λq i=>g q (List.mem_append_right _ i)) s e
theorem qka {b:List Nat} {st2:StV K}:∀ {l:List (Nat×ZT K)} {a:List Prop},qlk (qo X tbl inv meas) b st2 l=some a->(∀ q ∈ a,q)->∀ id ct,(id,ct) ∈ l->id ∈ b∨∃ o,q3c (qo X tbl inv meas) st2 id ct=some o/\∀ q ∈ o,q
 | [],a,_,_,id,ps,h=>by cases h
 | (i,cs)::l,a,h,d,id,ps,c=>by
  simp only [qlk] at h;rcases je h with ⟨m,e⟩ | ⟨m,e⟩
  .obtain ⟨x,n,p⟩:=zI.1 e;obtain ⟨y,r,rfl⟩:=zM.1 p;rcases zD.1 c with f | c
   .cases f;exact .inr ⟨x,n,λq g=>d q (List.mem_append_left _ g)⟩
   .exact qka r (λq g=>d q (List.mem_append_right _ g)) id ps c
  .rcases zD.1 c with f | c
   .cases f;obtain ⟨j,s,k⟩:=List.any_eq_true.1 m;have:=zE k;subst this;exact .inl s
   .exact qka e d id ps c
theorem cond_prop {c:Bool} {p:Prop} (h:bif c then p else False):c=true/\p:=by
 cases c with
 | false=>simp_all
 | true=>exact ⟨rfl,h⟩
theorem z1q {t c:Option TypeId} {ps d:List (PV K)} {e:TypeId} {ex:Bool} (h:z77 t c=true) (f:q8i (.cs c d) e ex):q8i (.cs t ps) e ex:=by
 cases t with
 | none=>trivial
 | some a=>
  cases c with
  | none=>cases h
  | some b=>
   have:=zE h;subst this;exact f
theorem zmx {j:Nat} {seen:List (NV K)} {c:List RSlot} {dec:Option (List (NV K))} {st0 d st2:StV K} (h:q5v (qo X tbl inv meas) j seen c dec st0 d st2) :
  ∃ ns a b,qgd (qo X tbl inv meas) st2 c=some ns/\qiv (qo X tbl inv meas) st0 st2 c=some a/\qlk (qo X tbl inv meas) (qi7 c) st2 st0.cells=some b/\(∀ q ∈ a,q)/\(∀ q ∈ b,q)/\
   distinct (kl st2 c)=true/\(∀ i ∈ kl st2 c,look d.owns i=none)/\(∀ i s,look d.owns i=some s->look st2.owns i=some s)/\inv j (ns++seen)/\(∀ m,dec=some m->meas j (ns++seen)<meas j (m++seen)):=by
 unfold q5v at h;split at h
 .rename_i ns a b k l n;obtain ⟨e,h⟩:=cond_prop h;simp only [zA] at e;obtain ⟨o,p⟩:=qt8 h;obtain ⟨r,g⟩:=qt8 p;refine ⟨ns,a,b,k,l,n,o,r,e.1.1,λi hi=>?_,λi s hi=>?_,g.1,λm t=>?_⟩
  .cases u:look d.owns i with
   | none=>rfl
   | some s=>
    have:=List.all_eq_true.1 e.1.2 i hi;simp only [Bool.not_eq_true',<-Bool.not_eq_true,List.any_eq_true] at this;exact absurd ⟨(i,s),qez u,Nat.beq_refl i⟩ this
  .have:=List.all_eq_true.1 e.2 (i,s) (qez hi);split at this
   .rename_i v f;have:=zE this;rw [f,this]
   .cases this
  .subst t;exact g.2
 .exact absurd h id
theorem q6m (ok:CfgOk X sz C) (ok2:CfgOk2 X C) {st0 st2:StV K} {z q:Fr} {H0 H2:Heap} {w0 w2:Wd} (u:Rel X sz C base st0 z H0 w0) (A:Rel X sz C base st2 q H2 w2) (hle:Le w0 w2) {j:Nat} {seen:List (NV K)} {S:List Nat} {d:List RSlot} {dec:Option (List (NV K))}
  (hn:q.n=z.n) (T:∀ t,t ∉ S->q.tmp t=z.tmp t) (hb:q5v (qo X tbl inv meas) j seen d dec st0 (qfd st0 S d) st2) :
  ∃ ns,inv j (ns++seen)/\(∀ m,dec=some m->meas j (ns++seen)<meas j (m++seen))/\∀ G:List (NV K)->StV K->Prop,qew (qo X tbl inv meas) st0 d (qfd st0 S d) G->∃ B w1,G ns B/\Rel X sz C base B q H2 w1/\Le w0 w1/\B.n=st0.n:=by
 obtain ⟨ns,a,b,hN,hK,hS,ha,U,hd,F,H,I,J⟩:=zmx hb;refine ⟨ns,I,J,λG hG=>q1x ok ok2 u A hle (by rw [<-A.n,hn,u.n]) T hN (λs hs=>?_) (λid ps hl=>?_) H F hd hG⟩
 .rcases qj8 hK ha s hs with ⟨id,c,rfl⟩ | ⟨x,y,o,Q,hy,ho,hq⟩
  .exact ⟨λV f=>by simp [qfe] at f,λV y' f=>by simp [qfe] at f⟩
  refine ⟨λV f vs W i p Y D w' E g Z=>?_,λV y' f L i id c fx n0 Y D=>?_⟩;rotate_left
  .rw [Q] at f;rw [hy] at L;cases f;cases L;obtain ⟨M,_,w⟩:=qll u Q;obtain ⟨v0,_,q0⟩:=w.get D;exact ⟨by rw [<-u.h.n];cases q0;assumption,qyi ho i id c fx n0 Y D⟩
  rw [Q] at f;cases f;obtain ⟨p2,o2,a1,a6,a7⟩:=qu2 (st0:=st0) (st2:=st2) ho hq i p Y D;obtain ⟨M,_,w⟩:=qll u Q;obtain ⟨N,O,r2⟩:=qll A hy;have:=zek W O;subst this;obtain ⟨v0,_,q0⟩:=w.get D;have q2:=r2.2 i p2 a1;exact qyu ok.len ok2 E hle A.h.owns (λid hi=>by rw [E.c id hi,hle.c id hi]) g Z p p2 a6 a7 q0 q2
 .rcases qka hS U id ps (qez hl) with E | ⟨o,g,Z⟩
  .exact .inl E
  .right;intro w' hg;obtain ⟨g1,g2,g3,g4⟩:=hg;obtain ⟨P,_,w⟩:=u.h.cells id ps hl;have k:id<w0.n:=by rw [u.h.n];exact (u.h.cl id P).1
   cases ps with
   | lp r=>
    simp only [q3c] at g;split at g
    .rename_i r' a8;rcases je g with ⟨_,g⟩ | ⟨hm,_⟩
     .cases g
     obtain ⟨_,hM,gg,p1,p2,_⟩:=A.h.cells id _ a8;obtain ⟨aa,q1,_,q3,q4,q5,q6,q7⟩:=w;have e1:gg=aa:=by
      rw [hle.lp id k,q1] at p1;exact (Option.some.inj p1).symm
     subst e1;have e2:r'.mode=r.mode:=by
      revert hm;cases r.mode<;>cases r'.mode<;>simp [zec]
     refine ⟨hM,λab R=>⟨gg,?_,by rw [p2,e2],q3,q4,q5,q6,λi p D=>?_⟩⟩
     .rw [R.lp id (zL k g1.n),g1.lp id k];exact q1
     .obtain ⟨v,a,b⟩:=q7 i p D;exact ⟨v,a,b.mono ok.len (g1.trans R)⟩
    .cases g
   | cs t ps=>
    obtain ⟨M,_,_,_,ag,w⟩:=w;rcases je g with ⟨_,g⟩ | ⟨ad,g⟩
    .cases g
    obtain ⟨dd,E,g⟩:=zI.1 g;obtain ⟨_,hM,N,e,ex,ae,af,r2⟩:=A.h.cells id _ (qfx E);exact ⟨hM,λab R=>⟨N,e,ex,ae,z1q ad af,(qld ok.len ok2 g1 hle A.h.owns (λid hi=>by rw [g1.c id hi,hle.c id hi]) g2 g3 ps dd g Z w r2).mono ok.len R⟩⟩
   | mp c lf va l=>cases g
   | ml c l p=>cases g
theorem zhd (ok:CfgOk X sz C) (ok2:CfgOk2 X C) {st0:StV K} {e:Fr} {H0:Heap} {w0:Wd} (b:Rel X sz C base st0 e H0 w0) {r:List Nat} {a:List RSlot} {ns:List (NV K)} (u:qgd (qo X tbl inv meas) st0 a=some ns) (v:distinct (kl st0 a)=true)
  {G:List (NV K)->StV K->Prop} (w:qew (qo X tbl inv meas) st0 a (qfd st0 r a) G):∃ d w1,G ns d/\Rel X sz C base d e H0 w1/\Le w0 w1/\d.n=st0.n:=by
 have m:∀ i,look (qfd st0 r a).owns i=if i ∈ kl st0 a then none else look st0.owns i:=λi=>qoy
 refine q1x ok ok2 b b (.refl w0) rfl (λ_ _=>rfl) u (λs L=>?_) (λid ps z=>?_) (λi s hi=>?_) (λi hi=>?_) v w
 .refine ⟨λx k M o i p A l w' B N O=>?_,λx y k t i id c fx D A l=>?_⟩
  .obtain ⟨q,f,g⟩:=qll b k;have:=zek o f;subst this;exact (g.2 i p l).mono ok.len B
  .rw [k] at t;cases t;obtain ⟨q,_,g⟩:=qll b k;obtain ⟨P,_,E⟩:=g.get l;exact ⟨by rw [<-b.h.n];cases E;assumption,D,l⟩
 .right;intro w' F;obtain ⟨j,H,g⟩:=b.h.cells id ps z;exact ⟨H,λI J=>g.mono ok.len (F.1.trans J) (by rw [b.h.n];exact (b.h.cl id j).1)⟩
 .simp_all
 .simp_all
abbrev qt1 (X:Codecs K) (sz:Nat->Nat) (C:ZC K) (base:Heap) (w:Wd) (k:Ex->StV K->Prop) (ex:Ex) (fr':Fr) (H':Heap):Prop:=
 (∀ l,ex≠.goto l)/\∃ a w',k ex a/\Rel X sz C base a fr' H' w'/\Le w w'
theorem zhf {σ:Type} {step:σ->(σ->Prop)->Prop} {n:Nat} {s:σ} (h:zc0 step False n s):∃ m,n=m+1/\step s λa=>zc0 step False m a:=by
 cases n with
 | zero=>exact absurd h id
 | succ m=>exact ⟨m,rfl,h⟩
theorem z1x {E:Env} {fn:FuncId} {round:Option Nat} {c:Code} {fr:Fr} {H:Heap} {Q:Ex->Fr->Heap->Prop}
  (h:Wp E fn round c fr H (q7z (λfr' H'=>∃ (Inv:Nat->Fr->Heap->Prop) (m:Nat),Inv m fr' H'/\∀ m fr H,Inv m fr H->Wp E fn round c fr H (q7z (λfr' H'=>∃ b,b<m/\Inv b fr' H') Q)) Q)):Wp E fn round (.loop c) fr H Q:=by
 obtain ⟨⟨e,g,H1⟩,d,f⟩:=h;cases e with
 | normal=>
  obtain ⟨Inv,a,hi,i⟩:=f;refine qz1 (λm fr' H'=>(m=a+1/\fr'=fr/\H'=H)∨(m<=a/\Inv m fr' H')) (m:=a+1) (.inl ⟨rfl,rfl,rfl⟩) ?_;rintro m fr' H' (⟨rfl,rfl,rfl⟩ | ⟨j,hi⟩)
  .exact ⟨_,d,a,Nat.lt_succ_self _,.inr ⟨zN _,hi⟩⟩
  .grind
 | _=>
  refine qz1 (λm fr' H'=>fr'=fr/\H'=H) (m:=0) ⟨rfl,rfl⟩ ?_;rintro m fr' H' ⟨rfl,rfl⟩;exact ⟨_,d,f⟩
def za5 (w:Wd) (rd round:Option Nat):Prop:=
 match rd,round with
 | none,none=>True
 | some id,some l=>id<w.n/\l=w.c id
 | _,_=>False
theorem za5.mono {w w':Wd} {rd round:Option Nat} (h:za5 w rd round) (hle:Le w w'):za5 w' rd round:=by
 cases rd<;>cases round
 .trivial
 .exact h
 .exact h
 .obtain ⟨a,b⟩:=h;exact ⟨zL a hle.n,by rw [hle.c _ a];exact b⟩
theorem qyf (ok:CfgOk X sz C) (ok2:CfgOk2 X C) {rd round:Option Nat} {fn:Nat} {c:Code} {j:Nat} {i q:List Slot} {st:StV K} {fr:Fr} {H:Heap} {w:Wd} {k:Ex->StV K->Prop} {body:StV K->(Ex->StV K->Prop)->Prop}
  (l:∀ {st:StV K} {fr:Fr} {H:Heap} {w:Wd} {k:Ex->StV K->Prop},za5 w rd round->Rel X sz C base st fr H w->body st k->Wp C.E fn round c fr H (qt1 X sz C base w k))
  (B:za5 w rd round) (R:Rel X sz C base st fr H w) (h:ztl (qo X tbl inv meas) j i q (qho c) st body k) :
  ∃ (Inv:Nat->Fr->Heap->Prop) (m:Nat),Inv m fr H/\∀ m fr' H',Inv m fr' H'->Wp C.E fn round c fr' H' (q7z (λfr' H'=>∃ N,N<m/\Inv N fr' H') (qt1 X sz C base w k)):=by
 obtain ⟨rs,S,D⟩:=qe h;obtain ⟨r,F,D⟩:=qe D;obtain ⟨a,_,A⟩:=qe D;cases G:distinct (kl st rs) with
 | false=>rw [G] at A;exact absurd A id
 | true=>
  rw [G] at A;obtain ⟨o,O⟩:=A;let Body:List (NV K)->StV K->Prop:=λns b=>inv j (ns++a)->body b λex st2=>match ex with
    | .normal=>q5v (qo X tbl inv meas) j a rs (some ns) st (qfd st (qho c) rs) st2
    | ex=>k ex st2
  refine ⟨λm fr' H'=>∃ ns b w1,m=meas j (ns++a)/\inv j (ns++a)/\Body ns b/\Rel X sz C base b fr' H' w1/\Le w w1/\fr'.n=fr.n/\∀ t,t ∉ qho c->fr'.tmp t=fr.tmp t,meas j (r++a),?_,?_⟩
  .obtain ⟨b,w1,g1,I,J,Y⟩:=zhd ok ok2 R F G O;exact ⟨r,b,w1,rfl,o,g1,I,J,rfl,λ_ _=>rfl⟩
  .rintro m fr' H' ⟨ns,b,w1,rfl,s,hB,T,d,u,v⟩;refine (Go.E3.Wp.frame (l (B.mono d) T (hB s))).mono λex U Z V=>?_;obtain ⟨⟨L,st2,w2,P,Q,e⟩,f,g⟩:=V;cases ex with
   | normal=>
    obtain ⟨x,p,y,W⟩:=q6m ok ok2 R Q (d.trans e) (g.trans u) (λt z=>(f t z).trans (v t z)) P;obtain ⟨M,w3,g1,I,J,_⟩:=W _ O;exact ⟨meas j (x++a),y ns rfl,x,M,w3,rfl,p,g1,I,J,g.trans u,λt z=>(f t z).trans (v t z)⟩
   | _=>exact ⟨L,st2,w2,P,Q,d.trans e⟩
theorem zw8 {E:Env} {fn:FuncId} {round:Option Nat} {f:Operand} {params:Array Tmp} {a b:Code} {fr:Fr} {H H1:Heap} {Q:Ex->Fr->Heap->Prop} {g:Nat} {e i:List V} {mk:List Dfr} {d:Nat}
  (l:opd fr H f=some (.func (.func g) e i)) (m:qos E g=true) (he:qwj round H=some (mk,H1,d))
  (h:qdv E (.func g) (e++[.func (.yield H1.next) [] []]++i) (H1.new (.loop .ready none fr.tmps fr.n params.toList a b d)) λ_ j=>∃ ex c,qgh j H1.next=some (ex,c)/\Q ex {fr with defers:=mk++fr.defers} c) :
  Wp E fn round (.rangeFunc f params a b) fr H Q:=by
 obtain ⟨v,j,⟨o,p⟩,ex,c,q,r⟩:=h;refine ⟨(ex,{fr with defers:=mk++fr.defers},c),⟨o,λk s=>?_⟩,r⟩;simp only [zn,he,zB,l,qht,m,zO,p k s,q,zH]
theorem RelH.alike {H:Heap} {w:Wd} {st a:StV K} (R:RelH X sz C base st H w) (c:a.cells=st.cells) (d:a.owns=st.owns) (e:a.next=st.next) (f:a.known=st.known):RelH X sz C base a H w:=by
 obtain ⟨i,j,k,l,m,h⟩:=a;subst c d e f;exact ⟨R.wf,R.rob,R.g,R.nx,R.b,R.Mlt,R.n,R.one,R.keeps,R.cl,R.cinj,R.cells,R.owns,R.ownn,R.eta,R.einj,R.ce,R.known,R.globs⟩
theorem zb9 (ok:CfgOk X sz C) {H:Heap} {w:Wd} {st:StV K} (R:RelH X sz C base st H w) {id:Nat} {ct:ZT K} (o:O) (L:look st.cells id=some ct) (M:∀ cs e gen fl fz ex,H.get (w.c id)≠some (.row cs e gen fl fz ex)) :
  ∃ w',RelH X sz C base {st with cells:=qck st.cells id} (H.put (w.c id) o) w'/\Le w w':=by
 obtain ⟨q,I,v⟩:=R.cells id _ L;obtain ⟨N,x,k⟩:=R.cl id q;let H':=H.put (w.c id) o;have a:∀ nm,nm≠w.c id->H'.get nm=H.get nm:=λnm r=>qct r;have l:Le w {w with g:=H'.get}:=by
  refine ⟨⟨zN _,λnm cs e gen y z ex h t=>⟨t,[],gen,z,ex,?_⟩,λ_ _=>rfl,λ_ _=>rfl,λ_ _ h=>h,λ_ _ _ _ h f=>(by rw [h] at f;cases f;exact zN _),λi s hi J _=>⟨rfl,λnm r _=>?_⟩,rfl,λ_ _=>.rfl,zN _,rfl,λ_ _ h=>h,λ_ _=>rfl,λA _ P cs e gen fl fz ex Q=>?_⟩,λm B=>?_,rfl⟩
  .rw [zJ];show H'.get nm=_;rw [a nm (by intro j;subst j;exact t I),<-R.g];exact h
  .show H'.get nm=w.g nm;rw [R.owns] at J;obtain ⟨_,_,D⟩:=R.eta i s nm J r;rw [a nm (by intro j;subst j;exact D I),R.g]
  .rw [R.g] at Q;by_cases j:A=id
   .simp_all
   .grind
  .show H'.get m=_;rw [R.g] at B;rw [a m (by intro j;subst j;exact v.some.1 B)];exact B
 refine ⟨{w with g:=H'.get},?_,l⟩;refine ⟨λn r=>?_,R.rob,rfl,R.nx,R.b,R.Mlt,R.n,R.one,R.keeps.put k _,R.cl,R.cinj,λd p f=>?_,R.owns,R.ownn,R.eta,R.einj,R.ce,R.known,λgn p f=>?_⟩
 .have E:H.next<=n:=r
  rw [a n (by omega)];exact R.wf n E
 .simp only [qfs] at f;by_cases hi:d=id
  .simp_all
  .rw [zF hi] at f;obtain ⟨u,F,S⟩:=R.cells d p f;refine ⟨u,F,?_⟩;rw [a _ (by intro j;exact hi (R.cinj d id u q j))];exact S.mono ok.len l (by rw [R.n];exact (R.cl d u).1)
 .obtain ⟨T,G,U,fl,fz,ex',u,F,V⟩:=R.globs gn p f;exact ⟨T,G,U,fl,fz,ex',u,F,V.mono ok.len l⟩
theorem q92 (ok:CfgOk X sz C) (W:qps X sz C inl) {rd round:Option Nat} {fnE:Nat} {st:StV K} {fr:Fr} {H:Heap} {w:Wd} (I:za5 w rd round) (R:Rel X sz C base st fr H w) (D:inRound rd st=true)
  {f:Operand} {vf:V} {v:PV K} (ev:opd fr H f=some vf) (rv:Rep X sz w v vf) {r:LRec Int Bool (List UInt8) Prop (λc=>List (K c))} {params:Array Tmp} {a b:Code}
  (e1:r.tmps=st.tmps) (e2:r.n=st.n) (e3:r.params=params.toList) (e4:r.assign=a) (e5:r.body=b) (e6:r.mode=.ready) {k:Ex->StV K->Prop} (h:zhz (qo X tbl inv meas) C inl r v st k) :
  Wp C.E fnE round (.rangeFunc f params a b) fr H (qt1 X sz C base w k):=by
 unfold zhz at h;split at h
 .rename_i g first cap
  cases rv with
  | @func f' a' c' va vc ha hc h1 h2=>
  obtain ⟨hb,h⟩:=cond_prop h;obtain ⟨mk,H1,d,w1,Y,J,y,t⟩:∃ mk H1 d w1,qwj round H=some (mk,H1,d)/\RelH X sz C base {st with next:=st.next+1} H1 w1/\Le w w1/\zaw base.next w1 (mk++fr.defers):=by
   cases round with
   | none=>
    obtain ⟨w1,J,e,Z,a1⟩:=q9q ok R.h;have t:=R.ds.mono e;refine ⟨[.mark H.next],H.new .dfr,H.next,w1,rfl,J,e,λx hx=>?_,?_,t.2.2⟩
    .rcases zD.1 hx with rfl | hx
     .refine ⟨H.next,rfl,R.h.keeps.next,?_,Z⟩;rw [e.fl,<-R.h.nx];exact R.ds.2.2
     .exact t.1 x hx
    .show (Dfr.mark H.next::fr.defers).Nodup;rw [List.nodup_cons];refine ⟨λF=>?_,R.ds.2.1⟩;obtain ⟨m,h3,_,_,h4⟩:=R.ds.1 _ F;cases h3;rw [a1] at h4;cases h4
   | some l=>
    cases rd with
    | none=>exact absurd I id
    | some id=>
     obtain ⟨a8,rfl⟩:=I;simp only [inRound] at D;split at D
     .rename_i r' hl;obtain ⟨_,_,g',_,p2,_⟩:=R.h.cells id _ hl;obtain ⟨e,J⟩:=R.h.ext ok (m:=st.next+1) (nu':=w.nu) (Nat.le_succ _) (λ_ _=>rfl);refine ⟨[],H,g'.ld,_,?_,J,e,R.ds.mono e⟩;simp only [qwj,p2];unfold qga;split
      .grind
      .rename_i L;exfalso;split at L<;>exact L _ _ _ _ _ _ _ _ rfl
     .cases D
  let gl:LG:=⟨fr.tmps,fr.n,params.toList,a,b,d⟩;obtain ⟨w2,R2,z,M,A⟩:=qk9 ok J (ct:=.lp r) (row:=.loop .ready none fr.tmps fr.n params.toList a b d) (lp':=λi=>if i=st.next+1 then some gl else w1.lp i)
   (λi hi=>zF (by have:i<st.next+1:=hi;omega)) (λw' hw a6=>⟨gl,by rw [a6];exact zT rfl,by rw [e6];rfl,by rw [e2];exact R.n.symm,e3,e4,e5,λi p T=>by
     rw [e1] at T;obtain ⟨x,p1,p2⟩:=R.f i p T;exact ⟨x,p1,(p2.mono ok.len y).mono ok.len hw⟩⟩)
  have j:=y.trans z;have ry:qu X sz w2 [.yield (st.next+1)] [.func (.yield H1.next) [] []]:=by
   have hy:=Rep.yield (X:=X) (sz:=sz) (w:=w2) (id:=st.next+1) A;rw [show w2.c (st.next+1)=H1.next from M] at hy;exact .cons hy .nil
  have a7:qu X sz w2 (first++[.yield (st.next+1)]++cap) (va++[.func (.yield H1.next) [] []]++vc):=
   qu.append (qu.append (qu.mono ok.len j (ps:=first) ⟨ha,h1⟩) ry) (qu.mono ok.len j (ps:=cap) ⟨hc,h2⟩)
  refine zw8 ev hb Y ((W (.func g) _ _ _ h base _ w2 _ R2 a7).mono λ_ U hA=>?_);obtain ⟨_,N,w3,s,t3,n3,P,q,_⟩:=hA;unfold z2h at s;split at s
  .rename_i r3 Q;obtain ⟨S,aa,g3,p1,p2,_⟩:=P.cells _ _ Q;have u:w3.c (st.next+1)=H1.next:=(q.c _ A).trans M
   have G:U.ro<=H1.next:=by rw [P.keeps.ro,<-u];exact zR P.rob.1 (P.cl _ S).2.2
   rw [u] at p2;have fin:∀ (ex:Ex) (o:O),(∀ l,ex≠.goto l)->qgh U H1.next=some (ex,U.put H1.next o)->k ex {N with cells:=qck N.cells (st.next+1),tmps:=st.tmps,n:=st.n}->
     ∃ ex H4,qgh U H1.next=some (ex,H4)/\qt1 X sz C base w k ex {fr with defers:=mk++fr.defers} H4:=by
    intro ex o Z Y s;obtain ⟨w4,R4,B⟩:=zb9 ok P o Q (λ_ _ _ _ _ _ h=>by rw [u,p2] at h;unfold qga at h;split at h<;>cases h);rw [u] at R4;have e:Le w w4:=j.trans (q.trans B);exact ⟨ex,_,Y,Z,_,w4,s,⟨R4.alike rfl rfl rfl rfl,λi p T=>by
     obtain ⟨x,p1,p2⟩:=R.f i p T;exact ⟨x,p1,p2.mono ok.len e⟩,R.n,t.mono (z.trans (q.trans B))⟩,e⟩
   split at s
   .rename_i F;rw [F] at p2;exact fin .normal _ (by simp) (by simp only [qgh,p2,qga,qcl G,zB,qf3,zH];rfl) s
   .rename_i F;rw [F] at p2;exact fin .ret _ (by simp) (by simp only [qgh,p2,qga,qcl G,zB,qf3,zH];rfl) s
   .rename_i i F;rw [F] at p2;exact fin (.exit i) _ (by simp) (by simp only [qgh,p2,qga,qcl G,zB,qf3,zH];rfl) s
   .exact absurd s id
  .exact absurd s id
 .exact absurd h id
theorem q8r (ok:CfgOk X sz C) {st:StV K} {fr:Fr} {H:Heap} {w:Wd} (R:Rel X sz C base st fr H w) {t i:Nat} {k:StV K->Prop} (h:zgp (qo X tbl inv meas) st t i k):∃ y w',k y/\Rel X sz C base y fr H w'/\Le w w':=by
 unfold zgp at h;split at h
 .rename_i d off lim ht;obtain ⟨cs,M,z⟩:=qe h;split at z
  .rename_i id c fx n hi;obtain ⟨l,T,N⟩:=qe z;obtain ⟨r,U,V,A,W,Y⟩:=qe N;have B:=qli T;have m:=qfx M;have O:d≠id:=by
    intro Z;rw [Z,B] at m;cases m
   obtain ⟨Q,a1,s,e,ex,D,S,u⟩:=R.h.cells d _ m;obtain ⟨w',a,o,_,E,a6,_,F⟩:=zbv ok R.h B U A;have P:look (qck st.cells id) d=some (.cs (qox st.cells d) cs):=by rw [qfs,zF O];exact m
   obtain ⟨q1,q2,a7,e',ex',g0,ty,_⟩:=a.cells d _ P;have G:i<s.length:=by rw [<-u.1];exact (List.getElem?_eq_some_iff.1 hi).1
   have rx:=F fx n _ V (u.2 i _ hi);have I:setCells s i [s.getD i j8]=s:=by
    simp only [setCells,List.length_singleton];have e1:s.getD i j8=s[i]:=by rw [List.getD_eq_getElem?_getD,List.getElem?_eq_getElem G];rfl
    rw [e1,List.append_assoc,List.singleton_append,<-List.drop_eq_getElem_cons G,List.take_append_drop]
   have q:=qle (u.mono ok.len o) (.cons rx .nil) i;rw [I] at q;rw [E] at g0;rw [D] at g0;cases g0;refine ⟨_,w',Y,⟨⟨a.wf,a.rob,a.g,a.nx,a.b,a.Mlt,a.n,a.one,a.keeps,a.cl,a.cinj,λJ ct' L=>?_,a.owns,a.ownn,a.eta,a.einj,a.ce,a.known,a.globs⟩,λj p hp=>?_,R.n,R.ds.mono o⟩,o⟩
   .simp only [qe7] at L;by_cases x:J=d
    .rw [zT x] at L;cases L;subst x;exact ⟨q1,q2,s,e,ex,by rw [E];exact D,zli ty,q⟩
    .rw [zF x] at L;exact a.cells J ct' L
   .obtain ⟨v,z,N⟩:=R.f j p hp;exact ⟨v,z,N.mono ok.len o⟩
  .exact ⟨st,w,z,R,.refl w⟩
 .exact ⟨st,w,h,R,.refl w⟩
theorem ji (ok:CfgOk X sz C) (ok2:CfgOk2 X C) (tok:qke X sz C tbl) (o:qps X sz C inl) {rd round:Option Nat} {fn fnE:Nat}:∀ {c:Code} {p:Nat} {st:StV K} {fr:Fr} {H:Heap} {w:Wd} {k:Ex->StV K->Prop},
  za5 w rd round->Rel X sz C base st fr H w->qb7 (qo X tbl inv meas) C inl rd fn p c st k->Wp C.E fnE round c fr H (qt1 X sz C base w k)
 | .skip,p,st,fr,H,w,k,l,R,h=>z1y ⟨by simp,st,w,h,R,.refl w⟩
 | .label _,p,st,fr,H,w,k,l,R,h=>zw7 ⟨by simp,st,w,h,R,.refl w⟩
 | .exit _,p,st,fr,H,w,k,l,R,h=>z1w ⟨by simp,st,w,h,R,.refl w⟩
 | .ret,p,st,fr,H,w,k,l,R,h=>zw9 ⟨by simp,st,w,h,R,.refl w⟩
 | .goto _,p,st,fr,H,w,k,l,R,h=>absurd h id
 | .refuse _,p,st,fr,H,w,k,l,R,h=>absurd h id
 | .rangeFunc f a8 a b,p,st,fr,H,w,k,l,R,h=>by
  simp only [qb7] at h;obtain ⟨aa,M⟩:=cond_prop h;obtain ⟨v,hv,h2⟩:=qe M;obtain ⟨vf,ev,rv⟩:=zc R hv;exact q92 ok o l R aa ev rv rfl rfl rfl rfl rfl rfl h2
 | .cond c a b,p,st,fr,H,w,k,l,R,h=>by
  simp only [qb7] at h;split at h
  .rename_i pc hc;obtain ⟨v,ev,rv⟩:=zc R hc;obtain ⟨t,rfl⟩:=zjd rv h;obtain ⟨z,M,hn,_,V⟩:=q0v R.h rv h;have W:=R.z7n ok hn V (.refl w);refine z1v ev ?_;cases t with
   | true=>exact ji ok ok2 tok o l W M
   | false=>exact ji ok ok2 tok o l W M
  .exact absurd h id
 | .block id c,p,st,fr,H,w,k,l,R,h=>by
  simp only [qb7] at h;refine zw6 ((ji ok ok2 tok o l R h).mono λex fr' H' A=>?_);obtain ⟨I,r,w',u,G,q⟩:=A;cases ex with
  | exit Y=>
   simp only at u;simp only [qsw];cases hb:Nat.beq Y id with
   | true=>
    rw [hb] at u;simp only [zO] at u;have:=zE hb;subst this;exact zgm ⟨by simp,r,w',u,G,q⟩
   | false=>
    rw [hb] at u;simp only [zQ] at u;have ab:¬ Y=id:=by
     intro he;subst he;simp at hb
    exact zbk ab ⟨by simp,r,w',u,G,q⟩
  | _=>exact ⟨I,r,w',u,G,q⟩
 | .scope c,p,st,fr,H,w,k,l,R,h=>by
  simp only [qb7] at h;refine zxa ((ji ok ok2 tok o l R h).mono λex fr' H' A=>⟨A.1,A⟩)
 | .region id ad Z,p,st,fr,H,w,k,l,R,h=>by
  simp only [qb7] at h;cases Z with
  | true=>
   refine ze4 ?_;have m:Mid X sz C base H.next st.next 0 w [] [] st fr H w:=⟨R,.nil,zN _,zN _,λid _ hc=>(R.h.cl id hc).2.1,λd hd=>(by cases hd),λd hd=>(by cases hd),.refl w,_,_,R.h,rfl⟩
   obtain ⟨x,hx,e,r,w',a1,a2,a3⟩:=qpe (b:=Region.before ad) (i:=0) ok ok2 tok o m R.cm h;exact ⟨x,hx,by simp,r,w',a1,a2,a3⟩
  | false=>
   refine q74 ((qrc ok ok2 tok o R h).mono λex fr' H' A=>?_);obtain ⟨rfl,r,w',a1,a2,a3⟩:=A;exact ⟨by simp,r,w',a1,a2,a3⟩
 | .seq a b,p,st,fr,H,w,k,l,R,h=>by
  simp only [qb7] at h;split at h
  .rename_i j J N D;obtain ⟨rs,aj,M⟩:=qe h;obtain ⟨ai,_,M⟩:=qe M;obtain ⟨ha,I⟩:=M;refine q37 ((Go.E3.Wp.frame (ji ok ok2 tok o l R ha)).mono λex fr' H' A=>?_);obtain ⟨⟨ae,r,w',u,G,q⟩,af,ag⟩:=A;cases ex with
   | normal=>
    obtain ⟨ns,a6,_,hh⟩:=q6m ok ok2 R G q ag af u;obtain ⟨z,w1,g1,g2,g3,_⟩:=hh _ I;refine (ji ok ok2 tok o (l.mono g3) g2 (g1 a6)).mono λex L H2 O=>?_;obtain ⟨Q,B,w3,S,T,U⟩:=O;exact ⟨Q,B,w3,S,T,g3.trans U⟩
   | _=>exact ⟨ae,r,w',u,G,q⟩
  .rename_i t i D;obtain ⟨st0,w0,h,R0,F⟩:=q8r ok R h;refine q37 ((ji ok ok2 tok o (l.mono F) R0 h).mono λex fr' H' A=>?_);obtain ⟨I,r,w',u,G,q⟩:=A;cases ex with
   | normal=>
    refine (ji ok ok2 tok o (l.mono (F.trans q)) G u).mono λex L H2 O=>?_;obtain ⟨Q,B,w3,S,T,U⟩:=O;exact ⟨Q,B,w3,S,T,(F.trans q).trans U⟩
   | _=>exact ⟨I,r,w',u,G,F.trans q⟩
  .refine q37 ((ji ok ok2 tok o l R h).mono λex fr' H' A=>?_);obtain ⟨I,r,w',u,G,q⟩:=A;cases ex with
   | normal=>
    refine (ji ok ok2 tok o (l.mono q) G u).mono λex L H2 O=>?_;obtain ⟨Q,B,w3,S,T,U⟩:=O;exact ⟨Q,B,w3,S,T,q.trans U⟩
   | _=>exact ⟨I,r,w',u,G,q⟩
 | .loop c,p,st,fr,H,w,k,l,R,h=>by
  simp only [qb7] at h;split at h
  .rename_i j J N D;obtain ⟨Inv,m,h0,hs⟩:=qyf ok ok2 (λl R h=>ji ok ok2 tok o l R h) l R h;exact qz1 Inv h0 hs
  .rename_i j J N D;refine z1x ((ji ok ok2 tok o l R h).mono λex fr' H' A=>?_);obtain ⟨I,z,w1,u,V,y⟩:=A;cases ex with
   | normal=>
    obtain ⟨Inv,m,h0,hs⟩:=qyf ok ok2 (λl R h=>ji ok ok2 tok o l R h) (l.mono y) V u;refine ⟨Inv,m,h0,λm L H2 hi=>(hs m L H2 hi).mono λex ak H3 O=>?_⟩;cases ex with
    | normal=>exact O
    | _=>
     obtain ⟨Q,B,w3,S,T,U⟩:=O;exact ⟨Q,B,w3,S,T,y.trans U⟩
   | _=>exact ⟨I,z,w1,u,V,y⟩
  .rename_i n D;refine qz1 (λm fr' H'=>∃ z w1,zc0 (λs g=>qb7 (qo X tbl inv meas) C inl rd fn (2 * p) c s λex z=>match ex with
    | .normal=>g z
    | ex=>k ex z) False m z/\Rel X sz C base z fr' H' w1/\Le w w1) (m:=n) ⟨st,w,h,R,.refl w⟩ ?_
   rintro m fr' H' ⟨z,w1,ah,V,y⟩;obtain ⟨m',rfl,a7⟩:=zhf ah;refine (ji ok ok2 tok o (l.mono y) V a7).mono λex L H2 A=>?_;obtain ⟨I,st2,w2,u,R2,P⟩:=A;cases ex with
   | normal=>exact ⟨m',Nat.lt_succ_self _,st2,w2,u,R2,y.trans P⟩
   | _=>exact ⟨I,st2,w2,u,R2,y.trans P⟩
  .exact absurd h id
end
end Go.E3
/- E3: FUNCTIONS against E2's: what the conditions of a function show. -/
namespace Go.E3
open Go Go.E2
variable {K:Nat->Type}
def qa3:List (PV K)->List (PV K)->List (Nat×Nat)
 | .list _ _ (some (i,_))::ps,.list _ _ (some (j,_))::rs=>(j,i)::qa3 ps rs
 | _::ps,_::rs=>qa3 ps rs
 | _,_=>[]
def RT:PV K->Prop
 | .sb id _ b a c=>id=0/\(a↔b=true)/\(c↔b=false)
 | .int _ l _=>l=none
 | .list _ _ (some (_,s))=>s=0
 | _=>True
section
variable {X:Codecs K} {sz:Nat->Nat} {C:ZC K} {base H:Heap} {st:StV K} {w:Wd}
variable {tbl:Tbl K} {inv:Nat->List (NV K)->Prop} {meas:Nat->List (NV K)->Nat} {inl:ZI K}
theorem qmf {fr:Fr} (R:RelH X sz C base st H w) (F:za6 X sz w st.tmps fr):∀ {rs:List ResultVar} {ps:List (PV K)},qj2 (qo X tbl inv meas) C st rs=some ps->∃ b,qag C.E fr H rs=some b/\qu X sz w ps b
 | [],ps,h=>by
  simp only [qj2,zS] at h;subst h;exact ⟨[],rfl,.nil⟩
 | .tmp t::rs,ps,h=>by
  simp only [qj2] at h;obtain ⟨p,c,d⟩:=zI.1 h;obtain ⟨k,e,rfl⟩:=zM.1 d;obtain ⟨v,f,g⟩:=F t p c;obtain ⟨b,i,j⟩:=qmf R F e;exact ⟨v::b,by simp only [qag,f,zB,i,zH],.cons g j⟩
 | .cell a t::rs,ps,h=>by
  simp only [qj2] at h;obtain ⟨ti,l,c⟩:=zI.1 h;obtain ⟨m,d,e⟩:=zI.1 c;obtain ⟨p,n,o⟩:=zI.1 e;obtain ⟨k,q,rfl⟩:=zM.1 o;obtain ⟨y,f,g⟩:=F a m d;obtain ⟨nm,gn,off,lim,rfl,_,r,_⟩:=ql6 R g n;obtain ⟨u,s,x⟩:=r H rfl;obtain ⟨b,i,j⟩:=qmf R F q;exact ⟨u::b,by simp only [qag,l,f,s,zB,i,zH],.cons x j⟩
theorem zob {ps:List (PV K)} {d:List V} (r:qu X sz w ps d):Rep X sz w (zhl ps) (oneOf d):=by
 match ps,r with
 | [],r=>rw [r.jb];exact .undef
 | [p],r=>
  obtain ⟨v,a,rfl,b,c⟩:=r.z7;have:=c.jb;subst this;exact b
 | p::q::ps,r=>
  obtain ⟨v,a,rfl,b,c⟩:=r.z7;obtain ⟨u,e,rfl,f,g⟩:=c.z7;exact .tuple' (.cons b (.cons f g))
theorem zrq {X:Codecs K}:(X.u8 ▸ ([]:List (K 0)):List UInt8)=[]:=by
 rw [qrd];rfl
theorem zd1 (ok:CfgOk X sz C) (ad:zf7 C) {f:Nat} (hf:C.prim f=true) {args:List (PV K)} {st:StV K} {k:PV K->StV K->Prop} (h:zvv (qo X tbl inv meas) args st k) {base H:Heap} {w:Wd} {F:List V}
  (R:RelH X sz C base st H w) (ra:qu X sz w args F):qdv C.E (.func f) F H λv H'=>∃ p o w',k p o/\o.tmps=st.tmps/\o.n=st.n/\RelH X sz C base o H' w'/\Le w w'/\Rep X sz w' p v:=by
 unfold zvv at h;split at h
 .rename_i id off lim;obtain ⟨a,us,rfl,r1,r2⟩:=ra.z7;have:=r2.jb;subst this;obtain ⟨cs,ae,h1⟩:=qe h;obtain ⟨ax,af,F,e,ex,hg,_,hr⟩:=R.cells id _ (qfx ae);cases r1 with
  | cell ay=>
   obtain ⟨hb,G⟩:=cond_prop h1;simp only [zA,Nat.ble_eq] at hb;obtain ⟨ag,ah⟩:=hb;have I:lim<=F.length:=by rw [<-hr.1];exact ah
   obtain ⟨J,ai⟩:=ad f hf H (w.c id) off lim F e ex R.wf hg ag I;have t:∀ q,cs[off+1]? = some q->∃ u,F[off+1]? = some u/\Rep X sz w q u:=λq L=>hr.get L;split at G
   .rename_i L;obtain ⟨u,M,ru⟩:=t _ L;cases ru;refine (J M).mono λv H' N=>?_;obtain ⟨rfl,rfl⟩:=N;exact ⟨_,st,w,G,rfl,rfl,R,.refl w,.str⟩
   .rename_i c l i s L;split at G
    .rename_i hc;subst hc;obtain ⟨ho,h3,h4⟩:=cond_prop G;simp only [zA] at ho;have O:=zE ho.2;have b:=q15 R.owns ho.1;obtain ⟨u,M,ru⟩:=t _ L;have P:look st.owns i=some s:=by rw [<-R.owns];exact b
     have y:sz 0=1:=by rw [<-ok.len 0 (X.dflt 0),ok.u8];rfl
     obtain ⟨aj,ro⟩:=ru.zw1;have ak:=ro.2.2.2 O;have A:=ro.2.2.1 b;rcases qav ru with ⟨rfl,rfl⟩ | ⟨nm,gn,o2,z,cap,cells,el,gen,d,Q,eb,rfl,j,S,az,x,al,au,an,_⟩
     .refine (J M).mono λv H' N=>?_;obtain ⟨rfl,rfl⟩:=N;have e0:(qo X tbl inv meas).bstr ([]:List (K 0))=[]:=zrq (X:=X);have T:k (.str ((qo X tbl inv meas).bstr ([]:List (K 0)))) {st with owns:=qck st.owns i}:=h4;rw [e0] at T;obtain ⟨w',R',B⟩:=zgz ok R i;exact ⟨_,_,w',T,rfl,rfl,R',B,.str⟩
     .obtain ⟨rfl,rfl,U⟩:=ak;obtain rfl:z=sz 0:=by
       rcases al.2 with h | ⟨_,_,h⟩
       .exact h
       .cases h
      rcases A with A | ⟨_,W,aa,aA,ab,av,aB,Y,Z,aw,ao⟩
      .cases A
      .rw [j] at Y;cases Y;rw [R.g] at j;rw [y] at Z x M;obtain ⟨D,aq,ar⟩:=R.eta i s nm P W;obtain ⟨a1,m,a6⟩:=qjr ok.len R.g aj (by rw [y];exact Nat.one_pos);rw [y] at m;have a7:a1=cells:=by
        have b1:Nat.ble d gn=true:=by rw [Nat.ble_eq];exact S
        have b2:Nat.ble (0+l.length * 1) (0+l.length * 1)=true:=by rw [Nat.ble_eq];exact zN _
        have b3:Nat.ble (0+l.length * 1) cells.length=true:=by rw [Nat.ble_eq];exact x
        simp only [js,V.qi2,qdx,Nat.beq_refl,zO,jz,j,b1,b2,b3,Bool.and_self,zM,zP,true_and] at m;obtain ⟨_,m,rfl⟩:=m;obtain ⟨rfl,_⟩:=qo2 m;rw [List.drop_zero,List.take_of_length_le];omega
       subst a7;have r:=qp4 ok a6;have a8:l.length<=140737488355328:=by
        have:(l.length:Int)<=140737488355328:=h3;omega
       refine (ai nm gn l.length a1 el d Q eb _ M j (by omega) S U a8 (by rw [<-R.ce];exact ao) r a6.qw5 (by rw [R.keeps.ro];exact zR R.rob.1 D) (λhe=>ar (by rw [he];exact af))).mono λv H' N=>?_;obtain ⟨rfl,rfl⟩:=N;obtain ⟨w',R',B⟩:=zif ok R P W (max Q l.length) j;exact ⟨_,_,w',h4,rfl,rfl,R',B,.str⟩
    .exact G.elim
   .exact G.elim
 .exact h.elim
theorem LeB.qpi (w:Wd) (x:Nat):LeB w {w with fl:=x}:=
 have h:=LeB.refl w
 ⟨h.n,h.mem,h.c,h.nu,h.o1,h.o2,h.o3,h.ce,h.cl,h.nx,h.b,h.Mu,h.lp,h.gm⟩
theorem RelH.qpi (ok:CfgOk X sz C) (R:RelH X sz C base st H w) (x:Nat):RelH X sz C base st H {w with fl:=x}:=
 ⟨R.wf,R.rob,R.g,R.nx,R.b,R.Mlt,R.n,R.one,R.keeps,R.cl,R.cinj,λid ct h=>by
  obtain ⟨a,b,c⟩:=R.cells id ct h;exact ⟨a,b,c.qfi ok.len (LeB.qpi w x) (by rw [R.n];exact (R.cl id a).1)⟩,R.owns,R.ownn,R.eta,R.einj,R.ce,R.known,λgn ps h=>by
  obtain ⟨e,d,f,fl,fz,ex',i,j,k⟩:=R.globs gn ps h;exact ⟨e,d,f,fl,fz,ex',i,j,k.qfi ok.len (LeB.qpi w x)⟩⟩
theorem qyo (ok:CfgOk X sz C) {F:Nat}:∀ {r:List Dfr} {H:Heap} {w:Wd},RelH X sz C base st H w->(∀ x ∈ r,∃ m,x=.mark m/\base.next<=m/\F<=m/\w.g m=some .dfr)->r.Nodup->
  ∃ d w2,qe8 r H=some d/\RelH X sz C base st d w2/\LeB w w2/\w2.fl=w.fl/\∀ m,m<F->w2.g m=w.g m
 | [],H,w,R,_,_=>⟨H,w,rfl,R,.refl w,rfl,λ_ _=>rfl⟩
 | x::r,H,w,R,J,j=>by
  obtain ⟨m,rfl,K,hF,u⟩:=J x zC;rw [List.nodup_cons] at j;let H1:=H.put m .gone;let w1:Wd:={w with g:=H1.get};have c:H.get m=some .dfr:=by rw [<-R.g];exact u
  have a:∀ nm,nm≠m->H1.get nm=H.get nm:=λnm j=>qct j;have N:m<H.next:=by
   by_cases h:m<H.next
   .exact h
   .rw [R.wf m (by omega)] at c;cases c
  have l:LeB w w1:=by
   refine ⟨zN _,λnm cs e gen v y ex h z=>⟨z,[],gen,y,ex,?_⟩,λ_ _=>rfl,λ_ _=>rfl,λ_ _ h=>h,λ_ _ _ _ h p=>(by rw [h] at p;cases p;exact zN _),λi s hi ho _=>⟨rfl,λnm j A=>?_⟩,rfl,λ_ _=>.rfl,zN _,rfl,λ_ _ h=>h,λ_ _=>rfl,λid _ _ cs e gen fl fz ex h=>?_⟩
   .rw [zJ];show H1.get nm=_;rw [a nm (by intro f;subst f;rw [u] at h;cases h),<-R.g];exact h
   .show H1.get nm=w.g nm;rw [a nm (by intro f;subst f;exact A u),R.g]
   .rw [R.g] at h;exact ⟨_,_,_,_,_,(a _ (by intro f;rw [f,c] at h;cases h)).trans h,zN _,λ_=>rfl⟩
  have O:RelH X sz C base st H1 w1:=by
   refine ⟨λn j=>?_,R.rob,rfl,R.nx,R.b,R.Mlt,R.n,R.one,R.keeps.put K _,R.cl,R.cinj,λq o p=>?_,R.owns,R.ownn,R.eta,R.einj,R.ce,R.known,λgn o p=>?_⟩
   .have B:H.next<=n:=j
    rw [a n (by omega)];exact R.wf n B
   .obtain ⟨t,D,E⟩:=R.cells q o p;refine ⟨t,D,?_⟩;rw [a _ (by intro f;rw [f] at E;exact E.some.1 c)];exact E.qfi ok.len l (by rw [R.n];exact (R.cl q t).1)
   .obtain ⟨P,G,Q,fl,fz,ex',t,D,S⟩:=R.globs gn o p;exact ⟨P,G,Q,fl,fz,ex',t,D,S.qfi ok.len l⟩
  obtain ⟨d,w2,T,U,a3,V,W⟩:=qyo ok O (λx L=>by
   obtain ⟨k,M,Y,Z,h4⟩:=J x (zG _ L);refine ⟨k,M,Y,Z,?_⟩;show H1.get k=_;rw [a k (by intro f;subst f;subst M;exact j.1 L),<-R.g];exact h4) j.2
  refine ⟨d,w2,?_,U,l.trans a3,V,λk I=>?_⟩
  .simp only [qe8,c,qcl (show H.ro<=m by rw [R.keeps.ro];exact zR R.rob.1 K),zB];exact T
  .rw [W k I];show H1.get k=w.g k;rw [a k (by omega),R.g]
theorem Le.leave {w w1 w2 w3:Wd} (f:∀ n,w.nx<=n->w.g n=none) (d:Le {w with fl:=w.nx} w1) (i:LeB w1 w2) (hold:∀ m,m<w.nx->w2.g m=w1.g m) (e:Le w2 w3):Le w {w3 with fl:=w.fl}:=by
 have h:=d.toLeB.trans (i.trans e.toLeB);refine ⟨⟨h.n,h.mem,h.c,h.nu,h.o1,h.o2,h.o3,h.ce,h.cl,h.nx,h.b,h.Mu,h.lp,h.gm⟩,λm j=>?_,rfl⟩;have a:m<w.nx:=by
  by_cases a:m<w.nx
  .exact a
  .simp_all
 refine e.df m ?_;rw [hold m a];exact d.df m j
theorem qe0 {n:Nat}:∀ {ps:List Tmp} {args:List (PV K)} {c:List V} {t d:Tree (PV K)} {lt:Tree V},qu X sz w args c->(∀ i p,t.get i=some p->∃ v,lt.get i=some v/\Rep X sz w p v)->qg5 n ps args t=some d->
  ∃ b,qe9 n ps c lt=some b/\∀ i p,d.get i=some p->∃ v,b.get i=some v/\Rep X sz w p v
 | [],[],c,t,d,lt,r,e,h=>by
  have:=r.jb;subst this;simp only [qg5,zS] at h;subst h;exact ⟨lt,rfl,e⟩
 | [],_::_,c,t,d,lt,r,e,h=>by simp [qg5] at h
 | _::_,[],c,t,d,lt,r,e,h=>by simp [qg5] at h
 | p::ps,a::args,c,t,d,lt,r,e,h=>by
  obtain ⟨v,j,rfl,k,l⟩:=r.z7;simp only [qg5] at h;rcases je h with ⟨_,g⟩ | ⟨m,g⟩
  .cases g
  .obtain ⟨b,o,s⟩:=qe0 (lt:=lt.set p v) l (λi q f=>by
    rw [Tree.jq] at f ⊢;by_cases hi:i=p
    .rw [zT hi] at f ⊢;cases f;exact ⟨v,rfl,k⟩
    .rw [zF hi] at f ⊢;exact e i q f) g
   refine ⟨b,?_,s⟩;simp only [qe9,m,zO];exact o
theorem zbo {E:Env} {l:Nat} {args:List V} {H:Heap} {Q:V->Heap->Prop} {st:LoopState} {p:Option Code} {lt t:Tree V} {ln f:Nat} {c:List Tmp} {d e:Code} (i:H.get l=some (.loop st p lt ln c d e f)) (j:qe9 ln c args lt=some t)
  (h:Wp E 0 (some l) d {tmps:=t,n:=ln,defers:=[]} H λex fr H1=>ex=.normal/\∃ b,q0s H1 l=some b/\Wp E 0 (some l) e fr b λex' fr' m=>∃ v a,qq2 l (ex',fr',m)=some (.ret v,a)/\Q v a):qdv E (.round l) args H Q:=by
 obtain ⟨⟨ex,fr,H1⟩,⟨o,q⟩,r,b,s,⟨x,⟨u,w⟩,v,a,y,z⟩⟩:=h;subst r;refine ⟨v,a,⟨max o u+1,λk A=>?_⟩,z⟩;obtain ⟨k,rfl⟩:∃ g,k=g+1:=⟨k-1,by omega⟩;simp only [qbh,i,j,zB,q k (by omega)];rw [s];simp only [zB];rw [w k (by omega)];exact y
theorem q5e (ok:CfgOk X sz C) (ok2:CfgOk2 X C) (tok:qke X sz C tbl) (N:qps X sz C inl) {id:Nat} {args:List (PV K)} {st:StV K} {k:PV K->StV K->Prop} (h:zaq (qo X tbl inv meas) C inl id args st k) {base H:Heap} {w:Wd} {vs:List V}
  (R:RelH X sz C base st H w) (ra:qu X sz w args vs):qdv C.E (.round (w.c id)) vs H λv H'=>∃ p d w',k p d/\d.tmps=st.tmps/\d.n=st.n/\RelH X sz C base d H' w'/\Le w w'/\Rep X sz w' p v:=by
 unfold zaq at h;split at h
 .rename_i r hl;split at h
  .rename_i hm;obtain ⟨t,ht,h1⟩:=qe h;obtain ⟨aa,hM,g,p1,p2,p3,p4,p5,p6,p7⟩:=R.cells id _ hl;obtain ⟨ab,ad,ae⟩:=R.cl id aa;have e:id<w.n:=by rw [R.n];exact ab
   rw [hm] at p2;let w0:Wd:={w with fl:=w.nx};have R0:RelH X sz C base st H w0:=R.qpi ok w.nx;have af:qu X sz w0 args vs:=ra.qfi ok.len (LeB.qpi w w.nx);rw [p3,p4] at ht;obtain ⟨O,e1,e2⟩:=qe0 (lt:=g.lt) af (λi p L=>by
    obtain ⟨v,a,b⟩:=p7 i p L;exact ⟨v,a,b.qfi ok.len (LeB.qpi w w.nx)⟩) ht
   have F0:Rel X sz C base {st with tmps:=t,n:=r.n} {tmps:=O,n:=g.ln,defers:=[]} H w0:=⟨R0.alike rfl rfl rfl rfl,e2,p3.symm,.nil (zN _)⟩;have P:za5 w0 (some id) (some (w.c id)):=⟨e,rfl⟩;refine zbo (l:=w.c id) (t:=O) (by rw [p2];rfl) e1 ?_;rw [<-p5];refine (ji (fnE:=0) ok ok2 tok N P F0 h1).mono λex ag H1 hA=>?_;obtain ⟨_,Q,w1,B,G,q⟩:=hA;cases ex with
   | normal=>
    refine ⟨rfl,?_⟩;simp only at B;split at B
    .rename_i r1 S;split at B
     .rename_i ah;obtain ⟨T,al,g1,q1,q2,_⟩:=G.h.cells id _ S;have D:w1.c id=w.c id:=q.c id e;have ai:g1=g:=by
       have:w1.lp id=w.lp id:=q.lp id e;rw [this,p1] at q1;exact (Option.some.inj q1).symm
      subst ai;rw [D,ah] at q2;have U:H1.ro<=w.c id:=by rw [G.h.keeps.ro,<-D];exact zR G.h.rob.1 (G.h.cl _ T).2.2
      have W:∀ i p,r.tmps.get i=some p->∃ v,g1.lt.get i=some v/\Rep X sz w1 p v:=λi p L=>by
       obtain ⟨v,a,b⟩:=p7 i p L;exact ⟨v,a,(b.qfi ok.len (LeB.qpi w w.nx)).mono ok.len q⟩
      obtain ⟨w2,R2,s⟩:=qi1 ok G.h (ct':=.lp {r with mode:=.busy}) (o:=qga g1 .busy) S (λ_ _ _ _ _ _ h=>by rw [D,q2] at h;cases h) ⟨g1,q1,rfl,p3,p4,p5,p6,W⟩;rw [D] at R2;have y:=q.trans s;refine ⟨H1.put (w.c id) (qga g1 .busy),?_,?_⟩
      .simp only [q0s,q2,qga];exact qcl U
      have F2:Rel X sz C base {Q with cells:=qhq Q.cells id (.lp {r with mode:=.busy})} ag (H1.put (w.c id) (qga g1 .busy)) w2:=⟨R2,λi p L=>by
       obtain ⟨x,a,b⟩:=G.f i p L;exact ⟨x,a,b.mono ok.len s⟩,G.n,G.ds.mono s⟩
      rw [<-p6];refine (ji (fnE:=0) ok ok2 tok N (P.mono y) F2 B).mono λex Y M hB=>?_;obtain ⟨_,Z,w3,u,F3,I⟩:=hB;split at u
      .rename_i r3 a1;obtain ⟨a6,an,z,u1,u2,_⟩:=F3.h.cells id _ a1;have m:=y.trans I;have F:w3.c id=w.c id:=m.c id e;have aj:z=g1:=by
        have:w3.lp id=w.lp id:=m.lp id e;rw [this,p1] at u1;exact (Option.some.inj u1).symm
       subst aj;rw [F] at u2;have J:M.ro<=w.c id:=by rw [F3.h.keeps.ro,<-F];exact zR F3.h.rob.1 (F3.h.cl _ a6).2.2
       have ak:∀ i p,r.tmps.get i=some p->∃ v,z.lt.get i=some v/\Rep X sz w3 p v:=λi p L=>by
        obtain ⟨v,a,b⟩:=W i p L;exact ⟨v,a,(b.mono ok.len s).mono ok.len I⟩
       have A:∀ (j:Option Code),qin M (w.c id) j=some (.ret (.bool j.isNone),M.put (w.c id) (.loop (if j.isNone then .ready else .done) j z.lt z.ln z.lp z.la z.lb z.ld)):=by
        intro j;simp only [qin,u2];cases r3.mode with
        | done x=>cases x<;>simp only [qga,qcl J,zH]
        | _=>simp only [qga,qcl J,zH]
       have fin:∀ (md:LMode) (b:Bool) (ex:Ex),qq2 (w.c id) (ex,Y,M)=some (.ret (.bool b),M.put (w.c id) (qga z md))->k (.lit b) {Z with cells:=qhq Z.cells id (.lp {r with mode:=md}),tmps:=st.tmps,n:=st.n}->
         ∃ v H4,qq2 (w.c id) (ex,Y,M)=some (.ret v,H4)/\∃ p d w',k p d/\d.tmps=st.tmps/\d.n=st.n/\RelH X sz C base d H4 w'/\Le w w'/\Rep X sz w' p v:=by
        intro md b ex he B;obtain ⟨w4,R4,a7⟩:=qi1 ok F3.h (ct':=.lp {r with mode:=md}) (o:=qga z md) a1 (λ_ _ _ _ _ _ h=>by rw [F,u2] at h;unfold qga at h;split at h<;>cases h) ⟨z,u1,rfl,p3,p4,p5,p6,ak⟩;rw [F] at R4;have a8:Le w {w4 with fl:=w.fl}:=Le.leave (λn hn=>by rw [R.g];exact R.wf n (by rw [<-R.nx];exact hn)) (m.trans a7) (.refl w4) (λ_ _=>rfl) (.refl w4);exact ⟨_,_,he,_,_,{w4 with fl:=w.fl},B,rfl,rfl,(R4.qpi ok w.fl).alike rfl rfl rfl rfl,a8,.lit⟩
       cases ex with
       | normal=>exact fin .ready true .normal (A none) u
       | ret=>exact fin (.done none) false .ret (A (some .ret)) u
       | exit i=>exact fin (.done (some i)) false (.exit i) (A (some (.exit i))) u
       | _=>exact (show False from u).elim
      .exact (show False from u).elim
     .exact (show False from B).elim
    .exact (show False from B).elim
   | _=>exact (show False from B).elim
  .exact (show False from h).elim
 .exact (show False from h).elim
theorem qqs {α:Type} {p:Nat->Bool}:∀ {l:List (Nat×α)} {n:Nat} {a:α},look (l.filter λx=>p x.1) n=some a->look l n=some a
 | [],_,_,h=>by cases h
 | (i,b)::l,n,a,h=>by
  rw [List.filter_cons] at h;by_cases d:i=n
  .subst d;cases c:p i with
   | true=>simp only [c,if_true,look,Nat.beq_refl,zO] at h ⊢;exact h
   | false=>
    exfalso;simp only [c,Bool.false_eq_true,if_false] at h;have e:=qez h;rw [List.mem_filter] at e;have:=e.2;rw [c] at this;cases this
  .have f:Nat.beq i n=false:=by rw [<-Bool.not_eq_true,Nat.beq_eq];exact d
   simp only [look,f,zQ];cases c:p i with
   | true=>simp only [c,if_true,look,f,zQ] at h;exact qqs h
   | false=>simp only [c,Bool.false_eq_true,if_false] at h;exact qqs h
theorem ztb {lo:Nat} {a:List (PV K)} {cells:List (Nat×ZT K)} {id:Nat} {ct:ZT K} (h:look (gcC lo a cells) id=some ct):look cells id=some ct:=by
 unfold gcC at h;rw [cond_eq_ite] at h;split at h
 .exact h
 .exact qqs (p:=λi=>!Nat.ble lo i || (zg7 lo cells 3 ((qvm a++cells.flatMap λx=>bif Nat.ble lo x.1 then [] else x.2.refs).filter (Nat.ble lo))).any (Nat.beq i)) h
theorem RelH.z6l (R:RelH X sz C base st H w) {cs:List (Nat×ZT K)} (h:∀ {id ct},look cs id=some ct->look st.cells id=some ct):RelH X sz C base {st with cells:=cs} H w:=
 ⟨R.wf,R.rob,R.g,R.nx,R.b,R.Mlt,R.n,R.one,R.keeps,R.cl,R.cinj,λid ct a=>R.cells id ct (h a),R.owns,R.ownn,R.eta,R.einj,R.ce,R.known,R.globs⟩
theorem qv0 (ok:CfgOk X sz C) (ok2:CfgOk2 X C) (tok:qke X sz C tbl) (S:qd C) (D:qps X sz C inl) {f:Nat} {args:List (PV K)} {st:StV K} {k:PV K->StV K->Prop} (h:zap (qo X tbl inv meas) C inl f args st k) {base H:Heap} {w:Wd} {d:List V}
  (R:RelH X sz C base st H w) (z:qu X sz w args d):qdv C.E (.func f) d H λv H'=>∃ p a w',k p a/\a.tmps=st.tmps/\a.n=st.n/\RelH X sz C base a H' w'/\Le w w'/\Rep X sz w' p v:=by
 unfold zap at h;cases e:C.ans f with
 | true=>rw [e] at h;exact absurd h id
 | false=>
  rw [e] at h;have T:=S.1 f e;cases b:C.prim f with
  | true=>
   rw [b] at h;exact zd1 ok S.2 b h R z
  | false=>
  rw [b] at h;split at h
  .rename_i A o;split at h
   .rename_i c G;have I:qu X sz {w with fl:=w.nx} args d:=z.qfi ok.len (LeB.qpi w w.nx);have W:Rel X sz C base {st with tmps:=Tree.ofList args,n:=max args.length A.ntmps} {tmps:=qhd d,n:=max d.length A.ntmps,defers:=[]} H {w with fl:=w.nx}:=by
     refine ⟨(R.qpi ok w.nx).alike rfl rfl rfl rfl,λi p J=>?_,by rw [z.1],.nil (zN _)⟩;have q:(Tree.ofList args).get i=some p:=J;rw [Tree.qta] at q;obtain ⟨v,L,M⟩:=I.get q;exact ⟨v,q55 L,M⟩
    refine q0w T o G ((ji (rd:=none) (round:=none) ok ok2 tok D trivial W h).mono λex fr' H' Y=>?_);obtain ⟨_,l,w1,N,B,r⟩:=Y;have s:onS False (qj2 (qo X tbl inv meas) C l A.results) (λd=>k (zhl d) {l with tmps:=st.tmps,n:=st.n,cells:=gcC st.next d l.cells})->∃ j,qe8 fr'.defers H'=some j/\∃ d,qag C.E fr' j A.results=some d/\∃ p a w',k p a/\a.tmps=st.tmps/\a.n=st.n/\RelH X sz C base a j w'/\Le w w'/\Rep X sz w' p (oneOf d):=by
     intro O;obtain ⟨Z,P,O⟩:=qe O;obtain ⟨j,w2,Q,U,hB,a6,t⟩:=qyo ok B.h (F:=w.nx) (λx hx=>by
      obtain ⟨m,a1,a2,a3,a4⟩:=B.ds.1 x hx;exact ⟨m,a1,a2,by rw [r.fl] at a3;exact a3,a4⟩) B.ds.2.1
     obtain ⟨us,e1,e2⟩:=qmf (fr:=fr') U (λi p J=>by
      obtain ⟨v,L,M⟩:=B.f i p J;exact ⟨v,L,M.qfi ok.len hB⟩) P
     have u:Le w {w2 with fl:=w.fl}:=Le.leave (λn hn=>by rw [R.g];exact R.wf n (by rw [<-R.nx];exact hn)) r hB t (.refl w2);exact ⟨j,Q,us,e1,_,_,{w2 with fl:=w.fl},O,rfl,rfl,((U.qpi ok w.fl).z6l (cs:=gcC st.next Z l.cells) ztb).alike rfl rfl rfl rfl,u,zob (e2.qfi ok.len (LeB.qpi w2 w.fl))⟩
    cases ex with
    | normal=>exact ⟨.inl rfl,s N⟩
    | ret=>exact ⟨.inr rfl,s N⟩
    | _=>exact absurd N id
   .rename_i G;split at h
    .rename_i x y;obtain ⟨v,a7,rfl,r1,r2⟩:=z.z7;have:=r2.jb;subst this;exact q5y T o G (v:=v) (by simp only [y,znd]) ⟨x,st,w,h,rfl,rfl,R,.refl w,r1⟩
    .exact absurd h id
  .exact absurd h id
theorem q4d (ok:CfgOk X sz C) (ok2:CfgOk2 X C) (tok:qke X sz C tbl) (a:qd C):∀ n,qps X sz C (zlo (qo X tbl inv meas) C n)
 | 0=>λg args st k h=>absurd h id
 | n+1=>λt args st k h base H w c R b=>match t,h with
  | .func f,h=>qv0 ok ok2 tok a (q4d ok ok2 tok a n) h R b
  | .round id,h=>q5e ok ok2 tok (q4d ok ok2 tok a n) h R b
theorem qlc:∀ {ps rs:List (PV K)} {e:List Prop},qoz (qo X tbl inv meas) st ps rs=some e->∀ j i,(j,i) ∈ qa3 ps rs->∃ s,look st.owns i=some s
 | [],rs,e,h,j,i,d=>by cases rs<;>simp [qa3] at d
 | _::_,[],e,h,j,i,d=>by simp [qoz] at h
 | p::ps,r::rs,e,h,j,i,d=>by
  simp only [qoz] at h;obtain ⟨x,m,n⟩:=zI.1 h;obtain ⟨y,q,_⟩:=zM.1 n;have f:=qlc q j i;cases p with
  | list c l o=>
   cases o with
   | none=>cases r<;>exact f d
   | some a=>
    obtain ⟨v,w⟩:=a;cases r with
    | list z A t=>
     cases t with
     | none=>exact f d
     | some b=>
      obtain ⟨B,C⟩:=b;simp only [qa3,zD] at d;rcases d with d | d
      .cases d;simp only [meets,Option.isSome_some,Bool.true_and] at m;rcases je m with ⟨g,_⟩ | ⟨_,g⟩
       .simp only [Bool.not_eq_false',qfh] at g;split at g
        .rename_i u k;exact ⟨u,k⟩
        .cases g
       .cases g
      .exact f d
    | _=>exact f d
  | _=>cases r<;>exact f d
theorem qvg:∀ {ps rs:List (PV K)},(qa3 ps rs).map (·.2)=qma ps rs
 | [],rs=>by cases rs<;>simp [qa3,qma]
 | p::ps,[]=>by cases p<;>simp [qa3,qma]
 | p::ps,r::rs=>by
  have d:=qvg (ps:=ps) (rs:=rs);cases p with
  | list c l o=>
   cases o with
   | none=>cases r<;>simp only [qa3,qma,d]
   | some a=>
    cases r with
    | list f g e=>
     cases e with
     | none=>simp only [qa3,qma,d]
     | some b=>simp only [qa3,qma,List.map_cons,d]
    | _=>simp only [qa3,qma,d]
  | _=>cases r<;>simp only [qa3,qma,d]
theorem qvf:∀ {ps rs:List (PV K)},((qa3 ps rs).map (·.1)).Sublist (qcr rs)
 | [],rs=>by cases rs<;>simp [qa3]
 | p::ps,[]=>by cases p<;>simp [qa3]
 | p::ps,r::rs=>by
  have d:=qvf (ps:=ps) (rs:=rs);cases r with
  | list f g e=>
   cases e with
   | none=>cases p with
    | list c l o=>cases o<;>exact d
    | _=>exact d
   | some b=>
    cases p with
    | list c l o=>
     cases o with
     | none=>exact d.trans (List.sublist_cons_self _ _)
     | some a=>exact d.cons_cons _
    | _=>exact d.trans (List.sublist_cons_self _ _)
  | _=>cases p with
   | list c l o=>cases o<;>exact d
   | _=>exact d
theorem qym:∀ {l:List (Nat×Nat)} {j i:Nat},(l.map (·.1)).Nodup->(j,i) ∈ l->look l j=some i
 | [],j,i,_,h=>by cases h
 | (a,b)::l,j,i,c,h=>by
  simp only [List.map_cons,List.nodup_cons] at c;simp only [look,cond_eq_ite,Nat.beq_eq];rcases zD.1 h with h | h
  .cases h;rw [zT rfl]
  .rw [zF]
   .exact qym c.2 h
   .intro d;subst d;exact c.1 (List.mem_map.2 ⟨_,h,rfl⟩)
theorem qu9 (ok2:CfgOk2 X C) (R:RelH X sz C base st H w) {w':Wd} (hg:w'.g=w.g) (P:∀ nm x,w.g nm=some x->¬ w.M nm->¬ w'.M nm) (Q:w'.ce=w.ce) (ho:∀ i,w'.owns i=some 0):∀ {ps rs:List (PV K)} {A:List Prop} {O:List V},
  qoz (qo X tbl inv meas) st ps rs=some A->(∀ q ∈ A,q)->qu X sz w ps O->(∀ r ∈ rs,RT r)->(∀ j i,(j,i) ∈ qa3 ps rs->w'.eta j=w.eta i)->(∀ j ∈ qcr rs,j<w'.n)->qu X sz w' rs O
 | [],[],A,O,h,S,r,T,U,W=>by rw [r.jb];exact .nil
 | [],_::_,A,O,h,S,r,T,U,W=>by simp [qoz] at h
 | _::_,[],A,O,h,S,r,T,U,W=>by simp [qoz] at h
 | p::ps,q::rs,A,O,h,S,r,T,U,W=>by
  obtain ⟨v,az,rfl,G,r2⟩:=r.z7;simp only [qoz] at h;obtain ⟨x,f,h2⟩:=zI.1 h;obtain ⟨y,h3,rfl⟩:=zM.1 h2;have I:∀ j i,(j,i) ∈ qa3 ps rs->(j,i) ∈ qa3 (p::ps) (q::rs):=by
   intro j i t;cases p with
   | list c l o=>
    cases o with
    | none=>cases q<;>exact t
    | some a=>
     cases q with
     | list c' B o'=>
      cases o' with
      | none=>exact t
      | some b=>exact zG _ t
     | _=>exact t
   | _=>cases q<;>exact t
  have J:∀ j ∈ qcr rs,j ∈ qcr (q::rs):=by
   intro j t;cases q with
   | list c' B o'=>
    cases o' with
    | none=>exact t
    | some b=>exact zG _ t
   | _=>exact t
  have ih:=qu9 ok2 R hg P Q ho h3 (λq ab=>S q (List.mem_append_right _ ab)) r2 (λr hr=>T r (zG _ hr)) (λj i t=>U j i (I j i t)) (λj hj=>W j (J j hj));refine .cons ?_ ih;have Y:∀ a ∈ x,a:=λa ha=>S a (List.mem_append_left _ ha);have hT:=T q zC;cases q with
  | int k' B b=>
   cases p with
   | int k l a=>
    simp only [meets] at f;split at f
    .rename_i hk;subst hk;cases f;have:a=b:=Y _ zC;subst this;cases G;have:B=none:=hT;subst this;exact .int λm t=>by cases t
    .cases f
   | _=>simp [meets] at f
  | sb id neg b pt pf=>
   obtain ⟨t1,t2,t3⟩:id=0/\(pt↔b=true)/\(pf↔b=false):=hT;have:v=.bool b:=by
    cases p with
    | lit a=>
     simp only [meets,zS] at f;subst f;have:a=b:=Y _ zC;subst this;cases G;rfl
    | sb aA au a aB aC=>
     simp only [meets,zS] at f;subst f;have:a=b:=Y _ zC;subst this;cases G;rfl
    | _=>simp [meets] at f
   subst this;exact .sb t2 t3 λh0=>absurd t1 h0
  | str b=>
   cases p with
   | str a=>
    simp only [meets,zS] at f;subst f;have:a=b:=Y _ zC;subst this;cases G;exact .str
   | _=>simp [meets] at f
  | list c l o=>
   have t:∃ B,asL (qo X tbl inv meas) c p=some B/\B=l/\(o.isSome=true->qfh st p=true):=by
    have e:meets (qo X tbl inv meas) st p (.list c l o)=(bif o.isSome&&!qfh st p then none else (asL (qo X tbl inv meas) c p).map λB=>[(qo X tbl inv meas).eqL c B l]):=by
     cases p<;>rfl
    rw [e] at f;rcases je f with ⟨hb,h4⟩ | ⟨_,hb⟩
    .obtain ⟨B,D,rfl⟩:=zM.1 h4;refine ⟨B,D,Y _ zC,λhs=>?_⟩;rw [hs] at hb;simpa using hb
    .cases hb
   obtain ⟨B,D,rfl,d⟩:=t;have rl:=qe5 G D;have rp:=rl.plain ok2.plain hg P .list;cases o with
   | none=>exact rp
   | some b=>
    obtain ⟨j,s⟩:=b;have ad:s=0:=hT;subst ad;have d:=d rfl;have hj:j<w'.n:=W j (by simp [qcr]);have F:∀ Z,w'.owns j=some Z->0<=Z:=λ_ _=>Nat.zero_le _;rcases qav rp with ⟨rfl,rfl⟩ | ⟨nm,gn,off,z,cap,cs,e,gen,ae,aD,ex,rfl,af,hf,ag,a1,hz,a6,L,_⟩
    .exact .nlist ⟨hj,F,λ_=>trivial,λ_=>trivial⟩
    .refine .list af hf ag rfl a1 hz a6 L ⟨hj,F,λ_=>?_,λh=>by cases h⟩;cases p with
     | list c2 l2 o2=>
      cases o2 with
      | none=>simp [qfh] at d
      | some a=>
       obtain ⟨i,s2⟩:=a;have ah:c2=c:=by
        unfold asL at D;simp only at D;split at D
        .assumption
        .cases D
       subst ah;have ai:look st.owns i=some s2:=by
        simp only [qfh] at d;split at d
        .rename_i s3 aj;rw [aj,zE d]
        .cases d
       have aE:l2.length=B.length:=by
        unfold asL at D;simp only at D;split at D
        .cases D;rfl
        .cases D
       have u:za2 w sz i c2 (.slice nm gn off B.length z cap):=by
        rcases qav G with ⟨_,hh⟩ | ⟨aF,aG,av,z3,aw,aH,e3,ax,aa,ay,aI,hh,_,_,_,_,_,_,_,ak⟩
        .cases hh
        .rw [hh];exact ak.2.2.1 (by rw [R.owns];exact ai)
       have a7:w'.eta j=w.eta i:=U j i (by simp [qa3]);simp only [za2] at u ⊢;rcases u with hc | ⟨al,an,ao,e4,E,a8,aq,ar,N⟩
       .exact .inl hc
       .exact .inr ⟨al,by rw [a7];exact an,ao,e4,E,a8,aq,by rw [hg];exact ar,N.1,N.2.1,by rw [Q];exact N.2.2⟩
     | nils=>cases G
     | _=>simp [qfh] at d
  | _=>cases p<;>simp [meets] at f
theorem zng {ps:List (PV K)} {a:List V} (r:qu X sz w ps a):qu X sz w (ps.flatMap P.cellsOf) (a.flatMap V.cells):=by
 induction ps generalizing a with
 | nil=>rw [r.jb];exact .nil
 | cons p ps b=>
  obtain ⟨v,c,rfl,d,e⟩:=r.z7;exact d.cells.append (b e)
theorem qt7 {w':Wd} {p r:PV K} {v:V} {cs:List (PV K)} {us:List V} (c:qog p r=true) (j:Rep X sz w p v) (h:qu X sz w' (r.cellsOf++cs) (v.cells++us)):Rep X sz w' r v/\qu X sz w' cs us:=by
 have sp:∀ {a:List (PV K)} {b:List V},a.length=b.length->qu X sz w' (a++cs) (b++us)->qu X sz w' a b/\qu X sz w' cs us:=by
  intro a b d k;have f:=k.take a.length;have g:=k.drop a.length;rw [List.take_left' rfl] at f;rw [List.drop_left' rfl] at g;rw [d,List.take_left' rfl] at f;rw [d,List.drop_left' rfl] at g;exact ⟨f,g⟩
 cases p with
 | agg a=>
  obtain ⟨n,rfl,o⟩:=j.qi8;cases r with
  | agg b=>
   simp only [qog] at c;have d:=zE c;obtain ⟨e,i⟩:=sp (a:=b) (b:=n) (by rw [<-d,o.1]) h;exact ⟨.qy4 e,i⟩
  | _=>simp [qog] at c
 | tuple a=>cases r<;>simp [qog] at c
 | _=>
  have l:=j.cellsOf (by intro ps q;cases q);cases r with
  | agg b=>simp [qog] at c
  | tuple b=>simp [qog] at c
  | _=>
   obtain ⟨e,i⟩:=sp (a:=P.cellsOf _) (b:=v.cells) (by rw [l.2];rfl) h;rw [l.2] at e;obtain ⟨u,s,m,t,x⟩:=qu.z7 e;simp only [List.cons.injEq] at m;obtain ⟨rfl,rfl⟩:=m;exact ⟨t,i⟩
theorem q0m {w':Wd}:∀ {ps rs:List (PV K)} {a:List V},qsv ps rs=true->qu X sz w ps a->qu X sz w' (rs.flatMap P.cellsOf) (a.flatMap V.cells)->qu X sz w' rs a
 | [],[],a,_,r,_=>by rw [r.jb];exact .nil
 | [],_::_,a,h,_,_=>by simp [qsv] at h
 | _::_,[],a,h,_,_=>by simp [qsv] at h
 | p::ps,q::rs,a,h,r,b=>by
  obtain ⟨v,c,rfl,d,e⟩:=r.z7;simp only [qsv,zA] at h;rw [List.flatMap_cons,List.flatMap_cons] at b;obtain ⟨f,g⟩:=qt7 h.1 d b;exact .cons f (q0m h.2 e g)
theorem q6b {p:PV K} (h:∀ ps,p≠.tuple ps):p.flat=p.cellsOf:=by
 cases p with
 | tuple ps=>simp_all
 | _=>rfl
theorem zo7 {w':Wd} {p r:PV K} {v:V} (b:zla p r=true) (d:Rep X sz w p v) (h:∀ us,qu X sz w p.flat us->qu X sz w' r.flat us):Rep X sz w' r v:=by
 by_cases f:∃ ps,p=.tuple ps
 .obtain ⟨ps,rfl⟩:=f;obtain ⟨j,rfl,g⟩:=d.qi6;by_cases c:∃ rs,r=.tuple rs
  .obtain ⟨rs,rfl⟩:=c;have a:qsv ps rs=true:=b;exact .tuple' (q0m a g (h _ (zng g)))
  .exfalso;cases r with
   | tuple rs=>simp_all
   | _=>cases b
 .by_cases c:∃ rs,r=.tuple rs
  .exfalso;obtain ⟨rs,rfl⟩:=c;cases p with
   | tuple ps=>simp_all
   | _=>cases b
  .have a:qog p r=true:=by
    cases p with
    | tuple ps=>simp_all
    | _=>cases r with
     | tuple rs=>simp_all
     | _=>exact b
   have i:=h v.cells (by rw [q6b (λps e=>f ⟨ps,e⟩)];exact d.cells);rw [q6b (λrs e=>c ⟨rs,e⟩)] at i;exact (qt7 (cs:=[]) (us:=[]) a d (by simpa using i)).1
theorem q6d (ok:CfgOk X sz C) (ok2:CfgOk2 X C) (tok:qke X sz C tbl) (hq:qd C) {depth f:Nat} {args:List (PV K)} {r:PV K} (a7:∀ p ∈ args,Plain p) (hT:∀ p ∈ r.flat,RT p) (h:zy (qo X tbl inv meas) C depth f args r):jd X sz C f args r:=by
 intro H M vs S ra;have o:Le (wd0 H M C.codec) {wd0 H M C.codec with n:=1}:=Le.ext (w:=wd0 H M C.codec) (m:=1) (nu':=λ_=>false) (Nat.zero_le _) (λ_ _=>rfl);have I:=ra.mono ok.len o;obtain ⟨nu',g1,g2,g3⟩:=qfw ok.len I (zN 1);let w0:Wd:={wd0 H M C.codec with n:=(qbi args 1).2,nu:=nu'};have q:Le (wd0 H M C.codec) w0:=Le.ext (w:=wd0 H M C.codec) (Nat.zero_le _) (λid hi=>by have:id<0:=hi;omega);have R0:RelH X sz C H {tmps:=.nil,n:=0,cells:=[],owns:=[],next:=(qbi args 1).2,known:=[]} H w0:=by
  refine ⟨S.wf,S.ro,rfl,rfl,rfl,S.Mlt,rfl,g2,.refl H,λ_ J=>False.elim J,λ_ _ J=>False.elim J,λid ps d=>(by cases d),λ_=>rfl,λi s d=>(by cases d),λi s nm d=>(by cases d),λi j s s' nm d=>(by cases d),rfl,λid b d=>(by cases d),λgn ps hg=>?_⟩;obtain ⟨q0,L,e',fl,fz,ex',q1,q2,q3⟩:=S.globs gn ps hg;exact ⟨q0,L,e',fl,fz,ex',q1,q2,q3.mono ok.len q⟩
 refine (qv0 ok ok2 tok hq (q4d ok ok2 tok hq depth) h R0 g3).mono λv H' hA=>?_;obtain ⟨p,a8,w',t,_,_,R,N,rp⟩:=hA;obtain ⟨B,t⟩:=cond_prop t;simp only [zA] at B;split at t
 .rename_i l d;obtain ⟨u,_⟩:=qt8 t;let a:=qa3 p.flat r.flat
  have O:(a.map (·.1)).Nodup:=(qhu B.2).sublist qvf;have y:(a.map (·.2)).Nodup:=by rw [qvg];exact qhu B.1.2
  let w2:Wd:={g:=H'.get,M:=λn=>if n<H.next then M n else w'.M n,c:=λ_=>0,nu:=λ_=>false,n:=qqj (qcr r.flat),owns:=λ_=>some 0,eta:=λj=>(look a j).bind w'.eta,ce:=C.codec,cl:=λ_=>False,nx:=H'.next,b:=H.next,lp:=λ_=>none,fl:=0};have z:∀ j i,(j,i) ∈ a->w2.eta j=w'.eta i:=by
   intro j i D;show (look a j).bind w'.eta=_;rw [qym O D];rfl
  have e:∀ j nm,w2.eta j=some nm->∃ i,(j,i) ∈ a/\w'.eta i=some nm:=by
   intro j nm P;obtain ⟨i,Q,T⟩:=zI.1 P;exact ⟨i,qez Q,T⟩
  refine ⟨w2,R.keeps,R.wf,rfl,λn hn=>?_,λn hn=>?_,rfl,rfl,λ_=>rfl,λj nm P=>?_,λE F nm e1 e2=>?_,?_⟩
  .grind
  .have A:(if n<H.next then M n else w'.M n):=hn;split at A
   .rename_i k;exact zL k R.keeps.next
   .exact R.Mlt n A
  .obtain ⟨i,Q,T⟩:=e j nm P;obtain ⟨s,hs⟩:=qlc d j i Q;obtain ⟨U,V,b3⟩:=R.eta i s nm hs T;refine ⟨U,V,?_⟩;show ¬ (if nm<H.next then M nm else w'.M nm);rw [zF (by omega)];exact b3
  .obtain ⟨G,a1,U⟩:=e E nm e1;obtain ⟨i2,a2,V⟩:=e F nm e2;obtain ⟨s1,W⟩:=qlc d E G a1;obtain ⟨s2,Y⟩:=qlc d F i2 a2;have:=R.einj G i2 s1 s2 nm W Y U V;subst this;have Z:∀ (l:List (Nat×Nat)),(l.map (·.2)).Nodup->(E,G) ∈ l->(F,G) ∈ l->E=F:=by
    intro l
    induction l with
    | nil=>simp_all
    | cons x l ih=>grind
   exact Z a y a1 a2
  .refine zo7 B.1.1 rp λus a6=>?_;exact qu9 ok2 R (w':=w2) R.g.symm (λnm x _ D=>by
    show ¬ (if nm<H.next then M nm else w'.M nm);split
    .rename_i k;exact λh0=>D (N.Mu nm k h0)
    .exact D) R.ce.symm (λ_=>rfl) d u a6 hT z (λj hj=>(qwq _ 0).2 j hj)
 .exact absurd t id
end
end Go.E3
/- E3: TOOLS for claims: tables by lists, list elements of a claim's own types. -/
namespace Go.E3
open Go Go.E2
variable {K:Nat->Type}
def zw:List (Nat×Nat×Ann)->Nat->Nat->Option Ann
 | [],_,_=>none
 | (f,p,a)::l,g,q=>bif Nat.beq f g&&Nat.beq p q then some a else zw l g q
abbrev Ct (K:Nat->Type):=List Sh×(List (NV K)->Option (Prop×PV K))
def zt:List (Nat×Ct K)->Tbl K
 | [],_=>none
 | (f,c)::l,g=>bif Nat.beq f g then some c else zt l g
section
variable {X:Codecs K} {sz:Nat->Nat} {C:ZC K}
def kf (X:Codecs K) (sz:Nat->Nat) (C:ZC K) (f:Nat) (c:Ct K):Prop:=
 ∀ ns a r,c.2 ns=some (a,r)->a->∃ args,qsx c.1 ns=some args/\jd X sz C f args r/\Form r
theorem ql:qke X sz C (zt []):=λf a b ns c r h=>by cases h
theorem qb {f:Nat} {c:Ct K} {l:List (Nat×Ct K)} (h:kf X sz C f c) (k:qke X sz C (zt l)):qke X sz C (zt ((f,c)::l)):=by
 intro g d e ns a r b i j;simp only [zt,cond_eq_ite,Nat.beq_eq] at b;split at b
 .rename_i m;subst m;cases b;exact h ns a r i j
 .exact k g d e ns a r b i j
theorem CfgOk.ann (h:CfgOk X sz C) (a:Nat->Nat->Option Ann):CfgOk X sz {C with ann:=a}:=⟨h.len,h.pos,h.size,h.inj,h.one,h.u8,h.pack⟩
theorem CfgOk2.ann (h:CfgOk2 X C) (a:Nat->Nat->Option Ann):CfgOk2 X {C with ann:=a}:=⟨h.plain,h.zm⟩
theorem jd.ann {f:Nat} {args:List (PV K)} {r:PV K} (h:jd X sz C f args r) (a:Nat->Nat->Option Ann):jd X sz {C with ann:=a} f args r:=by
 intro H M c S d;refine (h H M c ⟨S.wf,S.ro,S.Mlt,S.globs⟩ d).mono λv H' e=>?_;obtain ⟨w',b⟩:=e;exact ⟨w',b.keeps,b.wf,b.g,b.M,b.Mlt,b.ce,b.n,b.owns,b.eta,b.einj,b.rep⟩
theorem jd.z78 {f:Nat} {args:List (PV K)} {r:PV K} {a:Nat->Nat->Option Ann} (h:jd X sz {C with ann:=a} f args r):jd X sz C f args r:=by
 intro H M c S d;refine (h H M c ⟨S.wf,S.ro,S.Mlt,S.globs⟩ d).mono λv H' e=>?_;obtain ⟨w',b⟩:=e;exact ⟨w',b.keeps,b.wf,b.g,b.M,b.Mlt,b.ce,b.n,b.owns,b.eta,b.einj,b.rep⟩
theorem zj4 (ok:CfgOk X sz C) (ok2:CfgOk2 X C) {l:List (Nat×Ct K)} (tok:qke X sz C (zt l)) (i:qd C) {inv:Nat->List (NV K)->Prop} {meas:Nat->List (NV K)->Nat} {ann:List (Nat×Nat×Ann)} {depth f:Nat} {args:List (PV K)} {r:PV K} {g:Prop}
  (a:∀ p ∈ args,Plain p) (j:∀ p ∈ r.flat,RT p) (b:zy (qo X (zt l) inv meas) {C with ann:=zw ann} depth f args r=g) (h:g):jd X sz C f args r:=
 q6d (C:={C with ann:=zw ann}) (tbl:=zt l) (inv:=inv) (meas:=meas) (ok.ann _) (ok2.ann _) (λf c d ns e r k m n=>by
  obtain ⟨o,q,s,t⟩:=tok f c d ns e r k m n;exact ⟨o,q,s.ann _,t⟩) i a j (b.symm ▸ h) |>.z78
theorem zo (ok:CfgOk X sz C) (ok2:CfgOk2 X C) {l:List (Nat×Ct K)} (tok:qke X sz C (zt l)) (s:qd C) {inv:Nat->List (NV K)->Prop} {meas:Nat->List (NV K)->Nat} {ann:List (Nat×Nat×Ann)} {depth f:Nat} {args:List (PV K)} {r:PV K} {o:Prop}
  (a:∀ p ∈ args,Plain p) (t:∀ p ∈ r.flat,RT p) (c:zy (qo X (zt l) inv meas) {C with ann:=zw ann,born:=λ_=>false} depth f args r=o) (h:o):jd X sz C f args r:=by
 have q:=q6d (C:={C with ann:=zw ann,born:=λ_=>false}) (tbl:=zt l) (inv:=inv) (meas:=meas) ⟨ok.len,ok.pos,ok.size,ok.inj,ok.one,ok.u8,ok.pack⟩ ⟨ok2.plain,ok2.zm⟩ (λf d e ns i r u w x=>by
  obtain ⟨y,z,A,B⟩:=tok f d e ns i r u w x;refine ⟨y,z,λH M j S k=>(A H M j ⟨S.wf,S.ro,S.Mlt,S.globs⟩ k).mono λv H' m=>?_,B⟩;obtain ⟨w',b⟩:=m;exact ⟨w',b.keeps,b.wf,b.g,b.M,b.Mlt,b.ce,b.n,b.owns,b.eta,b.einj,b.rep⟩) s a t (c.symm ▸ h)
 intro H M j S k;refine (q H M j ⟨S.wf,S.ro,S.Mlt,S.globs⟩ k).mono λv H' m=>?_;obtain ⟨w',b⟩:=m;exact ⟨w',b.keeps,b.wf,b.g,b.M,b.Mlt,b.ce,b.n,b.owns,b.eta,b.einj,b.rep⟩
def q90:PV K->Bool
 | .int .. | .lit _ | .str _ | .nils | .nilp | .nilf | .nili=>true
 | .sb 0 _ _ _ _=>true
 | .list _ _ none=>true
 | .func _ [] []=>true
 | _=>false
def zhv:PV K->Bool
 | .agg ps=>ps.all q90
 | p=>q90 p
theorem q7e {p:PV K} (h:q90 p=true):Plain p:=by
 unfold q90 at h;split at h<;>first | (cases h;done) | constructor
theorem zon {p:PV K} (h:zhv p=true):Plain p:=by
 unfold zhv at h;split at h
 .exact .agg λp a=>q7e (List.all_eq_true.1 h p a)
 .exact q7e h
theorem qf {ps:List (PV K)} (h:ps.all zhv=true):∀ p ∈ ps,Plain p:=λp a=>zon (List.all_eq_true.1 h p a)
def qzz:PV K->Bool
 | .int .. | .lit _ | .str _=>true
 | .sb 0 _ _ _ _=>true
 | .list _ _ none=>true
 | .list _ _ (some (_,0))=>true
 | _=>false
def q83:PV K->Bool
 | .agg ps=>ps.all qzz
 | p=>qzz p
def z16:PV K->Bool
 | .tuple l=>l.all q83
 | p=>q83 p
theorem q3k {p:PV K} (h:qzz p=true):Simple p:=by
 unfold qzz at h;split at h<;>first | (cases h;done) | constructor
theorem q6f {p:PV K} (h:q83 p=true):Form1 p:=by
 unfold q83 at h;split at h
 .exact .agg λp a=>q3k (List.all_eq_true.1 h p a)
 .exact .one (q3k h)
theorem qn {p:PV K} (h:z16 p=true):Form p:=by
 unfold z16 at h;split at h
 .exact .tuple λp a=>q6f (List.all_eq_true.1 h p a)
 .exact .one (q6f h)
def qjs (k:IntKind):PV K->Option Int
 | .int a _ n=>if k=a then some n else none
 | _=>none
def zcr:PV K->Option Bool
 | .lit b=>some b
 | .sb _ _ b _ _=>some b
 | _=>none
def ztd:PV K->Option (List UInt8)
 | .str s=>some s
 | _=>none
def zzl (c:Nat):PV K->Option (List (K c))
 | .nils=>some []
 | .list a l _=>if h:a=c then some (h ▸ l) else none
 | _=>none
variable {w:Wd}
theorem qad {k:IntKind} {p:PV K} {n:Int} {v:V} (h:qjs k p=some n) (r:Rep X sz w p v):Rep X sz w (.int k none n) v:=by
 unfold qjs at h;split at h
 .split at h
  .rename_i a;subst a;cases h;cases r;exact .int λm b=>by cases b
  .cases h
 .cases h
theorem qn3 {p:PV K} {b:Bool} {v:V} (h:zcr p=some b) (r:Rep X sz w p v):Rep X sz w (.sb 0 false b (b=true) (b=false)) v:=by
 unfold zcr at h;split at h
 .cases h;cases r;exact .sb .rfl .rfl λa=>absurd rfl a
 .cases h;cases r;exact .sb .rfl .rfl λa=>absurd rfl a
 .cases h
theorem q1p {p:PV K} {s:List UInt8} {v:V} (h:ztd p=some s) (r:Rep X sz w p v):Rep X sz w (.str s) v:=by
 unfold ztd at h;split at h
 .cases h;exact r
 .cases h
theorem ztc (tbl:Tbl K) (inv:Nat->List (NV K)->Prop) (meas:Nat->List (NV K)->Nat) {c:Nat} {p:PV K} {l:List (K c)} {v:V} (h:zzl c p=some l) (r:Rep X sz w p v):Rep X sz w (.list c l none) v:=by
 have:asL (qo X tbl inv meas) c p=some l:=by
  cases p<;>exact h
 exact qe5 r this
theorem q6g {c:Nat} {p:PV K} {l:List (K c)} {v:V} (h:zzl c p=some l) (r:Rep X sz w p v):Rep X sz w (.list c l none) v:=ztc (λ_=>none) (λ_ _=>True) (λ_ _=>0) h r
theorem z6 {p q:PV K} {ps b:List (PV K)} {c:List V} (h:∀ v,Rep X sz w p v->Rep X sz w q v) (d:∀ us,qu X sz w ps us->qu X sz w b us) (r:qu X sz w (p::ps) c):qu X sz w (q::b) c:=by
 obtain ⟨v,a,rfl,e,f⟩:=r.z7;exact .cons (h v e) (d a f)
end
end Go.E3
/- E3: FUNCTIONS WITHOUT A BODY as contracts. -/
namespace Go.E3
open Go Go.E2
variable {K:Nat->Type}
def qtf (s:List UInt8) (c:Int):Int:=match s.findIdx? (λb=>b == c.toNat.toUInt8) with | some i=>(i:Int) | none=>-1
section
variable {X:Codecs K} {sz:Nat->Nat} {C:ZC K}
theorem z35 (ok2:CfgOk2 X C) (g:qd C) {f:Nat} {c:FI} {args:List (PV K)} {r:PV K} (a:C.ans f=false) (k:C.E.funcs f=some c) (l:c.body=none) (m:Plain r) (o:qcr r.flat=[])
  (h:∀ H M b,Start X sz C H M->qu X sz (wd0 H M C.codec) args b->∃ v,znd c.ext b=some v/\Rep X sz (wd0 H M C.codec) r v):jd X sz C f args r:=by
 intro H M b S p;obtain ⟨v,q,s⟩:=h H M b S p;let w':Wd:={wd0 H M C.codec with owns:=λ_=>some 0};have d:Rep X sz w' r v:=Rep.plain (w:=wd0 H M C.codec) (w':=w') ok2.plain rfl (λ_ _ _ h=>h) s m;refine q5y (g.1 f a) k l q ⟨w',?_⟩;refine ⟨.refl H,S.wf,rfl,λn _=>.rfl,S.Mlt,rfl,?_,λ_=>rfl,λi nm e=>(by cases e),λi j nm e=>(by cases e),d⟩;rw [o];rfl
theorem zs8 (ok2:CfgOk2 X C) {f:Nat} {r:PV K} {v:V} (c:Plain r) (d:qcr r.flat=[]) (h:∀ H,H.zm=C.ng->(∀ gn o,C.gobj gn=some o->H.get gn=some o/\gn<H.next)->qdv C.E (.func f) [] H λu H'=>u=v/\H'=H) (e:∀ H M,Rep X sz (wd0 H M C.codec) r v):jd X sz C f [] r:=by
 intro H M l S g;have:=g.jb;subst this;refine (h H S.ro.2.1 S.ro.2.2).mono λu H' k=>?_;obtain ⟨rfl,rfl⟩:=k;let w':Wd:={wd0 H' M C.codec with owns:=λ_=>some 0};have a:Rep X sz w' r u:=Rep.plain (w:=wd0 H' M C.codec) (w':=w') ok2.plain rfl (λ_ _ _ h=>h) (e H' M) c;refine ⟨w',?_⟩;refine ⟨.refl H',S.wf,rfl,λn _=>.rfl,S.Mlt,rfl,?_,λ_=>rfl,λi nm b=>(by cases b),λi j nm b=>(by cases b),a⟩;rw [d];rfl
theorem ztv (ok2:CfgOk2 X C) (e:qd C) {f:Nat} {b:FI} (a:C.ans f=false) (g:C.E.funcs f=some b) (h:b.body=none) (he:b.ext=1) (s:List UInt8) (c:Int) :
  jd X sz C f [.str s,.int .u8 none c] (.int .i64 none (qtf s c)):=by
 refine z35 ok2 e a g h .int rfl λH M q S i=>?_;obtain ⟨v,j,rfl,k,l⟩:=i.z7;obtain ⟨u,d,rfl,n,o⟩:=l.z7;have:=o.jb;subst this;cases k;cases n;exact ⟨.int .i64 (qtf s c),by rw [he];rfl,.int λm p=>by cases p⟩
theorem zs5 {f e:Nat} (h:(C.E.funcs f).map (λa=>(a.body.isNone,a.ext))=some (true,e)):∃ a,C.E.funcs f=some a/\a.body=none/\a.ext=e:=by
 obtain ⟨a,c,b⟩:=zM.1 h;simp only [zP,Option.isNone_iff_eq_none] at b;exact ⟨a,c,b.1,b.2⟩
theorem znn (ok2:CfgOk2 X C) (d:qd C) {f:Nat} (a:C.ans f=false) (e:(C.E.funcs f).map (λb=>(b.body.isNone,b.ext))=some (true,1)) (s:List UInt8) (c:Int) :
  jd X sz C f [.str s,.int .u8 none c] (.int .i64 none (qtf s c)):=by
 obtain ⟨b,g,h,i⟩:=zs5 e;exact ztv ok2 d a g h i s c
end
end Go.E3
/- E3: ARGUMENTS THAT LIE IN MEMORY: slices whose elements are numbers, conditions, texts, structs of such. -/
namespace Go.E3
open Go Go.E2
variable {K:Nat->Type}
def qrw:Value->V
 | .int k n=>.int k n
 | .bool b=>.bool b
 | .string s=>.str s.data.toList
 | _=>.tuple [.slice 0 0 0 0 0 none]
def qgx (W:World):qk:=λnm g=>if g=0 then (match W.heap[nm]? with
 | some (.cells a _ _)=>some (nm,0,a.size)
 | _=>none) else none
theorem qfq {W:World} {nm g:Nat} {x:Nat×Nat×Nat} (h:qgx W nm g=some x):g=0/\∃ a e fz,W.heap[nm]? = some (.cells a e fz)/\x=(nm,0,a.size):=by
 unfold qgx at h;split at h
 .rename_i b;split at h
  .rename_i a e fz c;exact ⟨b,a,e,fz,c,(Option.some.inj h).symm⟩
  .cases h
 .cases h
theorem qn4 {W:World} {b:Nat} {arr:Array Value} {e:TypeId} {fz:Nat×Nat} (h:W.heap[b]? = some (.cells arr e fz)):qgx W b 0=some (b,0,arr.size):=by
 unfold qgx;rw [zT rfl,h]
theorem zne {W w':World} {i:qk} (h:Ext W.heap.size (qgx W) W i w'):∀ b,b<W.heap.size->w'.heap[b]? = W.heap[b]?:=by
 intro b f;cases a:qgx W b 0 with
 | some x=>
  obtain ⟨_,c,e,fz,_,rfl⟩:=qfq a;exact h.ro b 0 b 0 _ f a
 | none=>
  refine (h.frg b f λnm g l n j=>?_).1;obtain ⟨rfl,c,e,fz,d,k⟩:=qfq j;cases k;rw [qn4 d] at a;cases a
inductive Leaf4 where
 | int (k:IntKind)
 | bool
 | str
 | list (c:Nat)
def Leaf4.flat:Leaf4->Bool
 | .list _=>false
 | _=>true
def q32 (P:Program) (g:TypeId->Option (List Leaf4)):List Field->Nat->Option (List Leaf4)
 | [],_=>some []
 | f::a,off=>(g f.type).bind λl=>bif Nat.beq f.offset off&&Nat.beq l.length (P.cellsOf f.type) then (q32 P g a (off+l.length)).map λr=>l++r else none
def qq8 (P:Program) (cd:TypeId->Option Nat):Nat->TypeId->Option (List Leaf4)
 | 0,_=>none
 | d+1,t=>match P.underlying t with
  | some (.int k)=>some [.int k]
  | some .bool=>some [.bool]
  | some .string=>some [.str]
  | some (.slice e)=>(cd e).map λc=>[.list c]
  | some (.struct a)=>(q32 P (qq8 P cd d) a.toList 0).bind λl=>bif Nat.beq l.length (P.cellsOf t) then some l else none
  | _=>none
section
variable {Hd:Type} {enc:TypeId×Value->Hd} {P:Program} {W:World} {cd:TypeId->Option Nat}
def qdh (enc:TypeId×Value->Hd) (P:Program) (W:World) (cd:TypeId->Option Nat):Leaf4->Value->Prop
 | .int k,x=>∃ n,x=.int k n/\(Lit.int k n).wf=true
 | .bool,x=>∃ b,x=.bool b
 | .str,x=>∃ s,x=.string s/\s.size<=maxLen
 | .list c,x=>x=.slice none 0 0∨∃ e a len cap,cd e=some c/\x=.slice (some a) len cap/\len<=cap/\cap<=maxLen/\
   ∀ i,i<cap->∃ cs m r,W.cells? 0 (a.add (i * P.cellsOf e)) (P.cellsOf e)=some cs/\DataW.trod enc P W 0 (λ_=>true) true m e cs=some r
theorem qy1 {Q:Leaf4->Value->Prop} {cs:List Value} {g:TypeId->Option (List Leaf4)}:∀ {d:List Field} {off:Nat} {ls:List Leaf4},q32 P g d off=some ls->
  (∀ f ∈ d,∀ l,g f.type=some l->l.length=P.cellsOf f.type->∀ (i:Nat) leaf x,l[i]? = some leaf->((cs.drop f.offset).take (P.cellsOf f.type))[i]? = some x->Q leaf x)->
  ∀ (i:Nat) leaf x,ls[i]? = some leaf->cs[off+i]? = some x->Q leaf x
 | [],off,ls,h,_,i,leaf,x,a,_=>by
  simp only [q32,zS] at h;subst h;simp at a
 | f::d,off,ls,h,j,i,leaf,x,a,k=>by
  simp only [q32] at h;obtain ⟨l,m,n⟩:=zI.1 h;rcases je n with ⟨_,c⟩ | ⟨c,o⟩
  .cases c
  .simp only [zA,Nat.beq_eq] at c;obtain ⟨rfl,b⟩:=c;obtain ⟨r,p,rfl⟩:=zM.1 o;by_cases hi:i<l.length
   .rw [List.getElem?_append_left hi] at a;refine j f zC l m b i leaf x a ?_;rw [List.getElem?_take_of_lt (by omega),List.getElem?_drop];exact k
   .rw [List.getElem?_append_right (by omega)] at a;refine qy1 p (λq e=>j q (zG _ e)) (i-l.length) leaf x a ?_;rw [show f.offset+l.length+(i-l.length)=f.offset+i by omega];exact k
theorem qru:∀ (d:Nat) {n:Nat} {t:TypeId} {cs:List Value} {r:DataW Hd×List MemPlace} {ls:List Leaf4},DataW.trod enc P W 0 (λ_=>true) true n t cs=some r->qq8 P cd d t=some ls->
  cs.length=ls.length/\∀ (i:Nat) leaf x,ls[i]? = some leaf->cs[i]? = some x->qdh enc P W cd leaf x
 | 0,n,t,cs,r,ls,h,o=>by cases o
 | d+1,n,t,cs,r,ls,h,o=>by
  have g:∀ {leaf:Leaf4} {x:Value},qdh enc P W cd leaf x->[x].length=[leaf].length/\∀ (i:Nat) l y,[leaf][i]? = some l->[x][i]? = some y->qdh enc P W cd l y:=by
   intro leaf x K;refine ⟨rfl,λi l y p v=>?_⟩;cases i with
   | zero=>simp only [List.getElem?_cons_zero,zS] at p v;subst p;subst v;exact K
   | succ i=>simp at p
  simp only [qq8] at o;split at o
  .rename_i k u;cases o;obtain ⟨m,rfl,_,L⟩:=DataW.trod_int u h;exact g ⟨m,rfl,L⟩
  .rename_i u;cases o;obtain ⟨b,rfl,_⟩:=DataW.trod_bool u h;exact g ⟨b,rfl⟩
  .rename_i u;cases o;obtain ⟨s,rfl,_,M⟩:=DataW.trod_string u h;exact g ⟨s,rfl,M⟩
  .rename_i e u;obtain ⟨c,N,rfl⟩:=zM.1 o;rcases DataW.trod_slice u h with ⟨rfl,_⟩ | ⟨a,len,cap,elems,F,m,_,rfl,_,_,G,O,R,z,A,_⟩
   .exact g (.inl rfl)
   .refine g (.inr ⟨e,a,len,cap,N,rfl,G,O,λi hi=>?_⟩);obtain ⟨S,B⟩:=A rfl;by_cases C:i<len
    .have:=z i C;rw [List.getElem?_eq_getElem (by omega)] at this;obtain ⟨w,p,v⟩:=zI.1 this;exact ⟨w,m,_,p,v⟩
    .have:=B (i-len) (by omega);rw [List.getElem?_eq_getElem (by omega),show len+(i-len)=i by omega] at this;obtain ⟨w,p,v⟩:=zI.1 this;exact ⟨w,m,_,p,v⟩
  .rename_i T u;obtain ⟨l,p,v⟩:=zI.1 o;rcases je v with ⟨_,D⟩ | ⟨D,U⟩
   .cases D
   .cases U;have H:=zE D;obtain ⟨xs,m,_,_,G,V,X⟩:=DataW.trod_struct u h;refine ⟨by omega,λi leaf x hi Y=>?_⟩;refine qy1 (Q:=qdh enc P W cd) (off:=0) p (λf E l' Z a1 j lf y hj hy=>?_) i leaf x hi (by simpa using Y);obtain ⟨q,I,rfl⟩:=List.mem_iff_getElem.1 E;have J:=X q T.toList[q] (by simp at I ⊢);rw [List.getElem?_eq_getElem (by simp at I;omega)] at J;exact (qru d J Z).2 j lf y hj hy
  .cases o
def qxx (good:∀ c,K c->Prop):Leaf4->PV K->Prop
 | .int k,p=>∃ n,p=.int k none n/\k.min<=n/\n<=k.max
 | .bool,p=>∃ b,p=.sb 0 false b (b=true) (b=false)
 | .str,p=>∃ s:List UInt8,p=.str s/\s.length<=maxLen
 | .list c,p=>∃ l:List (K c),p=.list c l none/\l.length<=maxLen/\∀ x ∈ l,good c x
def qmp (good:∀ c,K c->Prop):List Leaf4->List (PV K)->Prop
 | [],ps=>ps=[]
 | l::ls,ps=>∃ p a,ps=p::a/\qxx good l p/\qmp good ls a
variable {good:∀ c,K c->Prop}
variable {X:Codecs K} {sz:Nat->Nat} {w:Wd}
theorem q6s {leaf:Leaf4} {x:Value} (d:leaf.flat=true) (h:qdh enc P W cd leaf x):∃ p:PV K,qxx good leaf p/\Rep X sz w p (qrw x):=by
 cases leaf with
 | int k=>
  obtain ⟨n,rfl,a⟩:=h;simp only [Lit.wf,zA,decide_eq_true_eq] at a;exact ⟨_,⟨n,rfl,a⟩,.int λm e=>by cases e⟩
 | bool=>
  obtain ⟨b,rfl⟩:=h;exact ⟨_,⟨b,rfl⟩,.sb .rfl .rfl λf=>absurd rfl f⟩
 | str=>
  obtain ⟨s,rfl,g⟩:=h;exact ⟨_,⟨s.data.toList,rfl,by simpa using g⟩,.str⟩
 | list c=>cases d
theorem qyl {α:Type} {Q:Nat->α->Prop}:∀ {n:Nat},(∀ i,i<n->∃ x,Q i x)->∃ l:List α,l.length=n/\∀ (i:Nat) (h:i<l.length),Q i (l[i]'h)
 | 0,_=>⟨[],rfl,λi h=>by simp at h⟩
 | n+1,h=>by
  obtain ⟨l,b,c⟩:=qyl (n:=n) λi hi=>h i (by omega);obtain ⟨x,d⟩:=h n (by omega);refine ⟨l++[x],by simp [b],λi hi=>?_⟩;by_cases a:i<l.length
  .rw [List.getElem_append_left a];exact c i a
  .have:i=n:=by simp at hi;omega
   subst this;rw [List.getElem_append_right (by omega)];simpa [b] using d
theorem zox {f:TypeId->Bool}:∀ {d:Nat} {e:TypeId} {a off n:Nat},rowAt P f d e a off n=true->off<=a * P.cellsOf e
 | 0,_,_,_,_,h=>by simp [rowAt] at h
 | d+1,e,a,off,n,h=>by
  unfold rowAt at h;by_cases b:P.cellsOf e=0
  .simp [b] at h
  .simp only [b,if_false,Bool.or_eq_true,zA,beq_iff_eq,decide_eq_true_eq] at h;have c:=Nat.div_add_mod off (P.cellsOf e);have i:=Nat.mod_lt off (Nat.pos_of_ne_zero b);rcases h with ⟨⟨g,j⟩,_⟩ | ⟨g,_⟩
   .have:=zU (P.cellsOf e) (show off / P.cellsOf e<=a by omega);rw [Nat.mul_comm] at c;omega
   .have:=zU (P.cellsOf e) (show off / P.cellsOf e+1<=a by omega);rw [Nat.add_mul,Nat.one_mul] at this;rw [Nat.mul_comm] at c;omega
theorem q2c:∀ {d:Nat} {e:TypeId} {a off:Nat} {u:TypeId} {n:Nat},liesAt P d e a off u n=true->off<=a * P.cellsOf e
 | 0,_,_,_,_,_,h=>by simp [liesAt] at h
 | d+1,e,a,off,u,n,h=>by
  unfold liesAt at h;simp only [Bool.or_eq_true] at h;rcases h with h | h
  .exact zox h
  .split at h
   .exact q2c h
   .cases h
theorem zwi {base:Nat} {u:TypeId} {a:Addr} {len cap:Nat} (h:Cell.okWide P W .any base u (.slice (some a) len cap)) :
  a.spot=none/\∃ b e fz,W.heap[a.block]? = some (.cells b e fz)/\a.off<=b.size:=by
 have d:Cell.ok P W .any base u (.slice (some a) len cap):=by
  unfold Cell.okWide at h;split at h<;>first | exact h | (rename_i c;cases c)
 unfold Cell.ok at d;split at d<;>try (first | exact d.elim | (rename_i c;cases c;done))
 rename_i e m g i _ c;cases c;obtain ⟨_,_,_,j,row,cells,f,k⟩:=d;refine ⟨j,?_⟩;simp only [World.shape?] at f;split at f
 .rename_i b n fz l;cases f;refine ⟨b,_,fz,l,zR (q2c k) ?_⟩;exact Nat.div_mul_le_self _ _
 .cases f
structure ArgOk (good:∀ c,K c->Prop) (X:Codecs K) (sz:Nat->Nat) (P:Program) (cd:TypeId->Option Nat) (depth:Nat):Prop where
 elem:∀ e c,cd e=some c->∃ ls,qq8 P cd depth e=some ls/\ls.all Leaf4.flat=true/\ls.length=sz c/\P.cellsOf e=sz c/\0<sz c/\∀ ps:List (PV K),qmp good ls ps->∃ pre x,X.pack c ps=some (pre,x)/\pre/\good c x
theorem zs7 {leaf:Leaf4} {x:Value} (a:leaf.flat=true) (h:qdh enc P W cd leaf x) (G:qk):Go.E2.Rel G W (qrw x) x:=by
 cases leaf with
 | int k=>obtain ⟨n,rfl,_⟩:=h;simp [qrw,Go.E2.Rel]
 | bool=>obtain ⟨b,rfl⟩:=h;simp [qrw,Go.E2.Rel]
 | str=>obtain ⟨s,rfl,_⟩:=h;simp [qrw,Go.E2.Rel]
 | list c=>cases a
theorem zj8 {p:MemPlace} (h:Go.Good W p):p.block<W.heap.size:=by
 cases p with
 | cell b off=>
  obtain ⟨v,a,_⟩:=h;simp only [World.cell?] at a;split at a
  .rename_i c;exact ql7 c
  .cases a
 | map b=>
  obtain ⟨e,d,c⟩:=h;exact ql7 c
theorem q34 {w':World} {t:TypeId} {v:Value} {d:DataW Hd} {ps:List MemPlace} (f:laidOutB P=true) (c:P.readableRec t=true) (e:t<P.types.size) (h:DataW.Trod enc P W 0 (λ_=>true) true t v d ps) (k:∀ b,b<W.heap.size->w'.heap[b]? = W.heap[b]?)
  (sp:Nat->Bool) (i:∀ b,b<W.heap.size->sp b=true):DataW.Trod enc P w' 0 sp true t v d ps:=by
 obtain ⟨n,l⟩:=h;have K:=kids_book f c;have a:=DataW.trod_good K (λh=>by cases h) n t _ _ ⟨e,book_self t⟩ l;refine ⟨n,DataW.trod_stays K (book_sized c) (λh=>by cases h) ⟨e,book_self t⟩ l (λp j=>?_) (λp j=>i _ ?_)⟩
 .have g:p.block<W.heap.size:=zj8 (a p j);cases p with
  | cell b off=>simp only [World.sameAt,World.cell?,k b g]
  | map b=>exact k b g
 .exact zj8 (a p j)
end
end Go.E3
/- E3: (*strings.Builder).String, BY ITS TEXT: a check of the body, and what the body does. -/
namespace Go.E3
open Go Go.E2
def isT (t:Nat):Operand->Bool
 | .tmp x=>Nat.beq x t
 | _=>false
theorem qqk {t:Nat} {x:Operand} (h:isT t x=true):x=.tmp t:=by
 cases x<;>simp only [isT,Bool.false_eq_true] at h;rw [zE h]
def qzr (t:Nat):Op->Bool
 | .move x=>isT t x
 | _=>false
def qws (t:Nat):Op->Bool
 | .assign x=>isT t x
 | _=>false
def qwr:Op->Bool
 | .assign (.const c)=>match qsu 1000 c with
  | some (.str [])=>true
  | _=>false
 | _=>false
def q9c (t:Nat):Op->Bool
 | .nilCheck x=>isT t x
 | _=>false
def zzq (tB t k:Nat):Op->Bool
 | .fieldAddr a x i=>Nat.beq a tB&&isT t x&&Nat.beq i k
 | _=>false
def qzq (tS t:Nat):Op->Bool
 | .load a x=>Nat.beq a tS&&isT t x
 | _=>false
def q12 (b:Builtin->Bool) (e:List Nat) (d:List Nat):Op->Bool
 | .call c=>(match c.callee with
  | .builtin x=>b x
  | _=>false)&&Nat.beq c.args.toList.length e.length&&((c.args.toList.zip e).all λp=>isT p.2 p.1)&&listEq Nat.beq c.argTypes.toList d
 | _=>false
 where listEq (f:Nat->Nat->Bool):List Nat->List Nat->Bool
 | [],[]=>true
 | a::l,b::m=>f a b&&listEq f l m
 | _,_=>false
theorem qwy:∀ {a b:List Nat},q12.listEq Nat.beq a b=true->a=b
 | [],[],_=>rfl
 | a::l,b::m,h=>by
  simp only [q12.listEq,zA] at h;rw [zE h.1,qwy h.2]
 | [],_::_,h=>by simp [q12.listEq] at h
 | _::_,[],h=>by simp [q12.listEq] at h
theorem q14 {t:Nat} {op:Op} (h:qzr t op=true):op=.move (.tmp t):=by
 cases op<;>simp only [qzr,Bool.false_eq_true] at h;rw [qqk h]
theorem q9b {t:Nat} {op:Op} (h:qws t op=true):op=.assign (.tmp t):=by
 cases op<;>simp only [qws,Bool.false_eq_true] at h;rw [qqk h]
theorem q9a {op:Op} (h:qwr op=true):∃ c,op=.assign (.const c)/\qsu 1000 c=some (.str []):=by
 unfold qwr at h;split at h
 .grind
 .cases h
theorem q6n {t:Nat} {op:Op} (h:q9c t op=true):op=.nilCheck (.tmp t):=by
 cases op<;>simp only [q9c,Bool.false_eq_true] at h;rw [qqk h]
theorem zkc {tB t k:Nat} {op:Op} (h:zzq tB t k op=true):op=.fieldAddr tB (.tmp t) k:=by
 cases op<;>simp only [zzq,Bool.false_eq_true,zA] at h;rw [qqk h.1.2,zE h.1.1,zE h.2]
theorem q13 {tS t:Nat} {op:Op} (h:qzq tS t op=true):op=.load tS (.tmp t):=by
 cases op<;>simp only [qzq,Bool.false_eq_true,zA] at h;rw [qqk h.2,zE h.1]
theorem z2b {b:Builtin->Bool} {t ty:Nat} {op:Op} (h:q12 b [t] [ty] op=true):∃ c x,op=.call c/\c.callee=.builtin x/\b x=true/\c.args.toList=[.tmp t]/\c.argTypes.toList=[ty]:=by
 cases op<;>simp only [q12,Bool.false_eq_true,zA] at h;rename_i c;obtain ⟨⟨⟨e,k⟩,d⟩,i⟩:=h;cases g:c.callee with
 | builtin x=>
  rw [g] at e;refine ⟨c,x,rfl,g,e,?_,qwy i⟩
  match j:c.args.toList with
  | []=>simp_all
  | [a]=>
   rw [j] at d;simp only [List.zip_cons_cons,List.zip_nil_left,List.all_cons,List.all_nil,Bool.and_true] at d;rw [qqk d]
  | a::b::l=>simp_all
 | value f=>simp_all
 | invoke r m=>simp_all
theorem z62 {b:Builtin->Bool} {t i ty e:Nat} {op:Op} (h:q12 b [t,i] [ty,e] op=true):∃ c x,op=.call c/\c.callee=.builtin x/\b x=true/\c.args.toList=[.tmp t,.tmp i]/\c.argTypes.toList=[ty,e]:=by
 cases op<;>simp only [q12,Bool.false_eq_true,zA] at h;rename_i c;obtain ⟨⟨⟨j,p⟩,g⟩,n⟩:=h;cases k:c.callee with
 | builtin x=>
  rw [k] at j;refine ⟨c,x,rfl,k,j,?_,qwy n⟩
  match o:c.args.toList with
  | []=>simp_all
  | [a]=>simp_all
  | [a,q]=>
   rw [o] at g;simp only [List.zip_cons_cons,List.zip_nil_left,List.all_cons,List.all_nil,Bool.and_true,zA] at g;rw [qqk g.1,qqk g.2]
  | a::b::d::l=>simp_all
 | value f=>simp_all
 | invoke r m=>simp_all
def qtl (d:Nat) (p:Op->Bool) (o:Oper):Bool:=
 (match o.dst with
 | some e=>Nat.beq e d
 | none=>false)&&(match o.guard with
 | none=>true
 | some _=>false)&&p o.op
theorem qf2 {d:Nat} {p:Op->Bool} {o:Oper} (h:qtl d p o=true):o.dst=some d/\o.guard=none/\p o.op=true:=by
 simp only [qtl,zA] at h;obtain ⟨⟨a,c⟩,b⟩:=h;refine ⟨?_,?_,b⟩
 .split at a
  .simp_all
  .cases a
 .grind
def zwp (tB tS tQ tI:Nat):List Oper->Bool
 | [a,b,c,d,e,f,g,h,i,j,k,l]=>
  qtl 3 (qzr 0) a&&qtl 4 (q9c 3) b&&qtl 5 (zzq tB 4 1) c&&qtl 6 (qzq tS 5) d&&qtl 7 (q12 (λ| .unsafeSliceData=>true | _=>false) [6] [tS]) e&&
  qtl 8 (qzr 0) f&&qtl 9 (q9c 8) g&&qtl 10 (zzq tB 9 1) h&&qtl 11 (qzq tS 10) i&&qtl 12 (q12 (λ| .len=>true | _=>false) [11] [tS]) j&&
  qtl 13 (q12 (λ| .unsafeString=>true | _=>false) [7,12] [tQ,tI]) k&&qtl 2 (qws 13) l
 | _=>false
def zah (E:Env) (tB tS tQ tU:Nat):Bool:=
 (match E.types tB with
 | some ti=>match qi9 ti 1 with
  | some f=>Nat.beq f.offset 1&&(match E.types f.type with
   | some a=>!Nat.beq a.size 0
   | none=>false)
  | none=>false
 | none=>false)&&
 (match E.types tS with
 | some ti=>Nat.beq ti.size 1&&!ti.isAgg&&(match ti.under with
  | .slice u=>Nat.beq u tU
  | _=>false)
 | none=>false)&&
 (match E.types tQ with
 | some ti=>match ti.under with
  | .pointer u=>Nat.beq u tU
  | _=>false
 | none=>false)&&
 (match E.types tU with
 | some ti=>Nat.beq ti.size 1
 | none=>false)
def zag (E:Env) (F tB tS tQ tI tU:Nat):Bool:=
 match E.funcs F with
 | some c=>(match c.results with
  | [.tmp 2]=>true
  | _=>false)&&Nat.beq c.ntmps 14&&zah E tB tS tQ tU&&
  (match c.body with
  | some (.seq (.region _ a false) (.seq (.region _ b true) .ret))=>(match a.toList with
   | [o]=>qtl 2 qwr o
   | _=>false)&&zwp tB tS tQ tI b.toList&&((List.range 10).all λi=>((Region.before b).getD 10 0).testBit i)
  | _=>false)
 | none=>false
section
variable {E:Env} {fn:FuncId} {round:Option Nat} {all:Array Oper} {b:Array Nat} {i:Nat} {l:List Oper} {done:List Done} {o:Oper} {fr:Fr} {H:Heap} {Q:Ex->Fr->Heap->Prop} {B:Nat}
def qty (B i:Nat) (done:List Done):Prop:=E2.Calm B done/\∀ d ∈ done,d.i<i
theorem zmy:qty B 0 []:=⟨zrr,λd h=>by cases h⟩
theorem q0y {fp:FP} {lo hi:Nat} {dels:List Nat} (h:qty B i done) (b:fp=.none∨∃ l,fp=.reads l) (c:B<=lo):qty B (i+1) (⟨i,fp,lo,hi,dels⟩::done):=by
 refine ⟨zmz b c h.1,λd a=>?_⟩;rcases zD.1 a with rfl | a
 .simp_all
 .exact Nat.lt_succ_of_lt (h.2 d a)
theorem qrh {t:Nat} (h:Operand.tmp t ∈ o.op.operands.toList):t ∈ o.looksAt all:=by
 exact List.mem_append_left _ (List.mem_filterMap.2 ⟨_,h,rfl⟩)
theorem qni {v:V} {d:Nat} (e:qty B i done) (f:B<=H.next) (g:kv E o.op=false) (h:o.guard=none) (j:o.dst=some d) (m:d<fr.n)
  (c:∀ fr' H',(∀ t,Operand.tmp t ∈ o.op.operands.toList->fr'.tmp t=fr.tmp t)->jk E o fr' H'=some (.val v,H'))
  (k:∀ a fr',qty B (i+1) a->Upd fr d v fr'->WpD E all b (i+1) l a fr' H Q):WpD E all b i (o::l) done fr H Q:=by
 refine qe4 (fp:=.none) (out:=.val v) (K:=zx H .none _) (qlm h) (by simp only [qlw,g,Bool.not_false,zO]) (by simp) (q0z e.1 (.inl rfl)) (c _ _ λt p=>qd7 (qrh p)) (.inl rfl) (zN _) ?_;rw [ql1,j];exact k _ _ (q0y e (.inl rfl) f) (qvl m)
theorem zxf {t:TypeId} {ti:TI} {s d nm g off lim:Nat} {v:V} (c:qty B i done) (q:B<=H.next) (e:o.op=.load t (.tmp s)) (r:E.types t=some ti) (p:fr.tmp s=some (.ptr nm g off lim)) (f:nm<B) (j:o.guard=none) (u:o.dst=some d) (w:d<fr.n) (h:qkh H ti (.ptr nm g off lim)=some v)
  (k:∀ a fr',qty B (i+1) a->Upd fr d v fr'->WpD E all b (i+1) l a fr' H Q):WpD E all b i (o::l) done fr H Q:=by
 have m:qlw E o fr=.reads [nm]:=by
  simp only [qlw,e,kv,Bool.not_true,zQ,qc4,Op.operands,List.flatMap_cons,List.flatMap_nil,q2g,p,V.nm,zJ]
 have x:s ∈ o.looksAt all:=by simp [Oper.looksAt,e,Op.operands]
 refine qe4 (fp:=.reads [nm]) (out:=.val v) (K:=zx H (.reads [nm]) ((zv b i done).flatMap Done.names)) (qlm j) m (by simp) (q0z c.1 (.inr ⟨_,rfl⟩)) ?_ (.inl rfl) (zN _) ?_
 .have j:=qq9 (H:=H) (l:=[nm]) (dels:=(zv b i done).flatMap Done.names) (List.mem_singleton.2 rfl) (by omega) (zm0 c.1 f);have y:qkh (zx H (.reads [nm]) ((zv b i done).flatMap Done.names)) ti (.ptr nm g off lim)=some v:=by
   rw [<-h];simp only [qkh,jz,j]
  simp only [jk,e,r,zB,opd,qd7 x,p,y,zH]
 .rw [qyh,u];exact k _ _ (q0y c (.inr ⟨_,rfl⟩) q) (qvl w)
theorem zg6 (c:qty B i done) (a:((List.range i).all λj=>(b.getD i 0).testBit j)=true):zv b i done=[]:=by
 unfold zv;rw [List.filter_eq_nil_iff];intro d e;rw [List.all_eq_true] at a;rw [a d.i (List.mem_range.2 (c.2 d e))];simp
end
theorem q7u {E:Env} {tB tS tQ tU:Nat} (h:zah E tB tS tQ tU=true) :
  (∃ ti f g,E.types tB=some ti/\qi9 ti 1=some f/\f.offset=1/\E.types f.type=some g/\Nat.beq g.size 0=false)/\
  (∃ ti,E.types tS=some ti/\ti.size=1/\ti.isAgg=false/\ti.under=.slice tU)/\
  (∃ ti,E.types tQ=some ti/\ti.under=.pointer tU)/\∃ ti,E.types tU=some ti/\ti.size=1:=by
 simp only [zah,zA] at h;obtain ⟨⟨⟨a,c⟩,d⟩,i⟩:=h;refine ⟨?_,?_,?_,?_⟩
 .split at a
  .rename_i ti b;split at a
   .rename_i f k;simp only [zA] at a;obtain ⟨j,e⟩:=a;split at e
    .simp_all
    .cases e
   .cases a
  .cases a
 .split at c
  .rename_i ti b;simp only [zA,Bool.not_eq_true'] at c;obtain ⟨⟨j,e⟩,a3⟩:=c;split at a3
   .simp_all
   .cases a3
  .cases c
 .split at d
  .rename_i ti b;split at d
   .simp_all
   .cases d
  .cases d
 .split at i
  .simp_all
  .cases i
theorem que {c:Go.Call} {b:Builtin} {x:Operand} (a:c.callee=.builtin b) (h:x ∈ c.args.toList):x ∈ (Op.call c).operands.toList:=by
 simp only [Op.operands,Call.operands,a];simpa using h
theorem zny {H:Heap} {ti:TI} {nm off lim:Nat} {a:List V} {e:TypeId} {ex:Bool} {x:V} (f:ti.size=1) (g:ti.isAgg=false) (h:H.get nm=some (.row a e 0 0 0 ex)) (o:off+2<=lim) (i:lim<=a.length) (d:a[off+1]? = some x) (c:isHole x=false):qkh H ti (.ptr nm 0 (off+1) lim)=some x:=by
 have j:Nat.ble (off+1+1) lim=true:=by rw [Nat.ble_eq];omega
 have k:Nat.ble lim a.length=true:=by rw [Nat.ble_eq];exact i
 have l:(a.drop (off+1)).take 1=[x]:=by
  have b:off+1<a.length:=by omega
  rw [List.drop_eq_getElem_cons b];simp only [List.take_succ_cons,List.take_zero,List.cons.injEq,and_true];rw [List.getElem?_eq_getElem b] at d;exact Option.some.inj d
 have m:qna [x]=some [x]:=qjy λv n=>by
  rw [List.mem_singleton.1 n];exact c
 simp only [qkh,jz,h,f,j,k,l,m,g,Nat.ble_eq,zN,Nat.ble,Bool.and_self,Bool.true_and,zO,zQ,zB]
section
variable {E:Env} {F tB tS tQ tI tU:Nat}
theorem zeu (hq:E.spec F=none) (hc:zag E F tB tS tQ tI tU=true) {H H':Heap} {nm off lim:Nat} {vs:List V} {e:TypeId} {ex:Bool} (wf:∀ n,H.next<=n->H.get n=none) (hg:H.get nm=some (.row vs e 0 0 0 ex)) (h1:off+2<=lim) (h2:lim<=vs.length) {x p s:V} {n:Int} (hx:vs[off+1]? = some x) (bz:isHole x=false)
  (bA:∀ H0,qar E .unsafeSliceData [tS] [x] H0=some (.val p,H0)) (hlen:∀ H0,qar E .len [tS] [x] H0=some (.val (.int .i64 n),H0))
  (bB:∃ K,qar E .unsafeString [tQ,tI] [p,.int .i64 n] (zx H (.writes p.nm) [])=some (.val s,K)/\H.next<=K.next/\qcm H K (.writes p.nm) []=H') :
  qdv E (.func F) [.ptr nm 0 off lim] H λv K=>v=s/\K=H':=by
 have aq:nm<H.next:=by
  by_cases h:nm<H.next
  .exact h
  .simp_all
 unfold zag at hc;cases hf:E.funcs F with
 | none=>simp_all
 | some fi=>
 rw [hf] at hc;simp only [zA] at hc;obtain ⟨⟨⟨c1,c2⟩,c3⟩,c4⟩:=hc;have c2:=zE c2;obtain ⟨⟨cB,fd,cC,b1,b2,b3,b4,b5⟩,⟨a6,s1,s2,s3,s4⟩,-,-⟩:=q7u c3;split at c1
 .rename_i ar;split at c4
  .rename_i cD oa cE bC hb;simp only [zA] at c4;obtain ⟨⟨d1,d2⟩,d3⟩:=c4;split at d1
   .rename_i o0 bD;obtain ⟨e1,e2,e3⟩:=qf2 d1;obtain ⟨cc,e3,e4⟩:=q9a e3;unfold zwp at d2;split at d2
    .rename_i q0 q1 q2 q3 q4 q5 q6 q7 q8 q9 au cF av;simp only [zA] at d2;obtain ⟨⟨⟨⟨⟨⟨⟨⟨⟨⟨⟨f0,f1⟩,f2⟩,f3⟩,f4⟩,f5⟩,f6⟩,f7⟩,f8⟩,f9⟩,bE⟩,bF⟩:=d2;obtain ⟨bG,bH,g0⟩:=qf2 f0;obtain ⟨bI,bJ,g1⟩:=qf2 f1;obtain ⟨bK,bL,g2⟩:=qf2 f2;obtain ⟨bM,bN,g3⟩:=qf2 f3;obtain ⟨bO,bP,g4⟩:=qf2 f4;obtain ⟨bQ,bR,g5⟩:=qf2 f5;obtain ⟨bS,bT,g6⟩:=qf2 f6;obtain ⟨bU,bV,g7⟩:=qf2 f7;obtain ⟨bW,bX,g8⟩:=qf2 f8;obtain ⟨bY,bZ,g9⟩:=qf2 f9;obtain ⟨aw,ax,y⟩:=qf2 bE;obtain ⟨ay,az,C⟩:=qf2 bF;have g0:=q14 g0;have g1:=q6n g1;have g2:=zkc g2;have g3:=q13 g3;obtain ⟨k4,y4,g4,a7,c0,a8,c5⟩:=z2b g4;have g5:=q14 g5;have g6:=q6n g6;have g7:=zkc g7;have g8:=q13 g8;obtain ⟨k9,y9,g9,aa,c6,ab,aA⟩:=z2b g9;obtain ⟨cG,M,y,q,aB,r,aC⟩:=z62 y;have C:=q9b C;have y4:y4=.unsafeSliceData:=by cases y4<;>first | rfl | cases c0
     have y9:y9=.len:=by cases y9<;>first | rfl | cases c6
     have M:M=.unsafeString:=by cases M<;>first | rfl | cases aB
     subst y4 y9 M;have aD:=zny s2 s3 hg h1 h2 hx bz;refine q0w hq hf hb ?_;refine q37 (q74 ?_);rw [bD];have n0:({tmps:=qhd [.ptr nm 0 off lim],n:=max [V.ptr nm 0 off lim].length fi.ntmps,defers:=[]}:Fr).n=14:=by simp only [c2];rfl
     refine z6c (d:=2) (v:=.str []) (H':=H) (by simp only [qm5,e3]) (qlm e2) e1 (by rw [n0];decide) (q58 e3 (zof e4)) λad u1=>zlp (zez (q37 (ze4 ?_)));have t0:ad.tmp 0=some (.ptr nm 0 off lim):=(u1.other 0 rfl).trans (q55 rfl);have n1:ad.n=14:=u1.n.trans n0;have m1:ad.defers=[]:=u1.ds;rw [av];have c7:qty H.next 0 []:=zmy
     have tT:∀ (z:Op) (t:Nat),z.operands.toList=[.tmp t]->(z.operands.any λ| .global _=>true | _=>false)=false:=by
      intro z t hz;rw [<-Array.any_toList,hz];rfl
     have R:=t0;refine qni (d:=3) (v:=.ptr nm 0 off lim) c7 (zN _) (by simp only [kv,g0];first | exact tT _ _ rfl | rfl) bH bG (by rw [n1];decide) (λfr' H' l=>zjy g0 (qh6 ((l 0 (by rw [g0];simp [Op.operands])).trans R))) λcH N c8 u2=>?_;have aE:N.tmp 0=some (.ptr nm 0 off lim):=(u2.other 0 rfl).trans R;have S:N.tmp 3=some (.ptr nm 0 off lim):=u2.get;have n2:N.n=14:=u2.n.trans n1;have m2:N.defers=[]:=u2.ds.trans m1;clear u2;refine qni (d:=4) (v:=.ptr nm 0 off lim) c8 (zN _) (by simp only [kv,g1];first | exact tT _ _ rfl | rfl) bJ bI (by rw [n2];decide) (λfr' H' l=>by simp only [jk,g1,(qh6 ((l 3 (by rw [g1];simp [Op.operands])).trans S))]) λcI D c9 u3=>?_;have aF:D.tmp 0=some (.ptr nm 0 off lim):=(u3.other 0 rfl).trans aE;have aG:D.tmp 3=some (.ptr nm 0 off lim):=(u3.other 3 rfl).trans S;have T:D.tmp 4=some (.ptr nm 0 off lim):=u3.get;have n3:D.n=14:=u3.n.trans n2;have m3:D.defers=[]:=u3.ds.trans m2;clear u3;refine qni (d:=5) (v:=.ptr nm 0 (off+1) lim) c9 (zN _) (by simp only [kv,g2];first | exact tT _ _ rfl | rfl) bL bK (by rw [n3];decide) (λfr' H' l=>by have h0:=qur (H:=H') g2 b1 b2 b4 b5 (qh6 ((l 4 (by rw [g2];simp [Op.operands])).trans T));rw [b3] at h0;exact h0) λcJ A ca U=>?_;have aH:A.tmp 0=some (.ptr nm 0 off lim):=(U.other 0 rfl).trans aF;have aI:A.tmp 3=some (.ptr nm 0 off lim):=(U.other 3 rfl).trans aG;have aJ:A.tmp 4=some (.ptr nm 0 off lim):=(U.other 4 rfl).trans T;have W:A.tmp 5=some (.ptr nm 0 (off+1) lim):=U.get;have n4:A.n=14:=U.n.trans n3
     have m4:A.defers=[]:=U.ds.trans m3;clear U;refine zxf (ti:=a6) (s:=5) (d:=6) (v:=x) ca (zN _) g3 s1 W aq bN bM (by rw [n4];decide) aD λcK m cb O=>?_;have aK:m.tmp 0=some (.ptr nm 0 off lim):=(O.other 0 rfl).trans aH;have aL:m.tmp 3=some (.ptr nm 0 off lim):=(O.other 3 rfl).trans aI;have aM:m.tmp 4=some (.ptr nm 0 off lim):=(O.other 4 rfl).trans aJ;have aN:m.tmp 5=some (.ptr nm 0 (off+1) lim):=(O.other 5 rfl).trans W;have X:m.tmp 6=some (x):=O.get;have n5:m.n=14:=O.n.trans n4;have m5:m.defers=[]:=O.ds.trans m4;clear O;refine qni (d:=7) (v:=p) cb (zN _) (by simp only [kv,g4,a7];rw [<-Array.any_toList,a8];rfl) bP bO (by rw [n5];decide) (λfr' H' l=>by simp only [jk,g4,a7,a8,c5,qdm,(qh6 ((l 6 (by rw [g4];exact que a7 (by rw [a8];simp))).trans X)),zB,zH,bA]) λcL k cd P=>?_;have Y:k.tmp 0=some (.ptr nm 0 off lim):=(P.other 0 rfl).trans aK;have aO:k.tmp 3=some (.ptr nm 0 off lim):=(P.other 3 rfl).trans aL;have aP:k.tmp 4=some (.ptr nm 0 off lim):=(P.other 4 rfl).trans aM;have aQ:k.tmp 5=some (.ptr nm 0 (off+1) lim):=(P.other 5 rfl).trans aN;have aR:k.tmp 6=some (x):=(P.other 6 rfl).trans X;have aS:k.tmp 7=some (p):=P.get;have n6:k.n=14:=P.n.trans n5;have m6:k.defers=[]:=P.ds.trans m5;clear P;refine qni (d:=8) (v:=.ptr nm 0 off lim) cd (zN _) (by simp only [kv,g5];first | exact tT _ _ rfl | rfl) bR bQ (by rw [n6];decide) (λfr' H' l=>zjy g5 (qh6 ((l 0 (by rw [g5];simp [Op.operands])).trans Y))) λcM j cf L=>?_
     have aT:j.tmp 0=some (.ptr nm 0 off lim):=(L.other 0 rfl).trans Y;have aU:j.tmp 3=some (.ptr nm 0 off lim):=(L.other 3 rfl).trans aO;have aV:j.tmp 4=some (.ptr nm 0 off lim):=(L.other 4 rfl).trans aP;have aW:j.tmp 5=some (.ptr nm 0 (off+1) lim):=(L.other 5 rfl).trans aQ;have aX:j.tmp 6=some (x):=(L.other 6 rfl).trans aR;have aY:j.tmp 7=some (p):=(L.other 7 rfl).trans aS;have Z:j.tmp 8=some (.ptr nm 0 off lim):=L.get;have n7:j.n=14:=L.n.trans n6;have m7:j.defers=[]:=L.ds.trans m6;clear L;refine qni (d:=9) (v:=.ptr nm 0 off lim) cf (zN _) (by simp only [kv,g6];first | exact tT _ _ rfl | rfl) bT bS (by rw [n7];decide) (λfr' H' l=>by simp only [jk,g6,(qh6 ((l 8 (by rw [g6];simp [Op.operands])).trans Z))]) λcN i cg G=>?_;have aZ:i.tmp 0=some (.ptr nm 0 off lim):=(G.other 0 rfl).trans aT;have b6:i.tmp 3=some (.ptr nm 0 off lim):=(G.other 3 rfl).trans aU;have b7:i.tmp 4=some (.ptr nm 0 off lim):=(G.other 4 rfl).trans aV;have b8:i.tmp 5=some (.ptr nm 0 (off+1) lim):=(G.other 5 rfl).trans aW;have b9:i.tmp 6=some (x):=(G.other 6 rfl).trans aX;have ba:i.tmp 7=some (p):=(G.other 7 rfl).trans aY;have bb:i.tmp 8=some (.ptr nm 0 off lim):=(G.other 8 rfl).trans Z;have a1:i.tmp 9=some (.ptr nm 0 off lim):=G.get;have n8:i.n=14:=G.n.trans n7;have m8:i.defers=[]:=G.ds.trans m7;clear G
     refine qni (d:=10) (v:=.ptr nm 0 (off+1) lim) cg (zN _) (by simp only [kv,g7];first | exact tT _ _ rfl | rfl) bV bU (by rw [n8];decide) (λfr' H' l=>by have h0:=qur (H:=H') g7 b1 b2 b4 b5 (qh6 ((l 9 (by rw [g7];simp [Op.operands])).trans a1));rw [b3] at h0;exact h0) λcO g ch B=>?_;have bc:g.tmp 0=some (.ptr nm 0 off lim):=(B.other 0 rfl).trans aZ;have bd:g.tmp 3=some (.ptr nm 0 off lim):=(B.other 3 rfl).trans b6;have bf:g.tmp 4=some (.ptr nm 0 off lim):=(B.other 4 rfl).trans b7;have bg:g.tmp 5=some (.ptr nm 0 (off+1) lim):=(B.other 5 rfl).trans b8;have bh:g.tmp 6=some (x):=(B.other 6 rfl).trans b9;have bj:g.tmp 7=some (p):=(B.other 7 rfl).trans ba;have bk:g.tmp 8=some (.ptr nm 0 off lim):=(B.other 8 rfl).trans bb;have bl:g.tmp 9=some (.ptr nm 0 off lim):=(B.other 9 rfl).trans a1;have I:g.tmp 10=some (.ptr nm 0 (off+1) lim):=B.get;have n9:g.n=14:=B.n.trans n8;have m9:g.defers=[]:=B.ds.trans m8;clear B;refine zxf (ti:=a6) (s:=10) (d:=11) (v:=x) ch (zN _) g8 s1 I aq bX bW (by rw [n9];decide) aD λcP b cj f=>?_;have ae:b.tmp 0=some (.ptr nm 0 off lim):=(f.other 0 rfl).trans bc;have af:b.tmp 3=some (.ptr nm 0 off lim):=(f.other 3 rfl).trans bd;have ag:b.tmp 4=some (.ptr nm 0 off lim):=(f.other 4 rfl).trans bf;have ah:b.tmp 5=some (.ptr nm 0 (off+1) lim):=(f.other 5 rfl).trans bg;have ai:b.tmp 6=some (x):=(f.other 6 rfl).trans bh;have aj:b.tmp 7=some (p):=(f.other 7 rfl).trans bj;have ak:b.tmp 8=some (.ptr nm 0 off lim):=(f.other 8 rfl).trans bk
     have al:b.tmp 9=some (.ptr nm 0 off lim):=(f.other 9 rfl).trans bl;have Q:b.tmp 10=some (.ptr nm 0 (off+1) lim):=(f.other 10 rfl).trans I;have u:b.tmp 11=some (x):=f.get;have bm:b.n=14:=f.n.trans n9;have ck:b.defers=[]:=f.ds.trans m9;clear f;refine qni (d:=12) (v:=.int .i64 n) cj (zN _) (by obtain ⟨u1,u2,u3,U,O⟩:=a6;simp only at s4;subst s4;simp only [kv,g9,aa,aA,s1];rw [<-Array.any_toList,ab];rfl) bZ bY (by rw [bm];decide) (λfr' H' l=>by simp only [jk,g9,aa,ab,aA,qdm,(qh6 ((l 11 (by rw [g9];exact que aa (by rw [ab];simp))).trans u)),zB,zH,hlen]) λbn a bo c=>?_;have cl:a.tmp 0=some (.ptr nm 0 off lim):=(c.other 0 rfl).trans ae;have cn:a.tmp 3=some (.ptr nm 0 off lim):=(c.other 3 rfl).trans af;have cp:a.tmp 4=some (.ptr nm 0 off lim):=(c.other 4 rfl).trans ag;have cq:a.tmp 5=some (.ptr nm 0 (off+1) lim):=(c.other 5 rfl).trans ah;have cr:a.tmp 6=some (x):=(c.other 6 rfl).trans ai;have J:a.tmp 7=some (p):=(c.other 7 rfl).trans aj;have ct:a.tmp 8=some (.ptr nm 0 off lim):=(c.other 8 rfl).trans ak;have cu:a.tmp 9=some (.ptr nm 0 off lim):=(c.other 9 rfl).trans al;have bu:a.tmp 10=some (.ptr nm 0 (off+1) lim):=(c.other 10 rfl).trans Q;have bw:a.tmp 11=some (x):=(c.other 11 rfl).trans u;have w:a.tmp 12=some (.int .i64 n):=c.get;have bp:a.n=14:=c.n.trans bm;have cv:a.defers=[]:=c.ds.trans ck;clear c;obtain ⟨K,cw,cx,cy⟩:=bB;have o:zv (Region.before bC) (0+1+1+1+1+1+1+1+1+1+1) bn=[]:=zg6 bo d3
     have m7:Operand.tmp 7 ∈ au.op.operands.toList:=by rw [y];exact que q (by rw [r];simp)
     have an:Operand.tmp 12 ∈ au.op.operands.toList:=by rw [y];exact que q (by rw [r];simp)
     refine qe4 (fp:=.writes p.nm) (out:=.val s) (K:=K) (qlm ax) ?_ (by simp) (by rw [o];rfl) ?_ (.inl rfl) cx ?_
     .simp only [qlw,kv,y,q,Bool.not_true,zQ,qc4,r,List.flatMap_cons,List.flatMap_nil,q2g,J,w,V.nm,zJ]
     .rw [o];simp only [jk,y,q,r,aC,qdm,qh6 ((qd7 (qrh m7)).trans J),qh6 ((qd7 (qrh an)).trans w),zB,zH,List.flatMap_nil];exact cw
     .rw [o,List.flatMap_nil,cy,aw];have ao:=qvl (v:=s) (fr:=a) (d:=13) (by rw [bp];decide);have cz:=ao.get;have cA:=ao.n.trans bp;have an:=ao.ds.trans cv;generalize a.put (some 13) s=bq at *;refine qe4 (fp:=.none) (out:=.val s) (K:=zx H' .none ?dels) (qlm az) (by simp only [qlw,kv,C,Op.operands];rw [<-Array.any_toList];rfl) (by simp) ?g1 ?g2 (.inl rfl) (zN _) ?g3
      case g2=>exact q58 C (qh6 ((qd7 (qrh (by rw [C];simp [Op.operands]))).trans cz))
      case g1=>
       rw [<-Bool.not_eq_true,List.any_eq_true];rintro ⟨d,_,bs⟩;rw [qsz] at bs;cases bs
      case g3=>
       rw [ql1,ay];have bt:=qvl (v:=s) (fr:=bq) (d:=2) (by rw [cA];decide);refine zln (zez (zw9 ⟨.inr rfl,?_⟩));refine ⟨_,z6k (bt.ds.trans an),[s],?_,rfl,rfl⟩;rw [ar];exact z04 bt.get z03
    .cases d2
   .cases d1
  .cases c4
 .cases c1
end
theorem znr {H:Heap} {a:Nat} {x:O} (h:a<H.next):qcm H ((zx H (.writes [a]) []).put a x) (.writes [a]) []=H.put a x:=by
 have b:Nat.blt a H.next=true:=by rw [Nat.blt_eq];exact h
 have c:[a].filter (λn=>Nat.blt n H.next&&!([]:List Nat).any λm=>Nat.beq n m)=[a]:=by
  simp only [List.filter_cons,b,List.any_nil,Bool.not_false,Bool.and_self,if_true,List.filter_nil]
 have d:((zx H (.writes [a]) []).put a x).qcg.get a=some x:=qa7;have e:((zx H (.writes [a]) []).put a x).next=H.next:=rfl
 simp only [qcm,e,c,Nat.sub_self,List.range'_zero,zJ,jj,d];rfl
theorem ztz {H:Heap}:qcm H (zx H (.writes []) []) (.writes []) []=H:=by
 have a:(zx H (.writes []) []).next=H.next:=rfl
 simp only [qcm,a,List.filter_nil,Nat.sub_self,List.range'_zero,zJ,jj]
theorem z01 {K:Nat->Type} {C:ZC K} {F tB tS tQ tI tU:Nat} (u:C.prim=λf=>Nat.beq f F) (M:C.E.spec F=none) (v:zag C.E F tB tS tQ tI tU=true) (hu:∀ c,C.codec c=some 0->c=tU):zf7 C:=by
 intro f j;rw [u] at j;have j:=zE j;subst j;intro H nm off lim vs e ex N O P Q;have k:zah C.E tB tS tQ tU=true:=by
  have h:=v;unfold zag at h;split at h
  .simp_all
  .cases h
 obtain ⟨-,⟨U,R,s2,s3,S⟩,⟨tq,W,X⟩,⟨Y,Z,v2⟩⟩:=q7u k;refine ⟨λw=>?_,λb g len cells c a d o l w x T y q a1 r z A B a6=>?_⟩
 .refine zeu (p:=.nilp) (n:=0) M v N O P Q w rfl (λH0=>rfl) (λH0=>?_) ⟨zx H (.writes []) [],?_,zN _,ztz⟩
  .simp only [qar,R,zB,S,qiq];rfl
  .rfl
 .have D:=hu c r;subst D;have s:b<H.next:=by
   by_cases h:b<H.next
   .exact h
   .simp_all
  have hb:Nat.blt 0 len=true:=by rw [Nat.blt_eq];exact q
  have G:Nat.blt b H.next=true:=by rw [Nat.blt_eq];exact s
  have j:[b].filter (λn=>Nat.blt n H.next&&!([]:List Nat).any λm=>Nat.beq n m)=[b]:=by
   simp only [List.filter_cons,G,List.any_nil,Bool.not_false,Bool.and_self,if_true,List.filter_nil]
  have t:(zx H (.writes [b]) []).get b=some (.row cells c g a d o):=by
   rw [<-x];simp only [zx,j,Heap.get,qaj,List.mem_singleton,if_true]
  have I:(zx H (.writes [b]) []).upd b (.row cells c g a (max d len) o)=some ((zx H (.writes [b]) []).put b (.row cells c g a (max d len) o)):=qcl B;refine zeu (p:=.ptr b g 0 (0+len * 1)) (n:=len) (H':=H.put b (.row cells c g a (max d len) o)) M v N O P Q w rfl (λH0=>?_) (λH0=>?_) ⟨(zx H (.writes [b]) []).put b (.row cells c g a (max d len) o),?_,zN _,znr s⟩
  .simp only [qar,hb,zO]
  .simp only [qar,R,zB,S,qiq]
  .have b1:Nat.ble a g=true:=by rw [Nat.ble_eq];exact y
   have b2:Nat.ble (0+len) (0+len * 1)=true:=by rw [Nat.ble_eq];omega
   have b3:Nat.ble (0+len * 1) cells.length=true:=by rw [Nat.ble_eq];omega
   have i:c=c/\Y.size=1/\(0:Int)<(len:Int)/\(len:Int)<=140737488355328/\g=g:=⟨rfl,v2,by omega,by omega,rfl⟩;have J:(cells.drop 0).take len=cells:=by
    rw [List.drop_zero,List.take_of_length_le (by omega)]
   have L:jz (zx H (.writes [b]) []) len (.ptr b g 0 (0+len * 1))=some cells:=by
    simp only [jz,t,b1,b2,b3,Bool.and_self,zO,J];exact qjy A
   simp only [qar,V.nm,W,X,t,zB,Z,i,and_self,if_true,Int.toNat_natCast,L,z,I,zH]
theorem q45 {P:Program} {e:Type} {enc:TypeId×Value->e} {g:Func} {s:Go.ChangeSpec} {apart fresh handsOn:Bool} {W w':World} {args:Array Value} {c gs:List (DataW e)} {before:List MemPlace} {t:TypeId}
  (k:DataW.Whole enc P g.params.toList s.vars apart W args.toList c gs before) (l:s.vars=[]) (n:g.resultTypes = #[t]) (hu:P.underlying t=some .bool)
  (d:s.fn e c = {results:=[.lit (.bool true)],args:=c}) (a:∃ f,DataW.TrodAll enc P w' 0 (λb=>decide (b<W.heap.size)) true g.params.toList args.toList c f) (o:∀ i,W.keptBut w' i) :
  s.post enc P g apart fresh handsOn false W args (.bool true) w':=by
 have j:=k;obtain ⟨p,q,u,m,rfl,_,_⟩:=k;rw [l] at m;obtain ⟨rfl,rfl⟩:=Go.ChangeShapes.trodVars_none m;obtain ⟨f,r⟩:=a;refine ⟨c,[],p++[],[],f,[],j,?_,?_,?_,o _,λh=>by cases h⟩
 .rw [n,zJ,d];exact Go.ChangeShapes.trodAll_mk1 (Go.RowKit.shut_bool hu true)
 .simp_all
 .rw [l,zJ,d];rfl
end Go.E3
/- E3: A CLOSED CALL that looks at listed variables, as a contract. -/
namespace Go.E2
open Go
def Fact.q05 (F:Fact):Bool:=
 F.args.isEmpty&&(F.pre.all λx=>match assoc (F.pre.map λx=>(x.1,x.1)) x.1,q47 (assoc (F.pre.map λx=>(x.1,x.1))) x.2 with
  | some k,some o=>Nat.beq k x.1&&q56 o x.2
  | _,_=>false)&&qqx (F.pre.map λx=>(x.1,x.1))&&(F.pre.all λx=>Nat.blt x.1 F.next)&&Nat.beq F.ro F.next&&qmn F.ret ((qg7 (λ_=>none) F.ret).getD (.tuple [.nilp]))
theorem z1m {F:Fact} {H:Heap} (e:F.q05=true) (i:H.zm=F.zm) (f:∀ x ∈ F.pre,H.get x.1=some x.2/\x.1<H.next):F.q5d [] H=some (.ret F.ret,H):=by
 simp only [Fact.q05,zA] at e;obtain ⟨⟨⟨⟨⟨j,l⟩,m⟩,n⟩,g⟩,p⟩:=e;have q:F.args=[]:=List.isEmpty_iff.1 j;have a:F.fits (F.pre.map λx=>(x.1,x.1)) [] H=true:=by
  simp only [Fact.fits,zA];refine ⟨⟨⟨⟨?_,?_⟩,?_⟩,m⟩,?_⟩
  .rw [q];rfl
  .rw [i];exact Nat.beq_refl _
  .unfold qwo;rw [List.all_eq_true];intro x b;have:=List.all_eq_true.1 l x b;split at this
   .rename_i k o c d;simp only [zA] at this;have r:=zE this.1;subst r;simp only [c,d,(f x b).1];exact this.2
   .cases this
  .rw [List.all_eq_true];intro x b;obtain ⟨y,h,rfl⟩:=List.mem_map.1 b;have c:=List.all_eq_true.1 n y h;have d:Nat.blt y.1 H.next=true:=by rw [Nat.blt_eq];exact (f y h).2
   have s:Nat.ble F.ro y.1=false:=by
    rw [<-Bool.not_eq_true,Nat.ble_eq,zE g];rw [Nat.blt_eq] at c;omega
   simp only [c,d,s,Nat.beq_refl,Bool.and_true,Bool.or_true,Bool.not_false,Bool.true_or]
 simp only [Fact.q5d,a,g,p,Bool.and_true,zO]
end Go.E2
namespace Go.E3
open Go Go.E2
theorem qsa {α:Type}:∀ {l:List (Nat×α)},distinct (l.map (·.1))=true->∀ {x:Nat×α},x ∈ l->look l x.1=some x.2
 | [],_,x,a=>by cases a
 | y::l,h,x,a=>by
  simp only [List.map_cons,distinct,zA,Bool.not_eq_true'] at h;simp only [look,cond_eq_ite,Nat.beq_eq];rcases zD.1 a with rfl | a
  .rw [zT rfl]
  .rw [zF]
   .exact qsa h.2 a
   .intro c;have b:=h.1;rw [<-Bool.not_eq_true,List.any_eq_true] at b;exact b ⟨x.1,List.mem_map.2 ⟨x,a,rfl⟩,by rw [c];exact Nat.beq_refl _⟩
end Go.E3
/- E3: ARGUMENTS WHOSE ELEMENTS HOLD SLICES, to whatever depth. The element size of a slice that lies in a cell is told by a function F of the cells where it points. -/
namespace Go.E3
open Go Go.E2
variable {K:Nat->Type}
def qie (W:World) (F:Array Value->Nat->Nat) (self:Nat):Value->V
 | .slice none len cap=>if len=0/\cap=0 then .nils else .tuple [.slice 0 0 0 0 0 none]
 | .slice (some a) len cap=>
  if cap=0 then (if len=0 then .slice self 0 0 0 1 (some 0) else .tuple [.slice 0 0 0 0 0 none])
  else match W.heap[a.block]? with
   | some (.cells b _ _)=>if a.spot=none/\len<=cap/\a.off+cap * F b a.off<=b.size then .slice a.block 0 a.off len (F b a.off) (some cap) else .tuple [.slice 0 0 0 0 0 none]
   | _=>.tuple [.slice 0 0 0 0 0 none]
 | x=>qrw x
theorem zrd {W:World} {F:Array Value->Nat->Nat} {self:Nat} {arr:Array Value} {e:TypeId} {fz:Nat×Nat} (g:W.heap[self]? = some (.cells arr e fz)) (x:Value):isHole (qie W F self x)=true∨Go.E2.Rel (qgx W) W (qie W F self x) x:=by
 cases x with
 | slice a len cap=>
  cases a with
  | none=>
   simp only [qie];split
   .rename_i h;obtain ⟨rfl,rfl⟩:=h;right;simp [Go.E2.Rel]
   .exact .inl rfl
  | some a=>
   simp only [qie];split
   .rename_i m;subst m;split
    .rename_i o;subst o;right;exact ⟨self,0,arr.size,0,0,e,arr.size,a,qn4 g,rfl,.inl rfl,zN _,zN _,by omega,.inr rfl,λk d=>by cases d;exact ⟨rfl,by omega⟩,by simp only [World.shape?,g],by omega⟩
    .exact .inl rfl
   .split
    .rename_i arr' p q c;split
     .rename_i h;obtain ⟨i,j,f⟩:=h;right;obtain ⟨b,off,l⟩:=a;simp only at i f c;subst i;have r:len * F arr' off<=cap * F arr' off:=zU _ j;simp only [Go.E2.Rel];exact ⟨b,0,arr'.size,off,cap,p,arr'.size,_,qn4 c,rfl,.inr rfl,j,Nat.zero_le _,by omega,.inl rfl,λk d=>by cases d;exact ⟨rfl,f⟩,by simp only [World.shape?,c],f⟩
     .exact .inl rfl
    .exact .inl rfl
 | int k n=>right;simp [qie,qrw,Go.E2.Rel]
 | bool b=>right;simp [qie,qrw,Go.E2.Rel]
 | string s=>right;simp [qie,qrw,Go.E2.Rel]
 | _=>exact .inl rfl
theorem q7j {W:World} {F:Array Value->Nat->Nat} {self:Nat} {arr:Array Value} {e:TypeId} {fz:Nat×Nat} (a:W.heap[self]? = some (.cells arr e fz)):∀ l:List Value,jo (qgx W) W (l.map (qie W F self)) l
 | []=>by simp [jo]
 | x::l=>by
  simp only [List.map_cons,jo];exact ⟨x,l,rfl,zrd a x,q7j a l⟩
def z0j (W:World) (F:Array Value->Nat->Nat) (b:Nat):Option (Nat×O):=
 match W.heap[b]? with
 | some (.cells a e fz)=>some (b,.row (a.toList.map (qie W F b)) e 0 0 fz.2 true)
 | _=>none
def zuv (W:World) (F:Array Value->Nat->Nat):List (Nat×O):=(List.range W.heap.size).filterMap (z0j W F)
theorem zoa {W:World} {F:Array Value->Nat->Nat} {b:Nat} {x:Nat×O} (h:z0j W F b=some x):∃ a e fz,W.heap[b]? = some (.cells a e fz)/\x=(b,.row (a.toList.map (qie W F b)) e 0 0 fz.2 true):=by
 unfold z0j at h;split at h
 .grind
 .cases h
theorem q64 {W:World} {F:Array Value->Nat->Nat} {b:Nat} {o:O} (h:(b,o) ∈ zuv W F):∃ a e fz,W.heap[b]? = some (.cells a e fz)/\o=.row (a.toList.map (qie W F b)) e 0 0 fz.2 true:=by
 obtain ⟨g,_,c⟩:=List.mem_filterMap.1 h;obtain ⟨a,e,fz,d,f⟩:=zoa c;cases f;exact ⟨a,e,fz,d,rfl⟩
def qfg (W:World) (F:Array Value->Nat->Nat) (ng:Nat):Heap:={qcg:=qge (zuv W F),next:=W.heap.size,ro:=W.heap.size,zm:=ng}
theorem qn6 {W:World} {F:Array Value->Nat->Nat} {ng b:Nat} {arr:Array Value} {e:TypeId} {fz:Nat×Nat} (h:W.heap[b]? = some (.cells arr e fz)):(qfg W F ng).get b=some (.row (arr.toList.map (qie W F b)) e 0 0 fz.2 true):=by
 have d:(b,O.row (arr.toList.map (qie W F b)) e 0 0 fz.2 true) ∈ zuv W F:=by
  refine List.mem_filterMap.2 ⟨b,List.mem_range.2 (ql7 h),?_⟩;unfold z0j;rw [h]
 obtain ⟨o,a⟩:=qqe d;obtain ⟨arr',g,f,c,rfl⟩:=q64 (qdp _ _ _ a);rw [h] at c;cases c;exact a
theorem qtd {W:World} {F:Array Value->Nat->Nat} {ng b:Nat} {o:O} (h:(qfg W F ng).get b=some o):∃ a e fz,W.heap[b]? = some (.cells a e fz)/\o=.row (a.toList.map (qie W F b)) e 0 0 fz.2 true:=
 q64 (qdp _ _ _ h)
theorem z9o {W:World} {F:Array Value->Nat->Nat} {ng:Nat} (j:ng<=W.heap.size):Sim (qfg W F ng) (qgx W) W:=by
 refine ⟨λnm g b m n h=>?_,λnm g b m n p u q v h r=>?_,λnm o _ k=>?_,zN _,j,λg o _ k=>?_⟩
 .obtain ⟨_,c,e,fz,a,d⟩:=qfq h;cases d;exact ⟨ql7 a,ql7 a⟩
 .obtain ⟨_,_,_,_,_,d⟩:=qfq h;obtain ⟨_,_,_,_,_,l⟩:=qfq r;cases d;cases l;exact ⟨rfl,rfl⟩
 .obtain ⟨c,e,fz,a,rfl⟩:=qtd k;refine ⟨zN _,λ_=>rfl,λg b m n s=>?_⟩;obtain ⟨rfl,arr',w,t,f,d⟩:=qfq s;rw [a] at f;cases f;cases d;refine ⟨zN _,Nat.zero_le _,by simp,λ_=>by simp,λ_=>rfl,λ_=>⟨c,fz,a,by simp,?_,λ_ i x y=>by omega,λ_=>by simp⟩⟩;rw [List.drop_zero,Nat.sub_zero,List.take_of_length_le (by simp),List.take_of_length_le (by simp)];exact q7j a _
 .obtain ⟨c,e,fz,a,_⟩:=qtd k;exact ⟨_,qn4 a⟩
def qmk:Value->Bool
 | .slice ..=>true
 | _=>false
section
variable {Hd:Type} {enc:TypeId×Value->Hd} {P:Program} {W:World} {F:Array Value->Nat->Nat} {cd:TypeId->Option Nat} {good:∀ c,K c->Prop} {X:Codecs K} {sz:Nat->Nat}
theorem zms {leaf:Leaf4} {x:Value} {self:Nat} (a:leaf.flat=true) (h:qdh enc P W cd leaf x):qie W F self x=qrw x:=by
 cases leaf with
 | int k=>obtain ⟨n,rfl,_⟩:=h;rfl
 | bool=>obtain ⟨b,rfl⟩:=h;rfl
 | str=>obtain ⟨s,rfl,_⟩:=h;rfl
 | list c=>cases a
theorem q4x {leaf:Leaf4} {x:Value} (h:qdh enc P W cd leaf x):qmk x = !leaf.flat:=by
 cases leaf with
 | int k=>obtain ⟨n,rfl,_⟩:=h;rfl
 | bool=>obtain ⟨b,rfl⟩:=h;rfl
 | str=>obtain ⟨s,rfl,_⟩:=h;rfl
 | list c=>rcases h with rfl | ⟨e,a,len,cap,_,rfl,_⟩<;>rfl
theorem qm7 {self:Nat}:∀ {l:List Value},(l.all λx=>!qmk x)=true->l.map (qie W F self)=l.map qrw
 | [],_=>rfl
 | x::l,h=>by
  simp only [List.all_cons,zA] at h;simp only [List.map_cons,qm7 h.2];congr 1;cases x<;>first | rfl | (simp [qmk] at h)
def qv9 (sz:Nat->Nat) (P:Program) (F:Array Value->Nat->Nat) (cd:TypeId->Option Nat) (depth c:Nat):Prop:=
 ∀ e ls,cd e=some c->qq8 P cd depth e=some ls->∀ (a:Array Value) (off:Nat),(∀ (i:Nat) leaf,ls[i]? = some leaf->∃ x,a[off+i]? = some x/\qmk x = !leaf.flat)->F a off=sz c
def qlp (good:∀ c,K c->Prop) (X:Codecs K) (sz:Nat->Nat) (P:Program) (F:Array Value->Nat->Nat) (cd:TypeId->Option Nat) (depth:Nat):Nat->Nat->Prop
 | 0,_=>False
 | n+1,c=>∀ e,cd e=some c->∃ ls,qq8 P cd depth e=some ls/\(∀ leaf ∈ ls,leaf.flat=true∨∃ b,leaf=.list b/\qlp good X sz P F cd depth n b/\qv9 sz P F cd depth b)/\ls.length=sz c/\P.cellsOf e=sz c/\0<sz c/\
   ∀ ps:List (PV K),qmp good ls ps->∃ a x,X.pack c ps=some (a,x)/\a/\good c x
theorem add_add (b off i j:Nat):((⟨b,off,none⟩:Addr).add i).add j=⟨b,off+i+j,none⟩:=by
 unfold Addr.add;by_cases a:i=0
 .simp_all
 .simp_all
theorem zpg {a:Addr} {n:Nat} {cs:List Value} (f:0<n) (h:W.cells? 0 (a.add (0 * n)) n=some cs):a.spot=none/\∃ c e fz,W.heap[a.block]? = some (.cells c e fz):=by
 obtain ⟨_,i,d⟩:=World.cells?_some h;have b:=d 0 f;rw [Nat.zero_mul] at b;have g:(a.add 0).add 0=a:=by simp [Addr.add]
 rw [g,List.getElem?_eq_getElem (by omega)] at b;simp only [World.cell?] at b;split at b
 .simp_all
 .cases b
theorem qwx {T:Nat->Prop} {w:Wd} {self:Nat} (g:∀ c,T c->∀ x,qdh enc P W cd (.list c) x->∃ p:PV K,qxx good (.list c) p/\Rep X sz w p (qie W F self x)) :
  ∀ {ls:List Leaf4} {cs:List Value},(∀ leaf ∈ ls,leaf.flat=true∨∃ c,leaf=.list c/\T c)->cs.length=ls.length->
   (∀ (i:Nat) leaf x,ls[i]? = some leaf->cs[i]? = some x->qdh enc P W cd leaf x)->
   ∃ ps:List (PV K),qmp good ls ps/\qu X sz w ps (cs.map (qie W F self))
 | [],[],_,_,_=>⟨[],rfl,.nil⟩
 | [],_::_,_,h,_=>by simp at h
 | _::_,[],_,h,_=>by simp at h
 | l::ls,x::cs,d,j,e=>by
  obtain ⟨ps,k,m⟩:=qwx g (cs:=cs) (λleaf n=>d leaf (zG _ n)) (by simpa using j) λi leaf y o q=>e (i+1) leaf y (by simpa using o) (by simpa using q);have f:=e 0 l x rfl rfl;obtain ⟨p,a,b⟩:∃ p:PV K,qxx good l p/\Rep X sz w p (qie W F self x):=by
   rcases d l zC with h | ⟨c,rfl,r⟩
   .obtain ⟨p,a,b⟩:=q6s (good:=good) (X:=X) (sz:=sz) (w:=w) h f;exact ⟨p,a,by rw [zms h f];exact b⟩
   .simp_all
  exact ⟨p::ps,⟨p,ps,rfl,a,k⟩,.cons b m⟩
theorem q1c {C:ZC K} (ok:CfgOk X sz C) {depth c b off cap:Nat} {arr:Array Value} {u e:TypeId} {fz:Nat×Nat} {w:Wd} {ls:List Leaf4} (v:W.heap[b]? = some (.cells arr u fz)) (z:qq8 P cd depth e=some ls) (A:ls.length=sz c)
  (B:∀ cs:List Value,cs.length=ls.length->(∀ (i:Nat) leaf x,ls[i]? = some leaf->cs[i]? = some x->qdh enc P W cd leaf x)->∃ ps:List (PV K),qmp good ls ps/\qu X sz w ps (cs.map (qie W F b)))
  (D:∀ ps:List (PV K),qmp good ls ps->∃ d x,X.pack c ps=some (d,x)/\d/\good c x)
  (E:∀ i,i<cap->∃ cs m r,W.cells? 0 ((⟨b,off,none⟩:Addr).add (i * sz c)) (sz c)=some cs/\DataW.trod enc P W 0 (λ_=>true) true m e cs=some r) :
  ∀ i,i<cap->∃ cs:List Value,cs.length=sz c/\(∀ j,j<sz c->arr[off+i * sz c+j]? = cs[j]?)/\(∀ (j:Nat) leaf,ls[j]? = some leaf->∃ x,arr[off+i * sz c+j]? = some x/\qmk x = !leaf.flat)/\
   ∃ y:K c,good c y/\qu X sz w (X.cells c y) (cs.map (qie W F b)):=by
 intro i hi;obtain ⟨cs,m,r,G,H⟩:=E i hi;obtain ⟨_,I,h⟩:=World.cells?_some G;obtain ⟨k,f⟩:=qru depth H z;obtain ⟨ps,l,n⟩:=B cs k f;obtain ⟨d,y,o,p,q⟩:=D ps l;have a:∀ j,j<sz c->arr[off+i * sz c+j]? = cs[j]?:=by
  intro j s;have:=h j s;rw [add_add] at this;simp only [World.cell?,v] at this;simpa using this
 refine ⟨cs,I,a,λj leaf t=>?_,y,q,ok.pack c ps d y o p _ _ n⟩;have s:j<sz c:=by rw [<-A];exact (List.getElem?_eq_some_iff.1 t).1
 have g:j<cs.length:=by omega
 refine ⟨cs[j],by rw [a j s,List.getElem?_eq_getElem g],q4x (f j leaf _ t (List.getElem?_eq_getElem g))⟩
theorem zs2 {arr:Array Value} {off cap c:Nat} {Q:List Value->Nat->Prop} (e:0<sz c) (a:cap=0->off<=arr.size) (b:∀ i,i<cap->∃ cs:List Value,cs.length=sz c/\(∀ j,j<sz c->arr[off+i * sz c+j]? = cs[j]?)/\Q cs i):off+cap * sz c<=arr.size:=by
 cases cap with
 | zero=>simp_all
 | succ q=>
  obtain ⟨cs,g1,d,_⟩:=b q (Nat.lt_succ_self q);have:=d (sz c-1) (by omega);rw [List.getElem?_eq_getElem (by omega)] at this;have:=(Array.getElem?_eq_some_iff.1 this).1;rw [Nat.add_mul,Nat.one_mul];omega
theorem qr9 {C:ZC K} (ok:CfgOk X sz C) {ng c b off len cap:Nat} {arr:Array Value} {r:TypeId} {fz:Nat×Nat} {M:Nat->Prop} {Q:List Value->Nat->Prop} (s:∀ n,¬ M n) (t:W.heap[b]? = some (.cells arr r fz)) (u:0<sz c) (h:len<=cap) (m:cap<=maxLen) (v:off+cap * sz c<=arr.size)
  (a:∀ i,i<cap->∃ cs:List Value,cs.length=sz c/\(∀ j,j<sz c->arr[off+i * sz c+j]? = cs[j]?)/\Q cs i/\∃ y:K c,good c y/\qu X sz (wd0 (qfg W F ng) M C.codec) (X.cells c y) (cs.map (qie W F b))) :
  ∃ p:PV K,qxx good (.list c) p/\Rep X sz (wd0 (qfg W F ng) M C.codec) p (.slice b 0 off len (sz c) (some cap)):=by
 have w:len * sz c<=cap * sz c:=zU _ h;obtain ⟨l,g1,o⟩:=qyl (Q:=λi (y:K c)=>∃ cs:List Value,cs.length=sz c/\(∀ j,j<sz c->arr[off+i * sz c+j]? = cs[j]?)/\good c y/\qu X sz (wd0 (qfg W F ng) M C.codec) (X.cells c y) (cs.map (qie W F b))) (n:=len) λi hi=>by
  obtain ⟨cs,g,d,_,y,e,f⟩:=a i (by omega);exact ⟨y,cs,g,d,e,f⟩
 refine ⟨.list c l none,⟨l,rfl,by omega,λy x=>?_⟩,?_⟩
 .obtain ⟨i,hi,rfl⟩:=List.mem_iff_getElem.1 x;obtain ⟨cs,g,d,e,f⟩:=o i hi;exact e
 .refine .list (qn6 t) (zN _) (s b) g1.symm (by simp;omega) ⟨u,.inl rfl⟩ (λk z=>by cases z;exact h) (λi hi j p q=>?_) trivial;obtain ⟨cs,g,d,e,f⟩:=o i hi;have A:j<sz c:=by rw [<-ok.len c (l[i]'hi)];exact (List.getElem?_eq_some_iff.1 q).1
  have:=f.2 j p q;rw [List.getD_eq_getElem?_getD,List.getElem?_map] at this ⊢;rw [Array.getElem?_toList,d j A];exact this
theorem q1z {C:ZC K} (ok:CfgOk X sz C) {depth ng:Nat} {M:Nat->Prop} (D:∀ n,¬ M n):∀ (n:Nat) {c d:Nat},qlp good X sz P F cd depth n c->qv9 sz P F cd depth c->∀ {g:Array Value} {J:TypeId} {m:Nat×Nat},W.heap[d]? = some (.cells g J m)->∀ {x:Value},
  qdh enc P W cd (.list c) x->∃ p:PV K,qxx good (.list c) p/\Rep X sz (wd0 (qfg W F ng) M C.codec) p (qie W F d x)
 | 0,c,d,E,_,_,_,_,_,_,_=>E.elim
 | n+1,c,d,E,G,g,J,m,j,x,h=>by
  rcases h with rfl | ⟨e,a,len,cap,L,rfl,N,o,H⟩
  .exact ⟨.list c [] none,⟨[],rfl,Nat.zero_le _,λx r=>by cases r⟩,.nlist trivial⟩
  .obtain ⟨ls,O,S,U,V,B,Y⟩:=E e L;rw [V] at H;by_cases l:cap=0
   .subst l;obtain rfl:len=0:=by omega
    refine ⟨.list c [] none,⟨[],rfl,Nat.zero_le _,λx r=>by cases r⟩,?_⟩;have:qie W F d (.slice (some a) 0 0)=.slice d 0 0 0 1 (some 0):=by simp [qie]
    rw [this];exact .list (qn6 j) (zN _) (D d) rfl (by simp) ⟨B,.inr ⟨Nat.one_pos,rfl,rfl⟩⟩ (λk Z=>by cases Z;exact zN _) (λi hi=>by simp at hi) trivial
   .obtain ⟨a1,m0,r0,q0,_⟩:=H 0 (by omega);obtain ⟨s,t,el,fz,u⟩:=zpg B q0;obtain ⟨b,off,R⟩:=a;simp only at s u;subst s;have f:=q1c (w:=wd0 (qfg W F ng) M C.codec) ok u O U (λcs q1 q2=>qwx (T:=λI=>qlp good X sz P F cd depth n I/\qv9 sz P F cd depth I) (λI v x r=>q1z ok D n v.1 v.2 u r) S q1 q2) Y H;have y:=zs2 (Q:=λcs i=>_) B (λh=>absurd h l) f;have z:F t off=sz c:=by
     obtain ⟨_,_,_,q,_⟩:=f 0 (by omega);exact G e ls L O t off λi leaf hi=>by have:=q i leaf hi;simpa using this
    have A:qie W F d (.slice (some ⟨b,off,none⟩) len cap)=.slice b 0 off len (sz c) (some cap):=by
     simp only [qie,zF l,u];rw [zT ⟨trivial,N,by rw [z];exact y⟩,z]
    rw [A];exact qr9 ok D u B N o y f
theorem q2b {C:ZC K} (ok:CfgOk X sz C) {depth ng n:Nat} {base:Nat} {u:TypeId} {leaf:Leaf4} {x:Value} {M:Nat->Prop} (A:∀ n,¬ M n) (I:leaf.flat=true∨∃ c,leaf=.list c/\qlp good X sz P F cd depth n c) (J:Cell.okWide P W .any base u x) (h:qdh enc P W cd leaf x) :
  ∃ (p:PV K) (v:V),qxx good leaf p/\Rep X sz (wd0 (qfg W F ng) M C.codec) p v/\Go.E2.Rel (qgx W) W v x:=by
 rcases I with B | ⟨c,rfl,D⟩
 .obtain ⟨p,r,s⟩:=q6s (X:=X) (sz:=sz) (w:=wd0 (qfg W F ng) M C.codec) B h;exact ⟨p,qrw x,r,s,zs7 B h _⟩
 .cases n with
  | zero=>exact D.elim
  | succ n=>
   rcases h with rfl | ⟨e,a,len,cap,L,rfl,t,l,E⟩
   .exact ⟨.list c [] none,.nils,⟨[],rfl,Nat.zero_le _,λx y=>by cases y⟩,.nlist trivial,by simp [Go.E2.Rel]⟩
   .obtain ⟨m,o,N,fz,j,f⟩:=zwi J;obtain ⟨b,off,G⟩:=a;simp only at m j f;subst m;obtain ⟨ls,r,s,O,R,H,S⟩:=D e L;rw [R] at E;have d:=q1c (w:=wd0 (qfg W F ng) M C.codec) ok j r O (λcs U Y=>qwx (T:=λz=>qlp good X sz P F cd depth n z/\qv9 sz P F cd depth z) (λz q x y=>q1z ok A n q.1 q.2 j y) s U Y) S E;have g:=zs2 (Q:=λcs i=>_) H (λ_=>f) d;obtain ⟨p,g1,Z⟩:=qr9 ok A j H t l g d;have a1:len * sz c<=cap * sz c:=zU _ t;refine ⟨p,_,g1,Z,?_⟩;exact ⟨b,0,o.size,off,cap,N,o.size,_,qn4 j,rfl,.inr rfl,t,Nat.zero_le _,by omega,.inl rfl,λk hk=>by cases hk;exact ⟨rfl,g⟩,by simp only [World.shape?,j],g⟩
theorem qu5 {C:ZC K} (ok:CfgOk X sz C) {depth ng n:Nat} {base:Nat} {M:Nat->Prop} (b:∀ n,¬ M n):∀ {ls:List Leaf4} {cs:List Value},(∀ leaf ∈ ls,leaf.flat=true∨∃ c,leaf=.list c/\qlp good X sz P F cd depth n c)->cs.length=ls.length->
  (∀ (i:Nat) x,cs[i]? = some x->∃ u,Cell.okWide P W .any base u x)->(∀ (i:Nat) leaf x,ls[i]? = some leaf->cs[i]? = some x->qdh enc P W cd leaf x)->
  ∃ (ps:List (PV K)) (a:List V),qmp good ls ps/\qu X sz (wd0 (qfg W F ng) M C.codec) ps a/\Go.E2.qq (qgx W) W a cs
 | [],[],_,_,_,_=>⟨[],[],rfl,.nil,by simp [Go.E2.qq]⟩
 | [],_::_,_,h,_,_=>by simp at h
 | _::_,[],_,h,_,_=>by simp at h
 | l::ls,x::cs,d,g,e,f=>by
  obtain ⟨u,j⟩:=e 0 x rfl;obtain ⟨p,v,k,m,o⟩:=q2b (ng:=ng) ok b (d l zC) j (f 0 l x rfl rfl);obtain ⟨ps,a,q,r,s⟩:=qu5 (ng:=ng) ok b (cs:=cs) (ls:=ls) (λleaf t=>d leaf (zG _ t)) (by simpa using g) (λi y w=>e (i+1) y (by simpa using w)) λi leaf y z A=>f (i+1) leaf y (by simpa using z) (by simpa using A);exact ⟨p::ps,v::a,⟨p,ps,rfl,k,q⟩,.cons m r,Go.E2.qq.cons o s⟩
theorem zrl {C:ZC K} (ok:CfgOk X sz C) {depth ng n:Nat} {base:Nat} {M:Nat->Prop} (g:∀ n,¬ M n) {t:TypeId} {v:Value} {d:DataW Hd} {ps:List MemPlace} {leaf:Leaf4} (h:leaf.flat=true∨∃ c,leaf=.list c/\qlp good X sz P F cd depth n c)
  (m:(match P.underlying t with | some (.struct _) | some (.array _ _)=>false | _=>true)=true) (i:qq8 P cd depth t=some [leaf]) (b:Value.okWide P W .any base t v) (j:DataW.Trod enc P W 0 (λ_=>true) true t v d ps) :
  ∃ (p:PV K) (u:V),qxx good leaf p/\Rep X sz (wd0 (qfg W F ng) M C.codec) p u/\Go.E2.Rel (qgx W) W u v:=by
 obtain ⟨n,k⟩:=j;obtain ⟨o,l⟩:=qru depth k i;have a:Cell.okWide P W .any base t v:=by
  unfold Value.okWide at b;split at b
  .simp_all
  .simp_all
  .exact b
 have e:v.cells.toList=[v]:=by
  cases v with
  | agg cs=>
   exfalso;unfold Cell.okWide at a;split at a<;>first | (rename_i f;cases f;done) | skip
   unfold Cell.ok at a;split at a<;>first | (rename_i f;cases f;done) | exact a
  | _=>rfl
 exact q2b ok g h a (l 0 leaf v rfl (by rw [e];rfl))
theorem zbc {C:ZC K} (ok:CfgOk X sz C) {depth ng n:Nat} {base:Nat} {M:Nat->Prop} (j:∀ n,¬ M n) {t:TypeId} {v:Value} {d:DataW Hd} {ps:List MemPlace} {ls:List Leaf4} {k:Array Field} (l:∀ leaf ∈ ls,leaf.flat=true∨∃ c,leaf=.list c/\qlp good X sz P F cd depth n c)
  (m:P.underlying t=some (.struct k)) (o:qq8 P cd depth t=some ls) (a:Value.okWide P W .any base t v) (p:DataW.Trod enc P W 0 (λ_=>true) true t v d ps) :
  ∃ (ps:List (PV K)) (u:V),qmp good ls ps/\Rep X sz (wd0 (qfg W F ng) M C.codec) (.agg ps) u/\Go.E2.Rel (qgx W) W u v:=by
 obtain ⟨n,q⟩:=p;obtain ⟨f,g⟩:=qru depth q o;unfold Value.okWide at a;rw [m] at a;obtain ⟨cs,rfl,_,B,_,_,b⟩:=a;have e:(Value.agg cs).cells.toList=cs.toList:=rfl;rw [e] at f g;obtain ⟨r,s,w,h,y⟩:=qu5 (ng:=ng) ok j l f (λi x z=>by
  obtain ⟨u,_,A⟩:=b i x (by simpa using z);exact ⟨u,A⟩) g
 exact ⟨r,.agg s,w,.agg h.1 h.2,by simp only [Go.E2.Rel];exact ⟨cs,rfl,y⟩⟩
end
end Go.E3
/- PLAIN LEAN FOR CONDITIONS: elements, bytes, parts of lists by numbers; places up to which something holds; cuts at a byte. No program in sight. -/
namespace Go.E3
theorem q16 {α:Type} [Inhabited α] {l:List α} {i:Nat} (h:i<l.length):ix l (i:Int)=l[i]:=by
 simp [ix,List.getD_eq_getElem?_getD,h]
theorem q9e {α:Type} [Inhabited α] {a:α} {l:List α} {i:Int} (h:0<=i):ix (a::l) (i+1)=ix l i:=by
 have:(i+1).toNat=i.toNat+1:=by omega
 simp [ix,this]
theorem ql0 {α:Type} [Inhabited α] {l m:List α} {i:Int} (a:0<=i) (h:i<ln l):ix (l++m) i=ix l i:=by
 have:i.toNat<l.length:=by simp only [ln] at h;omega
 simp [ix,List.getD_eq_getElem?_getD,List.getElem?_append_left this]
theorem qc9 {α:Type} (l:List α):fr l 0=l:=rfl
theorem k6 {α:Type} (l:List α):upto l 0=[]:=rfl
theorem qcn {α:Type} {l:List α} {i:Int} (h:ln l<=i):fr l i=[]:=by
 apply List.drop_of_length_le;simp only [ln] at h;omega
theorem j9 {α:Type} {l:List α} {i:Int} (h:ln l<=i):upto l i=l:=by
 apply List.take_of_length_le;simp only [ln] at h;omega
theorem j5 {α:Type} [Inhabited α] {l:List α} {i:Int} (a:0<=i) (h:i<ln l):fr l i=ix l i::fr l (i+1):=by
 have hi:i.toNat<l.length:=by simp only [ln] at h;omega
 have e:(i+1).toNat=i.toNat+1:=by omega
 unfold fr ix;rw [List.drop_eq_getElem_cons hi,e,List.getD_eq_getElem?_getD,List.getElem?_eq_getElem hi];rfl
theorem ke {α:Type} [Inhabited α] {l:List α} {i:Int} (a:0<=i) (h:i<ln l):upto l (i+1)=upto l i++[ix l i]:=by
 have hi:i.toNat<l.length:=by simp only [ln] at h;omega
 have e:(i+1).toNat=i.toNat+1:=by omega
 unfold upto ix;rw [e,List.take_add_one,List.getD_eq_getElem?_getD,List.getElem?_eq_getElem hi];rfl
theorem qkg {α:Type} {l:List α} {i:Int} (a:0<=i) (h:i<=ln l):ln (fr l i)=ln l-i:=by
 simp only [ln,fr,List.length_drop] at *;omega
theorem qda {α:Type} {l:List α} {i:Int} (a:0<=i) (h:i<=ln l):ln (upto l i)=i:=by
 simp only [ln,upto,List.length_take] at *;omega
theorem qwz {α:Type} {l:List α} {i j:Int} (a:0<=i) (b:i<=j) (h:j<=ln l):ln (sub l i j)=j-i:=by
 simp only [ln,sub,List.length_drop,List.length_take] at *;omega
theorem ln_nonneg {α:Type} (l:List α):0<=ln l:=Int.natCast_nonneg _
theorem qj {α:Type} (l m:List α):ln (l++m)=ln l+ln m:=by simp [ln]
theorem zh {α:Type} (a:α) (l:List α):ln (a::l)=ln l+1:=by simp [ln]
theorem jc {α:Type}:ln ([]:List α)=0:=rfl
theorem zz7 {α:Type} {l:List α} (h:ln l<=0):l=[]:=by
 cases l with
 | nil=>rfl
 | cons a l=>simp only [ln,List.length_cons] at h;omega
theorem kz {α:Type} {l m:List α} (h:ln l+ln m<=1000000000):qh (l.length+m.length):=by simp only [ln,qh] at *;omega
theorem kk {α:Type} {l:List α} {a:α} (h:ln l+1<=1000000000):qh (l.length + [a].length):=by simp only [ln,qh,List.length_cons,List.length_nil] at *;omega
theorem qca {α:Type} (l:List α) (a:α):ln (l++[a])=ln l+1:=by simp [ln]
theorem qib {α:Type} {l:List α} {i j:Int} (a:0<=i) (b:i<=j):sub l i j=upto (fr l i) (j-i):=by
 simp only [sub,fr,upto];rw [List.take_drop];have:i.toNat+(j-i).toNat=j.toNat:=by omega
 rw [this]
theorem zcp {α:Type} {l:List α} {i j:Int} (a:0<=i) (b:0<=j):fr (fr l i) j=fr l (i+j):=by
 simp only [fr,List.drop_drop];have:i.toNat+j.toNat=(i+j).toNat:=by omega
 rw [this]
theorem quc {s:List UInt8} {i j:Int} (a:0<=i) (b:0<=j):bx (fr s i) j=bx s (i+j):=by
 have:i.toNat+j.toNat=(i+j).toNat:=by omega
 simp only [bx,fr,List.getD_eq_getElem?_getD,List.getElem?_drop,this]
theorem z63 {α:Type} [Inhabited α] {s:List α} {i j:Int} (a:0<=i) (b:0<=j):ix (fr s i) j=ix s (i+j):=by
 have:i.toNat+j.toNat=(i+j).toNat:=by omega
 simp only [ix,fr,List.getD_eq_getElem?_getD,List.getElem?_drop,this]
theorem z2z {s:List UInt8} {i j k:Int} (a:0<=i) (b:0<=k) (c:i+k<j):bx (sub s i j) k=bx s (i+k):=by
 have:i.toNat+k.toNat=(i+k).toNat:=by omega
 simp only [bx,sub,List.getD_eq_getElem?_getD,List.getElem?_drop,this];rw [List.getElem?_take_of_lt (by omega)]
theorem qmr (s:List UInt8) (i:Int):bx s i=((ix s i).toNat:Int):=rfl
theorem qgv {a b:UInt8} (h:(a.toNat:Int)=b.toNat):a=b:=UInt8.toNat_inj.1 (by omega)
theorem q2e {α:Type} [Inhabited α] {l:List α} {a:α} (h:a ∈ l):∃ i:Int,0<=i/\i<ln l/\ix l i=a:=by
 obtain ⟨i,hi,rfl⟩:=List.mem_iff_getElem.1 h;exact ⟨i,by omega,by simp only [ln];omega,q16 hi⟩
theorem qam {α:Type} [Inhabited α] {l:List α} {i:Int} (a:0<=i) (h:i<ln l):ix l i ∈ l:=by
 have hi:i.toNat<l.length:=by simp only [ln] at h;omega
 have:ix l i=l[i.toNat]:=by simp [ix,List.getD_eq_getElem?_getD,hi]
 rw [this];exact List.getElem_mem hi
theorem qqp {α:Type} [Inhabited α] {l m:List α} (h:ln l=ln m) (he:∀ i,0<=i->i<ln l->ix l i=ix m i):l=m:=by
 apply List.ext_getElem (by simp only [ln] at h;omega);intro i a b;have:=he i (by omega) (by simp only [ln];omega)
 rwa [q16 a,q16 b] at this
def qfk (p:Int->Bool) (s:List UInt8) (i:Int):Int:=if h:0<=i/\i<ln s/\p (bx s i)=true then qfk p s (i+1) else i
 termination_by (ln s-i).toNat
 decreasing_by omega
theorem qvq {p:Int->Bool} {s:List UInt8} {i:Int}:i<=qfk p s i:=by
 fun_induction qfk p s i with
 | case1 i h a=>omega
 | case2 i h=>omega
theorem zd7 {p:Int->Bool} {s:List UInt8} {i:Int} (hi:i<=ln s):qfk p s i<=ln s:=by
 fun_induction qfk p s i with
 | case1 i h a=>exact a (by omega)
 | case2 i h=>exact hi
theorem qto {p:Int->Bool} {s:List UInt8} {i:Int} (a:0<=i) (h:i<ln s) (b:p (bx s i)=true):qfk p s i=qfk p s (i+1):=by
 rw [qfk,dif_pos ⟨a,h,b⟩]
theorem qmh {p:Int->Bool} {s:List UInt8} {i:Int} (h:ln s<=i∨p (bx s i)=false):qfk p s i=i:=by
 rw [qfk,dif_neg];rintro ⟨_,b,a⟩;rcases h with h | h
 .omega
 .rw [a] at h;cases h
theorem zoz {p:Int->Bool} {s:List UInt8} {i:Int} (a:0<=i) (h:qfk p s i<ln s):p (bx s (qfk p s i))=false:=by
 fun_induction qfk p s i with
 | case1 i hi b=>exact b (by omega) h
 | case2 i hi=>
  rw [<-Bool.not_eq_true];exact λc=>hi ⟨a,h,c⟩
theorem zoy {p:Int->Bool} {s:List UInt8} {i:Int}:∀ j,i<=j->j<qfk p s i->p (bx s j)=true:=by
 fun_induction qfk p s i with
 | case1 i hi b=>
  intro j c a;by_cases h:j=i
  .rw [h];exact hi.2.2
  .exact b j (by omega) a
 | case2 i hi=>intro j c a;omega
theorem q26 {p:Int->Bool} {s:List UInt8} {i k:Int} (c:0<=i) (f:i<=k) (g:k<=ln s) (b:∀ j,i<=j->j<k->p (bx s j)=true) (a:k=ln s∨p (bx s k)=false):qfk p s i=k:=by
 fun_induction qfk p s i with
 | case1 i hi d=>
  by_cases h:i=k
  .subst h;rcases a with a | a
   .omega
   .rw [hi.2.2] at a;cases a
  .exact d (by omega) (by omega) λj l e=>b j (by omega) e
 | case2 i hi=>
  by_cases h:i=k
  .exact h
  .exact absurd ⟨c,by omega,b i (by omega) (by omega)⟩ hi
def splitI (c:Int):List UInt8->List (List UInt8)
 | []=>[[]]
 | b::l=>if (b.toNat:Int)=c then []::splitI c l else match splitI c l with
  | []=>[[b]]
  | x::a=>(b::x)::a
theorem q7q (c:Int) (s:List UInt8):splitI c s≠[]:=by
 cases s with
 | nil=>simp [splitI]
 | cons b l=>
  unfold splitI;split
  .simp
  .split<;>simp
theorem qnd {c:Int}:∀ {s:List UInt8},(∀ b ∈ s,(b.toNat:Int)≠c)->splitI c s=[s]
 | [],_=>rfl
 | b::l,h=>by
  rw [splitI,zF (h b zC),qnd λx a=>h x (zG _ a)]
theorem qml {c:Int} {b:UInt8} (d:(b.toNat:Int)=c):∀ {s t:List UInt8},(∀ x ∈ s,(x.toNat:Int)≠c)->splitI c (s++b::t)=s::splitI c t
 | [],t,_=>by rw [List.nil_append,splitI,zT d]
 | a::l,t,h=>by
  rw [List.cons_append,splitI,zF (h a zC),qml d λx e=>h x (zG _ e)]
theorem zpf {c:Int} {s:List UInt8} {i k:Int} (e:0<=i) (f:i<=k) (h:k<=ln s) (m:∀ j,i<=j->j<k->bx s j≠c) (d:k=ln s∨bx s k=c) :
  splitI c (fr s i)=if k=ln s then [sub s i k] else sub s i k::splitI c (fr s (k+1)):=by
 have a:∀ x ∈ sub s i k,(x.toNat:Int)≠c:=by
  intro x n;obtain ⟨j,o,p,rfl⟩:=q2e n;rw [qwz e f h] at p;have:=z2z (s:=s) (i:=i) (j:=k) (k:=j) e o (by omega);rw [<-qmr,this];exact m _ (by omega) (by omega)
 have g:sub s i k++fr s k=fr s i:=by
  rw [qib e f];have:fr s k=fr (fr s i) (k-i):=by rw [zcp e (by omega)];congr 1;omega
  rw [this];exact List.take_append_drop _ _
 by_cases b:k=ln s
 .rw [zT b,<-g,qcn (l:=s) (i:=k) (by omega),zJ,qnd a]
 .rw [zF b,<-g,j5 (by omega:0<=k) (by omega),qml ?_ a];rcases d with d | d
  .exact absurd d b
  .rw [<-qmr];exact d
theorem qpa (c:Int):∀ s:List UInt8,ln (splitI c s)=(s.countP (λb=>decide ((b.toNat:Int)=c)):Nat)+1
 | []=>rfl
 | b::l=>by
  have a:=qpa c l;unfold splitI;split
  .rename_i h;rw [zh,a,List.countP_cons_of_pos (by simpa using h)];omega
  .rename_i h;rw [List.countP_cons_of_neg (by simpa using h)];split
   .rename_i d;exact absurd d (q7q c l)
   .rename_i x f e;rw [e] at a;rw [zh] at a ⊢;exact a
theorem qtt (c:Int) (s:List UInt8):1<=ln (splitI c s):=by
 rw [qpa];omega
theorem qb5 {c:Int}:∀ {s x:List UInt8},x ∈ splitI c s->ln x<=ln s
 | [],x,h=>by simp [splitI] at h;subst h;exact zK _
 | b::l,x,h=>by
  rw [zh];unfold splitI at h;split at h
  .rcases zD.1 h with rfl | h
   .have:=ln_nonneg l;rw [jc];omega
   .have:=qb5 h;omega
  .split at h
   .rename_i d;exact absurd d (q7q c l)
   .rename_i y e a;rcases zD.1 h with rfl | h
    .have:y ∈ splitI c l:=by rw [a];exact zC
     have:=qb5 this;rw [zh];omega
    .have:x ∈ splitI c l:=by rw [a];exact zG _ h
     have:=qb5 this;omega
end Go.E3
