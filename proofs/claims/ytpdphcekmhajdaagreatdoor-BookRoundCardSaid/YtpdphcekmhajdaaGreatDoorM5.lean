/- A VERIFIED EVALUATOR, texts E3t, E3u, E3v, E3w, E3x, E3y, E3z, E3za, E3zb, E3zd, L3a in one. -/
import Derived.Test.YtpdphcekmhajdaaGreatDoorM4
import Derived.ChangeBook
import Derived.ChangeStays
import Derived.ChangeArms
import Derived.ChangeMaps5
import Derived.OpenShut
/- E3: WHAT VARIES, at the head of a loop and behind a cut. -/
namespace Go.E3
open Go Go.E2
variable {K:Nat->Type}
structure Part (X:Codecs K) (sz:Nat->Nat) (base:Heap) (st0:StV K) (w0:Wd) (st2:StV K) (H2:Heap) (w2:Wd) (st1:StV K) (w1:Wd) (pend:List Nat):Prop where
 g:w1.g=w2.g
 M:w1.M=w2.M
 ce:w1.ce=w2.ce
 nx:w1.nx=w2.nx
 c:w1.c=w2.c
 cl:∀ id,w1.cl id↔(w2.cl id/\id<st0.next)
 n:w1.n=st1.next
 le:Le w0 w1
 nxt:st0.next<=st1.next
 known:st1.known=st0.known
 owns:w1.owns=look st1.owns
 ownn:∀ i s,look st1.owns i=some s->i<st1.next
 eta:∀ i s nm,look st1.owns i=some s->w1.eta i=some nm->base.next<=nm/\nm<H2.next/\¬ w2.M nm
 einj:∀ i j s s' nm,look st1.owns i=some s->look st1.owns j=some s'->w1.eta i=some nm->w1.eta j=some nm->i=j
 pends:∀ i2 ∈ pend,(∃ s2,look st2.owns i2=some s2)/\∀ nm,w2.eta i2=some nm->∀ j s,look st1.owns j=some s->w1.eta j≠some nm
 pdist:pend.Nodup
section
variable {X:Codecs K} {sz:Nat->Nat} {C:ZC K} {base H0 H2:Heap} {st0 st2:StV K} {w0 w2:Wd}
variable {tbl:Tbl K} {inv:Nat->List (NV K)->Prop} {meas:Nat->List (NV K)->Nat}
theorem Part.move (ok2:CfgOk2 X C) {st1:StV K} {w1:Wd} {a:List Nat} (m:Part X sz base st0 w0 st2 H2 w2 st1 w1 a) {p:PV K} {v:V} (r:Rep X sz w2 p v) (b:Plain p):Rep X sz w1 p v:=
 r.plain ok2.plain m.g (λ_ _ _ h=>by rw [m.M];exact h) b
theorem qdu (ok:CfgOk X sz C) (ok2:CfgOk2 X C) (R2:RelH X sz C base st2 H2 w2):∀ {ks:List SK} {ps f:List (PV K)} {vs:List V} {ns:List (NV K)} {o:List Nat} {st1:StV K} {w1:Wd} {G:List (PV K)->List (NV K)->StV K->Prop},
  qm4 (ql X tbl inv meas) st2 ks f=some ns->qj X sz w2 f vs->(∀ (i:Nat) (p:PV K),ks[i]? = some .keep->ps[i]? = some p->∀ w',Le w0 w'->w'.g=w2.g->w'.M=w2.M->Rep X sz w' p (vs.getD i je))->(∀ (i id c:Nat) (fx:Bool) (n0:Int),ks[i]? = some .grow->ps[i]? = some (.mlist id c fx n0)->id<st0.next/\∃ n2,f[i]? = some (.mlist id c fx n2))->
  Part X sz base st0 w0 st2 H2 w2 st1 w1 (qaj ks f++o)->qmu (ql X tbl inv meas) ks ps st1 G->
  ∃ R d u,G R ns d/\Part X sz base st0 w0 st2 H2 w2 d u o/\Le w1 u/\qj X sz u R vs/\d.tmps=st1.tmps/\d.n=st1.n/\d.cells=st1.cells
 | [],[],f,vs,ns,o,st1,w1,G,hN,hr,hK,hG,m,h=>by
  cases f with
  | nil=>
   simp only [qm4,zS] at hN;subst hN;simp only [qmu] at h;have:=hr.ka;subst this;exact ⟨[],st1,w1,h,m,.refl w1,.nil,rfl,rfl,rfl⟩
  | cons _ _=>simp [qm4] at hN
 | [],_::_,f,vs,ns,o,st1,w1,G,hN,hr,hK,hG,m,h=>absurd h id
 | _::_,[],f,vs,ns,o,st1,w1,G,hN,hr,hK,hG,m,h=>absurd h id
 | k::ks,p::ps,[],vs,ns,o,st1,w1,G,hN,hr,hK,hG,m,h=>by simp [qm4] at hN
 | k::ks,p::ps,p2::f,vs,ns,o,st1,w1,G,hN,hr,hK,hG,m,h=>by
  obtain ⟨v,aB,rfl,r1,r2⟩:=hr.zt;simp only [qm4] at hN;obtain ⟨a,w,aC⟩:=zI.1 hN;obtain ⟨b6,H,aD⟩:=zM.1 aC;subst aD;have I:∀ (i:Nat) (p:PV K),ks[i]? = some .keep->ps[i]? = some p->∀ w',Le w0 w'->w'.g=w2.g->w'.M=w2.M->Rep X sz w' p (aB.getD i je):=by
   intro i q O S w' h3 h4 h5;have:=hK (i+1) q (by simpa using O) (by simpa using S) w' h3 h4 h5;simpa using this
  have J:∀ (i id c:Nat) (fx:Bool) (n0:Int),ks[i]? = some .grow->ps[i]? = some (.mlist id c fx n0)->id<st0.next/\∃ n2,f[i]? = some (.mlist id c fx n2):=by
   intro i id c fx n0 O S;have:=hG (i+1) id c fx n0 (by simpa using O) (by simpa using S);simpa using this
  cases k with
  | grow=>
   simp only [qmu] at h;cases p with
   | mlist id c fx n0=>
    obtain ⟨ao,n2,ah⟩:=hG 0 id c fx n0 rfl rfl;cases ah;cases w;cases r1 with
    | mlist q1 q2 q3 q4 q5 q6 q7=>
     obtain ⟨R,d,u,g1,F,D,T,U,W,Y⟩:=qdu ok ok2 R2 H r2 I J m (h n2);have r:Rep X sz w1 (.mlist id c fx n2) (.slice (w1.c id) _ 0 (n2.toNat+1) 1 none):=.mlist (by rw [m.n];exact zL ao m.nxt) ((m.cl id).2 ⟨q2,ao⟩) q3 q4 (by rw [m.c,m.g];exact q5) q6 q7;rw [m.c] at r;exact ⟨_,d,u,g1,F,D,.cons (r.mono ok.len D) T,U,W,Y⟩
   | _=>exact h.elim
  | int kd=>
   simp only [qmu] at h;cases p2 with
   | int k' l n=>
    simp only [qtw] at w;split at w
    .rename_i hk;subst hk;cases w;cases r1;have m':Part X sz base st0 w0 st2 H2 w2 st1 w1 (qaj ks f++o):=m;obtain ⟨R,d,u,g1,F,D,T,U,W,Y⟩:=qdu ok ok2 R2 H r2 I J m' (h n);exact ⟨_,d,u,g1,F,D,.cons (.int λm hm=>by cases hm) T,U,W,Y⟩
    .cases w
   | _=>simp [qtw] at w
  | str=>
   simp only [qmu] at h;cases p2 with
   | str s=>
    simp only [qtw,zS] at w;subst w;cases r1;obtain ⟨R,d,u,g1,F,D,T,U,W,Y⟩:=qdu ok ok2 R2 H r2 I J m (h s);exact ⟨_,d,u,g1,F,D,.cons .str T,U,W,Y⟩
   | _=>simp [qtw] at w
  | keep=>
   simp only [qmu] at h;have ha:a=[]:=by
    cases p2<;>simp [qtw] at w<;>exact w
   subst ha;obtain ⟨R,d,u,g1,F,D,T,U,W,Y⟩:=qdu ok ok2 R2 H r2 I J m h;have hq:=hK 0 p rfl rfl u F.le F.g F.M;simp only [List.getD_cons_zero] at hq;exact ⟨_,d,u,g1,F,D,.cons hq T,U,W,Y⟩
  | bool=>
   simp only [qmu] at h;have hb:∃ b,a=[.b b]/\v=.bool b:=by
    cases p2 with
    | lit b=>simp only [qtw,zS] at w;cases r1;exact ⟨b,w.symm,rfl⟩
    | sb id neg b pt pf=>simp only [qtw,zS] at w;cases r1;exact ⟨b,w.symm,rfl⟩
    | _=>simp [qtw] at w
   obtain ⟨b,rfl,rfl⟩:=hb;let w1b:Wd:={w1 with n:=st1.next+1,nu:=λid=>if id=st1.next then b else w1.nu id};have Z:Le w1 w1b:=Le.ext (by rw [m.n];exact Nat.le_succ _) (λid hi=>zF (by rw [m.n] at hi;omega));have m':Part X sz base st0 w0 st2 H2 w2 {st1 with next:=st1.next+1} w1b (qaj ks f++o):=
    ⟨m.g,m.M,m.ce,m.nx,m.c,m.cl,rfl,m.le.trans Z,Nat.le_succ_of_le m.nxt,m.known,m.owns,λi s h=>Nat.lt_succ_of_lt (m.ownn i s h),m.eta,m.einj,m.pends,m.pdist⟩
   obtain ⟨R,d,u,g1,F,D,T,U,W,Y⟩:=qdu ok ok2 R2 H r2 I J m' (h b);refine ⟨_,d,u,g1,F,Z.trans D,.cons ?_ T,U,W,Y⟩;have:Rep X sz w1b (.sb st1.next false b (b=true) (b=false)) (.bool b):=.sb .rfl .rfl λ_=>⟨Nat.lt_succ_self _,by show b=((if st1.next=st1.next then b else w1.nu st1.next) != false);rw [zT rfl];simp⟩;exact this.mono ok.len D
  | list c own nb=>
   simp only [qmu] at h;have P:∃ l,asL (ql X tbl inv meas) c p2=some l/\a=[.l c l]/\(own=true->qek st2 p2=true)/\(nb=true->znk p2=true):=by
    have e:qtw (ql X tbl inv meas) st2 (.list c own nb) p2=(bif (own&&!qek st2 p2) || (nb&&!znk p2) then none else (asL (ql X tbl inv meas) c p2).map λl=>[.l c l]):=by
     cases p2<;>rfl
    rw [e] at w;rcases zu w with ⟨hb,S⟩ | ⟨_,S⟩
    .obtain ⟨l,P,rfl⟩:=zM.1 S;simp only [Bool.or_eq_false_iff] at hb;refine ⟨l,P,rfl,λho=>?_,λho=>?_⟩
     .have:=hb.1;rw [ho] at this;simpa using this
     .have:=hb.2;rw [ho] at this;simpa using this
    .cases S
   obtain ⟨l,P,rfl,A,aq⟩:=P;have rl:=qeb r1 P;cases own with
   | false=>
    have t:qaj (.list c false nb::ks) (p2::f)=qaj ks f:=by cases p2<;>rfl
    rw [t] at m;have h':qmu (ql X tbl inv meas) ks ps st1 λR ns ai=>G (.list c l none::R) (.l c l::ns) ai:=h l;obtain ⟨R,d,u,g1,F,D,T,U,W,Y⟩:=qdu ok ok2 R2 H r2 I J m h';exact ⟨_,d,u,g1,F,D,.cons ((m.move ok2 rl .list).mono ok.len D) T,U,W,Y⟩
   | true=>
    have A:=A rfl;have h':qmu (ql X tbl inv meas) ks ps {st1 with owns:=(st1.next,bif nb then 1 else 0)::st1.owns,next:=st1.next+1} λR ns ai=>G (.list c l (some (st1.next,bif nb then 1 else 0))::R) (.l c l::ns) ai:=h l;generalize hq:(bif nb then 1 else 0:Nat)=q at h';have y:∃ e0:Option Nat,(p2=.nils/\e0=none/\qaj (.list c true nb::ks) (p2::f)=qaj ks f)∨(∃ l2 B s2,p2=.list c l2 (some (B,s2))/\e0=w2.eta B/\look st2.owns B=some s2/\qaj (.list c true nb::ks) (p2::f)=B::qaj ks f):=by
     cases p2 with
     | nils=>exact ⟨none,.inl ⟨rfl,rfl,rfl⟩⟩
     | list c2 l2 o2=>
      cases o2 with
      | none=>simp [qek] at A
      | some x=>
       obtain ⟨B,s2⟩:=x;simp only [qek] at A;split at A
       .rename_i s' hs;have:=zE A;subst this;unfold asL at P;simp only at P;split at P
        .rename_i hc;subst hc;exact ⟨w2.eta B,.inr ⟨l2,B,_,rfl,rfl,hs,rfl⟩⟩
        .cases P
       .cases A
     | _=>simp [qek] at A
    obtain ⟨e0,y⟩:=y;let w1b:Wd:={w1 with n:=st1.next+1,owns:=look ((st1.next,q)::st1.owns),eta:=λj=>if j=st1.next then e0 else w1.eta j};have aE:look st1.owns st1.next=none:=by
     cases hq:look st1.owns st1.next with
     | none=>rfl
     | some s=>have:=m.ownn _ _ hq;omega
    have Z:Le w1 w1b:=by
     refine ⟨⟨by rw [m.n];exact Nat.le_succ _,λnm cs e gen aj ar ex hg hM=>⟨hM,[],gen,ar,ex,by rw [zJ];exact hg⟩,λ_ _=>rfl,λ_ _=>rfl,λi hi h0=>?_,λi s s' hi h0 O=>?_,λi s hi h0 O=>?_,rfl,λ_ _=>.rfl,zN _,rfl,λ_ _ h=>h,λ_ _=>rfl,qni λ_ _ _=>rfl⟩,λ_ h=>h,rfl⟩
     .rw [m.n] at hi;rw [m.owns] at h0;show look ((st1.next,q)::st1.owns) i=none;rw [qa7,zF (by omega)];exact h0
     .rw [m.n] at hi;rw [m.owns] at h0;have au:look ((st1.next,q)::st1.owns) i=some s':=O;rw [qa7,zF (by omega),h0] at au;cases au;exact zN _
     .rw [m.n] at hi;exact ⟨zF (by omega),λ_ _ _=>rfl⟩
    have L:∀ nm,e0=some nm->(∀ j s,look st1.owns j=some s->w1.eta j≠some nm)/\base.next<=nm/\nm<H2.next/\¬ w2.M nm:=by
     intro nm E;rcases y with ⟨rfl,he,_⟩ | ⟨l2,B,s2,rfl,he,a1,t⟩
     .rw [he] at E;cases E
     .have:=m.pends B (by rw [t];exact List.mem_append_left _ zC);rw [he] at E;exact ⟨this.2 nm E,R2.eta B s2 nm a1 E⟩
    have m':Part X sz base st0 w0 st2 H2 w2 {st1 with owns:=(st1.next,q)::st1.owns,next:=st1.next+1} w1b (qaj ks f++o):=by
     have av:∀ i,i ∈ qaj ks f++o->i ∈ qaj (.list c true nb::ks) (p2::f)++o:=by
      intro i hi;rcases y with ⟨_,_,t⟩ | ⟨l2,B,s2,_,_,_,t⟩
      .rw [t];exact hi
      .rw [t];exact zG _ hi
     have aF:(qaj ks f++o).Nodup:=by
      have:=m.pdist;rcases y with ⟨_,_,t⟩ | ⟨l2,B,s2,_,_,_,t⟩
      .rw [t] at this;exact this
      .rw [t,List.cons_append,List.nodup_cons] at this;exact this.2
     refine ⟨m.g,m.M,m.ce,m.nx,m.c,m.cl,rfl,m.le.trans Z,Nat.le_succ_of_le m.nxt,m.known,rfl,λi s h=>?_,λi s nm h hn=>?_,λi j s s' nm O S e1 e2=>?_,λB aw=>?_,aF⟩
     .rw [qa7] at h;by_cases hi:i=st1.next
      .subst hi;exact Nat.lt_succ_self _
      .rw [zF hi] at h;exact Nat.lt_succ_of_lt (m.ownn i s h)
     .rw [qa7] at h;by_cases hi:i=st1.next
      .have ak:e0=some nm:=by
        have:(if i=st1.next then e0 else w1.eta i)=some nm:=hn;rw [zT hi] at this;exact this
       exact (L nm ak).2
      .rw [zF hi] at h;have ak:w1.eta i=some nm:=by
        have:(if i=st1.next then e0 else w1.eta i)=some nm:=hn;rw [zF hi] at this;exact this
       exact m.eta i s nm h ak
     .rw [qa7] at O S;have a6:(if i=st1.next then e0 else w1.eta i)=some nm:=e1;have a7:(if j=st1.next then e0 else w1.eta j)=some nm:=e2;by_cases hi:i=st1.next<;>by_cases hj:j=st1.next
      .omega
      .rw [zT hi] at a6;rw [zF hj] at a7 S;exact absurd a7 ((L nm a6).1 j s' S)
      .rw [zF hi] at a6 O;rw [zT hj] at a7;exact absurd a6 ((L nm a7).1 i s O)
      .rw [zF hi] at a6 O;rw [zF hj] at a7 S;exact m.einj i j s s' nm O S a6 a7
     .obtain ⟨⟨s2,a1⟩,hp⟩:=m.pends B (av B aw);refine ⟨⟨s2,a1⟩,λnm E j s hj he=>?_⟩;rw [qa7] at hj;have N:(if j=st1.next then e0 else w1.eta j)=some nm:=he;by_cases ax:j=st1.next
      .rw [zT ax] at N;rcases y with ⟨ah,a8,_⟩ | ⟨l2,i3,s3,ah,a8,aG,t⟩
       .rw [a8] at N;cases N
       .rw [a8] at N;have:=R2.einj B i3 s2 s3 nm a1 aG E N;subst this;have hd:=m.pdist;rw [t,List.cons_append,List.nodup_cons] at hd;exact hd.1 aw
      .rw [zF ax] at N hj;exact hp nm E j s hj N
    obtain ⟨R,d,u,g1,F,D,T,U,W,Y⟩:=qdu ok ok2 R2 H r2 I J m' h';refine ⟨_,d,u,g1,F,Z.trans D,.cons (Rep.mono ok.len D ?_) T,U,W,Y⟩;have ag:∀ aa,w1b.owns st1.next=some aa->q<=aa:=by
     intro aa aH;have:look ((st1.next,q)::st1.owns) st1.next=some aa:=aH
     rw [qa7,zT rfl] at this;cases this;exact zN _
    have aI:q % 2=1->∀ v0,Rep X sz w2 p2 v0->NB v0:=by
     intro O v0 r0;have aJ:nb=true:=by
      cases nb with
      | true=>rfl
      | false=>simp at hq;subst hq;cases O
     have ho:=aq aJ;unfold znk at ho;split at ho
     .cases r0;trivial
     .have hs:=zE ho;cases r0 with
      | nlist hh=>exact hh.2.2.2 hs
      | list _ _ _ _ _ _ _ _ hh=>exact hh.2.2.2 hs
     .cases ho
    rcases j3 rl with ⟨rfl,rfl⟩ | ⟨nm,gn,off,z,cap,cs,e,gen,aj,ar,ex,rfl,hg,hf,hM,aV,hz,aW,aK,_⟩
    .exact .nlist ⟨Nat.lt_succ_self _,ag,λ_=>trivial,λ_=>trivial⟩
    .have ab:=m.move ok2 rl .list;rcases j3 ab with ⟨_,hh⟩ | ⟨b7,b8,aX,z',aY,b9,e',aZ,az,b1,ex',hh,aL,aM,aN,al,ba,ad,ae,_⟩
     .cases hh
     .cases hh;refine .list aL aM aN rfl al hz ad (λi hi j p hp=>(ae i hi j p hp).mono ok.len Z) ⟨Nat.lt_succ_self _,ag,λ_=>?_,λh=>aI h _ r1⟩;rcases y with ⟨rfl,_⟩ | ⟨l2,B,s2,rfl,a8,a1,_⟩
      .cases r1
      .have aO:l2=l:=by
        unfold asL at P;simp only at P;split at P
        .cases P;rfl
        .cases P
       subst aO;have Q:qws w2 sz B c (.slice nm gn off l2.length z cap):=by
        rcases j3 r1 with ⟨_,hh⟩ | ⟨bb,bc,b2,z3,b3,bd,e3,b4,aA,b5,bf,hh,_,_,_,_,_,_,_,aP⟩
        .cases hh
        .rw [hh];exact aP.2.2.1 (by rw [R2.owns];exact a1)
       simp only [qws] at Q ⊢;rcases Q with hc | ⟨aQ,aR,aS,e4,af,ay,aT,aU,an⟩
       .exact .inl hc
       .refine .inr ⟨aQ,?_,aS,e4,af,ay,aT,by show w1.g nm=_;rw [m.g];exact aU,an.1,an.2.1,by show w1.ce e4=_;rw [m.ce];exact an.2.2⟩;show (if st1.next=st1.next then e0 else w1.eta st1.next)=some nm;rw [zT rfl,a8];exact aR
end
end Go.E3
/- E3: THE HEAD of a loop, and what stands behind a cut. -/
namespace Go.E3
open Go Go.E2
variable {K:Nat->Type}
theorem qy7 {α:Type}:∀ {l:List Nat} {t:Tree α} {n:Nat},(quc l t).get n=if n ∈ l then none else t.get n
 | [],t,n=>by simp [quc]
 | m::l,t,n=>by
  simp only [quc];rw [qy7,Tree.qs4];by_cases a:n ∈ l
  .simp [a]
  .by_cases b:n=m
   .subst b;simp [a]
   .simp [a,b]
theorem qnn {α:Type}:∀ {a:List Nat} {l:List (Nat×α)} {j:Nat},look (a.foldl qb2 l) j=if j ∈ a then none else look l j
 | [],l,j=>by simp
 | i::a,l,j=>by
  simp only [List.foldl_cons];rw [qnn,qey];by_cases b:j ∈ a
  .simp [b]
  .by_cases c:j=i
   .subst c;simp [b]
   .simp [b,c]
theorem qfz {α:Type}:∀ {l:List (Nat×α)} {n:Nat} {a:α},look l n=some a->(n,a) ∈ l
 | [],_,_,h=>by cases h
 | (i,b)::l,n,a,h=>by
  simp only [look,cond_eq_ite,Nat.beq_eq] at h;split at h
  .rename_i hi;subst hi;cases h;exact zC
  .exact zG _ (qfz h)
theorem qg8:∀ {l:List Nat},distinct l=true->l.Nodup
 | [],_=>List.nodup_nil
 | i::l,h=>by
  simp only [distinct,zA,Bool.not_eq_true'] at h;rw [List.nodup_cons];refine ⟨λa=>?_,qg8 h.2⟩;have:=h.1;rw [<-Bool.not_eq_true,List.any_eq_true] at this;exact this ⟨i,a,Nat.beq_refl i⟩
section
variable {X:Codecs K} {sz:Nat->Nat} {C:ZC K} {base H0 H2:Heap} {st0 st2:StV K} {w0 w1 w2:Wd} {fr0 fr2:Fr}
variable {tbl:Tbl K} {inv:Nat->List (NV K)->Prop} {meas:Nat->List (NV K)->Nat}
theorem Rep.zpf {w:Wd} {c:Nat} {l:List (K c)} {own:Option (Nat×Nat)} {v:V} (r:Rep X sz w (.list c l own) v):Rep X sz w (.list c l none) v/\qoi w sz c own v:=by
 cases r with
 | nlist d=>exact ⟨.nlist trivial,d⟩
 | list e f g a h i b j d=>exact ⟨.list e f g a h i b j trivial,d⟩
theorem Rep.qjl {w:Wd} {c:Nat} {l:List (K c)} {own:Option (Nat×Nat)} {v:V} (r:Rep X sz w (.list c l none) v) (h:qoi w sz c own v):Rep X sz w (.list c l own) v:=by
 cases r with
 | nlist d=>exact .nlist h
 | list e f g a i j b k d=>exact .list e f g a i j b k h
theorem qzl {st:StV K} {w:Wd} (a:∀ i,w.owns i=look st.owns i) {c:Nat} {l:List (K c)} {i s:Nat} (h:qek st (.list c l (some (i,s)):PV K)=true):w.owns i=some s:=by
 rw [a];simp only [qek] at h;split at h
 .rename_i d b;rw [b,zE h]
 .cases h
theorem q6r (ok2:CfgOk2 X C) (hle:Le w0 w1) (d:Le w0 w2) {c:Nat} {l x:List (K c)} {i s:Nat} {v0 v:V} (t:w2.owns i=some s) (u:w1.g=w2.g) (y:w1.M=w2.M) (A:Rep X sz w0 (.list c x (some (i,s))) v0) (B:Rep X sz w2 (.list c l (some (i,s))) v) :
  Rep X sz w1 (.list c l (some (i,s))) v:=by
 obtain ⟨o,o2⟩:=B.zpf;obtain ⟨_,o0⟩:=A.zpf;refine (o.plain ok2.plain u (λ_ _ _ D=>by rw [y];exact D) .list).qjl ⟨zL o0.1 hle.n,(qoi.mono hle o0).2.1,λm=>?_,o2.2.2.2⟩;have j:=o2.2.2.1 t;have h:w0.owns i=some s:=by
  cases h:w0.owns i with
  | none=>rw [hle.o1 i o0.1 h] at m;cases m
  | some w=>
   have a:=o0.2.1 w h;have b:=hle.o2 i w s o0.1 h m;rw [Nat.le_antisymm b a]
 obtain ⟨E,_⟩:=hle.o3 i s o0.1 h m;obtain ⟨F,_⟩:=d.o3 i s o0.1 h t;have G:w1.ce=w2.ce:=hle.ce.trans d.ce.symm;cases v with
 | nils=>trivial
 | slice nm gn off len z cap=>
  simp only [qws] at j ⊢;rcases j with j | ⟨k,H,cs,e,f,p,ex,q,r⟩
  .exact .inl j
  .exact .inr ⟨k,by rw [E,<-F];exact H,cs,e,f,p,ex,by rw [u];exact q,r.1,r.2.1,by rw [G];exact r.2.2⟩
 | _=>exact j
mutual
theorem qwi (O:∀ c x,(X.cells c x).length=sz c) (ok2:CfgOk2 X C) (hle:Le w0 w1) (u:Le w0 w2) (z:∀ i,w2.owns i=look st2.owns i) (A:∀ id,id<w0.n->w1.c id=w2.c id) (E:w1.g=w2.g) (I:w1.M=w2.M):∀ (p p2:PV K) {obs:List Prop} {r v:V},
  qa0 (ql X tbl inv meas) st2 p p2=some obs->(∀ q ∈ obs,q)->Rep X sz w0 p r->Rep X sz w2 p2 v->Rep X sz w1 p v
 | .int k l a,p2,obs,r,v,h,m,j,d=>by
  cases p2 with
  | int k' D b=>
   simp only [qa0] at h;split at h
   .rename_i P;subst P;have:a=b:=by
     rcases F:q6u l D with _ | _
     .rw [F] at h;cases h;exact m _ zC
     .unfold q6u at F;split at F
      .rename_i x y;have Q:x=y:=of_decide_eq_true F;cases j with | int h0=>cases d with | int w=>
       rw [<-h0 x rfl,<-w y rfl,Q]
      .cases F
    subst this;cases d;cases j with | int e=>exact .int e
   .cases h
  | _=>simp [qa0] at h
 | .lit a,p2,obs,r,v,h,m,j,d=>by
  cases p2 with
  | lit b=>
   simp only [qa0] at h;split at h
   .rename_i P;subst P;cases d;exact .lit
   .cases h
  | _=>simp [qa0] at h
 | .sb id neg a pt pf,p2,obs,r,v,h,m,j,d=>by
  cases p2 with
  | sb a6 a1 b a7 a8=>
   simp only [qa0,zS] at h;subst h;have:a=b:=m _ zC;subst this;cases d;have:=j.mono O hle;cases j;exact this
  | _=>simp [qa0] at h
 | .str a,p2,obs,r,v,h,m,j,d=>by
  cases p2 with
  | str b=>
   simp only [qa0,zS] at h;subst h;have:a=b:=m _ zC;subst this;cases d;exact .str
  | _=>simp [qa0] at h
 | .list c l o,p2,obs,r,v,h,m,j,d=>by
  cases o with
  | some x=>
   obtain ⟨i,s⟩:=x;cases p2 with
   | list J D L=>
    cases L with
    | none=>simp [qa0] at h
    | some y=>
     obtain ⟨N,s'⟩:=y;simp only [qa0] at h;rcases zu h with ⟨_,e⟩ | ⟨e,w⟩
     .cases e
     .simp only [zA] at e;obtain ⟨⟨G,R⟩,S⟩:=e;have:=zE G;subst this;have:=zE R;subst this;split at w
      .rename_i B;subst B;cases w;have:l=D:=m _ zC;subst this;exact q6r ok2 hle u (qzl z S) E I j d
      .cases w
   | _=>simp [qa0] at h
  | none=>
   cases p2 with
   | list J D L=>
    cases L with
    | some x=>simp [qa0] at h
    | none=>
     simp only [qa0] at h;split at h
     .rename_i B;subst B;cases h;have:l=D:=m _ zC;subst this;exact d.plain ok2.plain E (λ_ _ _ hm=>by rw [I];exact hm) .list
     .cases h
   | _=>simp [qa0] at h
 | .nils,p2,obs,r,v,h,m,j,d=>by
  cases p2 with
  | nils=>cases d;exact .nils
  | _=>simp [qa0] at h
 | .cell i o l,p2,obs,r,v,h,m,j,d=>by
  cases p2 with
  | cell N L D=>
   simp only [qa0] at h;rcases zu h with ⟨_,e⟩ | ⟨e,_⟩
   .cases e
   .simp only [zA] at e;have G:=zE e.1.1;have R:=zE e.1.2;have S:=zE e.2;subst G;subst R;subst S;cases j with
    | cell hi=>
     cases d with
     | cell aa=>
      rw [<-A i hi];exact .cell (zL hi hle.n)
  | _=>simp [qa0] at h
 | .eptr cs o,p2,obs,r,v,h,m,j,d=>by cases p2<;>simp [qa0] at h
 | .mlist i c fx n,p2,obs,r,v,h,m,j,d=>by
  cases p2 with
  | mlist N J ab n'=>
   simp only [qa0] at h;rcases zu h with ⟨_,e⟩ | ⟨e,w⟩
   .cases e
   .simp only [zA] at e;have:=zE e.1.1;subst this;have:=zE e.1.2;subst this;have:=eq_of_beq e.2;subst this;cases w;have:n=n':=m _ zC;subst this;cases j with
    | mlist hi H=>
     cases d with
     | mlist h3 h4 h5 h6 h7 h8 h9=>
      rw [<-A i hi];exact .mlist (zL hi hle.n) ((hle.cl i hi).2 H) h5 h6 (by rw [A i hi,E];exact h7) h8 h9
  | _=>simp [qa0] at h
 | .nilp,p2,obs,r,v,h,m,j,d=>by
  cases p2 with
  | nilp=>cases d;exact .nilp
  | _=>simp [qa0] at h
 | .func f a c,p2,obs,r,v,h,m,j,d=>by
  cases p2 with
  | func f' a' J=>
   simp only [qa0] at h;rcases zu h with ⟨_,e⟩ | ⟨e,w⟩
   .cases e
   .have G:=zE e;subst G;obtain ⟨x,T,U⟩:=zI.1 w;obtain ⟨y,W,Y⟩:=zM.1 U;subst Y;cases j with
    | @func _ _ _ va vc q1 q2 q3 q4=>
     cases d with
     | @func _ _ _ ad ae p1 p2 p3 p4=>
      have g1:=qhs O ok2 hle u z A E I a a' T (λq Z=>m q (List.mem_append_left _ Z)) ⟨q1,q3⟩ ⟨p1,p3⟩;have g2:=qhs O ok2 hle u z A E I c J W (λq Z=>m q (List.mem_append_right _ Z)) ⟨q2,q4⟩ ⟨p2,p4⟩;exact .func g1.1 g2.1 g1.2 g2.2
  | _=>simp [qa0] at h
 | .nilf,p2,obs,r,v,h,m,j,d=>by
  cases p2 with
  | nilf=>cases d;exact .nilf
  | _=>simp [qa0] at h
 | .yield i,p2,obs,r,v,h,m,j,d=>by
  cases p2 with
  | yield N=>
   simp only [qa0] at h;rcases zu h with ⟨_,e⟩ | ⟨e,_⟩
   .cases e
   .have:=zE e;subst this;have hi:i<w0.n:=by cases j;assumption
    cases d with
    | yield h3=>
     rw [<-A i hi];exact .yield (zL hi hle.n)
  | _=>simp [qa0] at h
 | .map i,p2,obs,r,v,h,m,j,d=>by
  cases p2 with
  | map N=>
   simp only [qa0] at h;rcases zu h with ⟨_,e⟩ | ⟨e,_⟩
   .cases e
   .have:=zE e;subst this;have hi:i<w0.n:=by cases j;assumption
    cases d with
    | map h3=>
     rw [<-A i hi];exact .map (zL hi hle.n)
  | _=>simp [qa0] at h
 | .iface t q,p2,obs,r,v,h,m,j,d=>by cases p2<;>simp [qa0] at h
 | .nili,p2,obs,r,v,h,m,j,d=>by
  cases p2 with
  | nili=>cases d;exact .nili
  | _=>simp [qa0] at h
 | .agg cs,p2,obs,r,v,h,m,j,d=>by cases p2<;>simp [qa0] at h
 | .tuple cs,p2,obs,r,v,h,m,j,d=>by cases p2<;>simp [qa0] at h
theorem qhs (u:∀ c x,(X.cells c x).length=sz c) (ok2:CfgOk2 X C) (hle:Le w0 w1) (d:Le w0 w2) (f:∀ i,w2.owns i=look st2.owns i) (w:∀ id,id<w0.n->w1.c id=w2.c id) (z:w1.g=w2.g) (A:w1.M=w2.M):∀ (ps b:List (PV K)) {obs:List Prop} {a e:List V},
  qnz (ql X tbl inv meas) st2 ps b=some obs->(∀ q ∈ obs,q)->qj X sz w0 ps a->qj X sz w2 b e->qj X sz w1 ps e
 | [],[],obs,a,e,h,j,l,k=>by rw [k.ka];exact .nil
 | [],_::_,obs,a,e,h,j,l,k=>by simp [qnz] at h
 | _::_,[],obs,a,e,h,j,l,k=>by simp [qnz] at h
 | p::ps,p2::b,obs,a,e,h,j,l,k=>by
  simp only [qnz] at h;obtain ⟨x,m,o⟩:=zI.1 h;obtain ⟨y,r,s⟩:=zM.1 o;subst s;obtain ⟨I,B,rfl,D,E⟩:=l.zt;obtain ⟨v,F,rfl,G,H⟩:=k.zt;exact .cons (qwi u ok2 hle d f w z A p p2 m (λq t=>j q (List.mem_append_left _ t)) D G) (qhs u ok2 hle d f w z A ps b r (λq t=>j q (List.mem_append_right _ t)) E H)
end
def zdw (a:Fr) (d:Heap) (w2:Wd):RSlot->List V->Prop
 | .one t _,b=>∃ v,a.tmp t=some v/\b=[v]
 | .agg t _,b=>a.tmp t=some (.agg b)
 | .var id _,b=>w2.M (w2.c id)/\∃ e ex,d.get (w2.c id)=some (.row b e 0 0 0 ex)
 | .ml ..,_=>False
def Good (w0 w2 w':Wd):Prop:=Le w0 w'/\w'.g=w2.g/\w'.M=w2.M/\w'.c=w2.c
def zbd (X:Codecs K) (sz:Nat->Nat) (st0:StV K) (a:Fr) (c:Heap) (w0 w2:Wd) (s:RSlot):Prop:=
 ∀ x,qb7 st0 s=some x->∀ b,zdw a c w2 s b->∀ (i:Nat) (p:PV K),x.1[i]? = some .keep->x.2[i]? = some p->∀ w',Le w0 w'->w'.g=w2.g->w'.M=w2.M->Rep X sz w' p (b.getD i je)
def zbc (st0 st2:StV K) (s:RSlot):Prop:=
 ∀ x y,qb7 st0 s=some x->qb7 st2 s=some y->∀ (i id c:Nat) (fx:Bool) (a:Int),x.1[i]? = some .grow->x.2[i]? = some (.mlist id c fx a)->id<st0.next/\∃ b,y.2[i]? = some (.mlist id c fx b)
def qt2 (X:Codecs K) (sz:Nat->Nat) (a:Heap) (w2 w1:Wd) (id:Nat) (ct:ZT K):Prop:=w2.M (w2.c id)/\∀ w',Le w1 w'->qbu X sz w' id ct (a.get (w2.c id))
theorem q61 {A B:StV K} {s:RSlot} {x y:List SK×List (PV K)} (a:qb7 A s=some x) (b:qb7 B s=some y):x.1=y.1:=by
 cases s with
 | one t k=>
  simp only [qb7] at a b;obtain ⟨_,_,rfl⟩:=zM.1 a;obtain ⟨_,_,rfl⟩:=zM.1 b;rfl
 | agg t ks=>
  simp only [qb7] at a b;split at a
  .split at b
   .cases a;cases b;rfl
   .cases b
  .cases a
 | var id ks=>
  simp only [qb7] at a b;obtain ⟨_,_,rfl⟩:=zM.1 a;obtain ⟨_,_,rfl⟩:=zM.1 b;rfl
 | ml id c=>simp [qb7] at a
theorem qkh (g:Rel X sz C base st2 fr2 H2 w2) {s:RSlot} {y:List SK×List (PV K)} (h:qb7 st2 s=some y):∃ a,zdw fr2 H2 w2 s a/\qj X sz w2 y.2 a:=by
 cases s with
 | one t k=>
  simp only [qb7] at h;obtain ⟨p,b,rfl⟩:=zM.1 h;obtain ⟨v,i,d⟩:=g.f t p b;exact ⟨[v],⟨v,i,rfl⟩,.cons d .nil⟩
 | agg t ks=>
  simp only [qb7] at h;split at h
  .rename_i cs b;cases h;obtain ⟨v,i,d⟩:=g.f t _ b;obtain ⟨a,rfl,j⟩:=d.qf4;exact ⟨a,i,j⟩
  .cases h
 | var id ks=>
  simp only [qb7] at h;obtain ⟨ps,b,rfl⟩:=zM.1 h;obtain ⟨_,l,a,e,ex,m,_,d⟩:=g.h.cells id _ (qfc b);exact ⟨a,⟨l,e,ex,m⟩,d⟩
 | ml id c=>simp [qb7] at h
theorem qev (ok:CfgOk X sz C) (ok2:CfgOk2 X C) (J:Rel X sz C base st2 fr2 H2 w2):∀ {b:List RSlot} {ns:List (NV K)} {st1:StV K} {w1:Wd} {G:List (NV K)->StV K->Prop},
  qfw (ql X tbl inv meas) st2 b=some ns->(∀ s ∈ b,zbd X sz st0 fr2 H2 w0 w2 s/\zbc st0 st2 s)->Part X sz base st0 w0 st2 H2 w2 st1 w1 (zy st2 b)->q4x X sz w1 st1.tmps fr2->
  (∀ id ps,look st1.cells id=some ps->id ∈ qim b∨qt2 X sz H2 w2 w1 id ps)->(∀ id,(look st1.cells id).isSome=(look st0.cells id).isSome)->qc9 (ql X tbl inv meas) st0 b st1 G->
  ∃ r w,G ns r/\Part X sz base st0 w0 st2 H2 w2 r w []/\q4x X sz w r.tmps fr2/\(∀ id ps,look r.cells id=some ps->qt2 X sz H2 w2 w id ps)/\(∀ id,(look r.cells id).isSome=(look st0.cells id).isSome)/\r.n=st1.n
 | [],ns,st1,w1,G,O,hK,m,hT,hC,hD,h=>by
  simp only [qfw,zS] at O;subst O;exact ⟨st1,w1,h,m,hT,λid ps B=>(hC id ps B).elim (λhv=>by simp [qim] at hv) (λh=>h),hD,rfl⟩
 | s::b,ns,st1,w1,G,O,hK,m,hT,hC,hD,h=>by
  by_cases P:∃ id c,s=.ml id c
  .obtain ⟨id,c,rfl⟩:=P;simp only [qfw] at O;obtain ⟨D,ad,Q⟩:=zI.1 O;obtain ⟨d,hd,R⟩:=zI.1 Q;obtain ⟨a,ha,ag⟩:=zI.1 R;obtain ⟨ah,E,rfl⟩:=zM.1 ag;simp only [qc9] at h;obtain ⟨l0,ai,h0⟩:=qa h;rw [hd] at h0;have z:∀ (x:List (K c)) (y:List (K d)),qc9 (ql X tbl inv meas) st0 b {st1 with cells:=qg4 st1.cells id (.ml c x (.list d y (some (st1.next,1)))),owns:=(st1.next,1)::st1.owns,next:=st1.next+1} λms st2=>G (.l c x::.l d y::ms) st2:=h0;have ae:=qic ad;obtain ⟨_,hM,S,e,gen,fl,ex,hg,aj,ak,al,hr⟩:=J.h.cells id _ ae;have hr:qj X sz w2 (D.1.flatMap (X.cells c)++[D.2]) S:=hr;have q1:=hr.take (D.1.flatMap (X.cells c)).length;have q2:=hr.drop (D.1.flatMap (X.cells c)).length;rw [List.take_left] at q1;rw [List.drop_left] at q2;have F:zy st2 (.ml id c::b)=qaj [.list d true true] [D.2]++zy st2 b:=by
    simp only [zy,ad];obtain ⟨l,p⟩:=D;cases p with
    | list c' l' o=>cases o<;>rfl
    | _=>rfl
   rw [F] at m;have af:qmu (ql X tbl inv meas) [.list d true true] [qmo] st1 λL ns an=>∃ y,L=[.list d y (some (st1.next,1))]/\ns=[.l d y]/\an = {st1 with owns:=(st1.next,1)::st1.owns,next:=st1.next+1}:=by
    simp only [qmu,zO];intro y;exact ⟨y,by simp⟩
   obtain ⟨L,r,w,⟨y,rfl,hy,rfl⟩,f,g3,g4,_⟩:=qdu ok ok2 J.h (ns:=a) (ps:=[qmo]) (by simp only [qm4,ha,zB,zH,zJ]) q2 (λi p hk=>by rcases i with _ | i<;>simp at hk) (λi id c fx n0 hk=>by rcases i with _ | i<;>simp at hk) m af;subst hy;have H:q4x X sz w st1.tmps fr2:=by
    intro i p A;obtain ⟨v,z,h2⟩:=hT i p A;exact ⟨v,z,h2.mono ok.len g3⟩
   have ao:qj X sz w (qrk X (.ml c D.1 (.list d y (some (st1.next,1))))) S:=by
    have q3:qj X sz w (D.1.flatMap (X.cells c)) (S.take (D.1.flatMap (X.cells c)).length):=by
     refine ⟨q1.1,λj p A=>f.move ok2 (q1.2 j p A) ?_⟩;obtain ⟨x,_,T⟩:=List.mem_flatMap.1 (List.mem_of_getElem? A);exact ok2.plain c x p T
    have:=q3.append g4;rw [List.take_append_drop] at this;exact this
   have U:Part X sz base st0 w0 st2 H2 w2 {st1 with cells:=qg4 st1.cells id (.ml c D.1 (.list d y (some (st1.next,1)))),owns:=(st1.next,1)::st1.owns,next:=st1.next+1} w (zy st2 b):=⟨f.g,f.M,f.ce,f.nx,f.c,f.cl,f.n,f.le,f.nxt,f.known,f.owns,f.ownn,f.eta,f.einj,f.pends,f.pdist⟩;have V:∀ u ps,look (qg4 st1.cells id (.ml c D.1 (.list d y (some (st1.next,1))))) u=some ps->u ∈ qim b∨qt2 X sz H2 w2 w u ps:=by
    intro u ps B;rw [qec] at B;by_cases hi:u=id
    .rw [zT hi] at B;cases B;subst hi;exact .inr ⟨hM,λw' N=>⟨S,e,gen,fl,ex,hg,aj,by rw [N.ce,f.ce];exact ak,al,ao.mono ok.len N⟩⟩
    .rw [zF hi] at B;rcases hC u ps B with z | ⟨h0,z⟩
     .simp only [qim,zD] at z;rcases z with z | z
      .exact absurd z hi
      .exact .inl z
     .exact .inr ⟨h0,λw' N=>z w' (g3.trans N)⟩
   have W:∀ u,(look (qg4 st1.cells id (.ml c D.1 (.list d y (some (st1.next,1))))) u).isSome=(look st0.cells u).isSome:=by
    intro u;rw [qec];by_cases hi:u=id
    .rw [zT hi,hi,qic ai];rfl
    .rw [zF hi];exact hD u
   obtain ⟨st3,w3,Y,Z,b3,b4,b5,b6⟩:=qev ok ok2 J E (λs' a1=>hK s' (zG _ a1)) U H V W (z D.1 y);exact ⟨st3,w3,Y,Z,b3,b4,b5,b6⟩
  have ar:∀ id c,s=.ml id c->False:=λid c he=>P ⟨id,c,he⟩;simp only [qfw] at O;obtain ⟨y,hy,Q⟩:=zI.1 O;obtain ⟨a,ha,R⟩:=zI.1 Q;obtain ⟨ah,E,rfl⟩:=zM.1 R;simp only [qc9] at h;split at h
  .exact absurd h id
  .rename_i x T;obtain ⟨S,I,hr⟩:=qkh J hy;have hk:=q61 T hy;rw [<-hk] at ha;have F:zy st2 (s::b)=qaj x.1 y.2++zy st2 b:=by
    simp only [zy,hy];rw [hk]
   rw [F] at m;obtain ⟨L,r,w,g1,f,g3,g4,g5,g6,g7⟩:=qdu ok ok2 J.h ha hr ((hK s zC).1 x T S I) ((hK s zC).2 x y T hy) m h;have H:q4x X sz w r.tmps fr2:=by
    intro i p A;rw [g5] at A;obtain ⟨v,z,h2⟩:=hT i p A;exact ⟨v,z,h2.mono ok.len g3⟩
   have a6:∀ id ps,look r.cells id=some ps->id ∈ qim (s::b)∨qt2 X sz H2 w2 w id ps:=by
    intro id ps B;rw [g7] at B;rcases hC id ps B with z | ⟨h0,z⟩
    .exact .inl z
    .exact .inr ⟨h0,λw' N=>z w' (g3.trans N)⟩
   have a7:∀ id,(look r.cells id).isSome=(look st0.cells id).isSome:=by
    intro id;rw [g7];exact hD id
   have a8:∀ s' ∈ b,zbd X sz st0 fr2 H2 w0 w2 s'/\zbc st0 st2 s':=λs' a1=>hK s' (zG _ a1);cases s with
   | ml id c=>exact absurd ⟨id,c,rfl⟩ P
   | one t k=>
    simp only at g1;split at g1
    .rename_i q;obtain ⟨v,hv,rfl⟩:=I;obtain ⟨v',_,he,hq,_⟩:=g4.zt;cases he;have U:Part X sz base st0 w0 st2 H2 w2 {r with tmps:=r.tmps.set t q} w (zy st2 b):=⟨f.g,f.M,f.ce,f.nx,f.c,f.cl,f.n,f.le,f.nxt,f.known,f.owns,f.ownn,f.eta,f.einj,f.pends,f.pdist⟩;have aa:q4x X sz w (r.tmps.set t q) fr2:=by
      intro i p A;rw [Tree.kv] at A;by_cases hi:i=t
      .rw [zT hi] at A;cases A;subst hi;exact ⟨v,hv,hq⟩
      .rw [zF hi] at A;exact H i p A
     obtain ⟨st3,w3,Y,Z,b3,b4,b5,b6⟩:=qev ok ok2 J E a8 U aa a6 a7 g1;exact ⟨st3,w3,Y,Z,b3,b4,b5,b6.trans g6⟩
    .exact absurd g1 id
   | agg t ks=>
    simp only at g1;have U:Part X sz base st0 w0 st2 H2 w2 {r with tmps:=r.tmps.set t (.agg L)} w (zy st2 b):=⟨f.g,f.M,f.ce,f.nx,f.c,f.cl,f.n,f.le,f.nxt,f.known,f.owns,f.ownn,f.eta,f.einj,f.pends,f.pdist⟩;have aa:q4x X sz w (r.tmps.set t (.agg L)) fr2:=by
     intro i p A;rw [Tree.kv] at A;by_cases hi:i=t
     .rw [zT hi] at A;cases A;subst hi;exact ⟨_,I,.qt9 g4⟩
     .rw [zF hi] at A;exact H i p A
    obtain ⟨st3,w3,Y,Z,b3,b4,b5,b6⟩:=qev ok ok2 J E a8 U aa a6 a7 g1;exact ⟨st3,w3,Y,Z,b3,b4,b5,b6.trans g6⟩
   | var id ks=>
    simp only at g1;have U:Part X sz base st0 w0 st2 H2 w2 {r with cells:=qg4 r.cells id (.cs none L)} w (zy st2 b):=⟨f.g,f.M,f.ce,f.nx,f.c,f.cl,f.n,f.le,f.nxt,f.known,f.owns,f.ownn,f.eta,f.einj,f.pends,f.pdist⟩;obtain ⟨aq,e,ex,hg⟩:=I;have V:∀ u ps,look (qg4 r.cells id (.cs none L)) u=some ps->u ∈ qim b∨qt2 X sz H2 w2 w u ps:=by
     intro u ps B;rw [qec] at B;by_cases hi:u=id
     .rw [zT hi] at B;cases B;subst hi;exact .inr ⟨aq,λw' N=>⟨S,e,ex,hg,trivial,g4.mono ok.len N⟩⟩
     .rw [zF hi] at B;rcases a6 u ps B with z | z
      .simp only [qim,zD] at z;rcases z with z | z
       .exact absurd z hi
       .exact .inl z
      .exact .inr z
    have ab:(look st0.cells id).isSome=true:=by
     simp only [qb7] at T;obtain ⟨ps,z,_⟩:=zM.1 T;rw [qfc z];rfl
    have W:∀ u,(look (qg4 r.cells id (.cs none L)) u).isSome=(look st0.cells u).isSome:=by
     intro u;rw [qec];by_cases hi:u=id
     .rw [zT hi,hi,ab];rfl
     .rw [zF hi];exact a7 u
    obtain ⟨st3,w3,Y,Z,b3,b4,b5,b6⟩:=qev ok ok2 J E a8 U H V W g1;exact ⟨st3,w3,Y,Z,b3,b4,b5,b6.trans g6⟩
theorem qps (A:zul K):∀ {ks:List SK} {ps:List (PV K)} {ns:List (NV K)} {i:Nat},qm4 A st2 ks ps=some ns->i ∈ qaj ks ps->∃ s,look st2.owns i=some s
 | [],ps,ns,i,_,h=>by cases ps<;>simp [qaj] at h
 | _::_,[],ns,i,h,_=>by simp [qm4] at h
 | k::ks,p::ps,ns,i,h,hi=>by
  simp only [qm4] at h;obtain ⟨a,f,g⟩:=zI.1 h;obtain ⟨r,m,_⟩:=zM.1 g;have d:i ∈ qaj ks ps->∃ s,look st2.owns i=some s:=qps A m;cases k with
  | list c own nb=>
   cases own with
   | false=>
    have e:qaj (.list c false nb::ks) (p::ps)=qaj ks ps:=by cases p<;>rfl
    rw [e] at hi;exact d hi
   | true=>
    cases p with
    | list t l o=>
     cases o with
     | none=>exact d hi
     | some x=>
      obtain ⟨j,s⟩:=x;simp only [qaj,zD] at hi;rcases hi with rfl | hi
      .simp only [qtw] at f;rcases zu f with ⟨b,_⟩ | ⟨_,b⟩
       .simp only [Bool.true_and] at b;simp only [qek] at b;split at b
        .rename_i n q;exact ⟨n,q⟩
        .cases b
       .cases b
      .exact d hi
    | _=>exact d hi
  | _=>exact d hi
theorem qkc (A:zul K):∀ {b:List RSlot} {ns:List (NV K)} {i:Nat},qfw A st2 b=some ns->i ∈ zy st2 b->∃ s,look st2.owns i=some s
 | [],ns,i,_,h=>by simp [zy] at h
 | s::b,ns,i,h,hi=>by
  by_cases e:∃ id c,s=.ml id c
  .obtain ⟨id,c,rfl⟩:=e;simp only [qfw] at h;obtain ⟨y,g,j⟩:=zI.1 h;obtain ⟨d,v,k⟩:=zI.1 j;obtain ⟨a,m,t⟩:=zI.1 k;obtain ⟨r,n,_⟩:=zM.1 t;have f:zy st2 (.ml id c::b)=qaj [.list d true true] [y.2]++zy st2 b:=by
    simp only [zy,g];obtain ⟨l,p⟩:=y;cases p with
    | list w x o=>cases o<;>rfl
    | _=>rfl
   rw [f,List.mem_append] at hi;rcases hi with hi | hi
   .exact qps A (ks:=[.list d true true]) (ps:=[y.2]) (ns:=a) (by simp only [qm4,m,zB,zH,zJ]) hi
   .exact qkc A n hi
  have q:∀ id c,s=.ml id c->False:=λid c u=>e ⟨id,c,u⟩;simp only [qfw] at h;obtain ⟨y,g,j⟩:=zI.1 h;obtain ⟨a,m,k⟩:=zI.1 j;obtain ⟨r,n,_⟩:=zM.1 k;simp only [zy,g,List.mem_append] at hi;rcases hi with hi | hi
  .exact qps A m hi
  .exact qkc A n hi
theorem qzd (ok:CfgOk X sz C) (ok2:CfgOk2 X C) (q:Rel X sz C base st0 fr0 H0 w0) (e:Rel X sz C base st2 fr2 H2 w2) (hle:Le w0 w2) {r:List Nat} {a:List RSlot} {ns:List (NV K)} {G:List (NV K)->StV K->Prop}
  (hn:st2.n=st0.n) (U:∀ t,t ∉ r->fr2.tmp t=fr0.tmp t) (V:qfw (ql X tbl inv meas) st2 a=some ns) (hK:∀ s ∈ a,zbd X sz st0 fr2 H2 w0 w2 s/\zbc st0 st2 s)
  (hC:∀ id ps,look st0.cells id=some ps->id ∈ qim a∨∀ w',Good w0 w2 w'->qt2 X sz H2 w2 w' id ps)
  (k:∀ i s,look (qeh st0 r a).owns i=some s->look st2.owns i=some s) (L:∀ i ∈ zy st2 a,look (qeh st0 r a).owns i=none) (E:distinct (zy st2 a)=true)
  (h:qc9 (ql X tbl inv meas) st0 a (qeh st0 r a) G):∃ st1 w1,G ns st1/\Rel X sz C base st1 fr2 H2 w1/\Le w0 w1/\st1.n=st0.n:=by
 have u:∀ i,look (qeh st0 r a).owns i=if i ∈ zy st0 a then none else look st0.owns i:=λi=>qnn
 have D:∀ i s,look (qeh st0 r a).owns i=some s->look st0.owns i=some s:=by
  intro i s hi;rw [u] at hi;split at hi
  .cases hi
  .exact hi
 let w1:Wd:={w2 with n:=st0.next,owns:=look (qeh st0 r a).owns,cl:=λid=>w2.cl id/\id<st0.next};have A:w0.n=st0.next:=q.h.n
 have w:Le w0 w1:=by
  refine ⟨⟨by rw [A];exact zN _,hle.mem,hle.c,hle.nu,λi hi F=>?_,λi s S hi F l=>?_,λi s hi F l=>?_,hle.ce,λid hi=>⟨λN=>(hle.cl id hi).1 N.1,λN=>⟨(hle.cl id hi).2 N,by rw [<-A];exact hi⟩⟩,hle.nx,hle.b,hle.Mu,hle.lp,hle.gm⟩,hle.df,hle.fl⟩
  .rw [q.h.owns] at F;show look (qeh st0 r a).owns i=none;rw [u,F]
   split<;>rfl
  .rw [q.h.owns] at F;have:=D i S l;rw [F] at this;cases this;exact zN _
  .have y:w2.owns i=some s:=by rw [e.h.owns];exact k i s l
   exact hle.o3 i s hi F y
 have m:Part X sz base st0 w0 st2 H2 w2 (qeh st0 r a) w1 (zy st2 a):=by
  refine ⟨rfl,rfl,rfl,rfl,rfl,λ_=>.rfl,rfl,w,zN _,rfl,rfl,λi s hi=>q.h.ownn i s (D i s hi),λi s nm hi J=>e.h.eta i s nm (k i s hi) J,λi j s S nm l y e1 e2=>e.h.einj i j s S nm (k i s l) (k j S y) e1 e2,λi2 H=>⟨qkc _ V H,λnm W j s Y J=>?_⟩,qg8 E⟩;obtain ⟨s2,Z⟩:=qkc _ V H;have:=e.h.einj i2 j s2 s nm Z (k j s Y) W J;subst this;rw [L i2 H] at Y;cases Y
 have hT:q4x X sz w1 (qeh st0 r a).tmps fr2:=by
  intro t p hp;have B:(quc r st0.tmps).get t=some p:=hp;rw [qy7] at B;split at B
  .cases B
  .rename_i ht;obtain ⟨v,l,y⟩:=q.f t p B;exact ⟨v,by rw [U t ht];exact l,y.mono ok.len w⟩
 have I:Good w0 w2 w1:=⟨w,rfl,rfl,rfl⟩;obtain ⟨st1,w3,g1,d,g3,g4,g5,g6⟩:=qev ok ok2 e V hK m hT (λid ps T=>(hC id ps T).imp_right λN=>N w1 I) (λ_=>rfl) h;have a6:q7e base.next w3 fr2.defers:=by
  have O:w3.fl=w2.fl:=d.le.fl.trans hle.fl.symm;refine ⟨λx hx=>?_,e.ds.2.1,by rw [O,d.nx];exact e.ds.2.2⟩;obtain ⟨m,l,y,h3,h4⟩:=e.ds.1 x hx;exact ⟨m,l,y,by rw [O];exact h3,by rw [d.g];exact h4⟩
 refine ⟨st1,w3,g1,⟨?_,g3,?_,a6⟩,d.le,g6⟩
 .have P:∀ id,(look st1.cells id).isSome=true->w0.cl id/\id<st0.next:=by
   intro id hs;rw [g5] at hs;obtain ⟨ps,a7⟩:=Option.isSome_iff_exists.1 hs;obtain ⟨o,z,_⟩:=q.h.cells id ps a7;exact ⟨o,(q.h.cl id o).1⟩
  refine ⟨e.h.wf,e.h.rob,d.g.trans e.h.g,d.nx.trans e.h.nx,d.le.b.trans q.h.b,λn hM=>e.h.Mlt n (by rw [<-d.M];exact hM),d.n,zR q.h.one d.nxt,e.h.keeps,λid hc=>?_,λid Q l y J=>?_,λid ps T=>?_,λi=>by rw [d.owns],d.ownn,λi s nm l y=>?_,d.einj,d.ce.trans e.h.ce,λid b hk=>?_,λgn ps hg=>?_⟩
  .obtain ⟨c1,c2⟩:=(d.cl id).1 hc;obtain ⟨o,z,R⟩:=e.h.cl id c1;exact ⟨zL c2 d.nxt,by rw [d.c];exact z,by rw [d.c];exact R⟩
  .rw [d.c] at J;exact e.h.cinj id Q ((d.cl id).1 l).1 ((d.cl Q).1 y).1 J
  .obtain ⟨o,z⟩:=P id (by rw [T];rfl);have hi:id<w0.n:=by rw [A];exact z
   obtain ⟨a0,a1⟩:=g4 id ps T;refine ⟨(d.cl id).2 ⟨(hle.cl id hi).2 o,z⟩,by rw [d.c,d.M];exact a0,by rw [d.c];exact a1 w3 (.refl w3)⟩
  .obtain ⟨o,z,R⟩:=d.eta i s nm l y;exact ⟨o,z,by rw [d.M];exact R⟩
  .rw [d.known] at hk;obtain ⟨q0,o,z⟩:=q.h.known id b hk;exact ⟨q0,zL o d.nxt,by rw [d.le.nu id (by rw [A];exact o)];exact z⟩
  .obtain ⟨q0,a8,e',fl,fz,ex',o,z,R⟩:=q.h.globs gn ps hg;exact ⟨q0,a8,e',fl,fz,ex',o,z,R.mono ok.len d.le⟩
 .rw [e.n,hn,g6];rfl
end
end Go.E3
/- E3: CODE against E2's. -/
namespace Go.E3
open Go Go.E2
variable {K:Nat->Type}
section
variable {X:Codecs K} {sz:Nat->Nat} {C:ZC K} {base:Heap}
variable {tbl:Tbl K} {inv:Nat->List (NV K)->Prop} {meas:Nat->List (NV K)->Nat} {inl:ZI K}
theorem zam {d:Fr} {i:Heap} {w2:Wd} {s:RSlot} {g us:List V} (f:zdw d i w2 s g) (h:zdw d i w2 s us):g=us:=by
 cases s with
 | one t k=>
  obtain ⟨v,a,rfl⟩:=f;obtain ⟨u,b,rfl⟩:=h;rw [a] at b;cases b;rfl
 | agg t ks=>
  have a:d.tmp t=some (.agg g):=f;have b:d.tmp t=some (.agg us):=h;rw [a] at b;cases b;rfl
 | var id ks=>
  obtain ⟨_,e,ex,a⟩:=f;obtain ⟨_,j,ex',b⟩:=h;rw [a] at b;cases b;rfl
 | ml id c=>exact False.elim f
theorem qtc {st0 st2:StV K}:∀ {ks:List SK} {e d:List (PV K)} {obs:List Prop},qgg (ql X tbl inv meas) st2 ks e d=some obs->(∀ q ∈ obs,q)->∀ (i:Nat) (p:PV K),ks[i]? = some .keep->e[i]? = some p->
  ∃ p2 o,d[i]? = some p2/\qa0 (ql X tbl inv meas) st2 p p2=some o/\∀ q ∈ o,q
 | [],e,d,obs,h,f,i,p,g,j=>by simp at g
 | k::ks,[],d,obs,h,f,i,p,g,j=>by simp at j
 | k::ks,a::e,[],obs,h,f,i,p,g,j=>by cases k<;>simp [qgg] at h
 | k::ks,a::e,b::d,obs,h,f,i,p,g,j=>by
  have rest:∀ c,qgg (ql X tbl inv meas) st2 ks e d=some c->(∀ q ∈ c,q)->∀ l,i=l+1->∃ p2 o,(b::d)[i]? = some p2/\qa0 (ql X tbl inv meas) st2 p p2=some o/\∀ q ∈ o,q:=by
   intro c m s l hi;subst hi;obtain ⟨p2,o,t,u,v⟩:=qtc (st0:=st0) (st2:=st2) m s l p (by simpa using g) (by simpa using j);exact ⟨p2,o,by simpa using t,u,v⟩
  cases k with
  | keep=>
   simp only [qgg] at h;obtain ⟨x,w,m⟩:=zI.1 h;obtain ⟨y,z,rfl⟩:=zM.1 m;cases i with
   | zero=>
    simp only [List.getElem?_cons_zero,zS] at j;subst j;exact ⟨b,x,rfl,w,λq n=>f q (List.mem_append_left _ n)⟩
   | succ i=>exact rest y z (λq n=>f q (List.mem_append_right _ n)) i rfl
  | grow=>
   have r:qgg (ql X tbl inv meas) st2 ks e d=some obs:=by
    cases a with
    | mlist=>cases b with
     | mlist=>
      rcases zu h with ⟨_,h⟩ | ⟨_,h⟩
      .cases h
      .exact h
     | _=>cases h
    | _=>cases h
   cases i with
   | zero=>simp at g
   | succ i=>exact rest obs r f i rfl
  | _=>
   have r:qgg (ql X tbl inv meas) st2 ks e d=some obs:=h;cases i with
   | zero=>simp at g
   | succ i=>exact rest obs r f i rfl
theorem qv3 {st2:StV K}:∀ {ks:List SK} {d e:List (PV K)} {obs:List Prop},qgg (ql X tbl inv meas) st2 ks d e=some obs->∀ (i id c:Nat) (fx:Bool) (f:Int),ks[i]? = some .grow->d[i]? = some (.mlist id c fx f)->∃ n,e[i]? = some (.mlist id c fx n)
 | [],d,e,obs,h,i,id,c,fx,f,g,j=>by simp at g
 | k::ks,[],e,obs,h,i,id,c,fx,f,g,j=>by simp at j
 | k::ks,a::d,[],obs,h,i,id,c,fx,f,g,j=>by cases k<;>simp [qgg] at h
 | k::ks,a::d,b::e,obs,h,i,id,c,fx,f,g,j=>by
  cases i with
  | zero=>
   cases g;cases j;cases b with
   | mlist v w z p=>
    rcases zu h with ⟨_,h⟩ | ⟨l,_⟩
    .cases h
    .simp only [zA] at l;have q:=zE l.1.1;have r:=zE l.1.2;have s:=eq_of_beq l.2;subst q;subst r;subst s;exact ⟨p,rfl⟩
   | _=>cases h
  | succ i=>
   have m:∃ o,qgg (ql X tbl inv meas) st2 ks d e=some o:=by
    cases k with
    | keep=>
     simp only [qgg] at h;obtain ⟨x,A,t⟩:=zI.1 h;obtain ⟨y,u,_⟩:=zM.1 t;exact ⟨y,u⟩
    | grow=>
     cases a with
     | mlist=>cases b with
      | mlist=>
       rcases zu h with ⟨_,h⟩ | ⟨_,h⟩
       .cases h
       .exact ⟨_,h⟩
      | _=>cases h
     | _=>cases h
    | _=>exact ⟨_,h⟩
   obtain ⟨o,m⟩:=m;exact qv3 m i id c fx f (by simpa using g) (by simpa using j)
theorem qjc {st0 st2:StV K}:∀ {b:List RSlot} {obs:List Prop},qia (ql X tbl inv meas) st0 st2 b=some obs->(∀ q ∈ obs,q)->∀ s ∈ b,(∃ id c,s=.ml id c)∨∃ x y o,qb7 st0 s=some x/\qb7 st2 s=some y/\qgg (ql X tbl inv meas) st2 x.1 x.2 y.2=some o/\∀ q ∈ o,q
 | [],obs,_,_,s,d=>by cases d
 | i::b,obs,h,f,s,d=>by
  by_cases e:∃ id c,i=.ml id c
  .obtain ⟨id,c,rfl⟩:=e;simp only [qia] at h;rcases zD.1 d with rfl | d
   .exact .inl ⟨id,c,rfl⟩
   .exact qjc h f s d
  have j:∀ id c,i=.ml id c->False:=λid c k=>e ⟨id,c,k⟩;simp only [qia] at h;obtain ⟨x,l,m⟩:=zI.1 h;obtain ⟨y,n,p⟩:=zI.1 m;obtain ⟨a,t,u⟩:=zI.1 p;obtain ⟨r,v,rfl⟩:=zM.1 u;rcases zD.1 d with rfl | d
  .exact .inr ⟨x,y,a,l,n,t,λq g=>f q (List.mem_append_left _ g)⟩
  .exact qjc v (λq g=>f q (List.mem_append_right _ g)) s d
theorem qje {a:List Nat} {st2:StV K}:∀ {l:List (Nat×ZT K)} {obs:List Prop},qkg (ql X tbl inv meas) a st2 l=some obs->(∀ q ∈ obs,q)->∀ id ct,(id,ct) ∈ l->id ∈ a∨∃ o,qmz (ql X tbl inv meas) st2 id ct=some o/\∀ q ∈ o,q
 | [],obs,_,_,id,ps,h=>by cases h
 | (i,cs)::l,obs,h,c,id,ps,b=>by
  simp only [qkg] at h;rcases zu h with ⟨k,d⟩ | ⟨k,d⟩
  .obtain ⟨x,m,n⟩:=zI.1 d;obtain ⟨y,p,rfl⟩:=zM.1 n;rcases zD.1 b with e | b
   .cases e;exact .inr ⟨x,m,λq f=>c q (List.mem_append_left _ f)⟩
   .exact qje p (λq f=>c q (List.mem_append_right _ f)) id ps b
  .rcases zD.1 b with e | b
   .cases e;obtain ⟨j,r,g⟩:=List.any_eq_true.1 k;have:=zE g;subst this;exact .inl r
   .exact qje d c id ps b
theorem cond_prop {c:Bool} {p:Prop} (h:bif c then p else False):c=true/\p:=by
 cases c with
 | false=>exact absurd h id
 | true=>exact ⟨rfl,h⟩
theorem ztl {t c:Option TypeId} {ps d:List (PV K)} {e:TypeId} {ex:Bool} (h:zzm t c=true) (f:q43 (.cs c d) e ex):q43 (.cs t ps) e ex:=by
 cases t with
 | none=>trivial
 | some a=>
  cases c with
  | none=>cases h
  | some b=>
   have:=zE h;subst this;exact f
theorem zhg {j:Nat} {seen:List (NV K)} {c:List RSlot} {dec:Option (List (NV K))} {st0 d st2:StV K} (h:q2o (ql X tbl inv meas) j seen c dec st0 d st2) :
  ∃ ns a b,qfw (ql X tbl inv meas) st2 c=some ns/\qia (ql X tbl inv meas) st0 st2 c=some a/\qkg (ql X tbl inv meas) (qim c) st2 st0.cells=some b/\(∀ q ∈ a,q)/\(∀ q ∈ b,q)/\
   distinct (zy st2 c)=true/\(∀ i ∈ zy st2 c,look d.owns i=none)/\(∀ i s,look d.owns i=some s->look st2.owns i=some s)/\inv j (ns++seen)/\(∀ m,dec=some m->meas j (ns++seen)<meas j (m++seen)):=by
 unfold q2o at h;split at h
 .rename_i ns a b k l n;obtain ⟨e,h⟩:=cond_prop h;simp only [zA] at e;obtain ⟨o,p⟩:=qsj h;obtain ⟨r,g⟩:=qsj p;refine ⟨ns,a,b,k,l,n,o,r,e.1.1,λi hi=>?_,λi s hi=>?_,g.1,λm t=>?_⟩
  .cases u:look d.owns i with
   | none=>rfl
   | some s=>
    have:=List.all_eq_true.1 e.1.2 i hi;simp only [Bool.not_eq_true',<-Bool.not_eq_true,List.any_eq_true] at this;exact absurd ⟨(i,s),qfz u,Nat.beq_refl i⟩ this
  .have:=List.all_eq_true.1 e.2 (i,s) (qfz hi);simp only at this;split at this
   .rename_i v f;have:=zE this;rw [f,this]
   .cases this
  .subst t;exact g.2
 .exact absurd h id
theorem q3b (ok:CfgOk X sz C) (ok2:CfgOk2 X C) {st0 st2:StV K} {M H:Fr} {H0 H2:Heap} {w0 w2:Wd} (J:Rel X sz C base st0 M H0 w0) (E:Rel X sz C base st2 H H2 w2) (hle:Le w0 w2) {j:Nat} {seen:List (NV K)} {ds:List Nat} {f:List RSlot} {dec:Option (List (NV K))}
  (hn:H.n=M.n) (ag:∀ t,t ∉ ds->H.tmp t=M.tmp t) (Y:q2o (ql X tbl inv meas) j seen f dec st0 (qeh st0 ds f) st2) :
  ∃ ns,inv j (ns++seen)/\(∀ m,dec=some m->meas j (ns++seen)<meas j (m++seen))/\∀ G:List (NV K)->StV K->Prop,qc9 (ql X tbl inv meas) st0 f (qeh st0 ds f) G->∃ st1 w1,G ns st1/\Rel X sz C base st1 H H2 w1/\Le w0 w1/\st1.n=st0.n:=by
 obtain ⟨ns,a,b,hN,hK,hS,ha,ah,hd,Z,a1,a6,a7⟩:=zhg Y;refine ⟨ns,a6,a7,λG hG=>qzd ok ok2 J E hle (by rw [<-E.n,hn,J.n]) ag hN (λs hs=>?_) (λid ps hl=>?_) a1 Z hd hG⟩
 .rcases qjc hK ha s hs with ⟨id,c,rfl⟩ | ⟨x,y,o,R,hy,ho,hq⟩
  .exact ⟨λx' g=>by simp [qb7] at g,λx' y' g=>by simp [qb7] at g⟩
  refine ⟨λx' g vs ai i p hk k w' L d S=>?_,λx' y' g a8 i id c fx n0 hk k=>?_⟩;rotate_left
  .rw [R] at g;rw [hy] at a8;cases g;cases a8;obtain ⟨I,_,w⟩:=qkh J R;obtain ⟨v0,_,T⟩:=w.get k;exact ⟨by rw [<-J.h.n];cases T;assumption,qv3 ho i id c fx n0 hk k⟩
  rw [R] at g;cases g;obtain ⟨p2,o2,aj,N,ak⟩:=qtc (st0:=st0) (st2:=st2) ho hq i p hk k;obtain ⟨I,_,w⟩:=qkh J R;obtain ⟨u,aa,A⟩:=qkh E hy;have:=zam ai aa;subst this;obtain ⟨v0,_,T⟩:=w.get k;have q2:=A.2 i p2 aj;exact qwi ok.len ok2 L hle E.h.owns (λid hi=>by rw [L.c id hi,hle.c id hi]) d S p p2 N ak T q2
 .rcases qje hS ah id ps (qfz hl) with L | ⟨o,d,S⟩
  .exact .inl L
  .right;intro w' hg;obtain ⟨g1,g2,g3,g4⟩:=hg;obtain ⟨ab,_,w⟩:=J.h.cells id ps hl;have B:id<w0.n:=by rw [J.h.n];exact (J.h.cl id ab).1
   cases ps with
   | lp r=>
    simp only [qmz] at d;split at d
    .rename_i r' al;rcases zu d with ⟨_,d⟩ | ⟨U,_⟩
     .cases d
     obtain ⟨_,O,gg,p1,p2,_⟩:=E.h.cells id _ al;obtain ⟨an,W,_,q3,q4,q5,q6,q7⟩:=w;have e1:gg=an:=by
      rw [hle.lp id B,W] at p1;exact (Option.some.inj p1).symm
     subst e1;have e2:r'.mode=r.mode:=by
      revert U;cases r.mode<;>cases r'.mode<;>simp [zaf]
     refine ⟨O,λP F=>⟨gg,?_,by rw [p2,e2],q3,q4,q5,q6,λi p k=>?_⟩⟩
     .rw [F.lp id (zL B g1.n),g1.lp id B];exact W
     .obtain ⟨v,a,b⟩:=q7 i p k;exact ⟨v,a,b.mono ok.len (g1.trans F)⟩
    .cases d
   | cs t ps=>
    obtain ⟨I,_,_,_,ax,w⟩:=w;simp only [qmz] at d;rcases zu d with ⟨_,d⟩ | ⟨ao,d⟩
    .cases d
    obtain ⟨dd,L,d⟩:=zI.1 d;obtain ⟨_,O,u,e,ex,D,aq,A⟩:=E.h.cells id _ (qfc L);exact ⟨O,λP F=>⟨u,e,ex,D,ztl ao aq,(qhs ok.len ok2 g1 hle E.h.owns (λid hi=>by rw [g1.c id hi,hle.c id hi]) g2 g3 ps dd d S w A).mono ok.len F⟩⟩
   | mp c lf va l=>
    simp only [qmz] at d;split at d
    .rename_i m U;split at d
     .rename_i hc;obtain ⟨c',ay,az,z⟩:=m;simp only at hc;subst hc;rcases zu d with ⟨_,d⟩ | ⟨Y,d⟩
      .cases d
      cases d;have he:l=z:=S _ zC;subst he;simp only [zA,beq_iff_eq] at Y;have e1:=qwh Y.1;have e2:=Y.2;subst e1;subst e2;have ar:look st2.cells id=some (.mp c' lf va l):=by
       unfold q52 at U;split at U
       .rename_i e;cases U;exact e
       .cases U
      obtain ⟨_,O,es,Q,D,ad,ae⟩:=E.h.cells id _ ar;have pl:∀ {x:K c'} {ps:List (PV K)} {vs:List V},(∀ p ∈ ps,p ∈ X.cells c' x)->qj X sz w2 ps vs->qj X sz w' ps vs:=λaf A=>
       ⟨A.1,λj p k=>(A.2 j p k).plain ok2.plain g2 (λ_ _ _ h=>by rw [g3];exact h) (ok2.plain c' _ p (af p (List.mem_of_getElem? k)))⟩
      refine ⟨O,λP F=>⟨es,Q,D,ad,λi x e a b=>?_⟩⟩;obtain ⟨z1,z2,z3,z4⟩:=ae i x e a b;exact ⟨(pl (λp k=>List.mem_of_mem_take k) z1).mono ok.len F,z2,(pl (λp k=>List.mem_of_mem_drop k) z3).mono ok.len F,z4⟩
     .cases d
    .cases d
   | ml c l p=>
    obtain ⟨I,_,_,_,_,_,_,_,_,w⟩:=w;have w:qj X sz w0 (l.flatMap (X.cells c)++[p]) I:=w;simp only [qmz] at d;obtain ⟨z,L,d⟩:=zI.1 d;obtain ⟨o1,N,rfl⟩:=zM.1 d;have he:l=z.1:=S _ zC;subst he;obtain ⟨_,O,u,e,gen,fl,ex,D,au,av,aw,A⟩:=E.h.cells id _ (qic L);have A:qj X sz w2 (z.1.flatMap (X.cells c)++[z.2]) u:=A;have W:=A.take (z.1.flatMap (X.cells c)).length;have q2:=A.drop (z.1.flatMap (X.cells c)).length;have T:=w.drop (z.1.flatMap (X.cells c)).length;rw [List.take_left] at W;rw [List.drop_left] at q2 T;have q3:qj X sz w' (z.1.flatMap (X.cells c)) (u.take (z.1.flatMap (X.cells c)).length):=by
     refine ⟨W.1,λj p k=>(W.2 j p k).plain ok2.plain g2 (λ_ _ _ h=>by rw [g3];exact h) ?_⟩;obtain ⟨x,_,R⟩:=List.mem_flatMap.1 (List.mem_of_getElem? k);exact ok2.plain c x p R
    have q4:qj X sz w' [p] (u.drop (z.1.flatMap (X.cells c)).length):=qhs (tbl:=tbl) (inv:=inv) (meas:=meas) ok.len ok2 g1 hle E.h.owns (λid hi=>by rw [g1.c id hi,hle.c id hi]) g2 g3 [p] [z.2] (obs:=o1++[]) (by simp only [qnz,N,zB,zH]) (λq hq=>S q (zG _ (by simpa using hq))) T q2;have q5:=q3.append q4;rw [List.take_append_drop] at q5;exact ⟨O,λP F=>⟨u,e,gen,fl,ex,D,au,by rw [F.ce,g1.ce,<-hle.ce];exact av,aw,q5.mono ok.len F⟩⟩
theorem zca (ok:CfgOk X sz C) (ok2:CfgOk2 X C) {st0:StV K} {e:Fr} {H0:Heap} {w0:Wd} (d:Rel X sz C base st0 e H0 w0) {q:List Nat} {a:List RSlot} {ns:List (NV K)} (t:qfw (ql X tbl inv meas) st0 a=some ns) (u:distinct (zy st0 a)=true)
  {G:List (NV K)->StV K->Prop} (v:qc9 (ql X tbl inv meas) st0 a (qeh st0 q a) G):∃ st1 w1,G ns st1/\Rel X sz C base st1 e H0 w1/\Le w0 w1/\st1.n=st0.n:=by
 have b:∀ i,look (qeh st0 q a).owns i=if i ∈ zy st0 a then none else look st0.owns i:=λi=>qnn
 refine qzd ok ok2 d d (.refl w0) rfl (λ_ _=>rfl) t (λs J=>?_) (λid ps w=>?_) (λi s hi=>?_) (λi hi=>?_) u v
 .refine ⟨λx k L m i p z l w' A M N=>?_,λx y k r i id c fx B z l=>?_⟩
  .obtain ⟨o,f,g⟩:=qkh d k;have:=zam m f;subst this;exact (g.2 i p l).mono ok.len A
  .rw [k] at r;cases r;obtain ⟨o,_,g⟩:=qkh d k;obtain ⟨O,_,D⟩:=g.get l;exact ⟨by rw [<-d.h.n];cases D;assumption,B,l⟩
 .right;intro w' E;obtain ⟨j,F,g⟩:=d.h.cells id ps w;exact ⟨F,λH I=>g.mono ok.len (E.1.trans I) (by rw [d.h.n];exact (d.h.cl id j).1)⟩
 .rw [b] at hi;split at hi
  .cases hi
  .exact hi
 .rw [b,zT hi]
abbrev qse (X:Codecs K) (sz:Nat->Nat) (C:ZC K) (base:Heap) (w:Wd) (k:Ex->StV K->Prop) (ex:Ex) (fr':Fr) (H':Heap):Prop:=
 (∀ l,ex≠.goto l)/\∃ a w',k ex a/\Rel X sz C base a fr' H' w'/\Le w w'
theorem zcc {σ:Type} {step:σ->(σ->Prop)->Prop} {n:Nat} {s:σ} (h:q84 step False n s):∃ m,n=m+1/\step s λa=>q84 step False m a:=by
 cases n with
 | zero=>exact absurd h id
 | succ m=>exact ⟨m,rfl,h⟩
theorem ztp {E:Env} {fn:FuncId} {round:Option Nat} {c:Code} {fr:Fr} {H:Heap} {Q:Ex->Fr->Heap->Prop}
  (h:Wp E fn round c fr H (q4i (λfr' H'=>∃ (Inv:Nat->Fr->Heap->Prop) (m:Nat),Inv m fr' H'/\∀ m fr H,Inv m fr H->Wp E fn round c fr H (q4i (λfr' H'=>∃ a,a<m/\Inv a fr' H') Q)) Q)):Wp E fn round (.loop c) fr H Q:=by
 obtain ⟨⟨e,g,H1⟩,d,b⟩:=h;cases e with
 | normal=>
  obtain ⟨Inv,m1,hi,i⟩:=b;refine qxi (λm fr' H'=>(m=m1+1/\fr'=fr/\H'=H)∨(m<=m1/\Inv m fr' H')) (m:=m1+1) (.inl ⟨rfl,rfl,rfl⟩) ?_;rintro m fr' H' (⟨rfl,rfl,rfl⟩ | ⟨l,hi⟩)
  .exact ⟨_,d,m1,Nat.lt_succ_self _,.inr ⟨zN _,hi⟩⟩
  .refine (i m fr' H' hi).mono λex j n f=>?_;cases ex with
   | normal=>
    obtain ⟨a,k,b⟩:=f;exact ⟨a,k,.inr ⟨by omega,b⟩⟩
   | _=>exact f
 | _=>
  refine qxi (λm fr' H'=>fr'=fr/\H'=H) (m:=0) ⟨rfl,rfl⟩ ?_;rintro m fr' H' ⟨rfl,rfl⟩;exact ⟨_,d,b⟩
def q7j (w:Wd) (rd round:Option Nat):Prop:=
 match rd,round with
 | none,none=>True
 | some id,some l=>id<w.n/\l=w.c id
 | _,_=>False
theorem q7j.mono {w w':Wd} {rd round:Option Nat} (h:q7j w rd round) (hle:Le w w'):q7j w' rd round:=by
 cases rd<;>cases round
 .trivial
 .exact h
 .exact h
 .obtain ⟨a,b⟩:=h;exact ⟨zL a hle.n,by rw [hle.c _ a];exact b⟩
theorem qv1 (ok:CfgOk X sz C) (ok2:CfgOk2 X C) {rd round:Option Nat} {fn:Nat} {c:Code} {j:Nat} {g p:List Slot} {st:StV K} {fr:Fr} {H:Heap} {w:Wd} {k:Ex->StV K->Prop} {body:StV K->(Ex->StV K->Prop)->Prop}
  (i:∀ {st:StV K} {fr:Fr} {H:Heap} {w:Wd} {k:Ex->StV K->Prop},q7j w rd round->Rel X sz C base st fr H w->body st k->Wp C.E fn round c fr H (qse X sz C base w k))
  (A:q7j w rd round) (R:Rel X sz C base st fr H w) (h:ze3 (ql X tbl inv meas) j g p (qg2 c) st body k) :
  ∃ (Inv:Nat->Fr->Heap->Prop) (m:Nat),Inv m fr H/\∀ m fr' H',Inv m fr' H'->Wp C.E fn round c fr' H' (q4i (λfr' H'=>∃ L,L<m/\Inv L fr' H') (qse X sz C base w k)):=by
 unfold ze3 at h;obtain ⟨rs,P,B⟩:=qa h;obtain ⟨q,D,B⟩:=qa B;obtain ⟨a,_,r⟩:=qa B;cases F:distinct (zy st rs) with
 | false=>rw [F] at r;exact absurd r id
 | true=>
  rw [F] at r;simp only [zO] at r;obtain ⟨l,M⟩:=r;let Body:List (NV K)->StV K->Prop:=λns st1=>inv j (ns++a)->body st1 λex st2=>match ex with
    | .normal=>q2o (ql X tbl inv meas) j a rs (some ns) st (qeh st (qg2 c) rs) st2
    | ex=>k ex st2
  refine ⟨λm fr' H'=>∃ ns st1 w1,m=meas j (ns++a)/\inv j (ns++a)/\Body ns st1/\Rel X sz C base st1 fr' H' w1/\Le w w1/\fr'.n=fr.n/\∀ t,t ∉ qg2 c->fr'.tmp t=fr.tmp t,meas j (q++a),?_,?_⟩
  .obtain ⟨st1,w1,g1,G,I,V⟩:=zca ok ok2 R D F M;exact ⟨q,st1,w1,rfl,l,g1,G,I,rfl,λ_ _=>rfl⟩
  .rintro m fr' H' ⟨ns,st1,w1,rfl,s,hB,Q,b,u,v⟩;refine (Go.E3.Wp.frame (i (A.mono b) Q (hB s))).mono λex S W T=>?_;obtain ⟨⟨J,st2,w2,N,O,d⟩,e,f⟩:=T;cases ex with
   | normal=>
    obtain ⟨x,o,y,U⟩:=q3b ok ok2 R O (b.trans d) (f.trans u) (λt z=>(e t z).trans (v t z)) N;obtain ⟨st3,w3,g1,G,I,_⟩:=U _ M;exact ⟨meas j (x++a),y ns rfl,x,st3,w3,rfl,o,g1,G,I,f.trans u,λt z=>(e t z).trans (v t z)⟩
   | _=>exact ⟨J,st2,w2,N,O,b.trans d⟩
theorem zpl {E:Env} {fn:FuncId} {round:Option Nat} {f:Operand} {params:Array Tmp} {a b:Code} {fr:Fr} {H H1:Heap} {Q:Ex->Fr->Heap->Prop} {g:Nat} {e i:List V} {mk:List Dfr} {d:Nat}
  (l:opd fr H f=some (.func (.func g) e i)) (m:qnj E g=true) (he:qud round H=some (mk,H1,d))
  (h:qc5 E (.func g) (e++[.func (.yield H1.next) [] []]++i) (H1.new (.loop .ready none fr.tmps fr.n params.toList a b d)) λ_ j=>∃ ex c,qfy j H1.next=some (ex,c)/\Q ex {fr with defers:=mk++fr.defers} c) :
  Wp E fn round (.rangeFunc f params a b) fr H Q:=by
 obtain ⟨v,j,⟨o,p⟩,ex,c,q,r⟩:=h;refine ⟨(ex,{fr with defers:=mk++fr.defers},c),⟨o,λk s=>?_⟩,r⟩;simp only [zk,he,zB,l,qe9,m,zO,p k s,q,zH]
theorem RelH.alike {H:Heap} {w:Wd} {st a:StV K} (R:RelH X sz C base st H w) (d:a.cells=st.cells) (e:a.owns=st.owns) (f:a.next=st.next) (h:a.known=st.known):RelH X sz C base a H w:=by
 obtain ⟨t,n,c,o,x,j⟩:=st;obtain ⟨k,l,m,p,q,i⟩:=a;simp only at d e f h;subst d e f h;exact ⟨R.wf,R.rob,R.g,R.nx,R.b,R.Mlt,R.n,R.one,R.keeps,R.cl,R.cinj,R.cells,R.owns,R.ownn,R.eta,R.einj,R.ce,R.known,R.globs⟩
theorem q8a (ok:CfgOk X sz C) {H:Heap} {w:Wd} {st:StV K} (R:RelH X sz C base st H w) {id:Nat} {ct:ZT K} (o:O) (P:look st.cells id=some ct) (x:∀ cs e gen fl fz ex,H.get (w.c id)≠some (.row cs e gen fl fz ex)) :
  ∃ w',RelH X sz C base {st with cells:=qb2 st.cells id} (H.put (w.c id) o) w'/\Le w w':=by
 obtain ⟨k,M,y⟩:=R.cells id _ P;obtain ⟨Q,z,l⟩:=R.cl id k;let H':=H.put (w.c id) o;have a:∀ nm,nm≠w.c id->H'.get nm=H.get nm:=λnm r=>qb8 r;have p:Le w {w with g:=H'.get}:=by
  refine ⟨⟨zN _,λnm cs e gen A B ex h t=>⟨t,[],gen,B,ex,?_⟩,λ_ _=>rfl,λ_ _=>rfl,λ_ _ h=>h,λ_ _ _ _ h f=>(by rw [h] at f;cases f;exact zN _),λi s hi N _=>⟨rfl,λnm r _=>?_⟩,rfl,λ_ _=>.rfl,zN _,rfl,λ_ _ h=>h,λ_ _=>rfl,λu _ D cs e gen fl fz ex E=>?_⟩,λm F=>?_,rfl⟩
  .rw [zJ];show H'.get nm=_;rw [a nm (by intro j;subst j;exact t M),<-R.g];exact h
  .show H'.get nm=w.g nm;rw [R.owns] at N;obtain ⟨_,_,G⟩:=R.eta i s nm N r;rw [a nm (by intro j;subst j;exact G M),R.g]
  .rw [R.g] at E;by_cases j:u=id
   .subst j;exact absurd E (x _ _ _ _ _ _)
   .exact ⟨_,_,_,_,_,(a _ λS=>j (R.cinj u id D k S)).trans E,zN _,λ_=>rfl⟩
  .show H'.get m=_;rw [R.g] at F;rw [a m (by intro j;subst j;exact y.some.1 F)];exact F
 refine ⟨{w with g:=H'.get},?_,p⟩;refine ⟨λn r=>?_,R.rob,rfl,R.nx,R.b,R.Mlt,R.n,R.one,R.keeps.put l _,R.cl,R.cinj,λd q f=>?_,R.owns,R.ownn,R.eta,R.einj,R.ce,R.known,λgn q f=>?_⟩
 .have I:H.next<=n:=r
  rw [a n (by omega)];exact R.wf n I
 .simp only [qey] at f;by_cases hi:d=id
  .rw [zT hi] at f;cases f
  .rw [zF hi] at f;obtain ⟨v,J,T⟩:=R.cells d q f;refine ⟨v,J,?_⟩;show qbu X sz _ d _ (H'.get (w.c d));rw [a _ (by intro j;exact hi (R.cinj d id v k j))];exact T.mono ok.len p (by rw [R.n];exact (R.cl d v).1)
 .obtain ⟨U,L,V,fl,fz,ex',v,J,W⟩:=R.globs gn q f;exact ⟨U,L,V,fl,fz,ex',v,J,W.mono ok.len p⟩
theorem q6o (ok:CfgOk X sz C) (W:qoe X sz C inl) {rd round:Option Nat} {fnE:Nat} {st:StV K} {fr:Fr} {H:Heap} {w:Wd} (I:q7j w rd round) (R:Rel X sz C base st fr H w) (D:inRound rd st=true)
  {f:Operand} {vf:V} {v:PV K} (ev:opd fr H f=some vf) (rv:Rep X sz w v vf) {r:LRec Int Bool (List UInt8) Prop (λc=>List (K c))} {params:Array Tmp} {a b:Code}
  (e1:r.tmps=st.tmps) (e2:r.n=st.n) (e3:r.params=params.toList) (e4:r.assign=a) (e5:r.body=b) (e6:r.mode=.ready) {k:Ex->StV K->Prop} (h:zcy (ql X tbl inv meas) C inl r v st k) :
  Wp C.E fnE round (.rangeFunc f params a b) fr H (qse X sz C base w k):=by
 unfold zcy at h;split at h
 .rename_i g first cap
  cases rv with
  | @func f' a' c' va vc ha hc h1 h2=>
  obtain ⟨hb,h⟩:=cond_prop h;obtain ⟨mk,H1,d,w1,Y,J,y,t⟩:∃ mk H1 d w1,qud round H=some (mk,H1,d)/\RelH X sz C base {st with next:=st.next+1} H1 w1/\Le w w1/\q7e base.next w1 (mk++fr.defers):=by
   cases round with
   | none=>
    obtain ⟨w1,J,e,Z,a1⟩:=q6a ok R.h;have t:=R.ds.mono e;refine ⟨[.mark H.next],H.new .dfr,H.next,w1,rfl,J,e,λx hx=>?_,?_,t.2.2⟩
    .rcases zD.1 hx with rfl | hx
     .refine ⟨H.next,rfl,R.h.keeps.next,?_,Z⟩;rw [e.fl,<-R.h.nx];exact R.ds.2.2
     .exact t.1 x hx
    .show (Dfr.mark H.next::fr.defers).Nodup;rw [List.nodup_cons];refine ⟨λF=>?_,R.ds.2.1⟩;obtain ⟨m,h3,_,_,h4⟩:=R.ds.1 _ F;cases h3;rw [a1] at h4;cases h4
   | some l=>
    cases rd with
    | none=>exact absurd I id
    | some id=>
     obtain ⟨a8,rfl⟩:=I;simp only [inRound] at D;split at D
     .rename_i r' hl;obtain ⟨_,_,g',_,p2,_⟩:=R.h.cells id _ hl;obtain ⟨e,J⟩:=R.h.ext ok (m:=st.next+1) (nu':=w.nu) (Nat.le_succ _) (λ_ _=>rfl);refine ⟨[],H,g'.ld,_,?_,J,e,R.ds.mono e⟩;simp only [qud,p2];unfold qfq;split
      .rename_i L;split at L<;>cases L<;>rfl
      .rename_i M;exfalso;split at M<;>exact M _ _ _ _ _ _ _ _ rfl
     .cases D
  let gl:LG:=⟨fr.tmps,fr.n,params.toList,a,b,d⟩;obtain ⟨w2,R2,z,N,A⟩:=qj6 ok J (ct:=.lp r) (row:=.loop .ready none fr.tmps fr.n params.toList a b d) (lp':=λi=>if i=st.next+1 then some gl else w1.lp i)
   (λi hi=>zF (by have:i<st.next+1:=hi;omega)) (λw' hw a6=>⟨gl,by rw [a6];exact zT rfl,by rw [e6];rfl,by rw [e2];exact R.n.symm,e3,e4,e5,λi p T=>by
     rw [e1] at T;obtain ⟨x,p1,p2⟩:=R.f i p T;exact ⟨x,p1,(p2.mono ok.len y).mono ok.len hw⟩⟩)
  have j:=y.trans z;have ry:qj X sz w2 [.yield (st.next+1)] [.func (.yield H1.next) [] []]:=by
   have hy:=Rep.yield (X:=X) (sz:=sz) (w:=w2) (id:=st.next+1) A;rw [show w2.c (st.next+1)=H1.next from N] at hy;exact .cons hy .nil
  have a7:qj X sz w2 (first++[.yield (st.next+1)]++cap) (va++[.func (.yield H1.next) [] []]++vc):=
   qj.append (qj.append (qj.mono ok.len j (ps:=first) ⟨ha,h1⟩) ry) (qj.mono ok.len j (ps:=cap) ⟨hc,h2⟩)
  refine zpl ev hb Y ((W (.func g) _ _ _ h base _ w2 _ R2 a7).mono λ_ U hA=>?_);obtain ⟨_,st3,w3,s,t3,n3,P,q,_⟩:=hA;unfold zuf at s;split at s
  .rename_i r3 Q;obtain ⟨S,aa,g3,p1,p2,_⟩:=P.cells _ _ Q;have u:w3.c (st.next+1)=H1.next:=(q.c _ A).trans N
   have G:U.ro<=H1.next:=by rw [P.keeps.ro,<-u];exact zR P.rob.1 (P.cl _ S).2.2
   rw [u] at p2;have fin:∀ (ex:Ex) (o:O),(∀ l,ex≠.goto l)->qfy U H1.next=some (ex,U.put H1.next o)->k ex {st3 with cells:=qb2 st3.cells (st.next+1),tmps:=st.tmps,n:=st.n}->
     ∃ ex H4,qfy U H1.next=some (ex,H4)/\qse X sz C base w k ex {fr with defers:=mk++fr.defers} H4:=by
    intro ex o Z Y s;obtain ⟨w4,R4,B⟩:=q8a ok P o Q (λ_ _ _ _ _ _ h=>by rw [u,p2] at h;unfold qfq at h;split at h<;>cases h);rw [u] at R4;have e:Le w w4:=j.trans (q.trans B);exact ⟨ex,_,Y,Z,_,w4,s,⟨R4.alike rfl rfl rfl rfl,λi p T=>by
     obtain ⟨x,p1,p2⟩:=R.f i p T;exact ⟨x,p1,p2.mono ok.len e⟩,R.n,t.mono (z.trans (q.trans B))⟩,e⟩
   split at s
   .rename_i F;rw [F] at p2;exact fin .normal _ (by simp) (by simp only [qfy,p2,qfq,qb3 G,zB,qfi,zH];rfl) s
   .rename_i F;rw [F] at p2;exact fin .ret _ (by simp) (by simp only [qfy,p2,qfq,qb3 G,zB,qfi,zH];rfl) s
   .rename_i i F;rw [F] at p2;exact fin (.exit i) _ (by simp) (by simp only [qfy,p2,qfq,qb3 G,zB,qfi,zH];rfl) s
   .exact absurd s id
  .exact absurd s id
 .exact absurd h id
theorem q5d (ok:CfgOk X sz C) {st:StV K} {fr:Fr} {H:Heap} {w:Wd} (R:Rel X sz C base st fr H w) {t i:Nat} {k:StV K->Prop} (h:zbz (ql X tbl inv meas) st t i k):∃ y w',k y/\Rel X sz C base y fr H w'/\Le w w':=by
 unfold zbz at h;split at h
 .rename_i d off lim ht;obtain ⟨cs,M,z⟩:=qa h;split at z
  .rename_i id c fx n hi;obtain ⟨l,U,N⟩:=qa z;obtain ⟨r,V,O,A,W,Y⟩:=qa N;have O:n=(l.1.length:Int):=O;have B:=qic U;have o:=qfc M;have P:d≠id:=by
    intro Z;rw [Z,B] at o;cases o
   obtain ⟨S,a1,s,e,ex,D,T,m⟩:=R.h.cells d _ o;have m:qj X sz w cs s:=m;obtain ⟨w',a,q,_,E,a6,_,F⟩:=q73 ok R.h B V A;have Q:look (qb2 st.cells id) d=some (.cs (qnm st.cells d) cs):=by rw [qey,zF P];exact o
   obtain ⟨q1,q2,a7,e',ex',g0,ty,_⟩:=a.cells d _ Q;have G:i<s.length:=by rw [<-m.1];exact (List.getElem?_eq_some_iff.1 hi).1
   have rx:=F fx n _ O (m.2 i _ hi);have I:setCells s i [s.getD i je]=s:=by
    simp only [setCells,List.length_singleton];have e1:s.getD i je=s[i]:=by rw [List.getD_eq_getElem?_getD,List.getElem?_eq_getElem G];rfl
    rw [e1,List.append_assoc,List.singleton_append,<-List.drop_eq_getElem_cons G,List.take_append_drop]
   have u:=qkb (m.mono ok.len q) (.cons rx .nil) i;rw [I] at u;rw [E] at g0;rw [D] at g0;cases g0;refine ⟨_,w',Y,⟨⟨a.wf,a.rob,a.g,a.nx,a.b,a.Mlt,a.n,a.one,a.keeps,a.cl,a.cinj,λJ ct' L=>?_,a.owns,a.ownn,a.eta,a.einj,a.ce,a.known,a.globs⟩,λj p hp=>?_,R.n,R.ds.mono q⟩,q⟩
   .simp only [qec] at L;by_cases x:J=d
    .rw [zT x] at L;cases L;subst x;exact ⟨q1,q2,s,e,ex,by rw [E];exact D,zgf ty,u⟩
    .rw [zF x] at L;exact a.cells J ct' L
   .obtain ⟨v,z,N⟩:=R.f j p hp;exact ⟨v,z,N.mono ok.len q⟩
  .exact ⟨st,w,z,R,.refl w⟩
 .exact ⟨st,w,h,R,.refl w⟩
theorem kg (ok:CfgOk X sz C) (ok2:CfgOk2 X C) (tok:qjh X sz C tbl) (o:qoe X sz C inl) {rd round:Option Nat} {fn fnE:Nat}:∀ {c:Code} {p:Nat} {st:StV K} {fr:Fr} {H:Heap} {w:Wd} {k:Ex->StV K->Prop},
  q7j w rd round->Rel X sz C base st fr H w->qbp (ql X tbl inv meas) C inl rd fn p c st k->Wp C.E fnE round c fr H (qse X sz C base w k)
 | .skip,p,st,fr,H,w,k,l,R,h=>ztq ⟨by simp,st,w,h,R,.refl w⟩
 | .label _,p,st,fr,H,w,k,l,R,h=>zpk ⟨by simp,st,w,h,R,.refl w⟩
 | .exit _,p,st,fr,H,w,k,l,R,h=>zto ⟨by simp,st,w,h,R,.refl w⟩
 | .ret,p,st,fr,H,w,k,l,R,h=>zpm ⟨by simp,st,w,h,R,.refl w⟩
 | .goto _,p,st,fr,H,w,k,l,R,h=>absurd h id
 | .refuse _,p,st,fr,H,w,k,l,R,h=>absurd h id
 | .rangeFunc f a7 a b,p,st,fr,H,w,k,l,R,h=>by
  simp only [qbp] at h;obtain ⟨a8,J⟩:=cond_prop h;obtain ⟨v,hv,h2⟩:=qa J;obtain ⟨vf,ev,rv⟩:=qq R hv;exact q6o ok o l R a8 ev rv rfl rfl rfl rfl rfl rfl h2
 | .cond c a b,p,st,fr,H,w,k,l,R,h=>by
  simp only [qbp] at h;split at h
  .rename_i pc hc;obtain ⟨v,ev,rv⟩:=qq R hc;obtain ⟨t,rfl⟩:=zd3 rv h;obtain ⟨st1,J,hn,_,T⟩:=qx8 R.h rv h;have U:=R.zy7 ok hn T (.refl w);refine ztn ev ?_;cases t with
   | true=>exact kg ok ok2 tok o l U J
   | false=>exact kg ok ok2 tok o l U J
  .exact absurd h id
 | .block id c,p,st,fr,H,w,k,l,R,h=>by
  simp only [qbp] at h;refine zpj ((kg ok ok2 tok o l R h).mono λex fr' H' z=>?_);obtain ⟨F,r,w',u,D,q⟩:=z;cases ex with
  | exit V=>
   simp only at u;simp only [qrg];cases hb:Nat.beq V id with
   | true=>
    rw [hb] at u;simp only [zO] at u;have:=zE hb;subst this;exact zbw ⟨by simp,r,w',u,D,q⟩
   | false=>
    rw [hb] at u;simp only [zQ] at u;have aa:¬ V=id:=by
     intro he;subst he;simp at hb
    exact q7v aa ⟨by simp,r,w',u,D,q⟩
  | _=>exact ⟨F,r,w',u,D,q⟩
 | .scope c,p,st,fr,H,w,k,l,R,h=>by
  simp only [qbp] at h;refine zpn ((kg ok ok2 tok o l R h).mono λex fr' H' z=>⟨z.1,z⟩)
 | .region id ab W,p,st,fr,H,w,k,l,R,h=>by
  simp only [qbp] at h;cases W with
  | true=>
   simp only [zO] at h;refine za1 ?_;have m:Mid X sz C base H.next st.next 0 w [] [] st fr H w:=⟨R,.nil,zN _,zN _,λid _ hc=>(R.h.cl id hc).2.1,λd hd=>(by cases hd),λd hd=>(by cases hd),.refl w,_,_,R.h,rfl⟩
   obtain ⟨x,hx,e,r,w',a1,a2,a3⟩:=qn4 (b:=Region.before ab) (i:=0) ok ok2 tok o m R.cm h;exact ⟨x,hx,by simp,r,w',a1,a2,a3⟩
  | false=>
   simp only [zQ] at h;refine q4m ((qp2 ok ok2 tok o R h).mono λex fr' H' z=>?_);obtain ⟨rfl,r,w',a1,a2,a3⟩:=z;exact ⟨by simp,r,w',a1,a2,a3⟩
 | .seq a b,p,st,fr,H,w,k,l,R,h=>by
  simp only [qbp] at h;split at h
  .rename_i j G L A;obtain ⟨rs,ai,J⟩:=qa h;obtain ⟨ah,_,J⟩:=qa J;obtain ⟨ha,F⟩:=J;refine q09 ((Go.E3.Wp.frame (kg ok ok2 tok o l R ha)).mono λex fr' H' z=>?_);obtain ⟨⟨ad,r,w',u,D,q⟩,ae,af⟩:=z;cases ex with
   | normal=>
    obtain ⟨ns,Y,_,hh⟩:=q3b ok ok2 R D q af ae u;obtain ⟨st1,w1,g1,g2,g3,_⟩:=hh _ F;refine (kg ok ok2 tok o (l.mono g3) g2 (g1 Y)).mono λex I Z M=>?_;obtain ⟨O,st3,w3,P,Q,S⟩:=M;exact ⟨O,st3,w3,P,Q,g3.trans S⟩
   | _=>exact ⟨ad,r,w',u,D,q⟩
  .rename_i t i A;obtain ⟨st0,w0,h,R0,B⟩:=q5d ok R h;refine q09 ((kg ok ok2 tok o (l.mono B) R0 h).mono λex fr' H' z=>?_);obtain ⟨F,r,w',u,D,q⟩:=z;cases ex with
   | normal=>
    refine (kg ok ok2 tok o (l.mono (B.trans q)) D u).mono λex I Z M=>?_;obtain ⟨O,st3,w3,P,Q,S⟩:=M;exact ⟨O,st3,w3,P,Q,(B.trans q).trans S⟩
   | _=>exact ⟨F,r,w',u,D,B.trans q⟩
  .refine q09 ((kg ok ok2 tok o l R h).mono λex fr' H' z=>?_);obtain ⟨F,r,w',u,D,q⟩:=z;cases ex with
   | normal=>
    refine (kg ok ok2 tok o (l.mono q) D u).mono λex I Z M=>?_;obtain ⟨O,st3,w3,P,Q,S⟩:=M;exact ⟨O,st3,w3,P,Q,q.trans S⟩
   | _=>exact ⟨F,r,w',u,D,q⟩
 | .loop c,p,st,fr,H,w,k,l,R,h=>by
  simp only [qbp] at h;split at h
  .rename_i j G L A;obtain ⟨Inv,m,h0,hs⟩:=qv1 ok ok2 (λl R h=>kg ok ok2 tok o l R h) l R h;exact qxi Inv h0 hs
  .rename_i j G L A;refine ztp ((kg ok ok2 tok o l R h).mono λex fr' H' z=>?_);obtain ⟨F,st1,w1,u,T,y⟩:=z;cases ex with
   | normal=>
    obtain ⟨Inv,m,h0,hs⟩:=qv1 ok ok2 (λl R h=>kg ok ok2 tok o l R h) (l.mono y) T u;refine ⟨Inv,m,h0,λm I Z hi=>(hs m I Z hi).mono λex aj H3 M=>?_⟩;cases ex with
    | normal=>exact M
    | _=>
     obtain ⟨O,st3,w3,P,Q,S⟩:=M;exact ⟨O,st3,w3,P,Q,y.trans S⟩
   | _=>exact ⟨F,st1,w1,u,T,y⟩
  .rename_i n A;refine qxi (λm fr' H'=>∃ st1 w1,q84 (λs g=>qbp (ql X tbl inv meas) C inl rd fn (2 * p) c s λex st1=>match ex with
    | .normal=>g st1
    | ex=>k ex st1) False m st1/\Rel X sz C base st1 fr' H' w1/\Le w w1) (m:=n) ⟨st,w,h,R,.refl w⟩ ?_
   rintro m fr' H' ⟨st1,w1,ag,T,y⟩;obtain ⟨m',rfl,a6⟩:=zcc ag;refine (kg ok ok2 tok o (l.mono y) T a6).mono λex I Z z=>?_;obtain ⟨F,st2,w2,u,R2,N⟩:=z;cases ex with
   | normal=>exact ⟨m',Nat.lt_succ_self _,st2,w2,u,R2,y.trans N⟩
   | _=>exact ⟨F,st2,w2,u,R2,y.trans N⟩
  .exact absurd h id
end
end Go.E3
/- E3: FUNCTIONS against E2's: what the conditions of a function show. -/
namespace Go.E3
open Go Go.E2
variable {K:Nat->Type}
def qab:List (PV K)->List (PV K)->List (Nat×Nat)
 | .list _ _ (some (i,_))::ps,.list _ _ (some (j,_))::rs=>(j,i)::qab ps rs
 | _::ps,_::rs=>qab ps rs
 | _,_=>[]
def RT:PV K->Prop
 | .sb id _ b a c=>id=0/\(a↔b=true)/\(c↔b=false)
 | .int _ l _=>l=none
 | .list _ _ (some (_,s))=>s=0
 | _=>True
section
variable {X:Codecs K} {sz:Nat->Nat} {C:ZC K} {base H:Heap} {st:StV K} {w:Wd}
variable {tbl:Tbl K} {inv:Nat->List (NV K)->Prop} {meas:Nat->List (NV K)->Nat} {inl:ZI K}
theorem qld {fr:Fr} (R:RelH X sz C base st H w) (F:q4x X sz w st.tmps fr):∀ {rs:List ResultVar} {ps:List (PV K)},qi6 (ql X tbl inv meas) C st rs=some ps->∃ b,jo C.E fr H rs=some b/\qj X sz w ps b
 | [],ps,h=>by
  simp only [qi6,zS] at h;subst h;exact ⟨[],rfl,.nil⟩
 | .tmp t::rs,ps,h=>by
  simp only [qi6] at h;obtain ⟨p,c,d⟩:=zI.1 h;obtain ⟨j,e,rfl⟩:=zM.1 d;obtain ⟨v,f,r1⟩:=F t p c;obtain ⟨b,g,i⟩:=qld R F e;exact ⟨v::b,by simp only [jo,f,zB,g,zH],.cons r1 i⟩
 | .cell a t::rs,ps,h=>by
  simp only [qi6] at h;obtain ⟨ti,k,c⟩:=zI.1 h;obtain ⟨l,d,e⟩:=zI.1 c;obtain ⟨p,m,n⟩:=zI.1 e;obtain ⟨j,o,rfl⟩:=zM.1 n;obtain ⟨x,f,r1⟩:=F a l d;obtain ⟨nm,gn,off,lim,rfl,_,q,_⟩:=qk5 R r1 m;obtain ⟨u,r,s⟩:=q H rfl;obtain ⟨b,g,i⟩:=qld R F o;exact ⟨u::b,by simp only [jo,k,f,r,zB,g,zH],.cons s i⟩
theorem zil {ps:List (PV K)} {c:List V} (r:qj X sz w ps c):Rep X sz w (zck ps) (oneOf c):=by
 match ps,r with
 | [],r=>rw [r.ka];exact .undef
 | [p],r=>
  obtain ⟨v,a,rfl,r1,b⟩:=r.zt;have:=b.ka;subst this;exact r1
 | p::q::ps,r=>
  obtain ⟨v,a,rfl,r1,b⟩:=r.zt;obtain ⟨u,d,rfl,e,f⟩:=b.zt;exact .tuple' (.cons r1 (.cons e f))
theorem zld {X:Codecs K}:(X.u8 ▸ ([]:List (K 0)):List UInt8)=[]:=by
 rw [qp3];rfl
theorem q93 (ok:CfgOk X sz C) (ae:zbl C) {f:Nat} (hf:C.prim f=true) {args:List (PV K)} {st:StV K} {k:PV K->StV K->Prop} (h:zoh (ql X tbl inv meas) args st k) {base H:Heap} {w:Wd} {A:List V}
  (R:RelH X sz C base st H w) (ra:qj X sz w args A):qc5 C.E (.func f) A H λv H'=>∃ p o w',k p o/\o.tmps=st.tmps/\o.n=st.n/\RelH X sz C base o H' w'/\Le w w'/\Rep X sz w' p v:=by
 unfold zoh at h;split at h
 .rename_i id off lim;obtain ⟨a,us,rfl,r1,r2⟩:=ra.zt;have:=r2.ka;subst this;obtain ⟨cs,af,h1⟩:=qa h;clear h;obtain ⟨ax,ag,A,e,ex,hg,_,hr⟩:=R.cells id _ (qfc af);have hr:qj X sz w cs A:=hr;cases r1 with
  | cell ay=>
   obtain ⟨hb,B⟩:=cond_prop h1;clear h1;simp only [zA,Nat.ble_eq] at hb;obtain ⟨ah,ai⟩:=hb;have I:lim<=A.length:=by rw [<-hr.1];exact ai
   obtain ⟨J,aj⟩:=ae f hf H (w.c id) off lim A e ex R.wf hg ah I;have x:∀ q,cs[off+1]? = some q->∃ u,A[off+1]? = some u/\Rep X sz w q u:=λq L=>hr.get L;split at B
   .rename_i L;obtain ⟨u,M,ru⟩:=x _ L;cases ru;refine (J M).mono λv H' N=>?_;obtain ⟨rfl,rfl⟩:=N;exact ⟨_,st,w,B,rfl,rfl,R,.refl w,.str⟩
   .rename_i c l i s L;split at B
    .rename_i hc;subst hc;obtain ⟨ho,h3,h4⟩:=cond_prop B;clear B;simp only [zA] at ho;have O:=zE ho.2;have d:=qzl R.owns ho.1;obtain ⟨u,M,ru⟩:=x _ L;have P:look st.owns i=some s:=by rw [<-R.owns];exact d
     have D:sz 0=1:=by rw [<-ok.len 0 (X.dflt 0),ok.u8];rfl
     obtain ⟨ak,ro⟩:=ru.zpf;have al:=ro.2.2.2 O;have r:=ro.2.2.1 d;rcases j3 ru with ⟨rfl,rfl⟩ | ⟨nm,gn,o2,z,cap,cells,el,gen,j,Q,eb,rfl,m,S,az,y,T,au,an,_⟩
     .refine (J M).mono λv H' N=>?_;obtain ⟨rfl,rfl⟩:=N;have e0:(ql X tbl inv meas).bstr ([]:List (K 0))=[]:=zld (X:=X);have U:k (.str ((ql X tbl inv meas).bstr ([]:List (K 0)))) {st with owns:=qb2 st.owns i}:=h4;rw [e0] at U;obtain ⟨w',R',F⟩:=zb1 ok R i;exact ⟨_,_,w',U,rfl,rfl,R',F,.str⟩
     .obtain ⟨rfl,rfl,W⟩:=al;simp only [qws] at r;obtain rfl:z=sz 0:=by
       rcases T.2 with h | ⟨_,_,h⟩
       .exact h
       .cases h
      rcases r with r | ⟨_,Y,ab,aA,ad,av,aB,Z,a1,aw,ao⟩
      .cases r
      .rw [m] at Z;cases Z;rw [R.g] at m;rw [D] at a1 y M;obtain ⟨G,aq,ar⟩:=R.eta i s nm P Y;obtain ⟨a6,b,a7⟩:=qiy ok.len R.g ak (by rw [D];exact Nat.one_pos);rw [<-qvy,qqj T] at b;rw [D] at b;have a8:a6=cells:=by
        have b1:Nat.ble j gn=true:=by rw [Nat.ble_eq];exact S
        have b2:Nat.ble (0+l.length * 1) (0+l.length * 1)=true:=by rw [Nat.ble_eq];exact zN _
        have b3:Nat.ble (0+l.length * 1) cells.length=true:=by rw [Nat.ble_eq];exact y
        simp only [k7,V.qgz,qcm,Nat.beq_refl,zO,jb,m,b1,b2,b3,Bool.and_self,zM,zP,true_and] at b;obtain ⟨_,b,rfl⟩:=b;obtain ⟨rfl,_⟩:=qnr b;rw [List.drop_zero,List.take_of_length_le];omega
       subst a8;have t:=qov ok a7;have aa:l.length<=140737488355328:=by
        have:(l.length:Int)<=140737488355328:=h3;omega
       refine (aj nm gn l.length a6 el j Q eb _ M m (by omega) S W aa (by rw [<-R.ce];exact ao) t a7.qu0 (by rw [R.keeps.ro];exact zR R.rob.1 G) (λhe=>ar (by rw [he];exact ag))).mono λv H' N=>?_;obtain ⟨rfl,rfl⟩:=N;obtain ⟨w',R',F⟩:=zc7 ok R P Y (max Q l.length) m;exact ⟨_,_,w',h4,rfl,rfl,R',F,.str⟩
    .exact B.elim
   .exact B.elim
 .exact h.elim
theorem LeB.qn7 (w:Wd) (x:Nat):LeB w {w with fl:=x}:=
 have h:=LeB.refl w
 ⟨h.n,h.mem,h.c,h.nu,h.o1,h.o2,h.o3,h.ce,h.cl,h.nx,h.b,h.Mu,h.lp,h.gm⟩
theorem RelH.qn7 (ok:CfgOk X sz C) (R:RelH X sz C base st H w) (x:Nat):RelH X sz C base st H {w with fl:=x}:=
 ⟨R.wf,R.rob,R.g,R.nx,R.b,R.Mlt,R.n,R.one,R.keeps,R.cl,R.cinj,λid ct h=>by
  obtain ⟨a,b,c⟩:=R.cells id ct h;exact ⟨a,b,c.qem ok.len (LeB.qn7 w x) (by rw [R.n];exact (R.cl id a).1)⟩,R.owns,R.ownn,R.eta,R.einj,R.ce,R.known,λgn ps h=>by
  obtain ⟨e,d,f,fl,fz,ex',i,j,k⟩:=R.globs gn ps h;exact ⟨e,d,f,fl,fz,ex',i,j,k.qem ok.len (LeB.qn7 w x)⟩⟩
theorem qv9 (ok:CfgOk X sz C) {F:Nat}:∀ {t:List Dfr} {H:Heap} {w:Wd},RelH X sz C base st H w->(∀ x ∈ t,∃ m,x=.mark m/\base.next<=m/\F<=m/\w.g m=some .dfr)->t.Nodup->
  ∃ f w2,qed t H=some f/\RelH X sz C base st f w2/\LeB w w2/\w2.fl=w.fl/\∀ m,m<F->w2.g m=w.g m
 | [],H,w,R,_,_=>⟨H,w,rfl,R,.refl w,rfl,λ_ _=>rfl⟩
 | x::t,H,w,R,K,l=>by
  obtain ⟨m,rfl,L,hF,v⟩:=K x zC;rw [List.nodup_cons] at l;let H1:=H.put m .gone;let w1:Wd:={w with g:=H1.get};have d:H.get m=some .dfr:=by rw [<-R.g];exact v
  have a:∀ nm,nm≠m->H1.get nm=H.get nm:=λnm l=>qb8 l;have O:m<H.next:=by
   by_cases h:m<H.next
   .exact h
   .rw [R.wf m (by omega)] at d;cases d
  have p:LeB w w1:=by
   refine ⟨zN _,λnm cs e gen y z ex h A=>⟨A,[],gen,z,ex,?_⟩,λ_ _=>rfl,λ_ _=>rfl,λ_ _ h=>h,λ_ _ _ _ h r=>(by rw [h] at r;cases r;exact zN _),λi s hi ho _=>⟨rfl,λnm l B=>?_⟩,rfl,λ_ _=>.rfl,zN _,rfl,λ_ _ h=>h,λ_ _=>rfl,λid _ _ cs e gen fl fz ex h=>?_⟩
   .rw [zJ];show H1.get nm=_;rw [a nm (by intro j;subst j;rw [v] at h;cases h),<-R.g];exact h
   .show H1.get nm=w.g nm;rw [a nm (by intro j;subst j;exact B v),R.g]
   .rw [R.g] at h;exact ⟨_,_,_,_,_,(a _ (by intro j;rw [j,d] at h;cases h)).trans h,zN _,λ_=>rfl⟩
  have P:RelH X sz C base st H1 w1:=by
   refine ⟨λn l=>?_,R.rob,rfl,R.nx,R.b,R.Mlt,R.n,R.one,R.keeps.put L _,R.cl,R.cinj,λk q r=>?_,R.owns,R.ownn,R.eta,R.einj,R.ce,R.known,λgn q r=>?_⟩
   .have D:H.next<=n:=l
    rw [a n (by omega)];exact R.wf n D
   .obtain ⟨u,E,G⟩:=R.cells k q r;refine ⟨u,E,?_⟩;show qbu X sz w1 k _ (H1.get (w.c k));rw [a _ (by intro j;rw [j] at G;exact G.some.1 d)];exact G.qem ok.len p (by rw [R.n];exact (R.cl k u).1)
   .obtain ⟨Q,I,S,fl,fz,ex',u,E,T⟩:=R.globs gn q r;exact ⟨Q,I,S,fl,fz,ex',u,E,T.qem ok.len p⟩
  obtain ⟨f,w2,U,V,W,Y,Z⟩:=qv9 ok P (λx M=>by
   obtain ⟨o,N,h2,h3,h4⟩:=K x (zG _ M);refine ⟨o,N,h2,h3,?_⟩;show H1.get o=_;rw [a o (by intro j;subst j;subst N;exact l.1 M),<-R.g];exact h4) l.2
  refine ⟨f,w2,?_,V,p.trans W,Y,λo J=>?_⟩
  .simp only [qed,d,qb3 (show H.ro<=m by rw [R.keeps.ro];exact zR R.rob.1 L),zB];exact U
  .rw [Z o J];show H1.get o=w.g o;rw [a o (by omega),R.g]
theorem Le.leave {w w1 w2 w3:Wd} (d:∀ n,w.nx<=n->w.g n=none) (f:Le {w with fl:=w.nx} w1) (j:LeB w1 w2) (hold:∀ m,m<w.nx->w2.g m=w1.g m) (i:Le w2 w3):Le w {w3 with fl:=w.fl}:=by
 have h:=f.toLeB.trans (j.trans i.toLeB);refine ⟨⟨h.n,h.mem,h.c,h.nu,h.o1,h.o2,h.o3,h.ce,h.cl,h.nx,h.b,h.Mu,h.lp,h.gm⟩,λm e=>?_,rfl⟩;have a:m<w.nx:=by
  by_cases a:m<w.nx
  .exact a
  .rw [d m (by omega)] at e;cases e
 refine i.df m ?_;rw [hold m a];exact f.df m e
theorem qd6 {n:Nat}:∀ {ps:List Tmp} {args:List (PV K)} {c:List V} {t d:Tree (PV K)} {lt:Tree V},qj X sz w args c->(∀ i p,t.get i=some p->∃ v,lt.get i=some v/\Rep X sz w p v)->qgm n ps args t=some d->
  ∃ b,qee n ps c lt=some b/\∀ i p,d.get i=some p->∃ v,b.get i=some v/\Rep X sz w p v
 | [],[],c,t,d,lt,r,e,h=>by
  have:=r.ka;subst this;simp only [qgm,zS] at h;subst h;exact ⟨lt,rfl,e⟩
 | [],_::_,c,t,d,lt,r,e,h=>by simp [qgm] at h
 | _::_,[],c,t,d,lt,r,e,h=>by simp [qgm] at h
 | p::ps,a::args,c,t,d,lt,r,e,h=>by
  obtain ⟨v,j,rfl,r1,k⟩:=r.zt;simp only [qgm] at h;rcases zu h with ⟨_,g⟩ | ⟨l,g⟩
  .cases g
  .obtain ⟨b,m,o⟩:=qd6 (lt:=lt.set p v) k (λi q f=>by
    rw [Tree.kv] at f ⊢;by_cases hi:i=p
    .rw [zT hi] at f ⊢;cases f;exact ⟨v,rfl,r1⟩
    .rw [zF hi] at f ⊢;exact e i q f) g
   refine ⟨b,?_,o⟩;simp only [qee,l,zO];exact m
theorem q7z {E:Env} {l:Nat} {args:List V} {H:Heap} {Q:V->Heap->Prop} {st:LoopState} {p:Option Code} {lt t:Tree V} {ln m:Nat} {c:List Tmp} {d e:Code} (o:H.get l=some (.loop st p lt ln c d e m)) (q:qee ln c args lt=some t)
  (h:Wp E 0 (some l) d {tmps:=t,n:=ln,defers:=[]} H λex fr H1=>ex=.normal/\∃ b,qx5 H1 l=some b/\Wp E 0 (some l) e fr b λex' fr' r=>∃ v a,qpw l (ex',fr',r)=some (.ret v,a)/\Q v a):qc5 E (.round l) args H Q:=by
 obtain ⟨⟨ex,fr,H1⟩,⟨s,u⟩,f,b,i,⟨x,⟨w,j⟩,v,a,y,z⟩⟩:=h;simp only at f;subst f;refine ⟨v,a,⟨max s w+1,λk A=>?_⟩,z⟩;obtain ⟨k,rfl⟩:∃ g,k=g+1:=⟨k-1,by omega⟩;simp only [qax,o,q,zB,u k (by omega)];simp only at i;rw [i];simp only [zB];simp only at j;rw [j k (by omega)];simp only [zB];exact y
theorem q2a (ok:CfgOk X sz C) (ok2:CfgOk2 X C) (tok:qjh X sz C tbl) (N:qoe X sz C inl) {id:Nat} {args:List (PV K)} {st:StV K} {k:PV K->StV K->Prop} (h:q7a (ql X tbl inv meas) C inl id args st k) {base H:Heap} {w:Wd} {vs:List V}
  (R:RelH X sz C base st H w) (ra:qj X sz w args vs):qc5 C.E (.round (w.c id)) vs H λv H'=>∃ p d w',k p d/\d.tmps=st.tmps/\d.n=st.n/\RelH X sz C base d H' w'/\Le w w'/\Rep X sz w' p v:=by
 unfold q7a at h;split at h
 .rename_i r hl;split at h
  .rename_i hm;obtain ⟨t,ht,h1⟩:=qa h;obtain ⟨a8,hM,g,p1,p2,p3,p4,p5,p6,p7⟩:=R.cells id _ hl;obtain ⟨aa,ab,ad⟩:=R.cl id a8;have e:id<w.n:=by rw [R.n];exact aa
   rw [hm] at p2;let w0:Wd:={w with fl:=w.nx};have R0:RelH X sz C base st H w0:=R.qn7 ok w.nx;have ae:qj X sz w0 args vs:=ra.qem ok.len (LeB.qn7 w w.nx);rw [p3,p4] at ht;obtain ⟨O,e1,e2⟩:=qd6 (lt:=g.lt) ae (λi p L=>by
    obtain ⟨v,a,b⟩:=p7 i p L;exact ⟨v,a,b.qem ok.len (LeB.qn7 w w.nx)⟩) ht
   have F0:Rel X sz C base {st with tmps:=t,n:=r.n} {tmps:=O,n:=g.ln,defers:=[]} H w0:=⟨R0.alike rfl rfl rfl rfl,e2,p3.symm,.nil (zN _)⟩;have P:q7j w0 (some id) (some (w.c id)):=⟨e,rfl⟩;refine q7z (l:=w.c id) (t:=O) (by rw [p2];rfl) e1 ?_;rw [<-p5];refine (kg (fnE:=0) ok ok2 tok N P F0 h1).mono λex af H1 hA=>?_;obtain ⟨_,st1,w1,B,G,q⟩:=hA;cases ex with
   | normal=>
    refine ⟨rfl,?_⟩;simp only at B;split at B
    .rename_i r1 Q;split at B
     .rename_i ag;obtain ⟨S,ak,g1,q1,q2,_⟩:=G.h.cells id _ Q;have D:w1.c id=w.c id:=q.c id e;have ah:g1=g:=by
       have:w1.lp id=w.lp id:=q.lp id e;rw [this,p1] at q1;exact (Option.some.inj q1).symm
      subst ah;rw [D,ag] at q2;have T:H1.ro<=w.c id:=by rw [G.h.keeps.ro,<-D];exact zR G.h.rob.1 (G.h.cl _ S).2.2
      have U:∀ i p,r.tmps.get i=some p->∃ v,g1.lt.get i=some v/\Rep X sz w1 p v:=λi p L=>by
       obtain ⟨v,a,b⟩:=p7 i p L;exact ⟨v,a,(b.qem ok.len (LeB.qn7 w w.nx)).mono ok.len q⟩
      obtain ⟨w2,R2,s⟩:=qih ok G.h (ct':=.lp {r with mode:=.busy}) (o:=qfq g1 .busy) Q (λ_ _ _ _ _ _ h=>by rw [D,q2] at h;cases h) ⟨g1,q1,rfl,p3,p4,p5,p6,U⟩;rw [D] at R2;have y:=q.trans s;refine ⟨H1.put (w.c id) (qfq g1 .busy),?_,?_⟩
      .simp only [qx5,q2,qfq];exact qb3 T
      have F2:Rel X sz C base {st1 with cells:=qg4 st1.cells id (.lp {r with mode:=.busy})} af (H1.put (w.c id) (qfq g1 .busy)) w2:=⟨R2,λi p L=>by
       obtain ⟨x,a,b⟩:=G.f i p L;exact ⟨x,a,b.mono ok.len s⟩,G.n,G.ds.mono s⟩
      rw [<-p6];refine (kg (fnE:=0) ok ok2 tok N (P.mono y) F2 B).mono λex W M hB=>?_;obtain ⟨_,st3,w3,u,Y,I⟩:=hB;split at u
      .rename_i r3 Z;obtain ⟨a1,al,z,u1,u2,_⟩:=Y.h.cells id _ Z;have m:=y.trans I;have F:w3.c id=w.c id:=m.c id e;have ai:z=g1:=by
        have:w3.lp id=w.lp id:=m.lp id e;rw [this,p1] at u1;exact (Option.some.inj u1).symm
       subst ai;rw [F] at u2;have J:M.ro<=w.c id:=by rw [Y.h.keeps.ro,<-F];exact zR Y.h.rob.1 (Y.h.cl _ a1).2.2
       have aj:∀ i p,r.tmps.get i=some p->∃ v,z.lt.get i=some v/\Rep X sz w3 p v:=λi p L=>by
        obtain ⟨v,a,b⟩:=U i p L;exact ⟨v,a,(b.mono ok.len s).mono ok.len I⟩
       have A:∀ (j:Option Code),qh4 M (w.c id) j=some (.ret (.bool j.isNone),M.put (w.c id) (.loop (if j.isNone then .ready else .done) j z.lt z.ln z.lp z.la z.lb z.ld)):=by
        intro j;simp only [qh4,u2];cases r3.mode with
        | done x=>cases x<;>simp only [qfq,qb3 J,zH]
        | _=>simp only [qfq,qb3 J,zH]
       have fin:∀ (md:LMode) (b:Bool) (ex:Ex),qpw (w.c id) (ex,W,M)=some (.ret (.bool b),M.put (w.c id) (qfq z md))->k (.lit b) {st3 with cells:=qg4 st3.cells id (.lp {r with mode:=md}),tmps:=st.tmps,n:=st.n}->
         ∃ v H4,qpw (w.c id) (ex,W,M)=some (.ret v,H4)/\∃ p d w',k p d/\d.tmps=st.tmps/\d.n=st.n/\RelH X sz C base d H4 w'/\Le w w'/\Rep X sz w' p v:=by
        intro md b ex he B;obtain ⟨w4,R4,a6⟩:=qih ok Y.h (ct':=.lp {r with mode:=md}) (o:=qfq z md) Z (λ_ _ _ _ _ _ h=>by rw [F,u2] at h;unfold qfq at h;split at h<;>cases h) ⟨z,u1,rfl,p3,p4,p5,p6,aj⟩;rw [F] at R4;have a7:Le w {w4 with fl:=w.fl}:=Le.leave (λn hn=>by rw [R.g];exact R.wf n (by rw [<-R.nx];exact hn)) (m.trans a6) (.refl w4) (λ_ _=>rfl) (.refl w4);exact ⟨_,_,he,_,_,{w4 with fl:=w.fl},B,rfl,rfl,(R4.qn7 ok w.fl).alike rfl rfl rfl rfl,a7,.lit⟩
       cases ex with
       | normal=>exact fin .ready true .normal (A none) u
       | ret=>exact fin (.done none) false .ret (A (some .ret)) u
       | exit i=>exact fin (.done (some i)) false (.exit i) (A (some (.exit i))) u
       | _=>exact (show False from u).elim
      .exact (show False from u).elim
     .exact (show False from B).elim
    .exact (show False from B).elim
   | _=>exact (show False from B).elim
  .exact (show False from h).elim
 .exact (show False from h).elim
theorem qpk {α:Type} {p:Nat->Bool}:∀ {l:List (Nat×α)} {n:Nat} {a:α},look (l.filter λx=>p x.1) n=some a->look l n=some a
 | [],_,_,h=>by cases h
 | (i,b)::l,n,a,h=>by
  rw [List.filter_cons] at h;by_cases d:i=n
  .subst d;cases c:p i with
   | true=>simp only [c,if_true,look,Nat.beq_refl,zO] at h ⊢;exact h
   | false=>
    exfalso;simp only [c,Bool.false_eq_true,if_false] at h;have e:=qfz h;rw [List.mem_filter] at e;have:=e.2;rw [c] at this;cases this
  .have f:Nat.beq i n=false:=by rw [<-Bool.not_eq_true,Nat.beq_eq];exact d
   simp only [look,f,zQ];cases c:p i with
   | true=>simp only [c,if_true,look,f,zQ] at h;exact qpk h
   | false=>simp only [c,Bool.false_eq_true,if_false] at h;exact qpk h
theorem zl3 {lo:Nat} {a:List (PV K)} {cells:List (Nat×ZT K)} {id:Nat} {ct:ZT K} (h:look (gcC lo a cells) id=some ct):look cells id=some ct:=by
 unfold gcC at h;rw [cond_eq_ite] at h;split at h
 .exact h
 .exact qpk (p:=λi=>!Nat.ble lo i || (zb7 lo cells 3 ((qto a++cells.flatMap λx=>bif Nat.ble lo x.1 then [] else x.2.refs).filter (Nat.ble lo))).any (Nat.beq i)) h
theorem RelH.zx5 (R:RelH X sz C base st H w) {cs:List (Nat×ZT K)} (h:∀ {id ct},look cs id=some ct->look st.cells id=some ct):RelH X sz C base {st with cells:=cs} H w:=
 ⟨R.wf,R.rob,R.g,R.nx,R.b,R.Mlt,R.n,R.one,R.keeps,R.cl,R.cinj,λid ct a=>R.cells id ct (h a),R.owns,R.ownn,R.eta,R.einj,R.ce,R.known,R.globs⟩
theorem qt1 (ok:CfgOk X sz C) (ok2:CfgOk2 X C) (tok:qjh X sz C tbl) (Q:qx C) (B:qoe X sz C inl) {f:Nat} {args:List (PV K)} {st:StV K} {k:PV K->StV K->Prop} (h:q69 (ql X tbl inv meas) C inl f args st k) {base H:Heap} {w:Wd} {d:List V}
  (R:RelH X sz C base st H w) (y:qj X sz w args d):qc5 C.E (.func f) d H λv H'=>∃ p a w',k p a/\a.tmps=st.tmps/\a.n=st.n/\RelH X sz C base a H' w'/\Le w w'/\Rep X sz w' p v:=by
 unfold q69 at h;cases e:C.ans f with
 | true=>rw [e] at h;exact absurd h id
 | false=>
  rw [e] at h;simp only [zQ] at h;have S:=Q.1 f e;cases b:C.prim f with
  | true=>
   rw [b] at h;simp only [zO] at h;exact q93 ok Q.2 b h R y
  | false=>
  rw [b] at h;simp only [zQ] at h;split at h
  .rename_i z l;split at h
   .rename_i c D;have G:qj X sz {w with fl:=w.nx} args d:=y.qem ok.len (LeB.qn7 w w.nx);have W:Rel X sz C base {st with tmps:=Tree.ofList args,n:=max args.length z.ntmps} {tmps:=qgs d,n:=max d.length z.ntmps,defers:=[]} H {w with fl:=w.nx}:=by
     refine ⟨(R.qn7 ok w.nx).alike rfl rfl rfl rfl,λi p I=>?_,by rw [y.1],.nil (zN _)⟩;have o:(Tree.ofList args).get i=some p:=I;rw [Tree.qrq] at o;obtain ⟨v,J,L⟩:=G.get o;exact ⟨v,q2v J,L⟩
    refine qx9 S l D ((kg (rd:=none) (round:=none) ok ok2 tok B trivial W h).mono λex fr' H' Y=>?_);obtain ⟨_,st1,w1,M,A,q⟩:=Y;have r:onS False (qi6 (ql X tbl inv meas) C st1 z.results) (λd=>k (zck d) {st1 with tmps:=st.tmps,n:=st.n,cells:=gcC st.next d st1.cells})->∃ j,qed fr'.defers H'=some j/\∃ d,jo C.E fr' j z.results=some d/\∃ p a w',k p a/\a.tmps=st.tmps/\a.n=st.n/\RelH X sz C base a j w'/\Le w w'/\Rep X sz w' p (oneOf d):=by
     intro N;obtain ⟨Z,O,N⟩:=qa N;obtain ⟨j,w2,P,T,hB,a6,s⟩:=qv9 ok A.h (F:=w.nx) (λx hx=>by
      obtain ⟨m,a1,a2,U,a4⟩:=A.ds.1 x hx;exact ⟨m,a1,a2,by rw [q.fl] at U;exact U,a4⟩) A.ds.2.1
     obtain ⟨us,e1,e2⟩:=qld (fr:=fr') T (λi p I=>by
      obtain ⟨v,J,L⟩:=A.f i p I;exact ⟨v,J,L.qem ok.len hB⟩) O
     have t:Le w {w2 with fl:=w.fl}:=Le.leave (λn hn=>by rw [R.g];exact R.wf n (by rw [<-R.nx];exact hn)) q hB s (.refl w2);exact ⟨j,P,us,e1,_,_,{w2 with fl:=w.fl},N,rfl,rfl,((T.qn7 ok w.fl).zx5 (cs:=gcC st.next Z st1.cells) zl3).alike rfl rfl rfl rfl,t,zil (e2.qem ok.len (LeB.qn7 w2 w.fl))⟩
    cases ex with
    | normal=>exact ⟨.inl rfl,r M⟩
    | ret=>exact ⟨.inr rfl,r M⟩
    | _=>exact absurd M id
   .rename_i D;split at h
    .rename_i x u;obtain ⟨v,a7,rfl,r1,r2⟩:=y.zt;have:=r2.ka;subst this;exact q2q S l D (v:=v) (by simp only [u,zhu]) ⟨x,st,w,h,rfl,rfl,R,.refl w,r1⟩
    .exact absurd h id
  .exact absurd h id
theorem q1d (ok:CfgOk X sz C) (ok2:CfgOk2 X C) (tok:qjh X sz C tbl) (a:qx C):∀ n,qoe X sz C (zgl (ql X tbl inv meas) C n)
 | 0=>λg args st k h=>absurd h id
 | n+1=>λt args st k h base H w c R b=>match t,h with
  | .func f,h=>qt1 ok ok2 tok a (q1d ok ok2 tok a n) h R b
  | .round id,h=>q2a ok ok2 tok (q1d ok ok2 tok a n) h R b
theorem qka:∀ {ps rs:List (PV K)} {obs:List Prop},qno (ql X tbl inv meas) st ps rs=some obs->∀ j i,(j,i) ∈ qab ps rs->∃ s,look st.owns i=some s
 | [],rs,obs,h,j,i,d=>by cases rs<;>simp [qab] at d
 | _::_,[],obs,h,j,i,d=>by simp [qno] at h
 | p::ps,r::rs,obs,h,j,i,d=>by
  simp only [qno] at h;obtain ⟨x,k,m⟩:=zI.1 h;obtain ⟨y,n,_⟩:=zM.1 m;have e:=qka n j i;cases p with
  | list c l o=>
   cases o with
   | none=>cases r<;>exact e d
   | some a=>
    obtain ⟨u,v⟩:=a;cases r with
    | list w z q=>
     cases q with
     | none=>exact e d
     | some b=>
      obtain ⟨A,B⟩:=b;simp only [qab,zD] at d;rcases d with d | d
      .cases d;simp only [meets,Option.isSome_some,Bool.true_and] at k;rcases zu k with ⟨f,_⟩ | ⟨_,f⟩
       .simp only [Bool.not_eq_false',qek] at f;split at f
        .rename_i t g;exact ⟨t,g⟩
        .cases f
       .cases f
      .exact e d
    | _=>exact e d
  | _=>cases r<;>exact e d
theorem qtm:∀ {ps rs:List (PV K)},(qab ps rs).map (·.2)=qk9 ps rs
 | [],rs=>by cases rs<;>simp [qab,qk9]
 | p::ps,[]=>by cases p<;>simp [qab,qk9]
 | p::ps,r::rs=>by
  have d:=qtm (ps:=ps) (rs:=rs);cases p with
  | list c l o=>
   cases o with
   | none=>cases r<;>simp only [qab,qk9,d]
   | some a=>
    cases r with
    | list f g e=>
     cases e with
     | none=>simp only [qab,qk9,d]
     | some b=>simp only [qab,qk9,List.map_cons,d]
    | _=>simp only [qab,qk9,d]
  | _=>cases r<;>simp only [qab,qk9,d]
theorem qtl:∀ {ps rs:List (PV K)},((qab ps rs).map (·.1)).Sublist (qb6 rs)
 | [],rs=>by cases rs<;>simp [qab]
 | p::ps,[]=>by cases p<;>simp [qab]
 | p::ps,r::rs=>by
  have d:=qtl (ps:=ps) (rs:=rs);cases r with
  | list f g e=>
   cases e with
   | none=>cases p with
    | list c l o=>cases o<;>exact d
    | _=>exact d
   | some b=>
    cases p with
    | list c l o=>
     cases o with
     | none=>exact d.trans (List.sublist_cons_self _ _)
     | some a=>exact d.cons_cons _
    | _=>exact d.trans (List.sublist_cons_self _ _)
  | _=>cases p with
   | list c l o=>cases o<;>exact d
   | _=>exact d
theorem qv7:∀ {l:List (Nat×Nat)} {j i:Nat},(l.map (·.1)).Nodup->(j,i) ∈ l->look l j=some i
 | [],j,i,_,h=>by cases h
 | (a,b)::l,j,i,c,h=>by
  simp only [List.map_cons,List.nodup_cons] at c;simp only [look,cond_eq_ite,Nat.beq_eq];rcases zD.1 h with h | h
  .cases h;rw [zT rfl]
  .rw [zF]
   .exact qv7 c.2 h
   .intro d;subst d;exact c.1 (List.mem_map.2 ⟨_,h,rfl⟩)
theorem qti (ok2:CfgOk2 X C) (R:RelH X sz C base st H w) {w':Wd} (hg:w'.g=w.g) (N:∀ nm x,w.g nm=some x->¬ w.M nm->¬ w'.M nm) (O:w'.ce=w.ce) (ho:∀ i,w'.owns i=some 0):∀ {ps rs:List (PV K)} {obs:List Prop} {L:List V},
  qno (ql X tbl inv meas) st ps rs=some obs->(∀ q ∈ obs,q)->qj X sz w ps L->(∀ r ∈ rs,RT r)->(∀ j i,(j,i) ∈ qab ps rs->w'.eta j=w.eta i)->(∀ j ∈ qb6 rs,j<w'.n)->qj X sz w' rs L
 | [],[],obs,L,h,P,r,Q,S,T=>by rw [r.ka];exact .nil
 | [],_::_,obs,L,h,P,r,Q,S,T=>by simp [qno] at h
 | _::_,[],obs,L,h,P,r,Q,S,T=>by simp [qno] at h
 | p::ps,q::rs,obs,L,h,P,r,Q,S,T=>by
  obtain ⟨v,ax,rfl,r1,r2⟩:=r.zt;simp only [qno] at h;obtain ⟨x,f,h2⟩:=zI.1 h;obtain ⟨y,h3,rfl⟩:=zM.1 h2;have F:∀ j i,(j,i) ∈ qab ps rs->(j,i) ∈ qab (p::ps) (q::rs):=by
   intro j i t;cases p with
   | list c l o=>
    cases o with
    | none=>cases q<;>exact t
    | some a=>
     cases q with
     | list c' A o'=>
      cases o' with
      | none=>exact t
      | some b=>exact zG _ t
     | _=>exact t
   | _=>cases q<;>exact t
  have G:∀ j ∈ qb6 rs,j ∈ qb6 (q::rs):=by
   intro j t;cases q with
   | list c' A o'=>
    cases o' with
    | none=>exact t
    | some b=>exact zG _ t
   | _=>exact t
  have ih:=qti ok2 R hg N O ho h3 (λq a8=>P q (List.mem_append_right _ a8)) r2 (λr hr=>Q r (zG _ hr)) (λj i t=>S j i (F j i t)) (λj hj=>T j (G j hj));refine .cons ?_ ih;have U:∀ a ∈ x,a:=λa ha=>P a (List.mem_append_left _ ha);have hT:=Q q zC;cases q with
  | int k' A b=>
   cases p with
   | int k l a=>
    simp only [meets] at f;split at f
    .rename_i hk;subst hk;cases f;have:a=b:=U _ zC;subst this;cases r1;have:A=none:=hT;subst this;exact .int λm t=>by cases t
    .cases f
   | _=>simp [meets] at f
  | sb id neg b pt pf=>
   obtain ⟨t1,t2,t3⟩:id=0/\(pt↔b=true)/\(pf↔b=false):=hT;have:v=.bool b:=by
    cases p with
    | lit a=>
     simp only [meets,zS] at f;subst f;have:a=b:=U _ zC;subst this;cases r1;rfl
    | sb ay aq a az aA=>
     simp only [meets,zS] at f;subst f;have:a=b:=U _ zC;subst this;cases r1;rfl
    | _=>simp [meets] at f
   subst this;exact .sb t2 t3 λh0=>absurd t1 h0
  | str b=>
   cases p with
   | str a=>
    simp only [meets,zS] at f;subst f;have:a=b:=U _ zC;subst this;cases r1;exact .str
   | _=>simp [meets] at f
  | list c l o=>
   have t:∃ A,asL (ql X tbl inv meas) c p=some A/\A=l/\(o.isSome=true->qek st p=true):=by
    have e:meets (ql X tbl inv meas) st p (.list c l o)=(bif o.isSome&&!qek st p then none else (asL (ql X tbl inv meas) c p).map λA=>[(ql X tbl inv meas).eqL c A l]):=by
     cases p<;>rfl
    rw [e] at f;rcases zu f with ⟨hb,h4⟩ | ⟨_,hb⟩
    .obtain ⟨A,B,rfl⟩:=zM.1 h4;refine ⟨A,B,U _ zC,λhs=>?_⟩;rw [hs] at hb;simpa using hb
    .cases hb
   obtain ⟨A,B,rfl,d⟩:=t;have rl:=qeb r1 B;have rp:=rl.plain ok2.plain hg N .list;cases o with
   | none=>exact rp
   | some b=>
    obtain ⟨j,s⟩:=b;have aa:s=0:=hT;subst aa;have d:=d rfl;have hj:j<w'.n:=T j (by simp [qb6]);have E:∀ W,w'.owns j=some W->0<=W:=λ_ _=>Nat.zero_le _;rcases j3 rp with ⟨rfl,rfl⟩ | ⟨nm,gn,off,z,cap,cs,e,gen,ab,aB,ex,rfl,ad,hf,ae,Y,hz,Z,I,_⟩
    .exact .nlist ⟨hj,E,λ_=>trivial,λ_=>trivial⟩
    .refine .list ad hf ae rfl Y hz Z I ⟨hj,E,λ_=>?_,λh=>by cases h⟩;cases p with
     | list c2 l2 o2=>
      cases o2 with
      | none=>simp [qek] at d
      | some a=>
       obtain ⟨i,s2⟩:=a;have af:c2=c:=by
        unfold asL at B;simp only at B;split at B
        .assumption
        .cases B
       subst af;have ag:look st.owns i=some s2:=by
        simp only [qek] at d;split at d
        .rename_i s3 ah;rw [ah,zE d]
        .cases d
       have aC:l2.length=A.length:=by
        unfold asL at B;simp only at B;split at B
        .cases B;rfl
        .cases B
       have u:qws w sz i c2 (.slice nm gn off A.length z cap):=by
        rcases j3 r1 with ⟨_,hh⟩ | ⟨aD,aE,ar,z3,au,aF,e3,av,a7,aw,aG,hh,_,_,_,_,_,_,_,ai⟩
        .cases hh
        .rw [hh];exact ai.2.2.1 (by rw [R.owns];exact ag)
       have a1:w'.eta j=w.eta i:=S j i (by simp [qab]);simp only [qws] at u ⊢;rcases u with hc | ⟨aj,ak,al,e4,D,a6,an,ao,J⟩
       .exact .inl hc
       .exact .inr ⟨aj,by rw [a1];exact ak,al,e4,D,a6,an,by rw [hg];exact ao,J.1,J.2.1,by rw [O];exact J.2.2⟩
     | nils=>cases r1
     | _=>simp [qek] at d
  | _=>cases p<;>simp [meets] at f
theorem zhw {ps:List (PV K)} {a:List V} (r:qj X sz w ps a):qj X sz w (ps.flatMap P.cellsOf) (a.flatMap V.cells):=by
 induction ps generalizing a with
 | nil=>rw [r.ka];exact .nil
 | cons p ps b=>
  obtain ⟨v,c,rfl,r1,d⟩:=r.zt;exact r1.cells.append (b d)
theorem qsi {w':Wd} {p r:PV K} {v:V} {cs:List (PV K)} {us:List V} (c:qm9 p r=true) (j:Rep X sz w p v) (h:qj X sz w' (r.cellsOf++cs) (v.cells++us)):Rep X sz w' r v/\qj X sz w' cs us:=by
 have sp:∀ {a:List (PV K)} {b:List V},a.length=b.length->qj X sz w' (a++cs) (b++us)->qj X sz w' a b/\qj X sz w' cs us:=by
  intro a b d k;have f:=k.take a.length;have g:=k.drop a.length;rw [List.take_left' rfl] at f;rw [List.drop_left' rfl] at g;rw [d,List.take_left' rfl] at f;rw [d,List.drop_left' rfl] at g;exact ⟨f,g⟩
 cases p with
 | agg a=>
  obtain ⟨n,rfl,o⟩:=j.qf4;cases r with
  | agg b=>
   simp only [qm9] at c;have d:=zE c;obtain ⟨e,i⟩:=sp (a:=b) (b:=n) (by rw [<-d,o.1]) h;exact ⟨.qt9 e,i⟩
  | _=>simp [qm9] at c
 | tuple a=>cases r<;>simp [qm9] at c
 | _=>
  have l:=j.cellsOf (by intro ps q;cases q);cases r with
  | agg b=>simp [qm9] at c
  | tuple b=>simp [qm9] at c
  | _=>
   obtain ⟨e,i⟩:=sp (a:=P.cellsOf _) (b:=v.cells) (by rw [l.2];rfl) h;rw [l.2] at e;obtain ⟨u,s,m,t,x⟩:=qj.zt e;simp only [List.cons.injEq] at m;obtain ⟨rfl,rfl⟩:=m;exact ⟨t,i⟩
theorem qxy {w':Wd}:∀ {ps rs:List (PV K)} {a:List V},qrf ps rs=true->qj X sz w ps a->qj X sz w' (rs.flatMap P.cellsOf) (a.flatMap V.cells)->qj X sz w' rs a
 | [],[],a,_,r,_=>by rw [r.ka];exact .nil
 | [],_::_,a,h,_,_=>by simp [qrf] at h
 | _::_,[],a,h,_,_=>by simp [qrf] at h
 | p::ps,q::rs,a,h,r,b=>by
  obtain ⟨v,c,rfl,r1,d⟩:=r.zt;simp only [qrf,zA] at h;rw [List.flatMap_cons,List.flatMap_cons] at b;obtain ⟨e,f⟩:=qsi h.1 r1 b;exact .cons e (qxy h.2 d f)
theorem q21 {p:PV K} (h:∀ ps,p≠.tuple ps):p.flat=p.cellsOf:=by
 cases p with
 | tuple ps=>exact absurd rfl (h ps)
 | _=>rfl
theorem zjc {w':Wd} {p r:PV K} {v:V} (c:zf8 p r=true) (e:Rep X sz w p v) (h:∀ us,qj X sz w p.flat us->qj X sz w' r.flat us):Rep X sz w' r v:=by
 by_cases d:∃ ps,p=.tuple ps
 .obtain ⟨ps,rfl⟩:=d;obtain ⟨j,rfl,g⟩:=e.qil;by_cases b:∃ rs,r=.tuple rs
  .obtain ⟨rs,rfl⟩:=b;have a:qrf ps rs=true:=c;exact .tuple' (qxy a g (h _ (zhw g)))
  .exfalso;cases r with
   | tuple rs=>exact b ⟨rs,rfl⟩
   | _=>cases c
 .by_cases b:∃ rs,r=.tuple rs
  .exfalso;obtain ⟨rs,rfl⟩:=b;cases p with
   | tuple ps=>exact d ⟨ps,rfl⟩
   | _=>cases c
  .have a:qm9 p r=true:=by
    cases p with
    | tuple ps=>exact absurd ⟨ps,rfl⟩ d
    | _=>cases r with
     | tuple rs=>exact absurd ⟨rs,rfl⟩ b
     | _=>exact c
   have i:=h v.cells (by rw [q21 (λps f=>d ⟨ps,f⟩)];exact e.cells);rw [q21 (λrs f=>b ⟨rs,f⟩)] at i;exact (qsi (cs:=[]) (us:=[]) a e (by simpa using i)).1
theorem q23 (ok:CfgOk X sz C) (ok2:CfgOk2 X C) (tok:qjh X sz C tbl) (hq:qx C) {depth f:Nat} {args:List (PV K)} {r:PV K} (a8:∀ p ∈ args,Plain p) (hT:∀ p ∈ r.flat,RT p) (h:qad (ql X tbl inv meas) C depth f args r):qa2 X sz C f args r:=by
 intro H M vs S ra;unfold qad at h;have y:Le (wd0 H M C.codec) {wd0 H M C.codec with n:=1}:=Le.ext (w:=wd0 H M C.codec) (m:=1) (nu':=λ_=>false) (Nat.zero_le _) (λ_ _=>rfl);have N:=ra.mono ok.len y;obtain ⟨nu',g1,g2,g3⟩:=qfb ok.len N (zN 1);let w0:Wd:={wd0 H M C.codec with n:=(qap args 1).2,nu:=nu'};have z:Le (wd0 H M C.codec) w0:=Le.ext (w:=wd0 H M C.codec) (Nat.zero_le _) (λid hi=>by have:id<0:=hi;omega);have R0:RelH X sz C H {tmps:=.nil,n:=0,cells:=[],owns:=[],next:=(qap args 1).2,known:=[]} H w0:=by
  refine ⟨S.wf,S.ro,rfl,rfl,rfl,S.Mlt,rfl,g2,.refl H,λ_ O=>False.elim O,λ_ _ O=>False.elim O,λid ps d=>(by cases d),λ_=>rfl,λi s d=>(by cases d),λi s nm d=>(by cases d),λi j s s' nm d=>(by cases d),rfl,λid b d=>(by cases d),λgn ps hg=>?_⟩;obtain ⟨q0,P,e',fl,fz,ex',q1,q2,q3⟩:=S.globs gn ps hg;exact ⟨q0,P,e',fl,fz,ex',q1,q2,q3.mono ok.len z⟩
 refine (qt1 ok ok2 tok hq (q1d ok ok2 tok hq depth) h R0 g3).mono λv H' hA=>?_;obtain ⟨p,aa,w',u,_,_,R,Q,rp⟩:=hA;unfold ends at u;obtain ⟨F,u⟩:=cond_prop u;simp only [zA] at F;split at u
 .rename_i l d;obtain ⟨A,_⟩:=qsj u;let a:=qab p.flat r.flat
  have T:(a.map (·.1)).Nodup:=(qg8 F.2).sublist qtl;have B:(a.map (·.2)).Nodup:=by rw [qtm];exact qg8 F.1.2
  let w2:Wd:={g:=H'.get,M:=λn=>if n<H.next then M n else w'.M n,c:=λ_=>0,nu:=λ_=>false,n:=qo9 (qb6 r.flat),owns:=λ_=>some 0,eta:=λj=>(look a j).bind w'.eta,ce:=C.codec,cl:=λ_=>False,nx:=H'.next,b:=H.next,lp:=λ_=>none,fl:=0};have D:∀ j i,(j,i) ∈ a->w2.eta j=w'.eta i:=by
   intro j i G;show (look a j).bind w'.eta=_;rw [qv7 T G];rfl
  have k:∀ j nm,w2.eta j=some nm->∃ i,(j,i) ∈ a/\w'.eta i=some nm:=by
   intro j nm U;obtain ⟨i,o,e⟩:=zI.1 U;exact ⟨i,qfz o,e⟩
  have hold:=R.keeps;refine ⟨w2,R.keeps,R.wf,rfl,λn q=>?_,λn q=>?_,rfl,rfl,λ_=>rfl,λj nm U=>?_,λI J nm e1 e2=>?_,?_⟩
  .show (if n<H.next then M n else w'.M n)↔M n;rw [zT q]
  .have E:(if n<H.next then M n else w'.M n):=q;split at E
   .rename_i t;exact zL t R.keeps.next
   .exact R.Mlt n E
  .obtain ⟨i,o,e⟩:=k j nm U;obtain ⟨s,hs⟩:=qka d j i o;obtain ⟨V,W,b3⟩:=R.eta i s nm hs e;refine ⟨V,W,?_⟩;show ¬ (if nm<H.next then M nm else w'.M nm);rw [zF (by omega)];exact b3
  .obtain ⟨L,a1,V⟩:=k I nm e1;obtain ⟨i2,a2,W⟩:=k J nm e2;obtain ⟨s1,Y⟩:=qka d I L a1;obtain ⟨s2,Z⟩:=qka d J i2 a2;have:=R.einj L i2 s1 s2 nm Y Z V W;subst this;have a6:∀ (l:List (Nat×Nat)),(l.map (·.2)).Nodup->(I,L) ∈ l->(J,L) ∈ l->I=J:=by
    intro l
    induction l with
    | nil=>intro _ h;cases h
    | cons x l ih=>
     intro q o e;simp only [List.map_cons,List.nodup_cons] at q;rcases zD.1 o with o | o<;>rcases zD.1 e with e | e
     .rw [<-o] at e;cases e;rfl
     .exact absurd (List.mem_map.2 ⟨_,e,by rw [<-o]⟩) q.1
     .exact absurd (List.mem_map.2 ⟨_,o,by rw [<-e]⟩) q.1
     .exact ih q.2 o e
   exact a6 a B a1 a2
  .refine zjc F.1.1 rp λus a7=>?_;exact qti ok2 R (w':=w2) R.g.symm (λnm x _ G=>by
    show ¬ (if nm<H.next then M nm else w'.M nm);split
    .rename_i t;exact λh0=>G (Q.Mu nm t h0)
    .exact G) R.ce.symm (λ_=>rfl) d A a7 hT D (λj hj=>(qum _ 0).2 j hj)
 .exact absurd u id
end
end Go.E3
/- E3: TOOLS for claims: tables by lists, list elements of a claim's own types. -/
namespace Go.E3
open Go Go.E2
variable {K:Nat->Type}
def j4:List (Nat×Nat×Ann)->Nat->Nat->Option Ann
 | [],_,_=>none
 | (f,p,a)::l,g,q=>bif Nat.beq f g&&Nat.beq p q then some a else j4 l g q
abbrev Ct (K:Nat->Type):=List Sh×(List (NV K)->Option (Prop×PV K))
def ji:List (Nat×Ct K)->Tbl K
 | [],_=>none
 | (f,c)::l,g=>bif Nat.beq f g then some c else ji l g
section
variable {X:Codecs K} {sz:Nat->Nat} {C:ZC K}
def j8 (X:Codecs K) (sz:Nat->Nat) (C:ZC K) (f:Nat) (c:Ct K):Prop:=
 ∀ ns a r,c.2 ns=some (a,r)->a->∃ args,qow c.1 ns=some args/\qa2 X sz C f args r/\Form r
theorem zh:qjh X sz C (ji []):=λf a b ns c r h=>by cases h
theorem qd {f:Nat} {c:Ct K} {l:List (Nat×Ct K)} (h:j8 X sz C f c) (k:qjh X sz C (ji l)):qjh X sz C (ji ((f,c)::l)):=by
 intro g d e ns a r b i j;simp only [ji,cond_eq_ite,Nat.beq_eq] at b;split at b
 .rename_i m;subst m;cases b;exact h ns a r i j
 .exact k g d e ns a r b i j
theorem CfgOk.ann (h:CfgOk X sz C) (a:Nat->Nat->Option Ann):CfgOk X sz {C with ann:=a}:=⟨h.len,h.pos,h.size,h.inj,h.one,h.u8,h.pack⟩
theorem CfgOk2.ann (h:CfgOk2 X C) (a:Nat->Nat->Option Ann):CfgOk2 X {C with ann:=a}:=⟨h.plain,h.zf⟩
theorem qa2.ann {f:Nat} {args:List (PV K)} {r:PV K} (h:qa2 X sz C f args r) (a:Nat->Nat->Option Ann):qa2 X sz {C with ann:=a} f args r:=by
 intro H M c S d;refine (h H M c ⟨S.wf,S.ro,S.Mlt,S.globs⟩ d).mono λv H' e=>?_;obtain ⟨w',b⟩:=e;exact ⟨w',b.keeps,b.wf,b.g,b.M,b.Mlt,b.ce,b.n,b.owns,b.eta,b.einj,b.rep⟩
theorem qa2.zzn {f:Nat} {args:List (PV K)} {r:PV K} {a:Nat->Nat->Option Ann} (h:qa2 X sz {C with ann:=a} f args r):qa2 X sz C f args r:=by
 intro H M c S d;refine (h H M c ⟨S.wf,S.ro,S.Mlt,S.globs⟩ d).mono λv H' e=>?_;obtain ⟨w',b⟩:=e;exact ⟨w',b.keeps,b.wf,b.g,b.M,b.Mlt,b.ce,b.n,b.owns,b.eta,b.einj,b.rep⟩
theorem zx8 (ok:CfgOk X sz C) (ok2:CfgOk2 X C) {l:List (Nat×Ct K)} (tok:qjh X sz C (ji l)) (i:qx C) {inv:Nat->List (NV K)->Prop} {meas:Nat->List (NV K)->Nat} {ann:List (Nat×Nat×Ann)} {depth f:Nat} {args:List (PV K)} {r:PV K} {g:Prop}
  (a:∀ p ∈ args,Plain p) (j:∀ p ∈ r.flat,RT p) (b:qad (ql X (ji l) inv meas) {C with ann:=j4 ann} depth f args r=g) (h:g):qa2 X sz C f args r:=
 q23 (C:={C with ann:=j4 ann}) (tbl:=ji l) (inv:=inv) (meas:=meas) (ok.ann _) (ok2.ann _) (λf c d ns e r k m n=>by
  obtain ⟨o,q,s,t⟩:=tok f c d ns e r k m n;exact ⟨o,q,s.ann _,t⟩) i a j (b.symm ▸ h) |>.zzn
theorem jd (ok:CfgOk X sz C) (ok2:CfgOk2 X C) {l:List (Nat×Ct K)} (tok:qjh X sz C (ji l)) (s:qx C) {inv:Nat->List (NV K)->Prop} {meas:Nat->List (NV K)->Nat} {ann:List (Nat×Nat×Ann)} {depth f:Nat} {args:List (PV K)} {r:PV K} {o:Prop}
  (a:∀ p ∈ args,Plain p) (t:∀ p ∈ r.flat,RT p) (c:qad (ql X (ji l) inv meas) {C with ann:=j4 ann,born:=λ_=>false} depth f args r=o) (h:o):qa2 X sz C f args r:=by
 have q:=q23 (C:={C with ann:=j4 ann,born:=λ_=>false}) (tbl:=ji l) (inv:=inv) (meas:=meas) ⟨ok.len,ok.pos,ok.size,ok.inj,ok.one,ok.u8,ok.pack⟩ ⟨ok2.plain,ok2.zf⟩ (λf d e ns i r u w x=>by
  obtain ⟨y,z,A,B⟩:=tok f d e ns i r u w x;refine ⟨y,z,λH M j S k=>(A H M j ⟨S.wf,S.ro,S.Mlt,S.globs⟩ k).mono λv H' m=>?_,B⟩;obtain ⟨w',b⟩:=m;exact ⟨w',b.keeps,b.wf,b.g,b.M,b.Mlt,b.ce,b.n,b.owns,b.eta,b.einj,b.rep⟩) s a t (c.symm ▸ h)
 intro H M j S k;refine (q H M j ⟨S.wf,S.ro,S.Mlt,S.globs⟩ k).mono λv H' m=>?_;obtain ⟨w',b⟩:=m;exact ⟨w',b.keeps,b.wf,b.g,b.M,b.Mlt,b.ce,b.n,b.owns,b.eta,b.einj,b.rep⟩
def q6l:PV K->Bool
 | .int .. | .lit _ | .str _ | .nils | .nilp | .nilf | .nili=>true
 | .sb 0 _ _ _ _=>true
 | .list _ _ none=>true
 | .func _ [] []=>true
 | _=>false
def zcu:PV K->Bool
 | .agg ps=>ps.all q6l
 | p=>q6l p
theorem q3z {p:PV K} (h:q6l p=true):Plain p:=by
 unfold q6l at h;split at h<;>first | (cases h;done) | constructor
theorem ziy {p:PV K} (h:zcu p=true):Plain p:=by
 unfold zcu at h;split at h
 .exact .agg λp a=>q3z (List.all_eq_true.1 h p a)
 .exact q3z h
theorem za {ps:List (PV K)} (h:ps.all zcu=true):∀ p ∈ ps,Plain p:=λp a=>ziy (List.all_eq_true.1 h p a)
def qxh:PV K->Bool
 | .int .. | .lit _ | .str _=>true
 | .sb 0 _ _ _ _=>true
 | .list _ _ none=>true
 | .list _ _ (some (_,0))=>true
 | _=>false
def q5o:PV K->Bool
 | .agg ps=>ps.all qxh
 | p=>qxh p
def zt2:PV K->Bool
 | .tuple l=>l.all q5o
 | p=>q5o p
theorem q0s {p:PV K} (h:qxh p=true):Simple p:=by
 unfold qxh at h;split at h<;>first | (cases h;done) | constructor
theorem q27 {p:PV K} (h:q5o p=true):Form1 p:=by
 unfold q5o at h;split at h
 .exact .agg λp a=>q0s (List.all_eq_true.1 h p a)
 .exact .one (q0s h)
theorem zm {p:PV K} (h:zt2 p=true):Form p:=by
 unfold zt2 at h;split at h
 .exact .tuple λp a=>q27 (List.all_eq_true.1 h p a)
 .exact .one (q27 h)
def qju (k:IntKind):PV K->Option Int
 | .int a _ n=>if k=a then some n else none
 | _=>none
def q8v:PV K->Option Bool
 | .lit b=>some b
 | .sb _ _ b _ _=>some b
 | _=>none
def zl5:PV K->Option (List UInt8)
 | .str s=>some s
 | _=>none
def zrn (c:Nat):PV K->Option (List (K c))
 | .nils=>some []
 | .list a l _=>if h:a=c then some (h ▸ l) else none
 | _=>none
variable {w:Wd}
theorem jy {k:IntKind} {p:PV K} {n:Int} {v:V} (h:qju k p=some n) (r:Rep X sz w p v):Rep X sz w (.int k none n) v:=by
 unfold qju at h;split at h
 .split at h
  .rename_i a;subst a;cases h;cases r;exact .int λm b=>by cases b
  .cases h
 .cases h
theorem qmw {p:PV K} {b:Bool} {v:V} (h:q8v p=some b) (r:Rep X sz w p v):Rep X sz w (.sb 0 false b (b=true) (b=false)) v:=by
 unfold q8v at h;split at h
 .cases h;cases r;exact .sb .rfl .rfl λa=>absurd rfl a
 .cases h;cases r;exact .sb .rfl .rfl λa=>absurd rfl a
 .cases h
theorem qy6 {p:PV K} {s:List UInt8} {v:V} (h:zl5 p=some s) (r:Rep X sz w p v):Rep X sz w (.str s) v:=by
 unfold zl5 at h;split at h
 .cases h;exact r
 .cases h
theorem zl4 (tbl:Tbl K) (inv:Nat->List (NV K)->Prop) (meas:Nat->List (NV K)->Nat) {c:Nat} {p:PV K} {l:List (K c)} {v:V} (h:zrn c p=some l) (r:Rep X sz w p v):Rep X sz w (.list c l none) v:=by
 have:asL (ql X tbl inv meas) c p=some l:=by
  cases p<;>exact h
 exact qeb r this
theorem q28 {c:Nat} {p:PV K} {l:List (K c)} {v:V} (h:zrn c p=some l) (r:Rep X sz w p v):Rep X sz w (.list c l none) v:=zl4 (λ_=>none) (λ_ _=>True) (λ_ _=>0) h r
theorem zw {p q:PV K} {ps b:List (PV K)} {c:List V} (h:∀ v,Rep X sz w p v->Rep X sz w q v) (d:∀ us,qj X sz w ps us->qj X sz w b us) (r:qj X sz w (p::ps) c):qj X sz w (q::b) c:=by
 obtain ⟨v,a,rfl,r1,e⟩:=r.zt;exact .cons (h v r1) (d a e)
end
end Go.E3
/- E3: FUNCTIONS WITHOUT A BODY as contracts. -/
namespace Go.E3
open Go Go.E2
variable {K:Nat->Type}
def qru (s:List UInt8) (c:Int):Int:=match s.findIdx? (λb=>b == c.toNat.toUInt8) with | some i=>(i:Int) | none=>-1
section
variable {X:Codecs K} {sz:Nat->Nat} {C:ZC K}
theorem zvq (ok2:CfgOk2 X C) (g:qx C) {f:Nat} {c:FI} {args:List (PV K)} {r:PV K} (a:C.ans f=false) (k:C.E.funcs f=some c) (l:c.body=none) (m:Plain r) (o:qb6 r.flat=[])
  (h:∀ H M b,Start X sz C H M->qj X sz (wd0 H M C.codec) args b->∃ v,zhu c.ext b=some v/\Rep X sz (wd0 H M C.codec) r v):qa2 X sz C f args r:=by
 intro H M b S p;obtain ⟨v,q,s⟩:=h H M b S p;let w':Wd:={wd0 H M C.codec with owns:=λ_=>some 0};have d:Rep X sz w' r v:=Rep.plain (w:=wd0 H M C.codec) (w':=w') ok2.plain rfl (λ_ _ _ h=>h) s m;refine q2q (g.1 f a) k l q ⟨w',?_⟩;refine ⟨.refl H,S.wf,rfl,λn _=>.rfl,S.Mlt,rfl,?_,λ_=>rfl,λi nm e=>(by cases e),λi j nm e=>(by cases e),d⟩;rw [o];rfl
theorem zlz (ok2:CfgOk2 X C) {f:Nat} {r:PV K} {v:V} (c:Plain r) (d:qb6 r.flat=[]) (h:∀ H,H.zf=C.ng->(∀ gn o,C.gobj gn=some o->H.get gn=some o/\gn<H.next)->qc5 C.E (.func f) [] H λu H'=>u=v/\H'=H) (e:∀ H M,Rep X sz (wd0 H M C.codec) r v):qa2 X sz C f [] r:=by
 intro H M l S g;have:=g.ka;subst this;refine (h H S.ro.2.1 S.ro.2.2).mono λu H' k=>?_;obtain ⟨rfl,rfl⟩:=k;let w':Wd:={wd0 H' M C.codec with owns:=λ_=>some 0};have a:Rep X sz w' r u:=Rep.plain (w:=wd0 H' M C.codec) (w':=w') ok2.plain rfl (λ_ _ _ h=>h) (e H' M) c;refine ⟨w',?_⟩;refine ⟨.refl H',S.wf,rfl,λn _=>.rfl,S.Mlt,rfl,?_,λ_=>rfl,λi nm b=>(by cases b),λi j nm b=>(by cases b),a⟩;rw [d];rfl
theorem zmg (ok2:CfgOk2 X C) (e:qx C) {f:Nat} {b:FI} (a:C.ans f=false) (g:C.E.funcs f=some b) (h:b.body=none) (he:b.ext=1) (s:List UInt8) (c:Int) :
  qa2 X sz C f [.str s,.int .u8 none c] (.int .i64 none (qru s c)):=by
 refine zvq ok2 e a g h .int rfl λH M p S i=>?_;obtain ⟨v,j,rfl,r1,k⟩:=i.zt;obtain ⟨u,d,rfl,l,n⟩:=k.zt;have:=n.ka;subst this;cases r1;cases l;exact ⟨.int .i64 (qru s c),by rw [he];rfl,.int λm o=>by cases o⟩
theorem zlu {f e:Nat} (h:(C.E.funcs f).map (λa=>(a.body.isNone,a.ext))=some (true,e)):∃ a,C.E.funcs f=some a/\a.body=none/\a.ext=e:=by
 obtain ⟨a,c,b⟩:=zM.1 h;simp only [zP,Option.isNone_iff_eq_none] at b;exact ⟨a,c,b.1,b.2⟩
theorem zh0 (ok2:CfgOk2 X C) (d:qx C) {f:Nat} (a:C.ans f=false) (e:(C.E.funcs f).map (λb=>(b.body.isNone,b.ext))=some (true,1)) (s:List UInt8) (c:Int) :
  qa2 X sz C f [.str s,.int .u8 none c] (.int .i64 none (qru s c)):=by
 obtain ⟨b,g,h,i⟩:=zlu e;exact zmg ok2 d a g h i s c
end
end Go.E3
/- E3: ARGUMENTS THAT LIE IN MEMORY: slices whose elements are numbers, conditions, texts, structs of such. -/
namespace Go.E3
open Go Go.E2
variable {K:Nat->Type}
def qfx:Value->V
 | .int k n=>.int k n
 | .bool b=>.bool b
 | .string s=>.str s.data.toList
 | _=>.tuple [.slice 0 0 0 0 0 none]
theorem zkz (G:qe) (W:World) (x:Value):isHole (qfx x)=true∨Go.E2.Rel G W (qfx x) x:=by
 cases x with
 | int k n=>right;simp [qfx,Go.E2.Rel]
 | bool b=>right;simp [qfx,Go.E2.Rel]
 | string s=>right;simp [qfx,Go.E2.Rel]
 | _=>exact .inl rfl
theorem q94 (G:qe) (W:World):∀ l:List Value,kl G W (l.map qfx) l
 | []=>by simp [kl]
 | x::l=>by
  simp only [List.map_cons,kl];exact ⟨x,l,rfl,zkz G W x,q94 G W l⟩
def zsp (W:World) (b:Nat):Option (Nat×O):=
 match W.heap[b]? with
 | some (.cells a e fz)=>some (b,.row (a.toList.map qfx) e 0 0 fz.2 true)
 | _=>none
def znj (W:World):List (Nat×O):=(List.range W.heap.size).filterMap (zsp W)
theorem zik {W:World} {b:Nat} {x:Nat×O} (h:zsp W b=some x):∃ a e fz,W.heap[b]? = some (.cells a e fz)/\x=(b,.row (a.toList.map qfx) e 0 0 fz.2 true):=by
 unfold zsp at h;split at h
 .rename_i a e fz c;exact ⟨a,e,fz,c,(Option.some.inj h).symm⟩
 .cases h
theorem q3s {W:World} {b:Nat} {o:O} (h:(b,o) ∈ znj W):∃ a e fz,W.heap[b]? = some (.cells a e fz)/\o=.row (a.toList.map qfx) e 0 0 fz.2 true:=by
 obtain ⟨g,_,c⟩:=List.mem_filterMap.1 h;obtain ⟨a,e,fz,d,f⟩:=zik c;cases f;exact ⟨a,e,fz,d,rfl⟩
def qgu (W:World) (ng:Nat):Heap:={qbq:=qe7 (znj W),next:=W.heap.size,ro:=W.heap.size,zf:=ng}
theorem qp8 {W:World} {ng b:Nat} {arr:Array Value} {e:TypeId} {fz:Nat×Nat} (h:W.heap[b]? = some (.cells arr e fz)):(qgu W ng).get b=some (.row (arr.toList.map qfx) e 0 0 fz.2 true):=by
 have d:(b,O.row (arr.toList.map qfx) e 0 0 fz.2 true) ∈ znj W:=by
  refine List.mem_filterMap.2 ⟨b,List.mem_range.2 (qez h),?_⟩;unfold zsp;rw [h]
 obtain ⟨o,a⟩:=qkw d;obtain ⟨arr',g,f,c,rfl⟩:=q3s (qby _ _ _ a);rw [h] at c;cases c;exact a
theorem qrs {W:World} {ng b:Nat} {o:O} (h:(qgu W ng).get b=some o):∃ a e fz,W.heap[b]? = some (.cells a e fz)/\o=.row (a.toList.map qfx) e 0 0 fz.2 true:=
 q3s (qby _ _ _ h)
def qdw (W:World):qe:=λnm g=>if g=0 then (match W.heap[nm]? with
 | some (.cells a _ _)=>some (nm,0,a.size)
 | _=>none) else none
theorem qbl {W:World} {nm g:Nat} {x:Nat×Nat×Nat} (h:qdw W nm g=some x):g=0/\∃ a e fz,W.heap[nm]? = some (.cells a e fz)/\x=(nm,0,a.size):=by
 unfold qdw at h;split at h
 .rename_i b;split at h
  .rename_i a e fz c;exact ⟨b,a,e,fz,c,(Option.some.inj h).symm⟩
  .cases h
 .cases h
theorem qh6 {W:World} {b:Nat} {arr:Array Value} {e:TypeId} {fz:Nat×Nat} (h:W.heap[b]? = some (.cells arr e fz)):qdw W b 0=some (b,0,arr.size):=by
 unfold qdw;rw [zT rfl,h]
theorem z00 {W:World} {ng:Nat} (j:ng<=W.heap.size):Sim (qgu W ng) (qdw W) W:=by
 refine ⟨λnm g b m n h=>?_,λnm g b m n p u q v h r=>?_,λnm o _ k=>?_,zN _,j,λg o _ k=>?_⟩
 .obtain ⟨_,a,e,fz,c,d⟩:=qbl h;cases d;exact ⟨qez c,qez c⟩
 .obtain ⟨_,_,_,_,_,d⟩:=qbl h;obtain ⟨_,_,_,_,_,l⟩:=qbl r;cases d;cases l;exact ⟨rfl,rfl⟩
 .obtain ⟨a,e,fz,c,rfl⟩:=qrs k;refine ⟨zN _,λ_=>rfl,λg b m n s=>?_⟩;obtain ⟨rfl,arr',w,t,f,d⟩:=qbl s;rw [c] at f;cases f;cases d;refine ⟨zN _,Nat.zero_le _,by simp,λ_=>by simp,λ_=>rfl,λ_=>⟨a,fz,c,by simp,?_,λ_ i x y=>by omega,λ_=>by simp⟩⟩;rw [List.drop_zero,Nat.sub_zero,List.take_of_length_le (by simp),List.take_of_length_le (by simp)];exact q94 _ _ _
 .obtain ⟨a,e,fz,c,_⟩:=qrs k;exact ⟨_,qh6 c⟩
theorem zhv {W w':World} {i:qe} (h:Ext W.heap.size (qdw W) W i w'):∀ b,b<W.heap.size->w'.heap[b]? = W.heap[b]?:=by
 intro b f;cases a:qdw W b 0 with
 | some x=>
  obtain ⟨_,c,e,fz,_,rfl⟩:=qbl a;exact h.ro b 0 b 0 _ f a
 | none=>
  refine (h.frg b f λnm g l n j=>?_).1;obtain ⟨rfl,c,e,fz,d,k⟩:=qbl j;cases k;rw [qh6 d] at a;cases a
inductive Leaf4 where
 | int (k:IntKind)
 | bool
 | str
 | list (c:Nat)
def Leaf4.flat:Leaf4->Bool
 | .list _=>false
 | _=>true
def q05 (P:Program) (g:TypeId->Option (List Leaf4)):List Field->Nat->Option (List Leaf4)
 | [],_=>some []
 | f::a,off=>(g f.type).bind λl=>bif Nat.beq f.offset off&&Nat.beq l.length (P.cellsOf f.type) then (q05 P g a (off+l.length)).map λr=>l++r else none
def qq9 (P:Program) (a:TypeId->Option Nat):Nat->TypeId->Option (List Leaf4)
 | 0,_=>none
 | d+1,t=>match P.underlying t with
  | some (.int k)=>some [.int k]
  | some .bool=>some [.bool]
  | some .string=>some [.str]
  | some (.slice e)=>(a e).map λc=>[.list c]
  | some (.struct b)=>(q05 P (qq9 P a d) b.toList 0).bind λl=>bif Nat.beq l.length (P.cellsOf t) then some l else none
  | _=>none
section
variable {Hd:Type} {enc:TypeId×Value->Hd} {P:Program} {W:World} {cd:TypeId->Option Nat}
def qbh (enc:TypeId×Value->Hd) (P:Program) (W:World) (d:TypeId->Option Nat):Leaf4->Value->Prop
 | .int k,x=>∃ n,x=.int k n/\(Lit.int k n).wf=true
 | .bool,x=>∃ b,x=.bool b
 | .str,x=>∃ s,x=.string s/\s.size<=maxLen
 | .list c,x=>x=.slice none 0 0∨∃ e a len cap,d e=some c/\x=.slice (some a) len cap/\len<=cap/\cap<=maxLen/\
   ∀ i,i<cap->∃ cs m r,W.cells? 0 (a.add (i * P.cellsOf e)) (P.cellsOf e)=some cs/\DataW.trod enc P W 0 (λ_=>true) true m e cs=some r
theorem qwp {Q:Leaf4->Value->Prop} {cs:List Value} {g:TypeId->Option (List Leaf4)}:∀ {d:List Field} {off:Nat} {ls:List Leaf4},q05 P g d off=some ls->
  (∀ f ∈ d,∀ l,g f.type=some l->l.length=P.cellsOf f.type->∀ (i:Nat) leaf x,l[i]? = some leaf->((cs.drop f.offset).take (P.cellsOf f.type))[i]? = some x->Q leaf x)->
  ∀ (i:Nat) leaf x,ls[i]? = some leaf->cs[off+i]? = some x->Q leaf x
 | [],off,ls,h,_,i,leaf,x,a,_=>by
  simp only [q05,zS] at h;subst h;simp at a
 | f::d,off,ls,h,j,i,leaf,x,a,k=>by
  simp only [q05] at h;obtain ⟨l,m,n⟩:=zI.1 h;rcases zu n with ⟨_,c⟩ | ⟨c,o⟩
  .cases c
  .simp only [zA,Nat.beq_eq] at c;obtain ⟨rfl,b⟩:=c;obtain ⟨r,p,rfl⟩:=zM.1 o;by_cases hi:i<l.length
   .rw [List.getElem?_append_left hi] at a;refine j f zC l m b i leaf x a ?_;rw [List.getElem?_take_of_lt (by omega),List.getElem?_drop];exact k
   .rw [List.getElem?_append_right (by omega)] at a;refine qwp p (λq e=>j q (zG _ e)) (i-l.length) leaf x a ?_;rw [show f.offset+l.length+(i-l.length)=f.offset+i by omega];exact k
theorem qkj:∀ (d:Nat) {n:Nat} {t:TypeId} {cs:List Value} {r:DataW Hd×List MemPlace} {ls:List Leaf4},DataW.trod enc P W 0 (λ_=>true) true n t cs=some r->qq9 P cd d t=some ls->
  cs.length=ls.length/\∀ (i:Nat) leaf x,ls[i]? = some leaf->cs[i]? = some x->qbh enc P W cd leaf x
 | 0,n,t,cs,r,ls,h,o=>by cases o
 | d+1,n,t,cs,r,ls,h,o=>by
  have g:∀ {leaf:Leaf4} {x:Value},qbh enc P W cd leaf x->[x].length=[leaf].length/\∀ (i:Nat) l y,[leaf][i]? = some l->[x][i]? = some y->qbh enc P W cd l y:=by
   intro leaf x J;refine ⟨rfl,λi l y p v=>?_⟩;cases i with
   | zero=>simp only [List.getElem?_cons_zero,zS] at p v;subst p;subst v;exact J
   | succ i=>simp at p
  simp only [qq9] at o;split at o
  .rename_i k u;cases o;obtain ⟨m,rfl,_,K⟩:=DataW.trod_int u h;exact g ⟨m,rfl,K⟩
  .rename_i u;cases o;obtain ⟨b,rfl,_⟩:=DataW.trod_bool u h;exact g ⟨b,rfl⟩
  .rename_i u;cases o;obtain ⟨s,rfl,_,L⟩:=DataW.trod_string u h;exact g ⟨s,rfl,L⟩
  .rename_i e u;obtain ⟨c,M,rfl⟩:=zM.1 o;rcases DataW.trod_slice u h with ⟨rfl,_⟩ | ⟨a,len,cap,elems,rest,m,_,rfl,_,_,F,N,O,z,A,_⟩
   .exact g (.inl rfl)
   .refine g (.inr ⟨e,a,len,cap,M,rfl,F,N,λi hi=>?_⟩);obtain ⟨R,B⟩:=A rfl;by_cases C:i<len
    .have:=z i C;rw [List.getElem?_eq_getElem (by omega)] at this;obtain ⟨w,p,v⟩:=zI.1 this;exact ⟨w,m,_,p,v⟩
    .have:=B (i-len) (by omega);rw [List.getElem?_eq_getElem (by omega),show len+(i-len)=i by omega] at this;obtain ⟨w,p,v⟩:=zI.1 this;exact ⟨w,m,_,p,v⟩
  .rename_i S u;obtain ⟨l,p,v⟩:=zI.1 o;rcases zu v with ⟨_,D⟩ | ⟨D,T⟩
   .cases D
   .cases T;have G:=zE D;obtain ⟨xs,m,_,_,F,U,V⟩:=DataW.trod_struct u h;refine ⟨by omega,λi leaf x hi X=>?_⟩;refine qwp (Q:=qbh enc P W cd) (off:=0) p (λf E l' Y Z j lf y hj hy=>?_) i leaf x hi (by simpa using X);obtain ⟨q,H,rfl⟩:=List.mem_iff_getElem.1 E;have I:=V q S.toList[q] (by simp at H ⊢);rw [List.getElem?_eq_getElem (by simp at H;omega)] at I;exact (qkj d I Y).2 j lf y hj hy
  .cases o
def qog (good:∀ c,K c->Prop):Leaf4->PV K->Prop
 | .int k,p=>∃ n,p=.int k none n/\k.min<=n/\n<=k.max
 | .bool,p=>∃ b,p=.sb 0 false b (b=true) (b=false)
 | .str,p=>∃ s:List UInt8,p=.str s/\s.length<=maxLen
 | .list c,p=>∃ l:List (K c),p=.list c l none/\l.length<=maxLen/\∀ x ∈ l,good c x
def qjo (good:∀ c,K c->Prop):List Leaf4->List (PV K)->Prop
 | [],ps=>ps=[]
 | l::ls,ps=>∃ p a,ps=p::a/\qog good l p/\qjo good ls a
variable {good:∀ c,K c->Prop}
variable {X:Codecs K} {sz:Nat->Nat} {w:Wd}
theorem qqc {leaf:Leaf4} {x:Value} (d:leaf.flat=true) (h:qbh enc P W cd leaf x):∃ p:PV K,qog good leaf p/\Rep X sz w p (qfx x):=by
 cases leaf with
 | int k=>
  obtain ⟨n,rfl,a⟩:=h;simp only [Lit.wf,zA,decide_eq_true_eq] at a;exact ⟨_,⟨n,rfl,a⟩,.int λm e=>by cases e⟩
 | bool=>
  obtain ⟨b,rfl⟩:=h;exact ⟨_,⟨b,rfl⟩,.sb .rfl .rfl λf=>absurd rfl f⟩
 | str=>
  obtain ⟨s,rfl,g⟩:=h;exact ⟨_,⟨s.data.toList,rfl,by simpa using g⟩,.str⟩
 | list c=>cases d
theorem qv6:∀ {ls:List Leaf4} {cs:List Value},ls.all Leaf4.flat=true->cs.length=ls.length->(∀ (i:Nat) leaf x,ls[i]? = some leaf->cs[i]? = some x->qbh enc P W cd leaf x)->
  ∃ ps:List (PV K),qjo good ls ps/\qj X sz w ps (cs.map qfx)
 | [],[],_,_,_=>⟨[],rfl,.nil⟩
 | [],_::_,_,h,_=>by simp at h
 | _::_,[],_,h,_=>by simp at h
 | l::ls,x::cs,a,c,b=>by
  simp only [List.all_cons,zA] at a;obtain ⟨p,d,e⟩:=qqc (X:=X) (sz:=sz) (w:=w) a.1 (b 0 l x rfl rfl);obtain ⟨ps,f,g⟩:=qv6 (cs:=cs) a.2 (by simpa using c) λi leaf y j k=>b (i+1) leaf y (by simpa using j) (by simpa using k);exact ⟨p::ps,⟨p,ps,rfl,d,f⟩,.cons e g⟩
theorem qph {α:Type} {Q:Nat->α->Prop}:∀ {n:Nat},(∀ i,i<n->∃ x,Q i x)->∃ l:List α,l.length=n/\∀ (i:Nat) (h:i<l.length),Q i (l[i]'h)
 | 0,_=>⟨[],rfl,λi h=>by simp at h⟩
 | n+1,h=>by
  obtain ⟨l,b,c⟩:=qph (n:=n) λi hi=>h i (by omega);obtain ⟨x,d⟩:=h n (by omega);refine ⟨l++[x],by simp [b],λi hi=>?_⟩;by_cases a:i<l.length
  .rw [List.getElem_append_left a];exact c i a
  .have:i=n:=by simp at hi;omega
   subst this;rw [List.getElem_append_right (by omega)];simpa [b] using d
theorem zi4 {f:TypeId->Bool}:∀ {d:Nat} {e:TypeId} {a off n:Nat},rowAt P f d e a off n=true->off<=a * P.cellsOf e
 | 0,_,_,_,_,h=>by simp [rowAt] at h
 | d+1,e,a,off,n,h=>by
  unfold rowAt at h;by_cases b:P.cellsOf e=0
  .simp [b] at h
  .simp only [b,if_false,Bool.or_eq_true,zA,beq_iff_eq,decide_eq_true_eq] at h;have c:=Nat.div_add_mod off (P.cellsOf e);have i:=Nat.mod_lt off (Nat.pos_of_ne_zero b);rcases h with ⟨⟨g,j⟩,_⟩ | ⟨g,_⟩
   .have:=zU (P.cellsOf e) (show off / P.cellsOf e<=a by omega);rw [Nat.mul_comm] at c;omega
   .have:=zU (P.cellsOf e) (show off / P.cellsOf e+1<=a by omega);rw [Nat.add_mul,Nat.one_mul] at this;rw [Nat.mul_comm] at c;omega
theorem qzr:∀ {d:Nat} {e:TypeId} {a off:Nat} {u:TypeId} {n:Nat},liesAt P d e a off u n=true->off<=a * P.cellsOf e
 | 0,_,_,_,_,_,h=>by simp [liesAt] at h
 | d+1,e,a,off,u,n,h=>by
  unfold liesAt at h;simp only [Bool.or_eq_true] at h;rcases h with h | h
  .exact zi4 h
  .split at h
   .exact qzr h
   .cases h
theorem zal {base:Nat} {u:TypeId} {a:Addr} {len cap:Nat} (h:Cell.okWide P W .any base u (.slice (some a) len cap)) :
  a.spot=none/\∃ b e fz,W.heap[a.block]? = some (.cells b e fz)/\a.off<=b.size:=by
 have d:Cell.ok P W .any base u (.slice (some a) len cap):=by
  unfold Cell.okWide at h;split at h<;>first | exact h | (rename_i c;cases c)
 unfold Cell.ok at d;split at d<;>try (first | exact d.elim | (rename_i c;cases c;done))
 rename_i e m g i _ c;cases c;obtain ⟨_,_,_,j,row,cells,f,k⟩:=d;refine ⟨j,?_⟩;simp only [World.shape?] at f;split at f
 .rename_i b n fz l;cases f;refine ⟨b,_,fz,l,zR (qzr k) ?_⟩;exact Nat.div_mul_le_self _ _
 .cases f
structure ArgOk (good:∀ c,K c->Prop) (X:Codecs K) (sz:Nat->Nat) (P:Program) (cd:TypeId->Option Nat) (depth:Nat):Prop where
 elem:∀ e c,cd e=some c->∃ ls,qq9 P cd depth e=some ls/\ls.all Leaf4.flat=true/\ls.length=sz c/\P.cellsOf e=sz c/\0<sz c/\∀ ps:List (PV K),qjo good ls ps->∃ pre x,X.pack c ps=some (pre,x)/\pre/\good c x
theorem zia {C:ZC K} (ok:CfgOk X sz C) {depth ng:Nat} (ao:ArgOk good X sz P cd depth) {base:Nat} {u:TypeId} {c:Nat} {x:Value} {M:Nat->Prop} (hM:∀ n,¬ M n) (hc:Cell.okWide P W .any base u x) (h:qbh enc P W cd (.list c) x) :
  ∃ (p:PV K) (v:V),qog good (.list c) p/\Rep X sz (wd0 (qgu W ng) M C.codec) p v/\Go.E2.Rel (qdw W) W v x:=by
 rcases h with rfl | ⟨e,a,len,cap,he,rfl,G,a1,hr⟩
 .exact ⟨.list c [] none,.nils,⟨[],rfl,Nat.zero_le _,λx hx=>by cases hx⟩,.nlist trivial,by simp [Go.E2.Rel]⟩
 .obtain ⟨s,f,el,fz,t,o⟩:=zal hc;obtain ⟨b,off,a6⟩:=a;simp only at s t o;subst s;obtain ⟨ls,h1,h2,h3,h4,h5,h6⟩:=ao.elem e c he;rw [h4] at hr;have g:∀ i,i<cap->∃ cs:List Value,cs.length=sz c/\(∀ j,j<sz c->f[off+i * sz c+j]? = cs[j]?)/\∃ y:K c,good c y/\qj X sz (wd0 (qgu W ng) M C.codec) (X.cells c y) (cs.map qfx):=by
   intro i hi;obtain ⟨cs,m,r,h7,h8⟩:=hr i hi;obtain ⟨_,h9,H⟩:=World.cells?_some h7;obtain ⟨I,J⟩:=qkj depth h8 h1;obtain ⟨ps,L,N⟩:=qv6 (X:=X) (sz:=sz) (w:=wd0 (qgu W ng) M C.codec) h2 I J;obtain ⟨O,y,R,S,T⟩:=h6 ps L;refine ⟨cs,h9,λj U=>?_,y,T,ok.pack c ps O y R S _ _ N⟩;have z:((⟨b,off,none⟩:Addr).add (i * sz c)).add j=⟨b,off+i * sz c+j,none⟩:=by
    unfold Addr.add;by_cases Y:i * sz c=0
    .rw [zT Y,Y];by_cases d:j=0
     .rw [zT d,d];simp
     .rw [zF d];simp
    .rw [zF Y];by_cases d:j=0
     .rw [zT d,d];simp
     .rw [zF d]
   have:=H j U;rw [z] at this;simp only [World.cell?,t] at this;simpa using this
  have A:off+cap * sz c<=f.size:=by
   cases cap with
   | zero=>simpa using o
   | succ q=>
    obtain ⟨cs,g1,B,_⟩:=g q (Nat.lt_succ_self q);have:=B (sz c-1) (by omega);rw [List.getElem?_eq_getElem (by omega)] at this;have:=(Array.getElem?_eq_some_iff.1 this).1;rw [Nat.add_mul,Nat.one_mul];omega
  have a7:len * sz c<=cap * sz c:=zU _ G;obtain ⟨l,g1,B⟩:=qph (Q:=λi (y:K c)=>∃ cs:List Value,cs.length=sz c/\(∀ j,j<sz c->f[off+i * sz c+j]? = cs[j]?)/\good c y/\qj X sz (wd0 (qgu W ng) M C.codec) (X.cells c y) (cs.map qfx)) (n:=len) λi hi=>by
   obtain ⟨cs,Z,D,y,E,F⟩:=g i (by omega);exact ⟨y,cs,Z,D,E,F⟩
  refine ⟨.list c l none,.slice b 0 off len (sz c) (some cap),⟨l,rfl,by omega,λy hy=>?_⟩,?_,?_⟩
  .obtain ⟨i,hi,rfl⟩:=List.mem_iff_getElem.1 hy;obtain ⟨cs,Z,D,E,F⟩:=B i hi;exact E
  .refine .list (qp8 t) (zN _) (hM b) g1.symm (by simp;omega) ⟨h5,.inl rfl⟩ (λk hk=>by cases hk;exact G) (λi hi j p hp=>?_) trivial;obtain ⟨cs,Z,D,E,F⟩:=B i hi;have U:j<sz c:=by rw [<-ok.len c (l[i]'hi)];exact (List.getElem?_eq_some_iff.1 hp).1
   have:=F.2 j p hp;rw [List.getD_eq_getElem?_getD,List.getElem?_map] at this ⊢;rw [Array.getElem?_toList,D j U];exact this
  .simp only [Go.E2.Rel];exact ⟨b,0,f.size,off,cap,el,f.size,_,qh6 t,rfl,.inr rfl,G,Nat.zero_le _,by omega,.inl rfl,λk hk=>by cases hk;exact ⟨rfl,A⟩,by simp only [World.shape?,t],A⟩
theorem q8s {leaf:Leaf4} {x:Value} (a:leaf.flat=true) (h:qbh enc P W cd leaf x) (G:qe):Go.E2.Rel G W (qfx x) x:=by
 cases leaf with
 | int k=>obtain ⟨n,rfl,_⟩:=h;simp [qfx,Go.E2.Rel]
 | bool=>obtain ⟨b,rfl⟩:=h;simp [qfx,Go.E2.Rel]
 | str=>obtain ⟨s,rfl,_⟩:=h;simp [qfx,Go.E2.Rel]
 | list c=>cases a
theorem zh8 {C:ZC K} (ok:CfgOk X sz C) {depth ng:Nat} (b:ArgOk good X sz P cd depth) {base:Nat} {u:TypeId} {leaf:Leaf4} {x:Value} {M:Nat->Prop} (d:∀ n,¬ M n) (e:Cell.okWide P W .any base u x) (h:qbh enc P W cd leaf x) :
  ∃ (p:PV K) (v:V),qog good leaf p/\Rep X sz (wd0 (qgu W ng) M C.codec) p v/\Go.E2.Rel (qdw W) W v x:=by
 cases a:leaf.flat with
 | true=>
  obtain ⟨p,f,g⟩:=qqc (X:=X) (sz:=sz) (w:=wd0 (qgu W ng) M C.codec) a h;exact ⟨p,qfx x,f,g,q8s a h _⟩
 | false=>
  cases leaf with
  | list c=>exact zia ok b d e h
  | _=>cases a
theorem q46 {C:ZC K} (ok:CfgOk X sz C) {depth ng:Nat} (g:ArgOk good X sz P cd depth) {base:Nat} {M:Nat->Prop} (i:∀ n,¬ M n) {t:TypeId} {v:Value} {d:DataW Hd} {ps:List MemPlace} {leaf:Leaf4}
  (f:(match P.underlying t with | some (.struct _) | some (.array _ _)=>false | _=>true)=true) (j:qq9 P cd depth t=some [leaf]) (b:Value.okWide P W .any base t v) (k:DataW.Trod enc P W 0 (λ_=>true) true t v d ps) :
  ∃ (p:PV K) (u:V),qog good leaf p/\Rep X sz (wd0 (qgu W ng) M C.codec) p u/\Go.E2.Rel (qdw W) W u v:=by
 obtain ⟨n,l⟩:=k;obtain ⟨o,m⟩:=qkj depth l j;have a:Cell.okWide P W .any base t v:=by
  unfold Value.okWide at b;split at b
  .rename_i h;simp [h] at f
  .rename_i h;simp [h] at f
  .exact b
 have c:v.cells.toList=[v]:=by
  cases v with
  | agg cs=>
   exfalso;unfold Cell.okWide at a;split at a<;>first | (rename_i e;cases e;done) | skip
   unfold Cell.ok at a;split at a<;>first | (rename_i e;cases e;done) | exact a
  | _=>rfl
 exact zh8 ok g i a (m 0 leaf v rfl (by rw [c];rfl))
theorem zey {p:MemPlace} (h:Go.Good W p):p.block<W.heap.size:=by
 cases p with
 | cell b off=>
  obtain ⟨v,a,_⟩:=h;simp only [World.cell?] at a;split at a
  .rename_i c;exact qez c
  .cases a
 | map b=>
  obtain ⟨e,d,c⟩:=h;exact qez c
theorem qsa {w':World} {t:TypeId} {v:Value} {d:DataW Hd} {ps:List MemPlace} (f:laidOutB P=true) (c:P.readableRec t=true) (e:t<P.types.size) (h:DataW.Trod enc P W 0 (λ_=>true) true t v d ps) (k:∀ b,b<W.heap.size->w'.heap[b]? = W.heap[b]?)
  (sp:Nat->Bool) (i:∀ b,b<W.heap.size->sp b=true):DataW.Trod enc P w' 0 sp true t v d ps:=by
 obtain ⟨n,l⟩:=h;have K:=kids_book f c;have a:=DataW.trod_good K (λh=>by cases h) n t _ _ ⟨e,book_self t⟩ l;refine ⟨n,DataW.trod_stays K (book_sized c) (λh=>by cases h) ⟨e,book_self t⟩ l (λp j=>?_) (λp j=>i _ ?_)⟩
 .have g:p.block<W.heap.size:=zey (a p j);cases p with
  | cell b off=>simp only [World.sameAt,World.cell?,k b g]
  | map b=>exact k b g
 .exact zey (a p j)
end
end Go.E3
/- E3: (*strings.Builder).String, BY ITS TEXT: a check of the body, and what the body does. -/
namespace Go.E3
open Go Go.E2
def isT (t:Nat):Operand->Bool
 | .tmp x=>Nat.beq x t
 | _=>false
theorem qpa {t:Nat} {x:Operand} (h:isT t x=true):x=.tmp t:=by
 cases x<;>simp only [isT,Bool.false_eq_true] at h;rw [zE h]
def qxa (t:Nat):Op->Bool
 | .move x=>isT t x
 | _=>false
def qup (t:Nat):Op->Bool
 | .assign x=>isT t x
 | _=>false
def qun:Op->Bool
 | .assign (.const c)=>match qoq 1000 c with
  | some (.str [])=>true
  | _=>false
 | _=>false
def q5x (t:Nat):Op->Bool
 | .nilCheck x=>isT t x
 | _=>false
def zrs (tB t k:Nat):Op->Bool
 | .fieldAddr a x i=>Nat.beq a tB&&isT t x&&Nat.beq i k
 | _=>false
def qw9 (tS t:Nat):Op->Bool
 | .load a x=>Nat.beq a tS&&isT t x
 | _=>false
def qzi (b:Builtin->Bool) (e:List Nat) (d:List Nat):Op->Bool
 | .call c=>(match c.callee with
  | .builtin x=>b x
  | _=>false)&&Nat.beq c.args.toList.length e.length&&((c.args.toList.zip e).all λp=>isT p.2 p.1)&&listEq Nat.beq c.argTypes.toList d
 | _=>false
 where listEq (f:Nat->Nat->Bool):List Nat->List Nat->Bool
 | [],[]=>true
 | a::l,b::m=>f a b&&listEq f l m
 | _,_=>false
theorem quu:∀ {a b:List Nat},qzi.listEq Nat.beq a b=true->a=b
 | [],[],_=>rfl
 | a::l,b::m,h=>by
  simp only [qzi.listEq,zA] at h;rw [zE h.1,quu h.2]
 | [],_::_,h=>by simp [qzi.listEq] at h
 | _::_,[],h=>by simp [qzi.listEq] at h
theorem qzk {t:Nat} {op:Op} (h:qxa t op=true):op=.move (.tmp t):=by
 cases op<;>simp only [qxa,Bool.false_eq_true] at h;rw [qpa h]
theorem q5w {t:Nat} {op:Op} (h:qup t op=true):op=.assign (.tmp t):=by
 cases op<;>simp only [qup,Bool.false_eq_true] at h;rw [qpa h]
theorem q5v {op:Op} (h:qun op=true):∃ c,op=.assign (.const c)/\qoq 1000 c=some (.str []):=by
 unfold qun at h;split at h
 .split at h
  .exact ⟨_,rfl,by assumption⟩
  .cases h
 .cases h
theorem q3d {t:Nat} {op:Op} (h:q5x t op=true):op=.nilCheck (.tmp t):=by
 cases op<;>simp only [q5x,Bool.false_eq_true] at h;rw [qpa h]
theorem ze5 {tB t k:Nat} {op:Op} (h:zrs tB t k op=true):op=.fieldAddr tB (.tmp t) k:=by
 cases op<;>simp only [zrs,Bool.false_eq_true,zA] at h;rw [qpa h.1.2,zE h.1.1,zE h.2]
theorem qzj {tS t:Nat} {op:Op} (h:qw9 tS t op=true):op=.load tS (.tmp t):=by
 cases op<;>simp only [qw9,Bool.false_eq_true,zA] at h;rw [qpa h.2,zE h.1]
theorem zt9 {b:Builtin->Bool} {t ty:Nat} {op:Op} (h:qzi b [t] [ty] op=true):∃ c x,op=.call c/\c.callee=.builtin x/\b x=true/\c.args.toList=[.tmp t]/\c.argTypes.toList=[ty]:=by
 cases op<;>simp only [qzi,Bool.false_eq_true,zA] at h;rename_i c;obtain ⟨⟨⟨d,e⟩,i⟩,k⟩:=h;cases g:c.callee with
 | builtin x=>
  rw [g] at d;refine ⟨c,x,rfl,g,d,?_,quu k⟩
  match j:c.args.toList with
  | []=>rw [j] at e;simp at e
  | [a]=>
   rw [j] at i;simp only [List.zip_cons_cons,List.zip_nil_left,List.all_cons,List.all_nil,Bool.and_true] at i;rw [qpa i]
  | a::b::l=>rw [j] at e;simp at e
 | value f=>rw [g] at d;cases d
 | invoke r m=>rw [g] at d;cases d
theorem zyn {b:Builtin->Bool} {t o ty i:Nat} {op:Op} (h:qzi b [t,o] [ty,i] op=true):∃ c x,op=.call c/\c.callee=.builtin x/\b x=true/\c.args.toList=[.tmp t,.tmp o]/\c.argTypes.toList=[ty,i]:=by
 cases op<;>simp only [qzi,Bool.false_eq_true,zA] at h;rename_i c;obtain ⟨⟨⟨e,g⟩,j⟩,p⟩:=h;cases k:c.callee with
 | builtin x=>
  rw [k] at e;refine ⟨c,x,rfl,k,e,?_,quu p⟩
  match n:c.args.toList with
  | []=>rw [n] at g;simp at g
  | [a]=>rw [n] at g;simp at g
  | [a,q]=>
   rw [n] at j;simp only [List.zip_cons_cons,List.zip_nil_left,List.all_cons,List.all_nil,Bool.and_true,zA] at j;rw [qpa j.1,qpa j.2]
  | a::b::d::l=>rw [n] at g;simp at g
 | value f=>rw [k] at e;cases e
 | invoke r m=>rw [k] at e;cases e
def qr1 (d:Nat) (p:Op->Bool) (o:Oper):Bool:=
 (match o.dst with
 | some e=>Nat.beq e d
 | none=>false)&&(match o.guard with
 | none=>true
 | some _=>false)&&p o.op
theorem qfh {d:Nat} {p:Op->Bool} {o:Oper} (h:qr1 d p o=true):o.dst=some d/\o.guard=none/\p o.op=true:=by
 simp only [qr1,zA] at h;obtain ⟨⟨a,b⟩,c⟩:=h;refine ⟨?_,?_,c⟩
 .split at a
  .rename_i e f;rw [f,zE a]
  .cases a
 .split at b
  .assumption
  .cases b
def zo6 (tB tS tQ tI:Nat):List Oper->Bool
 | [a,b,c,d,e,f,g,h,i,j,k,l]=>
  qr1 3 (qxa 0) a&&qr1 4 (q5x 3) b&&qr1 5 (zrs tB 4 1) c&&qr1 6 (qw9 tS 5) d&&qr1 7 (qzi (λ| .unsafeSliceData=>true | _=>false) [6] [tS]) e&&
  qr1 8 (qxa 0) f&&qr1 9 (q5x 8) g&&qr1 10 (zrs tB 9 1) h&&qr1 11 (qw9 tS 10) i&&qr1 12 (qzi (λ| .len=>true | _=>false) [11] [tS]) j&&
  qr1 13 (qzi (λ| .unsafeString=>true | _=>false) [7,12] [tQ,tI]) k&&qr1 2 (qup 13) l
 | _=>false
def q63 (E:Env) (tB tS tQ tU:Nat):Bool:=
 (match E.types tB with
 | some ti=>match qg9 ti 1 with
  | some f=>Nat.beq f.offset 1&&(match E.types f.type with
   | some a=>!Nat.beq a.size 0
   | none=>false)
  | none=>false
 | none=>false)&&
 (match E.types tS with
 | some ti=>Nat.beq ti.size 1&&!ti.isAgg&&(match ti.under with
  | .slice u=>Nat.beq u tU
  | _=>false)
 | none=>false)&&
 (match E.types tQ with
 | some ti=>match ti.under with
  | .pointer u=>Nat.beq u tU
  | _=>false
 | none=>false)&&
 (match E.types tU with
 | some ti=>Nat.beq ti.size 1
 | none=>false)
def q62 (E:Env) (F tB tS tQ tI tU:Nat):Bool:=
 match E.funcs F with
 | some c=>(match c.results with
  | [.tmp 2]=>true
  | _=>false)&&Nat.beq c.ntmps 14&&q63 E tB tS tQ tU&&
  (match c.body with
  | some (.seq (.region _ a false) (.seq (.region _ b true) .ret))=>(match a.toList with
   | [o]=>qr1 2 qun o
   | _=>false)&&zo6 tB tS tQ tI b.toList&&((List.range 10).all λi=>((Region.before b).getD 10 0).testBit i)
  | _=>false)
 | none=>false
section
variable {E:Env} {fn:FuncId} {round:Option Nat} {all:Array Oper} {b:Array Nat} {i:Nat} {l:List Oper} {done:List Done} {o:Oper} {fr:Fr} {H:Heap} {Q:Ex->Fr->Heap->Prop} {B:Nat}
def qsc (B i:Nat) (done:List Done):Prop:=E2.Calm B done/\∀ d ∈ done,d.i<i
theorem zhi:qsc B 0 []:=⟨zle,λd h=>by cases h⟩
theorem qyb {fp:FP} {lo hi:Nat} {dels:List Nat} (h:qsc B i done) (b:fp=.none∨∃ l,fp=.reads l) (c:B<=lo):qsc B (i+1) (⟨i,fp,lo,hi,dels⟩::done):=by
 refine ⟨zhj b c h.1,λd a=>?_⟩;rcases zD.1 a with rfl | a
 .exact Nat.lt_succ_self _
 .exact Nat.lt_succ_of_lt (h.2 d a)
theorem qqe {t:Nat} (h:Operand.tmp t ∈ o.op.operands.toList):t ∈ o.looksAt all:=by
 unfold Oper.looksAt;exact List.mem_append_left _ (List.mem_filterMap.2 ⟨_,h,rfl⟩)
theorem qma {v:V} {d:Nat} (e:qsc B i done) (f:B<=H.next) (g:z6 E o.op=false) (h:o.guard=none) (j:o.dst=some d) (m:d<fr.n)
  (c:∀ fr' H',(∀ t,Operand.tmp t ∈ o.op.operands.toList->fr'.tmp t=fr.tmp t)->kc E o fr' H'=some (.val v,H'))
  (k:∀ a fr',qsc B (i+1) a->Upd fr d v fr'->WpD E all b (i+1) l a fr' H Q):WpD E all b i (o::l) done fr H Q:=by
 refine qcl (fp:=.none) (out:=.val v) (K:=zo H .none _) (qkk h) (by simp only [qha,g,Bool.not_false,zO]) (by simp) (qyc e.1 (.inl rfl)) (c _ _ λt p=>qcu (qqe p)) (.inl rfl) (zN _) ?_;rw [qkz,j];exact k _ _ (qyb e (.inl rfl) f) (qtn m)
theorem zpu {t:TypeId} {ti:TI} {s d nm g off lim:Nat} {v:V} (c:qsc B i done) (q:B<=H.next) (e:o.op=.load t (.tmp s)) (r:E.types t=some ti) (p:fr.tmp s=some (.ptr nm g off lim)) (f:nm<B) (j:o.guard=none) (u:o.dst=some d) (w:d<fr.n) (h:qjk H ti (.ptr nm g off lim)=some v)
  (k:∀ a fr',qsc B (i+1) a->Upd fr d v fr'->WpD E all b (i+1) l a fr' H Q):WpD E all b i (o::l) done fr H Q:=by
 have m:qha E o fr=.reads [nm]:=by
  simp only [qha,e,z6,Bool.not_true,zQ,qav,Op.operands,List.flatMap_cons,List.flatMap_nil,qnq,p,V.nm,zJ]
 have x:s ∈ o.looksAt all:=by simp [Oper.looksAt,e,Op.operands]
 refine qcl (fp:=.reads [nm]) (out:=.val v) (K:=zo H (.reads [nm]) ((zl b i done).flatMap Done.names)) (qkk j) m (by simp) (qyc c.1 (.inr ⟨_,rfl⟩)) ?_ (.inl rfl) (zN _) ?_
 .have j:=qi8 (H:=H) (l:=[nm]) (dels:=(zl b i done).flatMap Done.names) (List.mem_singleton.2 rfl) (by omega) (zhk c.1 f);have y:qjk (zo H (.reads [nm]) ((zl b i done).flatMap Done.names)) ti (.ptr nm g off lim)=some v:=by
   rw [<-h];simp only [qjk,jb,j]
  simp only [kc,e,r,zB,opd,qcu x,p,y,zH]
 .rw [qi2,u];exact k _ _ (qyb c (.inr ⟨_,rfl⟩) q) (qtn w)
theorem zb6 (c:qsc B i done) (a:((List.range i).all λj=>(b.getD i 0).testBit j)=true):zl b i done=[]:=by
 unfold zl;rw [List.filter_eq_nil_iff];intro d e;rw [List.all_eq_true] at a;rw [a d.i (List.mem_range.2 (c.2 d e))];simp
end
theorem q4e {E:Env} {tB tS tQ tU:Nat} (h:q63 E tB tS tQ tU=true) :
  (∃ ti f e,E.types tB=some ti/\qg9 ti 1=some f/\f.offset=1/\E.types f.type=some e/\Nat.beq e.size 0=false)/\
  (∃ ti,E.types tS=some ti/\ti.size=1/\ti.isAgg=false/\ti.under=.slice tU)/\
  (∃ ti,E.types tQ=some ti/\ti.under=.pointer tU)/\∃ ti,E.types tU=some ti/\ti.size=1:=by
 simp only [q63,zA] at h;obtain ⟨⟨⟨b,g⟩,c⟩,i⟩:=h;refine ⟨?_,?_,?_,?_⟩
 .split at b
  .rename_i ti a;split at b
   .rename_i f n;simp only [zA] at b;obtain ⟨j,d⟩:=b;split at d
    .rename_i e k;exact ⟨ti,f,e,a,n,zE j,k,by simpa using d⟩
    .cases d
   .cases b
  .cases b
 .split at g
  .rename_i ti a;simp only [zA,Bool.not_eq_true'] at g;obtain ⟨⟨j,d⟩,l⟩:=g;split at l
   .rename_i u m;exact ⟨ti,a,zE j,d,by rw [m,zE l]⟩
   .cases l
  .cases g
 .split at c
  .rename_i ti a;split at c
   .rename_i u m;exact ⟨ti,a,by rw [m,zE c]⟩
   .cases c
  .cases c
 .split at i
  .rename_i ti a;exact ⟨ti,a,zE i⟩
  .cases i
theorem qsp {c:Go.Call} {b:Builtin} {x:Operand} (a:c.callee=.builtin b) (h:x ∈ c.args.toList):x ∈ (Op.call c).operands.toList:=by
 simp only [Op.operands,Call.operands,a];simpa using h
theorem zib {H:Heap} {ti:TI} {nm off lim:Nat} {a:List V} {e:TypeId} {ex:Bool} {x:V} (f:ti.size=1) (g:ti.isAgg=false) (h:H.get nm=some (.row a e 0 0 0 ex)) (o:off+2<=lim) (i:lim<=a.length) (d:a[off+1]? = some x) (c:isHole x=false):qjk H ti (.ptr nm 0 (off+1) lim)=some x:=by
 have j:Nat.ble (off+1+1) lim=true:=by rw [Nat.ble_eq];omega
 have k:Nat.ble lim a.length=true:=by rw [Nat.ble_eq];exact i
 have l:(a.drop (off+1)).take 1=[x]:=by
  have b:off+1<a.length:=by omega
  rw [List.drop_eq_getElem_cons b];simp only [List.take_succ_cons,List.take_zero,List.cons.injEq,and_true];rw [List.getElem?_eq_getElem b] at d;exact Option.some.inj d
 have m:ql3 [x]=some [x]:=qi5 λv n=>by
  rw [List.mem_singleton.1 n];exact c
 simp only [qjk,jb,h,f,j,k,l,m,g,Nat.ble_eq,zN,Nat.ble,Bool.and_self,Bool.true_and,zO,zQ,zB]
section
variable {E:Env} {F tB tS tQ tI tU:Nat}
theorem zas (hq:E.spec F=none) (hc:q62 E F tB tS tQ tI tU=true) {H H':Heap} {nm off lim:Nat} {vs:List V} {e:TypeId} {ex:Bool} (wf:∀ n,H.next<=n->H.get n=none) (hg:H.get nm=some (.row vs e 0 0 0 ex)) (h1:off+2<=lim) (h2:lim<=vs.length) {x p s:V} {n:Int} (hx:vs[off+1]? = some x) (bA:isHole x=false)
  (bB:∀ H0,jj E .unsafeSliceData [tS] [x] H0=some (.val p,H0)) (hlen:∀ H0,jj E .len [tS] [x] H0=some (.val (.int .i64 n),H0))
  (bC:∃ K,jj E .unsafeString [tQ,tI] [p,.int .i64 n] (zo H (.writes p.nm) [])=some (.val s,K)/\H.next<=K.next/\qb4 H K (.writes p.nm) []=H') :
  qc5 E (.func F) [.ptr nm 0 off lim] H λv K=>v=s/\K=H':=by
 have aq:nm<H.next:=by
  by_cases h:nm<H.next
  .exact h
  .rw [wf nm (by omega)] at hg;cases hg
 unfold q62 at hc;cases hf:E.funcs F with
 | none=>rw [hf] at hc;cases hc
 | some fi=>
 rw [hf] at hc;simp only [zA] at hc;obtain ⟨⟨⟨c1,c2⟩,c3⟩,c4⟩:=hc;have c2:=zE c2;obtain ⟨⟨cC,fd,cD,b1,b2,b3,b4,b5⟩,⟨a6,s1,s2,s3,s4⟩,-,-⟩:=q4e c3;split at c1
 .rename_i ar;split at c4
  .rename_i cE oa cF bD hb;simp only [zA] at c4;obtain ⟨⟨d1,d2⟩,d3⟩:=c4;split at d1
   .rename_i o0 bE;obtain ⟨e1,e2,e3⟩:=qfh d1;obtain ⟨cc,e3,e4⟩:=q5v e3;unfold zo6 at d2;split at d2
    .rename_i q0 q1 q2 q3 q4 q5 q6 q7 q8 q9 au cG av;simp only [zA] at d2;obtain ⟨⟨⟨⟨⟨⟨⟨⟨⟨⟨⟨f0,f1⟩,f2⟩,f3⟩,f4⟩,f5⟩,f6⟩,f7⟩,f8⟩,f9⟩,bF⟩,bG⟩:=d2;obtain ⟨bH,bI,g0⟩:=qfh f0;obtain ⟨bJ,bK,g1⟩:=qfh f1;obtain ⟨bL,bM,g2⟩:=qfh f2;obtain ⟨bN,bO,g3⟩:=qfh f3;obtain ⟨bP,bQ,g4⟩:=qfh f4;obtain ⟨bR,bS,g5⟩:=qfh f5;obtain ⟨bT,bU,g6⟩:=qfh f6;obtain ⟨bV,bW,g7⟩:=qfh f7;obtain ⟨bX,bY,g8⟩:=qfh f8;obtain ⟨bZ,c0,g9⟩:=qfh f9;obtain ⟨aw,ax,y⟩:=qfh bF;obtain ⟨ay,az,C⟩:=qfh bG;have g0:=qzk g0;have g1:=q3d g1;have g2:=ze5 g2;have g3:=qzj g3;obtain ⟨k4,y4,g4,a7,c5,a8,c6⟩:=zt9 g4;have g5:=qzk g5;have g6:=q3d g6;have g7:=ze5 g7;have g8:=qzj g8;obtain ⟨k9,y9,g9,aa,c7,ab,aA⟩:=zt9 g9;obtain ⟨cH,M,y,q,aB,r,aC⟩:=zyn y;have C:=q5w C;have y4:y4=.unsafeSliceData:=by cases y4<;>first | rfl | cases c5
     have y9:y9=.len:=by cases y9<;>first | rfl | cases c7
     have M:M=.unsafeString:=by cases M<;>first | rfl | cases aB
     subst y4 y9 M;have aD:=zib s2 s3 hg h1 h2 hx bA;have cI:∀ fr':Fr,fr'.n=max 1 fi.ntmps->fr'.n=14:=λfr' h=>by rw [h,c2];rfl
     refine qx9 hq hf hb ?_;refine q09 (q4m ?_);rw [bE];have n0:({tmps:=qgs [.ptr nm 0 off lim],n:=max [V.ptr nm 0 off lim].length fi.ntmps,defers:=[]}:Fr).n=14:=by simp only [c2];rfl
     refine zxu (d:=2) (v:=.str []) (H':=H) (by simp only [qlx,e3]) (qkk e2) e1 (by rw [n0];decide) (q2y e3 (zio e4)) λad u1=>zgm (zaw (q09 (za1 ?_)));have t0:ad.tmp 0=some (.ptr nm 0 off lim):=(u1.other 0 rfl).trans (q2v rfl);have n1:ad.n=14:=u1.n.trans n0;have m1:ad.defers=[]:=u1.ds;clear u1;rw [av];have c8:qsc H.next 0 []:=zhi
     have tT:∀ (z:Op) (t:Nat),z.operands.toList=[.tmp t]->(z.operands.any λ| .global _=>true | _=>false)=false:=by
      intro z t hz;rw [<-Array.any_toList,hz];rfl
     have R:=t0;refine qma (d:=3) (v:=.ptr nm 0 off lim) c8 (zN _) (by simp only [z6,g0];first | exact tT _ _ rfl | rfl) bI bH (by rw [n1];decide) (λfr' H' l=>zen g0 (qho ((l 0 (by rw [g0];simp [Op.operands])).trans R))) λcJ N c9 u2=>?_;have aE:N.tmp 0=some (.ptr nm 0 off lim):=(u2.other 0 rfl).trans R;have S:N.tmp 3=some (.ptr nm 0 off lim):=u2.get;have n2:N.n=14:=u2.n.trans n1;have m2:N.defers=[]:=u2.ds.trans m1;clear u2;refine qma (d:=4) (v:=.ptr nm 0 off lim) c9 (zN _) (by simp only [z6,g1];first | exact tT _ _ rfl | rfl) bK bJ (by rw [n2];decide) (λfr' H' l=>by simp only [kc,g1,(qho ((l 3 (by rw [g1];simp [Op.operands])).trans S))]) λcK D ca u3=>?_;have aF:D.tmp 0=some (.ptr nm 0 off lim):=(u3.other 0 rfl).trans aE;have aG:D.tmp 3=some (.ptr nm 0 off lim):=(u3.other 3 rfl).trans S;have T:D.tmp 4=some (.ptr nm 0 off lim):=u3.get;have n3:D.n=14:=u3.n.trans n2;have m3:D.defers=[]:=u3.ds.trans m2;clear u3;refine qma (d:=5) (v:=.ptr nm 0 (off+1) lim) ca (zN _) (by simp only [z6,g2];first | exact tT _ _ rfl | rfl) bM bL (by rw [n3];decide) (λfr' H' l=>by have h0:=qs0 (H:=H') g2 b1 b2 b4 b5 (qho ((l 4 (by rw [g2];simp [Op.operands])).trans T));rw [b3] at h0;exact h0) λcL A cb U=>?_;have aH:A.tmp 0=some (.ptr nm 0 off lim):=(U.other 0 rfl).trans aF;have aI:A.tmp 3=some (.ptr nm 0 off lim):=(U.other 3 rfl).trans aG;have aJ:A.tmp 4=some (.ptr nm 0 off lim):=(U.other 4 rfl).trans T;have W:A.tmp 5=some (.ptr nm 0 (off+1) lim):=U.get;have n4:A.n=14:=U.n.trans n3
     have m4:A.defers=[]:=U.ds.trans m3;clear U;refine zpu (ti:=a6) (s:=5) (d:=6) (v:=x) cb (zN _) g3 s1 W aq bO bN (by rw [n4];decide) aD λcM m cd O=>?_;have aK:m.tmp 0=some (.ptr nm 0 off lim):=(O.other 0 rfl).trans aH;have aL:m.tmp 3=some (.ptr nm 0 off lim):=(O.other 3 rfl).trans aI;have aM:m.tmp 4=some (.ptr nm 0 off lim):=(O.other 4 rfl).trans aJ;have aN:m.tmp 5=some (.ptr nm 0 (off+1) lim):=(O.other 5 rfl).trans W;have X:m.tmp 6=some (x):=O.get;have n5:m.n=14:=O.n.trans n4;have m5:m.defers=[]:=O.ds.trans m4;clear O;refine qma (d:=7) (v:=p) cd (zN _) (by simp only [z6,g4,a7];rw [<-Array.any_toList,a8];rfl) bQ bP (by rw [n5];decide) (λfr' H' l=>by simp only [kc,g4,a7,a8,c6,qcy,(qho ((l 6 (by rw [g4];exact qsp a7 (by rw [a8];simp))).trans X)),zB,zH,bB]) λcN k cf P=>?_;have Y:k.tmp 0=some (.ptr nm 0 off lim):=(P.other 0 rfl).trans aK;have aO:k.tmp 3=some (.ptr nm 0 off lim):=(P.other 3 rfl).trans aL;have aP:k.tmp 4=some (.ptr nm 0 off lim):=(P.other 4 rfl).trans aM;have aQ:k.tmp 5=some (.ptr nm 0 (off+1) lim):=(P.other 5 rfl).trans aN;have aR:k.tmp 6=some (x):=(P.other 6 rfl).trans X;have aS:k.tmp 7=some (p):=P.get;have n6:k.n=14:=P.n.trans n5;have m6:k.defers=[]:=P.ds.trans m5;clear P;refine qma (d:=8) (v:=.ptr nm 0 off lim) cf (zN _) (by simp only [z6,g5];first | exact tT _ _ rfl | rfl) bS bR (by rw [n6];decide) (λfr' H' l=>zen g5 (qho ((l 0 (by rw [g5];simp [Op.operands])).trans Y))) λcO j cg L=>?_
     have aT:j.tmp 0=some (.ptr nm 0 off lim):=(L.other 0 rfl).trans Y;have aU:j.tmp 3=some (.ptr nm 0 off lim):=(L.other 3 rfl).trans aO;have aV:j.tmp 4=some (.ptr nm 0 off lim):=(L.other 4 rfl).trans aP;have aW:j.tmp 5=some (.ptr nm 0 (off+1) lim):=(L.other 5 rfl).trans aQ;have aX:j.tmp 6=some (x):=(L.other 6 rfl).trans aR;have aY:j.tmp 7=some (p):=(L.other 7 rfl).trans aS;have Z:j.tmp 8=some (.ptr nm 0 off lim):=L.get;have n7:j.n=14:=L.n.trans n6;have m7:j.defers=[]:=L.ds.trans m6;clear L;refine qma (d:=9) (v:=.ptr nm 0 off lim) cg (zN _) (by simp only [z6,g6];first | exact tT _ _ rfl | rfl) bU bT (by rw [n7];decide) (λfr' H' l=>by simp only [kc,g6,(qho ((l 8 (by rw [g6];simp [Op.operands])).trans Z))]) λcP i ch G=>?_;have aZ:i.tmp 0=some (.ptr nm 0 off lim):=(G.other 0 rfl).trans aT;have b6:i.tmp 3=some (.ptr nm 0 off lim):=(G.other 3 rfl).trans aU;have b7:i.tmp 4=some (.ptr nm 0 off lim):=(G.other 4 rfl).trans aV;have b8:i.tmp 5=some (.ptr nm 0 (off+1) lim):=(G.other 5 rfl).trans aW;have b9:i.tmp 6=some (x):=(G.other 6 rfl).trans aX;have ba:i.tmp 7=some (p):=(G.other 7 rfl).trans aY;have bb:i.tmp 8=some (.ptr nm 0 off lim):=(G.other 8 rfl).trans Z;have a1:i.tmp 9=some (.ptr nm 0 off lim):=G.get;have n8:i.n=14:=G.n.trans n7;have m8:i.defers=[]:=G.ds.trans m7;clear G
     refine qma (d:=10) (v:=.ptr nm 0 (off+1) lim) ch (zN _) (by simp only [z6,g7];first | exact tT _ _ rfl | rfl) bW bV (by rw [n8];decide) (λfr' H' l=>by have h0:=qs0 (H:=H') g7 b1 b2 b4 b5 (qho ((l 9 (by rw [g7];simp [Op.operands])).trans a1));rw [b3] at h0;exact h0) λcQ g cj B=>?_;have bc:g.tmp 0=some (.ptr nm 0 off lim):=(B.other 0 rfl).trans aZ;have bd:g.tmp 3=some (.ptr nm 0 off lim):=(B.other 3 rfl).trans b6;have bf:g.tmp 4=some (.ptr nm 0 off lim):=(B.other 4 rfl).trans b7;have bg:g.tmp 5=some (.ptr nm 0 (off+1) lim):=(B.other 5 rfl).trans b8;have bh:g.tmp 6=some (x):=(B.other 6 rfl).trans b9;have bj:g.tmp 7=some (p):=(B.other 7 rfl).trans ba;have bl:g.tmp 8=some (.ptr nm 0 off lim):=(B.other 8 rfl).trans bb;have bm:g.tmp 9=some (.ptr nm 0 off lim):=(B.other 9 rfl).trans a1;have I:g.tmp 10=some (.ptr nm 0 (off+1) lim):=B.get;have n9:g.n=14:=B.n.trans n8;have m9:g.defers=[]:=B.ds.trans m8;clear B;refine zpu (ti:=a6) (s:=10) (d:=11) (v:=x) cj (zN _) g8 s1 I aq bY bX (by rw [n9];decide) aD λcR b ck f=>?_;have ae:b.tmp 0=some (.ptr nm 0 off lim):=(f.other 0 rfl).trans bc;have af:b.tmp 3=some (.ptr nm 0 off lim):=(f.other 3 rfl).trans bd;have ag:b.tmp 4=some (.ptr nm 0 off lim):=(f.other 4 rfl).trans bf;have ah:b.tmp 5=some (.ptr nm 0 (off+1) lim):=(f.other 5 rfl).trans bg;have ai:b.tmp 6=some (x):=(f.other 6 rfl).trans bh;have aj:b.tmp 7=some (p):=(f.other 7 rfl).trans bj;have ak:b.tmp 8=some (.ptr nm 0 off lim):=(f.other 8 rfl).trans bl
     have al:b.tmp 9=some (.ptr nm 0 off lim):=(f.other 9 rfl).trans bm;have Q:b.tmp 10=some (.ptr nm 0 (off+1) lim):=(f.other 10 rfl).trans I;have u:b.tmp 11=some (x):=f.get;have bn:b.n=14:=f.n.trans n9;have cl:b.defers=[]:=f.ds.trans m9;clear f;refine qma (d:=12) (v:=.int .i64 n) ck (zN _) (by obtain ⟨u1,u2,u3,U,O⟩:=a6;simp only at s4;subst s4;simp only [z6,g9,aa,aA,s1];rw [<-Array.any_toList,ab];rfl) c0 bZ (by rw [bn];decide) (λfr' H' l=>by simp only [kc,g9,aa,ab,aA,qcy,(qho ((l 11 (by rw [g9];exact qsp aa (by rw [ab];simp))).trans u)),zB,zH,hlen]) λbo a bp c=>?_;have cn:a.tmp 0=some (.ptr nm 0 off lim):=(c.other 0 rfl).trans ae;have cp:a.tmp 3=some (.ptr nm 0 off lim):=(c.other 3 rfl).trans af;have cq:a.tmp 4=some (.ptr nm 0 off lim):=(c.other 4 rfl).trans ag;have cr:a.tmp 5=some (.ptr nm 0 (off+1) lim):=(c.other 5 rfl).trans ah;have ct:a.tmp 6=some (x):=(c.other 6 rfl).trans ai;have J:a.tmp 7=some (p):=(c.other 7 rfl).trans aj;have cu:a.tmp 8=some (.ptr nm 0 off lim):=(c.other 8 rfl).trans ak;have cv:a.tmp 9=some (.ptr nm 0 off lim):=(c.other 9 rfl).trans al;have bw:a.tmp 10=some (.ptr nm 0 (off+1) lim):=(c.other 10 rfl).trans Q;have bz:a.tmp 11=some (x):=(c.other 11 rfl).trans u;have w:a.tmp 12=some (.int .i64 n):=c.get;have bq:a.n=14:=c.n.trans bn;have cw:a.defers=[]:=c.ds.trans cl;clear c;obtain ⟨K,cx,cy,cz⟩:=bC;have o:zl (Region.before bD) (0+1+1+1+1+1+1+1+1+1+1) bo=[]:=zb6 bp d3
     have m7:Operand.tmp 7 ∈ au.op.operands.toList:=by rw [y];exact qsp q (by rw [r];simp)
     have an:Operand.tmp 12 ∈ au.op.operands.toList:=by rw [y];exact qsp q (by rw [r];simp)
     refine qcl (fp:=.writes p.nm) (out:=.val s) (K:=K) (qkk ax) ?_ (by simp) (by rw [o];rfl) ?_ (.inl rfl) cy ?_
     .simp only [qha,z6,y,q,Bool.not_true,zQ,qav,r,List.flatMap_cons,List.flatMap_nil,qnq,J,w,V.nm,zJ]
     .rw [o];simp only [kc,y,q,r,aC,qcy,qho ((qcu (qqe m7)).trans J),qho ((qcu (qqe an)).trans w),zB,zH,List.flatMap_nil];exact cx
     .rw [o,List.flatMap_nil,cz,aw];have ao:=qtn (v:=s) (fr:=a) (d:=13) (by rw [bq];decide);have cA:=ao.get;have cB:=ao.n.trans bq;have an:=ao.ds.trans cw;generalize a.put (some 13) s=bs at *;refine qcl (fp:=.none) (out:=.val s) (K:=zo H' .none ?dels) (qkk az) (by simp only [qha,z6,C,Op.operands];rw [<-Array.any_toList];rfl) (by simp) ?g1 ?g2 (.inl rfl) (zN _) ?g3
      case g2=>exact q2y C (qho ((qcu (qqe (by rw [C];simp [Op.operands]))).trans cA))
      case g1=>
       rw [<-Bool.not_eq_true,List.any_eq_true];rintro ⟨d,_,bt⟩;rw [qri] at bt;cases bt
      case g3=>
       rw [qkz,ay];have bu:=qtn (v:=s) (fr:=bs) (d:=2) (by rw [cB];decide);refine zgk (zaw (zpm ⟨.inr rfl,?_⟩));refine ⟨_,zx4 (bu.ds.trans an),[s],?_,rfl,rfl⟩;rw [ar];exact zs6 bu.get zs5
    .cases d2
   .cases d1
  .cases c4
 .cases c1
end
theorem zh4 {H:Heap} {a:Nat} {x:O} (h:a<H.next):qb4 H ((zo H (.writes [a]) []).put a x) (.writes [a]) []=H.put a x:=by
 have b:Nat.blt a H.next=true:=by rw [Nat.blt_eq];exact h
 have c:[a].filter (λn=>Nat.blt n H.next&&!([]:List Nat).any λm=>Nat.beq n m)=[a]:=by
  simp only [List.filter_cons,b,List.any_nil,Bool.not_false,Bool.and_self,if_true,List.filter_nil]
 have d:((zo H (.writes [a]) []).put a x).qbq.get a=some x:=qaf;have e:((zo H (.writes [a]) []).put a x).next=H.next:=rfl
 simp only [qb4,e,c,Nat.sub_self,List.range'_zero,zJ,ke,d];rfl
theorem zmk {H:Heap}:qb4 H (zo H (.writes []) []) (.writes []) []=H:=by
 have a:(zo H (.writes []) []).next=H.next:=rfl
 simp only [qb4,a,List.filter_nil,Nat.sub_self,List.range'_zero,zJ,ke]
theorem zs2 {K:Nat->Type} {C:ZC K} {F tB tS tQ tI tU:Nat} (v:C.prim=λf=>Nat.beq f F) (N:C.E.spec F=none) (w:q62 C.E F tB tS tQ tI tU=true) (hu:∀ c,C.codec c=some 0->c=tU):zbl C:=by
 intro f k;rw [v] at k;have k:=zE k;subst k;intro H nm off lim vs e ex x O P Q;have o:q63 C.E tB tS tQ tU=true:=by
  have h:=w;unfold q62 at h;split at h
  .simp only [zA] at h;exact h.1.2
  .cases h
 obtain ⟨-,⟨U,R,s2,s3,S⟩,⟨tq,W,X⟩,⟨Y,Z,v2⟩⟩:=q4e o;refine ⟨λy=>?_,λb g len cells c a d q l y i T z r a1 s A B D a6=>?_⟩
 .refine zas (p:=.nilp) (n:=0) N w x O P Q y rfl (λH0=>rfl) (λH0=>?_) ⟨zo H (.writes []) [],?_,zN _,zmk⟩
  .simp only [jj,R,zB,S,qh7];rfl
  .simp only [jj,V.nm,if_true]
 .have G:=hu c s;subst G;have t:b<H.next:=by
   by_cases h:b<H.next
   .exact h
   .rw [x b (by omega)] at i;cases i
  have hb:Nat.blt 0 len=true:=by rw [Nat.blt_eq];exact r
  have I:Nat.blt b H.next=true:=by rw [Nat.blt_eq];exact t
  have k:[b].filter (λn=>Nat.blt n H.next&&!([]:List Nat).any λm=>Nat.beq n m)=[b]:=by
   simp only [List.filter_cons,I,List.any_nil,Bool.not_false,Bool.and_self,if_true,List.filter_nil]
  have u:(zo H (.writes [b]) []).get b=some (.row cells c g a d q):=by
   rw [<-i];simp only [zo,k,Heap.get,js,List.mem_singleton,if_true]
  have J:(zo H (.writes [b]) []).upd b (.row cells c g a (max d len) q)=some ((zo H (.writes [b]) []).put b (.row cells c g a (max d len) q)):=qb3 D;refine zas (p:=.ptr b g 0 (0+len * 1)) (n:=len) (H':=H.put b (.row cells c g a (max d len) q)) N w x O P Q y rfl (λH0=>?_) (λH0=>?_) ⟨(zo H (.writes [b]) []).put b (.row cells c g a (max d len) q),?_,zN _,zh4 t⟩
  .simp only [jj,hb,zO]
  .simp only [jj,R,zB,S,qh7]
  .have b1:Nat.ble a g=true:=by rw [Nat.ble_eq];exact z
   have b2:Nat.ble (0+len) (0+len * 1)=true:=by rw [Nat.ble_eq];omega
   have b3:Nat.ble (0+len * 1) cells.length=true:=by rw [Nat.ble_eq];omega
   have j:c=c/\Y.size=1/\(0:Int)<(len:Int)/\(len:Int)<=140737488355328/\g=g:=⟨rfl,v2,by omega,by omega,rfl⟩;have L:(cells.drop 0).take len=cells:=by
    rw [List.drop_zero,List.take_of_length_le (by omega)]
   have M:jb (zo H (.writes [b]) []) len (.ptr b g 0 (0+len * 1))=some cells:=by
    simp only [jb,u,b1,b2,b3,Bool.and_self,zO,L];exact qi5 B
   simp only [jj,V.nm,W,X,u,zB,Z,j,and_self,if_true,Int.toNat_natCast,M,A,J,zH]
theorem q12 {P:Program} {e:Type} {enc:TypeId×Value->e} {g:Func} {s:Go.ChangeSpec} {apart fresh handsOn:Bool} {W w':World} {args:Array Value} {d gs:List (DataW e)} {before:List MemPlace} {t:TypeId}
  (l:DataW.Whole enc P g.params.toList s.vars apart W args.toList d gs before) (m:s.vars=[]) (o:g.resultTypes = #[t]) (hu:P.underlying t=some .bool)
  (a:s.fn e d = {results:=[.lit (.bool true)],args:=d}) (c:∃ f,DataW.TrodAll enc P w' 0 (λb=>decide (b<W.heap.size)) true g.params.toList args.toList d f) (r:∀ i,W.keptBut w' i) :
  s.post enc P g apart fresh handsOn false W args (.bool true) w':=by
 have j:=l;obtain ⟨p,q,u,n,rfl,_,_⟩:=l;rw [m] at n;obtain ⟨rfl,rfl⟩:=Go.ChangeShapes.trodVars_none n;obtain ⟨f,k⟩:=c;refine ⟨d,[],p++[],[],f,[],j,?_,?_,?_,r _,λh=>by cases h⟩
 .rw [o,zJ,a];exact Go.ChangeShapes.trodAll_mk1 (Go.RowKit.shut_bool hu true)
 .rw [zJ,a];exact k
 .rw [m,zJ,a];rfl
end Go.E3
/- E3: A CLOSED CALL that looks at listed variables, as a contract. -/
namespace Go.E2
open Go
def Fact.qyk (F:Fact):Bool:=
 F.args.isEmpty&&(F.pre.all λx=>match assoc (F.pre.map λx=>(x.1,x.1)) x.1,q15 (assoc (F.pre.map λx=>(x.1,x.1))) x.2 with
  | some k,some o=>Nat.beq k x.1&&q2w o x.2
  | _,_=>false)&&qpr (F.pre.map λx=>(x.1,x.1))&&(F.pre.all λx=>Nat.blt x.1 F.next)&&Nat.beq F.ro F.next&&qlj F.ret ((qgo (λ_=>none) F.ret).getD (.tuple [.nilp]))
theorem ztk {F:Fact} {H:Heap} (e:F.qyk=true) (i:H.zf=F.zf) (f:∀ x ∈ F.pre,H.get x.1=some x.2/\x.1<H.next):F.q19 [] H=some (.ret F.ret,H):=by
 simp only [Fact.qyk,zA] at e;obtain ⟨⟨⟨⟨⟨j,l⟩,m⟩,n⟩,g⟩,p⟩:=e;have q:F.args=[]:=List.isEmpty_iff.1 j;have a:F.fits (F.pre.map λx=>(x.1,x.1)) [] H=true:=by
  simp only [Fact.fits,zA];refine ⟨⟨⟨⟨?_,?_⟩,?_⟩,m⟩,?_⟩
  .rw [q];rfl
  .rw [i];exact Nat.beq_refl _
  .unfold quk;rw [List.all_eq_true];intro x b;have:=List.all_eq_true.1 l x b;split at this
   .rename_i k o c d;simp only [zA] at this;have r:=zE this.1;subst r;simp only [c,d,(f x b).1];exact this.2
   .cases this
  .rw [List.all_eq_true];intro x b;obtain ⟨y,h,rfl⟩:=List.mem_map.1 b;have c:=List.all_eq_true.1 n y h;have d:Nat.blt y.1 H.next=true:=by rw [Nat.blt_eq];exact (f y h).2
   have s:Nat.ble F.ro y.1=false:=by
    rw [<-Bool.not_eq_true,Nat.ble_eq,zE g];rw [Nat.blt_eq] at c;omega
   simp only [c,d,s,Nat.beq_refl,Bool.and_true,Bool.or_true,Bool.not_false,Bool.true_or]
 simp only [Fact.q19,a,g,p,Bool.and_true,zO]
end Go.E2
namespace Go.E3
open Go Go.E2
theorem qq0 {α:Type}:∀ {l:List (Nat×α)},distinct (l.map (·.1))=true->∀ {x:Nat×α},x ∈ l->look l x.1=some x.2
 | [],_,x,a=>by cases a
 | y::l,h,x,a=>by
  simp only [List.map_cons,distinct,zA,Bool.not_eq_true'] at h;simp only [look,cond_eq_ite,Nat.beq_eq];rcases zD.1 a with rfl | a
  .rw [zT rfl]
  .rw [zF]
   .exact qq0 h.2 a
   .intro c;have b:=h.1;rw [<-Bool.not_eq_true,List.any_eq_true] at b;exact b ⟨x.1,List.mem_map.2 ⟨x,a,rfl⟩,by rw [c];exact Nat.beq_refl _⟩
end Go.E3
/- E3: ARGUMENTS WHOSE ELEMENTS HOLD SLICES, to whatever depth. The element size of a slice that lies in a cell is told by a function F of the cells where it points. -/
namespace Go.E3
open Go Go.E2
variable {K:Nat->Type}
def qhv (W:World) (F:Array Value->Nat->Nat) (self:Nat):Value->V
 | .slice none len cap=>if len=0/\cap=0 then .nils else .tuple [.slice 0 0 0 0 0 none]
 | .slice (some a) len cap=>
  if cap=0 then (if len=0 then .slice self 0 0 0 1 (some 0) else .tuple [.slice 0 0 0 0 0 none])
  else match W.heap[a.block]? with
   | some (.cells b _ _)=>if a.spot=none/\len<=cap/\a.off+cap * F b a.off<=b.size then .slice a.block 0 a.off len (F b a.off) (some cap) else .tuple [.slice 0 0 0 0 0 none]
   | _=>.tuple [.slice 0 0 0 0 0 none]
 | x=>qfx x
theorem zky {W:World} {F:Array Value->Nat->Nat} {self:Nat} {arr:Array Value} {e:TypeId} {fz:Nat×Nat} (g:W.heap[self]? = some (.cells arr e fz)) (x:Value):isHole (qhv W F self x)=true∨Go.E2.Rel (qdw W) W (qhv W F self x) x:=by
 cases x with
 | slice a len cap=>
  cases a with
  | none=>
   simp only [qhv];split
   .rename_i h;obtain ⟨rfl,rfl⟩:=h;right;simp [Go.E2.Rel]
   .exact .inl rfl
  | some a=>
   simp only [qhv];split
   .rename_i m;subst m;split
    .rename_i o;subst o;right;simp only [Go.E2.Rel];exact ⟨self,0,arr.size,0,0,e,arr.size,a,qh6 g,rfl,.inl rfl,zN _,zN _,by omega,.inr rfl,λk d=>by cases d;exact ⟨rfl,by omega⟩,by simp only [World.shape?,g],by omega⟩
    .exact .inl rfl
   .split
    .rename_i arr' p q c;split
     .rename_i h;obtain ⟨i,j,f⟩:=h;right;obtain ⟨b,off,l⟩:=a;simp only at i f c;subst i;have r:len * F arr' off<=cap * F arr' off:=zU _ j;simp only [Go.E2.Rel];exact ⟨b,0,arr'.size,off,cap,p,arr'.size,_,qh6 c,rfl,.inr rfl,j,Nat.zero_le _,by omega,.inl rfl,λk d=>by cases d;exact ⟨rfl,f⟩,by simp only [World.shape?,c],f⟩
     .exact .inl rfl
    .exact .inl rfl
 | int k n=>right;simp [qhv,qfx,Go.E2.Rel]
 | bool b=>right;simp [qhv,qfx,Go.E2.Rel]
 | string s=>right;simp [qhv,qfx,Go.E2.Rel]
 | _=>exact .inl rfl
theorem q32 {W:World} {F:Array Value->Nat->Nat} {self:Nat} {arr:Array Value} {e:TypeId} {fz:Nat×Nat} (a:W.heap[self]? = some (.cells arr e fz)):∀ l:List Value,kl (qdw W) W (l.map (qhv W F self)) l
 | []=>by simp [kl]
 | x::l=>by
  simp only [List.map_cons,kl];exact ⟨x,l,rfl,zky a x,q32 a l⟩
def zso (W:World) (F:Array Value->Nat->Nat) (b:Nat):Option (Nat×O):=
 match W.heap[b]? with
 | some (.cells a e fz)=>some (b,.row (a.toList.map (qhv W F b)) e 0 0 fz.2 true)
 | _=>none
def zni (W:World) (F:Array Value->Nat->Nat):List (Nat×O):=(List.range W.heap.size).filterMap (zso W F)
theorem zij {W:World} {F:Array Value->Nat->Nat} {b:Nat} {x:Nat×O} (h:zso W F b=some x):∃ a e fz,W.heap[b]? = some (.cells a e fz)/\x=(b,.row (a.toList.map (qhv W F b)) e 0 0 fz.2 true):=by
 unfold zso at h;split at h
 .rename_i a e fz c;exact ⟨a,e,fz,c,(Option.some.inj h).symm⟩
 .cases h
theorem q3r {W:World} {F:Array Value->Nat->Nat} {b:Nat} {o:O} (h:(b,o) ∈ zni W F):∃ a e fz,W.heap[b]? = some (.cells a e fz)/\o=.row (a.toList.map (qhv W F b)) e 0 0 fz.2 true:=by
 obtain ⟨g,_,c⟩:=List.mem_filterMap.1 h;obtain ⟨a,e,fz,d,f⟩:=zij c;cases f;exact ⟨a,e,fz,d,rfl⟩
def qlq (W:World) (F:Array Value->Nat->Nat) (ng:Nat):Heap:={qbq:=qe7 (zni W F),next:=W.heap.size,ro:=W.heap.size,zf:=ng}
theorem q3c {W:World} {F:Array Value->Nat->Nat} {ng b:Nat} {arr:Array Value} {e:TypeId} {fz:Nat×Nat} (h:W.heap[b]? = some (.cells arr e fz)):(qlq W F ng).get b=some (.row (arr.toList.map (qhv W F b)) e 0 0 fz.2 true):=by
 have d:(b,O.row (arr.toList.map (qhv W F b)) e 0 0 fz.2 true) ∈ zni W F:=by
  refine List.mem_filterMap.2 ⟨b,List.mem_range.2 (qez h),?_⟩;unfold zso;rw [h]
 obtain ⟨o,a⟩:=qkw d;obtain ⟨arr',g,f,c,rfl⟩:=q3r (qby _ _ _ a);rw [h] at c;cases c;exact a
theorem qze {W:World} {F:Array Value->Nat->Nat} {ng b:Nat} {o:O} (h:(qlq W F ng).get b=some o):∃ a e fz,W.heap[b]? = some (.cells a e fz)/\o=.row (a.toList.map (qhv W F b)) e 0 0 fz.2 true:=
 q3r (qby _ _ _ h)
theorem z03 {W:World} {F:Array Value->Nat->Nat} {ng:Nat} (j:ng<=W.heap.size):Sim (qlq W F ng) (qdw W) W:=by
 refine ⟨λnm g b m n h=>?_,λnm g b m n p u q v h r=>?_,λnm o _ k=>?_,zN _,j,λg o _ k=>?_⟩
 .obtain ⟨_,c,e,fz,a,d⟩:=qbl h;cases d;exact ⟨qez a,qez a⟩
 .obtain ⟨_,_,_,_,_,d⟩:=qbl h;obtain ⟨_,_,_,_,_,l⟩:=qbl r;cases d;cases l;exact ⟨rfl,rfl⟩
 .obtain ⟨c,e,fz,a,rfl⟩:=qze k;refine ⟨zN _,λ_=>rfl,λg b m n s=>?_⟩;obtain ⟨rfl,arr',w,t,f,d⟩:=qbl s;rw [a] at f;cases f;cases d;refine ⟨zN _,Nat.zero_le _,by simp,λ_=>by simp,λ_=>rfl,λ_=>⟨c,fz,a,by simp,?_,λ_ i x y=>by omega,λ_=>by simp⟩⟩;rw [List.drop_zero,Nat.sub_zero,List.take_of_length_le (by simp),List.take_of_length_le (by simp)];exact q32 a _
 .obtain ⟨c,e,fz,a,_⟩:=qze k;exact ⟨_,qh6 a⟩
def qp0:Value->Bool
 | .slice ..=>true
 | _=>false
section
variable {Hd:Type} {enc:TypeId×Value->Hd} {P:Program} {W:World} {F:Array Value->Nat->Nat} {cd:TypeId->Option Nat} {good:∀ c,K c->Prop} {X:Codecs K} {sz:Nat->Nat}
theorem zhb {leaf:Leaf4} {x:Value} {self:Nat} (a:leaf.flat=true) (h:qbh enc P W cd leaf x):qhv W F self x=qfx x:=by
 cases leaf with
 | int k=>obtain ⟨n,rfl,_⟩:=h;rfl
 | bool=>obtain ⟨b,rfl⟩:=h;rfl
 | str=>obtain ⟨s,rfl,_⟩:=h;rfl
 | list c=>cases a
theorem q1u {leaf:Leaf4} {x:Value} (h:qbh enc P W cd leaf x):qp0 x = !leaf.flat:=by
 cases leaf with
 | int k=>obtain ⟨n,rfl,_⟩:=h;rfl
 | bool=>obtain ⟨b,rfl⟩:=h;rfl
 | str=>obtain ⟨s,rfl,_⟩:=h;rfl
 | list c=>rcases h with rfl | ⟨e,a,len,cap,_,rfl,_⟩<;>rfl
theorem q9e {self:Nat}:∀ {l:List Value},(l.all λx=>!qp0 x)=true->l.map (qhv W F self)=l.map qfx
 | [],_=>rfl
 | x::l,h=>by
  simp only [List.all_cons,zA] at h;simp only [List.map_cons,q9e h.2];congr 1;cases x<;>first | rfl | (simp [qp0] at h)
def q41 (sz:Nat->Nat) (P:Program) (F:Array Value->Nat->Nat) (b:TypeId->Option Nat) (depth c:Nat):Prop:=
 ∀ e ls,b e=some c->qq9 P b depth e=some ls->∀ (a:Array Value) (off:Nat),(∀ (i:Nat) leaf,ls[i]? = some leaf->∃ x,a[off+i]? = some x/\qp0 x = !leaf.flat)->F a off=sz c
def qoo (good:∀ c,K c->Prop) (X:Codecs K) (sz:Nat->Nat) (P:Program) (F:Array Value->Nat->Nat) (b:TypeId->Option Nat) (depth:Nat):Nat->Nat->Prop
 | 0,_=>False
 | n+1,c=>∀ e,b e=some c->∃ ls,qq9 P b depth e=some ls/\(∀ leaf ∈ ls,leaf.flat=true∨∃ d,leaf=.list d/\qoo good X sz P F b depth n d/\q41 sz P F b depth d)/\ls.length=sz c/\P.cellsOf e=sz c/\0<sz c/\
   ∀ ps:List (PV K),qjo good ls ps->∃ a x,X.pack c ps=some (a,x)/\a/\good c x
theorem add_add (b off i j:Nat):((⟨b,off,none⟩:Addr).add i).add j=⟨b,off+i+j,none⟩:=by
 unfold Addr.add;by_cases c:i=0
 .rw [zT c,c];by_cases a:j=0
  .rw [zT a,a];simp
  .rw [zF a];simp
 .rw [zF c];by_cases a:j=0
  .rw [zT a,a];simp
  .rw [zF a]
theorem zjg {a:Addr} {n:Nat} {cs:List Value} (f:0<n) (h:W.cells? 0 (a.add (0 * n)) n=some cs):a.spot=none/\∃ b e fz,W.heap[a.block]? = some (.cells b e fz):=by
 obtain ⟨_,k,d⟩:=World.cells?_some h;have c:=d 0 f;rw [Nat.zero_mul] at c;have g:(a.add 0).add 0=a:=by simp [Addr.add]
 rw [g,List.getElem?_eq_getElem (by omega)] at c;simp only [World.cell?] at c;split at c
 .rename_i b e fz i;split at c
  .cases c
  .rename_i j;exact ⟨by simpa using j,b,e,fz,i⟩
 .cases c
theorem qut {T:Nat->Prop} {w:Wd} {self:Nat} (e:∀ c,T c->∀ x,qbh enc P W cd (.list c) x->∃ p:PV K,qog good (.list c) p/\Rep X sz w p (qhv W F self x)) :
  ∀ {ls:List Leaf4} {cs:List Value},(∀ leaf ∈ ls,leaf.flat=true∨∃ c,leaf=.list c/\T c)->cs.length=ls.length->
   (∀ (i:Nat) leaf x,ls[i]? = some leaf->cs[i]? = some x->qbh enc P W cd leaf x)->
   ∃ ps:List (PV K),qjo good ls ps/\qj X sz w ps (cs.map (qhv W F self))
 | [],[],_,_,_=>⟨[],rfl,.nil⟩
 | [],_::_,_,h,_=>by simp at h
 | _::_,[],_,h,_=>by simp at h
 | l::ls,x::cs,f,j,g=>by
  obtain ⟨ps,k,m⟩:=qut e (cs:=cs) (λleaf n=>f leaf (zG _ n)) (by simpa using j) λi leaf y o q=>g (i+1) leaf y (by simpa using o) (by simpa using q);have a:=g 0 l x rfl rfl;obtain ⟨p,b,d⟩:∃ p:PV K,qog good l p/\Rep X sz w p (qhv W F self x):=by
   rcases f l zC with h | ⟨c,rfl,r⟩
   .obtain ⟨p,b,d⟩:=qqc (good:=good) (X:=X) (sz:=sz) (w:=w) h a;exact ⟨p,b,by rw [zhb h a];exact d⟩
   .exact e c r x a
  exact ⟨p::ps,⟨p,ps,rfl,b,k⟩,.cons d m⟩
theorem qyo {C:ZC K} (ok:CfgOk X sz C) {depth c b off cap:Nat} {arr:Array Value} {u e:TypeId} {fz:Nat×Nat} {w:Wd} {ls:List Leaf4} (v:W.heap[b]? = some (.cells arr u fz)) (z:qq9 P cd depth e=some ls) (A:ls.length=sz c)
  (B:∀ cs:List Value,cs.length=ls.length->(∀ (i:Nat) leaf x,ls[i]? = some leaf->cs[i]? = some x->qbh enc P W cd leaf x)->∃ ps:List (PV K),qjo good ls ps/\qj X sz w ps (cs.map (qhv W F b)))
  (D:∀ ps:List (PV K),qjo good ls ps->∃ d x,X.pack c ps=some (d,x)/\d/\good c x)
  (E:∀ i,i<cap->∃ cs m r,W.cells? 0 ((⟨b,off,none⟩:Addr).add (i * sz c)) (sz c)=some cs/\DataW.trod enc P W 0 (λ_=>true) true m e cs=some r) :
  ∀ i,i<cap->∃ cs:List Value,cs.length=sz c/\(∀ j,j<sz c->arr[off+i * sz c+j]? = cs[j]?)/\(∀ (j:Nat) leaf,ls[j]? = some leaf->∃ x,arr[off+i * sz c+j]? = some x/\qp0 x = !leaf.flat)/\
   ∃ y:K c,good c y/\qj X sz w (X.cells c y) (cs.map (qhv W F b)):=by
 intro i hi;obtain ⟨cs,m,r,G,H⟩:=E i hi;obtain ⟨_,I,h⟩:=World.cells?_some G;obtain ⟨k,f⟩:=qkj depth H z;obtain ⟨ps,l,n⟩:=B cs k f;obtain ⟨d,y,o,p,q⟩:=D ps l;have a:∀ j,j<sz c->arr[off+i * sz c+j]? = cs[j]?:=by
  intro j s;have:=h j s;rw [add_add] at this;simp only [World.cell?,v] at this;simpa using this
 refine ⟨cs,I,a,λj leaf t=>?_,y,q,ok.pack c ps d y o p _ _ n⟩;have s:j<sz c:=by rw [<-A];exact (List.getElem?_eq_some_iff.1 t).1
 have g:j<cs.length:=by omega
 refine ⟨cs[j],by rw [a j s,List.getElem?_eq_getElem g],q1u (f j leaf _ t (List.getElem?_eq_getElem g))⟩
theorem zlr {arr:Array Value} {off cap c:Nat} {Q:List Value->Nat->Prop} (e:0<sz c) (a:cap=0->off<=arr.size) (b:∀ i,i<cap->∃ cs:List Value,cs.length=sz c/\(∀ j,j<sz c->arr[off+i * sz c+j]? = cs[j]?)/\Q cs i):off+cap * sz c<=arr.size:=by
 cases cap with
 | zero=>simpa using a rfl
 | succ q=>
  obtain ⟨cs,g1,d,_⟩:=b q (Nat.lt_succ_self q);have:=d (sz c-1) (by omega);rw [List.getElem?_eq_getElem (by omega)] at this;have:=(Array.getElem?_eq_some_iff.1 this).1;rw [Nat.add_mul,Nat.one_mul];omega
theorem qqy {C:ZC K} (ok:CfgOk X sz C) {ng c b off len cap:Nat} {arr:Array Value} {r:TypeId} {fz:Nat×Nat} {M:Nat->Prop} {Q:List Value->Nat->Prop} (s:∀ n,¬ M n) (t:W.heap[b]? = some (.cells arr r fz)) (u:0<sz c) (h:len<=cap) (m:cap<=maxLen) (v:off+cap * sz c<=arr.size)
  (a:∀ i,i<cap->∃ cs:List Value,cs.length=sz c/\(∀ j,j<sz c->arr[off+i * sz c+j]? = cs[j]?)/\Q cs i/\∃ y:K c,good c y/\qj X sz (wd0 (qlq W F ng) M C.codec) (X.cells c y) (cs.map (qhv W F b))) :
  ∃ p:PV K,qog good (.list c) p/\Rep X sz (wd0 (qlq W F ng) M C.codec) p (.slice b 0 off len (sz c) (some cap)):=by
 have w:len * sz c<=cap * sz c:=zU _ h;obtain ⟨l,g1,o⟩:=qph (Q:=λi (y:K c)=>∃ cs:List Value,cs.length=sz c/\(∀ j,j<sz c->arr[off+i * sz c+j]? = cs[j]?)/\good c y/\qj X sz (wd0 (qlq W F ng) M C.codec) (X.cells c y) (cs.map (qhv W F b))) (n:=len) λi hi=>by
  obtain ⟨cs,g,d,_,y,e,f⟩:=a i (by omega);exact ⟨y,cs,g,d,e,f⟩
 refine ⟨.list c l none,⟨l,rfl,by omega,λy x=>?_⟩,?_⟩
 .obtain ⟨i,hi,rfl⟩:=List.mem_iff_getElem.1 x;obtain ⟨cs,g,d,e,f⟩:=o i hi;exact e
 .refine .list (q3c t) (zN _) (s b) g1.symm (by simp;omega) ⟨u,.inl rfl⟩ (λk z=>by cases z;exact h) (λi hi j p q=>?_) trivial;obtain ⟨cs,g,d,e,f⟩:=o i hi;have A:j<sz c:=by rw [<-ok.len c (l[i]'hi)];exact (List.getElem?_eq_some_iff.1 q).1
  have:=f.2 j p q;rw [List.getD_eq_getElem?_getD,List.getElem?_map] at this ⊢;rw [Array.getElem?_toList,d j A];exact this
theorem qzg {C:ZC K} (ok:CfgOk X sz C) {depth ng:Nat} {M:Nat->Prop} (D:∀ n,¬ M n):∀ (n:Nat) {c d:Nat},qoo good X sz P F cd depth n c->q41 sz P F cd depth c->∀ {g:Array Value} {J:TypeId} {m:Nat×Nat},W.heap[d]? = some (.cells g J m)->∀ {x:Value},
  qbh enc P W cd (.list c) x->∃ p:PV K,qog good (.list c) p/\Rep X sz (wd0 (qlq W F ng) M C.codec) p (qhv W F d x)
 | 0,c,d,E,_,_,_,_,_,_,_=>E.elim
 | n+1,c,d,E,G,g,J,m,j,x,h=>by
  rcases h with rfl | ⟨e,a,len,cap,L,rfl,N,o,H⟩
  .exact ⟨.list c [] none,⟨[],rfl,Nat.zero_le _,λx r=>by cases r⟩,.nlist trivial⟩
  .obtain ⟨ls,O,S,U,V,B,Y⟩:=E e L;rw [V] at H;by_cases l:cap=0
   .subst l;obtain rfl:len=0:=by omega
    refine ⟨.list c [] none,⟨[],rfl,Nat.zero_le _,λx r=>by cases r⟩,?_⟩;have:qhv W F d (.slice (some a) 0 0)=.slice d 0 0 0 1 (some 0):=by simp [qhv]
    rw [this];exact .list (q3c j) (zN _) (D d) rfl (by simp) ⟨B,.inr ⟨Nat.one_pos,rfl,rfl⟩⟩ (λk Z=>by cases Z;exact zN _) (λi hi=>by simp at hi) trivial
   .obtain ⟨a1,m0,r0,q0,_⟩:=H 0 (by omega);obtain ⟨s,t,el,fz,u⟩:=zjg B q0;obtain ⟨b,off,R⟩:=a;simp only at s u;subst s;have f:=qyo (w:=wd0 (qlq W F ng) M C.codec) ok u O U (λcs q1 q2=>qut (T:=λI=>qoo good X sz P F cd depth n I/\q41 sz P F cd depth I) (λI v x r=>qzg ok D n v.1 v.2 u r) S q1 q2) Y H;have y:=zlr (Q:=λcs i=>_) B (λh=>absurd h l) f;have z:F t off=sz c:=by
     obtain ⟨_,_,_,q,_⟩:=f 0 (by omega);exact G e ls L O t off λi leaf hi=>by have:=q i leaf hi;simpa using this
    have A:qhv W F d (.slice (some ⟨b,off,none⟩) len cap)=.slice b 0 off len (sz c) (some cap):=by
     simp only [qhv,zF l,u];rw [zT ⟨trivial,N,by rw [z];exact y⟩,z]
    rw [A];exact qqy ok D u B N o y f
theorem qzq {C:ZC K} (ok:CfgOk X sz C) {depth ng n:Nat} {base:Nat} {u:TypeId} {leaf:Leaf4} {x:Value} {M:Nat->Prop} (A:∀ n,¬ M n) (I:leaf.flat=true∨∃ c,leaf=.list c/\qoo good X sz P F cd depth n c) (J:Cell.okWide P W .any base u x) (h:qbh enc P W cd leaf x) :
  ∃ (p:PV K) (v:V),qog good leaf p/\Rep X sz (wd0 (qlq W F ng) M C.codec) p v/\Go.E2.Rel (qdw W) W v x:=by
 rcases I with B | ⟨c,rfl,D⟩
 .obtain ⟨p,r,s⟩:=qqc (X:=X) (sz:=sz) (w:=wd0 (qlq W F ng) M C.codec) B h;exact ⟨p,qfx x,r,s,q8s B h _⟩
 .cases n with
  | zero=>exact D.elim
  | succ n=>
   rcases h with rfl | ⟨e,a,len,cap,L,rfl,t,l,E⟩
   .exact ⟨.list c [] none,.nils,⟨[],rfl,Nat.zero_le _,λx y=>by cases y⟩,.nlist trivial,by simp [Go.E2.Rel]⟩
   .obtain ⟨m,o,N,fz,j,f⟩:=zal J;obtain ⟨b,off,G⟩:=a;simp only at m j f;subst m;obtain ⟨ls,r,s,O,R,H,S⟩:=D e L;rw [R] at E;have d:=qyo (w:=wd0 (qlq W F ng) M C.codec) ok j r O (λcs U Y=>qut (T:=λz=>qoo good X sz P F cd depth n z/\q41 sz P F cd depth z) (λz q x y=>qzg ok A n q.1 q.2 j y) s U Y) S E;have g:=zlr (Q:=λcs i=>_) H (λ_=>f) d;obtain ⟨p,g1,Z⟩:=qqy ok A j H t l g d;have a1:len * sz c<=cap * sz c:=zU _ t;refine ⟨p,_,g1,Z,?_⟩;simp only [Go.E2.Rel];exact ⟨b,0,o.size,off,cap,N,o.size,_,qh6 j,rfl,.inr rfl,t,Nat.zero_le _,by omega,.inl rfl,λk hk=>by cases hk;exact ⟨rfl,g⟩,by simp only [World.shape?,j],g⟩
theorem qte {C:ZC K} (ok:CfgOk X sz C) {depth ng n:Nat} {base:Nat} {M:Nat->Prop} (b:∀ n,¬ M n):∀ {ls:List Leaf4} {cs:List Value},(∀ leaf ∈ ls,leaf.flat=true∨∃ c,leaf=.list c/\qoo good X sz P F cd depth n c)->cs.length=ls.length->
  (∀ (i:Nat) x,cs[i]? = some x->∃ u,Cell.okWide P W .any base u x)->(∀ (i:Nat) leaf x,ls[i]? = some leaf->cs[i]? = some x->qbh enc P W cd leaf x)->
  ∃ (ps:List (PV K)) (a:List V),qjo good ls ps/\qj X sz (wd0 (qlq W F ng) M C.codec) ps a/\Go.E2.qi (qdw W) W a cs
 | [],[],_,_,_,_=>⟨[],[],rfl,.nil,by simp [Go.E2.qi]⟩
 | [],_::_,_,h,_,_=>by simp at h
 | _::_,[],_,h,_,_=>by simp at h
 | l::ls,x::cs,d,g,e,f=>by
  obtain ⟨u,j⟩:=e 0 x rfl;obtain ⟨p,v,k,m,o⟩:=qzq (ng:=ng) ok b (d l zC) j (f 0 l x rfl rfl);obtain ⟨ps,a,q,r,s⟩:=qte (ng:=ng) ok b (cs:=cs) (ls:=ls) (λleaf t=>d leaf (zG _ t)) (by simpa using g) (λi y w=>e (i+1) y (by simpa using w)) λi leaf y z A=>f (i+1) leaf y (by simpa using z) (by simpa using A);exact ⟨p::ps,v::a,⟨p,ps,rfl,k,q⟩,.cons m r,Go.E2.qi.cons o s⟩
theorem zxy {C:ZC K} (ok:CfgOk X sz C) {depth ng n:Nat} {base:Nat} {M:Nat->Prop} (i:∀ n,¬ M n) {t:TypeId} {v:Value} {d:DataW Hd} {ps:List MemPlace} {leaf:Leaf4} (j:leaf.flat=true∨∃ c,leaf=.list c/\qoo good X sz P F cd depth n c)
  (g:(match P.underlying t with | some (.struct _) | some (.array _ _)=>false | _=>true)=true) (k:qq9 P cd depth t=some [leaf]) (b:Value.okWide P W .any base t v) (l:DataW.Trod enc P W 0 (λ_=>true) true t v d ps) :
  ∃ (p:PV K) (u:V),qog good leaf p/\Rep X sz (wd0 (qlq W F ng) M C.codec) p u/\Go.E2.Rel (qdw W) W u v:=by
 obtain ⟨n,m⟩:=l;obtain ⟨q,o⟩:=qkj depth m k;have a:Cell.okWide P W .any base t v:=by
  unfold Value.okWide at b;split at b
  .rename_i h;simp [h] at g
  .rename_i h;simp [h] at g
  .exact b
 have e:v.cells.toList=[v]:=by
  cases v with
  | agg cs=>
   exfalso;unfold Cell.okWide at a;split at a<;>first | (rename_i f;cases f;done) | skip
   unfold Cell.ok at a;split at a<;>first | (rename_i f;cases f;done) | exact a
  | _=>rfl
 exact qzq ok i j a (o 0 leaf v rfl (by rw [e];rfl))
theorem ztx {C:ZC K} (ok:CfgOk X sz C) {depth ng n:Nat} {base:Nat} {M:Nat->Prop} (j:∀ n,¬ M n) {t:TypeId} {v:Value} {d:DataW Hd} {ps:List MemPlace} {ls:List Leaf4} {k:Array Field} (l:∀ leaf ∈ ls,leaf.flat=true∨∃ c,leaf=.list c/\qoo good X sz P F cd depth n c)
  (m:P.underlying t=some (.struct k)) (o:qq9 P cd depth t=some ls) (a:Value.okWide P W .any base t v) (p:DataW.Trod enc P W 0 (λ_=>true) true t v d ps) :
  ∃ (ps:List (PV K)) (u:V),qjo good ls ps/\Rep X sz (wd0 (qlq W F ng) M C.codec) (.agg ps) u/\Go.E2.Rel (qdw W) W u v:=by
 obtain ⟨n,q⟩:=p;obtain ⟨f,g⟩:=qkj depth q o;unfold Value.okWide at a;rw [m] at a;obtain ⟨cs,rfl,_,B,_,_,b⟩:=a;have e:(Value.agg cs).cells.toList=cs.toList:=rfl;rw [e] at f g;obtain ⟨r,s,w,h,y⟩:=qte (ng:=ng) ok j l f (λi x z=>by
  obtain ⟨u,_,A⟩:=b i x (by simpa using z);exact ⟨u,A⟩) g
 exact ⟨r,.agg s,w,.agg h.1 h.2,by simp only [Go.E2.Rel];exact ⟨cs,rfl,y⟩⟩
end
end Go.E3
/- PLAIN LEAN FOR CONDITIONS: elements, bytes, parts of lists by numbers; places up to which something holds; cuts at a byte. No program in sight. -/
namespace Go.E3
theorem qzn {α:Type} [Inhabited α] {l:List α} {i:Nat} (h:i<l.length):ix l (i:Int)=l[i]:=by
 simp [ix,List.getD_eq_getElem?_getD,h]
theorem qpb {α:Type} [Inhabited α] {l m:List α} {i:Int} (a:0<=i) (h:i<ln l):ix (l++m) i=ix l i:=by
 have:i.toNat<l.length:=by simp only [ln] at h;omega
 simp [ix,List.getD_eq_getElem?_getD,List.getElem?_append_left this]
theorem qfa {α:Type} (l:List α):fr l 0=l:=rfl
theorem qfm {α:Type} (l:List α):upto l 0=[]:=rfl
theorem qhb {α:Type} {l:List α} {i:Int} (h:ln l<=i):fr l i=[]:=by
 apply List.drop_of_length_le;simp only [ln] at h;omega
theorem qea {α:Type} {l:List α} {i:Int} (h:ln l<=i):upto l i=l:=by
 apply List.take_of_length_le;simp only [ln] at h;omega
theorem qat {α:Type} [Inhabited α] {l:List α} {i:Int} (a:0<=i) (h:i<ln l):fr l i=ix l i::fr l (i+1):=by
 have hi:i.toNat<l.length:=by simp only [ln] at h;omega
 have e:(i+1).toNat=i.toNat+1:=by omega
 unfold fr ix;rw [List.drop_eq_getElem_cons hi,e,List.getD_eq_getElem?_getD,List.getElem?_eq_getElem hi];rfl
theorem qdg {α:Type} [Inhabited α] {l:List α} {i:Int} (a:0<=i) (h:i<ln l):upto l (i+1)=upto l i++[ix l i]:=by
 have hi:i.toNat<l.length:=by simp only [ln] at h;omega
 have e:(i+1).toNat=i.toNat+1:=by omega
 unfold upto ix;rw [e,List.take_add_one,List.getD_eq_getElem?_getD,List.getElem?_eq_getElem hi];rfl
theorem qel {α:Type} {l:List α} {i:Int} (a:0<=i) (h:i<=ln l):ln (fr l i)=ln l-i:=by
 simp only [ln,fr,List.length_drop] at *;omega
theorem qhj {α:Type} {l:List α} {i:Int} (a:0<=i) (h:i<=ln l):ln (upto l i)=i:=by
 simp only [ln,upto,List.length_take] at *;omega
theorem qzt {α:Type} {l:List α} {i j:Int} (a:0<=i) (b:i<=j) (h:j<=ln l):ln (sub l i j)=j-i:=by
 simp only [ln,sub,List.length_drop,List.length_take] at *;omega
theorem ln_nonneg {α:Type} (l:List α):0<=ln l:=Int.natCast_nonneg _
theorem qm {α:Type} (l m:List α):ln (l++m)=ln l+ln m:=by simp [ln]
theorem kk {α:Type} (a:α) (l:List α):ln (a::l)=ln l+1:=by simp [ln]
theorem qfp {α:Type}:ln ([]:List α)=0:=rfl
theorem zr7 {α:Type} {l:List α} (h:ln l<=0):l=[]:=by
 cases l with
 | nil=>rfl
 | cons a l=>simp only [ln,List.length_cons] at h;omega
theorem qcg {α:Type} {l m:List α} (h:ln l+ln m<=1000000000):qp (l.length+m.length):=by simp only [ln,qp] at *;omega
theorem qcj {α:Type} {l:List α} {a:α} (h:ln l+1<=1000000000):qp (l.length + [a].length):=by simp only [ln,qp,List.length_cons,List.length_nil] at *;omega
theorem qb5 {α:Type} (l:List α) (a:α):ln (l++[a])=ln l+1:=by simp [ln]
theorem qik {α:Type} {l:List α} {i j:Int} (a:0<=i) (b:i<=j):sub l i j=upto (fr l i) (j-i):=by
 simp only [sub,fr,upto];rw [List.take_drop];have:i.toNat+(j-i).toNat=j.toNat:=by omega
 rw [this]
theorem qy2 {α:Type} {l:List α} {i j:Int} (a:0<=i) (b:0<=j):fr (fr l i) j=fr l (i+j):=by
 simp only [fr,List.drop_drop];have:i.toNat+j.toNat=(i+j).toNat:=by omega
 rw [this]
theorem qsm {s:List UInt8} {i j:Int} (a:0<=i) (b:0<=j):bx (fr s i) j=bx s (i+j):=by
 have:i.toNat+j.toNat=(i+j).toNat:=by omega
 simp only [bx,fr,List.getD_eq_getElem?_getD,List.getElem?_drop,this]
theorem ze8 {α:Type} [Inhabited α] {s:List α} {i j:Int} (a:0<=i) (b:0<=j):ix (fr s i) j=ix s (i+j):=by
 have:i.toNat+j.toNat=(i+j).toNat:=by omega
 simp only [ix,fr,List.getD_eq_getElem?_getD,List.getElem?_drop,this]
theorem qsn (s:List UInt8) (i:Int):bx s i=((ix s i).toNat:Int):=rfl
theorem qgc {a b:UInt8} (h:(a.toNat:Int)=b.toNat):a=b:=UInt8.toNat_inj.1 (by omega)
theorem q56 {α:Type} [Inhabited α] {l:List α} {a:α} (h:a ∈ l):∃ i:Int,0<=i/\i<ln l/\ix l i=a:=by
 obtain ⟨i,hi,rfl⟩:=List.mem_iff_getElem.1 h;exact ⟨i,by omega,by simp only [ln];omega,qzn hi⟩
theorem qci {α:Type} [Inhabited α] {l:List α} {i:Int} (a:0<=i) (h:i<ln l):ix l i ∈ l:=by
 have hi:i.toNat<l.length:=by simp only [ln] at h;omega
 have:ix l i=l[i.toNat]:=by simp [ix,List.getD_eq_getElem?_getD,hi]
 rw [this];exact List.getElem_mem hi
theorem qpg {α:Type} [Inhabited α] {l m:List α} (h:ln l=ln m) (he:∀ i,0<=i->i<ln l->ix l i=ix m i):l=m:=by
 apply List.ext_getElem (by simp only [ln] at h;omega);intro i a b;have:=he i (by omega) (by simp only [ln];omega)
 rwa [qzn a,qzn b] at this
def qeo (p:Int->Bool) (s:List UInt8) (i:Int):Int:=if h:0<=i/\i<ln s/\p (bx s i)=true then qeo p s (i+1) else i
 termination_by (ln s-i).toNat
 decreasing_by omega
theorem qtr {p:Int->Bool} {s:List UInt8} {i:Int}:i<=qeo p s i:=by
 fun_induction qeo p s i with
 | case1 i h a=>omega
 | case2 i h=>omega
theorem zab {p:Int->Bool} {s:List UInt8} {i:Int} (hi:i<=ln s):qeo p s i<=ln s:=by
 fun_induction qeo p s i with
 | case1 i h a=>exact a (by omega)
 | case2 i h=>exact hi
theorem qr5 {p:Int->Bool} {s:List UInt8} {i:Int} (a:0<=i) (h:i<ln s) (b:p (bx s i)=true):qeo p s i=qeo p s (i+1):=by
 rw [qeo,dif_pos ⟨a,h,b⟩]
theorem qlf {p:Int->Bool} {s:List UInt8} {i:Int} (h:ln s<=i∨p (bx s i)=false):qeo p s i=i:=by
 rw [qeo,dif_neg];rintro ⟨_,b,a⟩;rcases h with h | h
 .omega
 .rw [a] at h;cases h
theorem zi6 {p:Int->Bool} {s:List UInt8} {i:Int} (a:0<=i) (h:qeo p s i<ln s):p (bx s (qeo p s i))=false:=by
 fun_induction qeo p s i with
 | case1 i hi b=>exact b (by omega) h
 | case2 i hi=>
  rw [<-Bool.not_eq_true];exact λc=>hi ⟨a,h,c⟩
theorem zi5 {p:Int->Bool} {s:List UInt8} {i:Int}:∀ j,i<=j->j<qeo p s i->p (bx s j)=true:=by
 fun_induction qeo p s i with
 | case1 i hi b=>
  intro j c a;by_cases h:j=i
  .rw [h];exact hi.2.2
  .exact b j (by omega) a
 | case2 i hi=>intro j c a;omega
theorem q0i {p:Int->Bool} {s:List UInt8} {i k:Int} (c:0<=i) (f:i<=k) (g:k<=ln s) (b:∀ j,i<=j->j<k->p (bx s j)=true) (a:k=ln s∨p (bx s k)=false):qeo p s i=k:=by
 fun_induction qeo p s i with
 | case1 i hi d=>
  by_cases h:i=k
  .subst h;rcases a with a | a
   .omega
   .rw [hi.2.2] at a;cases a
  .exact d (by omega) (by omega) λj l e=>b j (by omega) e
 | case2 i hi=>
  by_cases h:i=k
  .exact h
  .exact absurd ⟨c,by omega,b i (by omega) (by omega)⟩ hi
def splitI (c:Int):List UInt8->List (List UInt8)
 | []=>[[]]
 | b::l=>if (b.toNat:Int)=c then []::splitI c l else match splitI c l with
  | []=>[[b]]
  | x::a=>(b::x)::a
theorem q4a (c:Int) (s:List UInt8):splitI c s≠[]:=by
 cases s with
 | nil=>simp [splitI]
 | cons b l=>
  unfold splitI;split
  .simp
  .split<;>simp
theorem qwm {c:Int}:∀ {s:List UInt8},(∀ b ∈ s,(b.toNat:Int)≠c)->splitI c s=[s]
 | [],_=>rfl
 | b::l,h=>by
  rw [splitI,zF (h b zC),qwm λx a=>h x (zG _ a)]
theorem qr8 {c:Int} {b:UInt8} (d:(b.toNat:Int)=c):∀ {s t:List UInt8},(∀ x ∈ s,(x.toNat:Int)≠c)->splitI c (s++b::t)=s::splitI c t
 | [],t,_=>by rw [List.nil_append,splitI,zT d]
 | a::l,t,h=>by
  rw [List.cons_append,splitI,zF (h a zC),qr8 d λx e=>h x (zG _ e)]
theorem qn1 (c:Int):∀ s:List UInt8,ln (splitI c s)=(s.countP (λb=>decide ((b.toNat:Int)=c)):Nat)+1
 | []=>rfl
 | b::l=>by
  have a:=qn1 c l;unfold splitI;split
  .rename_i h;rw [kk,a,List.countP_cons_of_pos (by simpa using h)];omega
  .rename_i h;rw [List.countP_cons_of_neg (by simpa using h)];split
   .rename_i d;exact absurd d (q4a c l)
   .rename_i x f e;rw [e] at a;rw [kk] at a ⊢;exact a
theorem zdc (c:Int) (s:List UInt8):1<=ln (splitI c s):=by
 rw [qn1];omega
theorem qde {c:Int}:∀ {s x:List UInt8},x ∈ splitI c s->ln x<=ln s
 | [],x,h=>by simp [splitI] at h;subst h;exact zK _
 | b::l,x,h=>by
  rw [kk];unfold splitI at h;split at h
  .rcases zD.1 h with rfl | h
   .have:=ln_nonneg l;rw [qfp];omega
   .have:=qde h;omega
  .split at h
   .rename_i d;exact absurd d (q4a c l)
   .rename_i y e a;rcases zD.1 h with rfl | h
    .have:y ∈ splitI c l:=by rw [a];exact zC
     have:=qde this;rw [kk];omega
    .have:x ∈ splitI c l:=by rw [a];exact zG _ h
     have:=qde this;omega
end Go.E3
