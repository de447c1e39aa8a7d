/- A VERIFIED EVALUATOR, texts E3v, E3w, E3x, E3y, E3z, E3za, E3zb, E3zd, L3a in one. -/
import Derived.Test.YtbopmiclcimjgaaGreatDoorM5
import Derived.ChangeBook
import Derived.ChangeStays
import Derived.ChangeArms
import Derived.ChangeMaps5
import Derived.OpenShut
/- E3: CODE against E2's. -/
namespace Go.E3
open Go Go.E2
variable {K:Nat->Type}
section
variable {X:Codecs K} {sz:Nat->Nat} {C:Cfg Int Bool (List UInt8) Prop (fun c=>List (K c))} {base:Heap}
variable {tbl:Tbl K} {inv:Nat->List (NV K)->Prop} {meas:Nat->List (NV K)->Nat} {inl:Inl Int Bool (List UInt8) Prop (fun c=>List (K c))}
theorem qzm {fr2:Fr} {H2:Heap} {w2:Wd} {s:RSlot} {vs us:List V} (h1:q2e fr2 H2 w2 s vs) (h2:q2e fr2 H2 w2 s us):vs=us:=by
 cases s with
 | one t k=>
  obtain ⟨v,a,rfl⟩:=h1
  obtain ⟨u,b,rfl⟩:=h2
  rw [a] at b
  cases b
  rfl
 | agg t ks=>
  have a:fr2.tmp t=some (.agg vs):=h1
  have b:fr2.tmp t=some (.agg us):=h2
  rw [a] at b
  cases b
  rfl
 | var id ks=>
  obtain ⟨_,e,ex,a⟩:=h1
  obtain ⟨_,e',ex',b⟩:=h2
  rw [a] at b
  cases b
  rfl
 | ml id c=>exact False.elim h1
theorem qmh {st0 st2:StV K}:∀ {ks:List SK} {as bs:List (PV K)} {obs:List Prop},qh6 (qk X tbl inv meas) st2 ks as bs=some obs->(∀ q ∈ obs,q)->∀ (i:Nat) (p:PV K),ks[i]? = some .keep->as[i]? = some p->
  ∃ p2 o,bs[i]? = some p2/\z7 (qk X tbl inv meas) st2 p p2=some o/\∀ q ∈ o,q
 | [],as,bs,obs,h,ho,i,p,hk,ha=>by simp at hk
 | k::ks,[],bs,obs,h,ho,i,p,hk,ha=>by simp at ha
 | k::ks,a::as,[],obs,h,ho,i,p,hk,ha=>by cases k<;>simp [qh6] at h
 | k::ks,a::as,b::bs,obs,h,ho,i,p,hk,ha=>by
  have rest:∀ obs',qh6 (qk X tbl inv meas) st2 ks as bs=some obs'->(∀ q ∈ obs',q)->∀ i',i=i'+1->∃ p2 o,(b::bs)[i]? = some p2/\z7 (qk X tbl inv meas) st2 p p2=some o/\∀ q ∈ o,q:=by
   intro obs' h1 h2 i' hi
   subst hi
   obtain ⟨p2,o,e1,e2,e3⟩:=qmh (st0:=st0) (st2:=st2) h1 h2 i' p (by simpa using hk) (by simpa using ha)
   exact ⟨p2,o,by simpa using e1,e2,e3⟩
  cases k with
  | keep=>
   simp only [qh6] at h
   obtain ⟨x,hx,h1⟩:=Option.bind_eq_some_iff.1 h
   obtain ⟨y,hy,rfl⟩:=Option.map_eq_some_iff.1 h1
   cases i with
   | zero=>
    simp only [List.getElem?_cons_zero,Option.some.injEq] at ha
    subst ha
    exact ⟨b,x,rfl,hx,fun q hq=>ho q (List.mem_append_left _ hq)⟩
   | succ i=>exact rest y hy (fun q hq=>ho q (List.mem_append_right _ hq)) i rfl
  | _=>
   have h':qh6 (qk X tbl inv meas) st2 ks as bs=some obs:=h
   cases i with
   | zero=>simp at hk
   | succ i=>exact rest obs h' ho i rfl
theorem qfg {st0 st2:StV K}:∀ {slots:List RSlot} {obs:List Prop},qew (qk X tbl inv meas) st0 st2 slots=some obs->(∀ q ∈ obs,q)->∀ s ∈ slots,(∃ id c,s=.ml id c)∨∃ x y o,qa5 st0 s=some x/\qa5 st2 s=some y/\qh6 (qk X tbl inv meas) st2 x.1 x.2 y.2=some o/\∀ q ∈ o,q
 | [],obs,_,_,s,hs=>by cases hs
 | s0::slots,obs,h,ho,s,hs=>by
  by_cases hmm:∃ id c,s0=.ml id c
  .obtain ⟨id,c,rfl⟩:=hmm
   simp only [qew] at h
   rcases List.mem_cons.1 hs with rfl | hs
   .exact .inl ⟨id,c,rfl⟩
   .exact qfg h ho s hs
  have hml':∀ id c,s0=.ml id c->False:=fun id c he=>hmm ⟨id,c,he⟩
  simp only [qew] at h
  obtain ⟨x,hx,h1⟩:=Option.bind_eq_some_iff.1 h
  obtain ⟨y,hy,h2⟩:=Option.bind_eq_some_iff.1 h1
  obtain ⟨a,ha,h3⟩:=Option.bind_eq_some_iff.1 h2
  obtain ⟨r,hr,rfl⟩:=Option.map_eq_some_iff.1 h3
  rcases List.mem_cons.1 hs with rfl | hs
  .exact .inr ⟨x,y,a,hx,hy,ha,fun q hq=>ho q (List.mem_append_left _ hq)⟩
  .exact qfg hr (fun q hq=>ho q (List.mem_append_right _ hq)) s hs
theorem qfj {vias:List Nat} {st2:StV K}:∀ {l:List (Nat×Cont Int Bool (List UInt8) Prop (fun c=>List (K c)))} {obs:List Prop},qf4 (qk X tbl inv meas) vias st2 l=some obs->(∀ q ∈ obs,q)->∀ id ct,(id,ct) ∈ l->id ∈ vias∨∃ o,qhq (qk X tbl inv meas) st2 id ct=some o/\∀ q ∈ o,q
 | [],obs,_,_,id,ps,h=>by cases h
 | (i,cs)::l,obs,h,ho,id,ps,hm=>by
  simp only [qf4] at h
  rcases zn h with ⟨hb,h1⟩ | ⟨hb,h1⟩
  .obtain ⟨x,hx,h3⟩:=Option.bind_eq_some_iff.1 h1
   obtain ⟨y,hy,rfl⟩:=Option.map_eq_some_iff.1 h3
   rcases List.mem_cons.1 hm with he | hm
   .cases he
    exact .inr ⟨x,hx,fun q hq=>ho q (List.mem_append_left _ hq)⟩
   .exact qfj hy (fun q hq=>ho q (List.mem_append_right _ hq)) id ps hm
  .rcases List.mem_cons.1 hm with he | hm
   .cases he
    obtain ⟨j,hj,hb2⟩:=List.any_eq_true.1 hb
    have:=Nat.eq_of_beq_eq_true hb2
    subst this
    exact .inl hj
   .exact qfj h1 ho id ps hm
theorem cond_prop {c:Bool} {p:Prop} (h:bif c then p else False):c=true/\p:=by
 cases c with
 | false=>exact absurd h id
 | true=>exact ⟨rfl,h⟩
theorem zce {t t':Option TypeId} {ps qs:List (PV K)} {e:TypeId} {ex:Bool} (h:zfq t t'=true) (h':qs4 (.cs t' qs) e ex):qs4 (.cs t ps) e ex:=by
 cases t with
 | none=>trivial
 | some a=>
  cases t' with
  | none=>cases h
  | some b=>
   have:=Nat.eq_of_beq_eq_true h
   subst this
   exact h'
theorem q4m {j:Nat} {seen:List (NV K)} {slots:List RSlot} {dec:Option (List (NV K))} {st0 hd st2:StV K} (h:qtx (qk X tbl inv meas) j seen slots dec st0 hd st2) :
  ∃ ns a b,qc3 (qk X tbl inv meas) st2 slots=some ns/\qew (qk X tbl inv meas) st0 st2 slots=some a/\qf4 (qk X tbl inv meas) (qe2 slots) st2 st0.cells=some b/\(∀ q ∈ a,q)/\(∀ q ∈ b,q)/\
   distinct (zx st2 slots)=true/\(∀ i ∈ zx st2 slots,look hd.owns i=none)/\(∀ i s,look hd.owns i=some s->look st2.owns i=some s)/\inv j (ns++seen)/\(∀ m,dec=some m->meas j (ns++seen)<meas j (m++seen)):=by
 unfold qtx at h
 split at h
 .rename_i ns a b hN hK hS
  obtain ⟨hb,h⟩:=cond_prop h
  simp only [Bool.and_eq_true] at hb
  obtain ⟨h1,h2⟩:=qls h
  obtain ⟨h3,h4⟩:=qls h2
  refine ⟨ns,a,b,hN,hK,hS,h1,h3,hb.1.1,fun i hi=>?_,fun i s hi=>?_,h4.1,fun m hm=>?_⟩
  .cases hl:look hd.owns i with
   | none=>rfl
   | some s=>
    have:=List.all_eq_true.1 hb.1.2 i hi
    simp only [Bool.not_eq_true',<-Bool.not_eq_true,List.any_eq_true] at this
    exact absurd ⟨(i,s),qc8 hl,Nat.beq_refl i⟩ this
  .have:=List.all_eq_true.1 hb.2 (i,s) (qc8 hi)
   simp only at this
   split at this
   .rename_i s' hs'
    have:=Nat.eq_of_beq_eq_true this
    rw [hs',this]
   .cases this
  .subst hm
   exact h4.2
 .exact absurd h id
theorem quc (ok:CfgOk X sz C) (ok2:CfgOk2 X C) {st0 st2:StV K} {fr0 fr2:Fr} {H0 H2:Heap} {w0 w2:Wd} (R0:Rel X sz C base st0 fr0 H0 w0) (R2:Rel X sz C base st2 fr2 H2 w2) (hle:Le w0 w2) {j:Nat} {seen:List (NV K)} {ds:List Nat} {slots:List RSlot} {dec:Option (List (NV K))}
  (hn:fr2.n=fr0.n) (hfr:∀ t,t ∉ ds->fr2.tmp t=fr0.tmp t) (hb:qtx (qk X tbl inv meas) j seen slots dec st0 (qcb st0 ds slots) st2) :
  ∃ ns,inv j (ns++seen)/\(∀ m,dec=some m->meas j (ns++seen)<meas j (m++seen))/\∀ G:List (NV K)->StV K->Prop,qby (qk X tbl inv meas) st0 slots (qcb st0 ds slots) G->∃ st1 w1,G ns st1/\Rel X sz C base st1 fr2 H2 w1/\Le w0 w1/\st1.n=st0.n:=by
 obtain ⟨ns,a,b,hN,hK,hS,ha,hbb,hd,hsep,hret,hinv,hdec⟩:=q4m hb
 refine ⟨ns,hinv,hdec,fun G hG=>qru ok ok2 R0 R2 hle (by rw [<-R2.n,hn,R0.n]) hfr hN (fun s hs=>?_) (fun id ps hl=>?_) hret hsep hd hG⟩
 .rcases qfg hK ha s hs with ⟨id,c,rfl⟩ | ⟨x,y,o,hx,hy,ho,hq⟩
  .intro x' hx'
   simp [qa5] at hx'
  intro x' hx' vs hvs i p hk hp w' h1 h2 h3
  rw [hx] at hx'
  cases hx'
  obtain ⟨p2,o2,hp2,hs2,ho2⟩:=qmh (st0:=st0) (st2:=st2) ho hq i p hk hp
  obtain ⟨vs0,_,r0⟩:=qjx R0 hx
  obtain ⟨vs2,hvs2,r2⟩:=qjx R2 hy
  have:=qzm hvs hvs2
  subst this
  obtain ⟨v0,_,q0⟩:=r0.get hp
  have q2:=r2.2 i p2 hp2
  exact qpn ok.len ok2 h1 hle R2.h.owns (fun id hi=>by rw [h1.c id hi,hle.c id hi]) h2 h3 p p2 hs2 ho2 q0 q2
 .rcases qfj hS hbb id ps (qc8 hl) with h1 | ⟨o,h2,h3⟩
  .exact .inl h1
  .right
   intro w' hg
   obtain ⟨g1,g2,g3,g4⟩:=hg
   obtain ⟨hcl0,_,r0⟩:=R0.h.cells id ps hl
   have hid0:id<w0.n:=by rw [R0.h.n];exact (R0.h.cl id hcl0).1
   cases ps with
   | lp r=>
    simp only [qhq] at h2
    split at h2
    .rename_i r' hl2
     rcases zn h2 with ⟨_,h2⟩ | ⟨hm,_⟩
     .cases h2
     obtain ⟨_,hM,gg,p1,p2,_⟩:=R2.h.cells id _ hl2
     obtain ⟨gg0,q1,_,q3,q4,q5,q6,q7⟩:=r0
     have e1:gg=gg0:=by
      rw [hle.lp id hid0,q1] at p1
      exact (Option.some.inj p1).symm
     subst e1
     have e2:r'.mode=r.mode:=by
      revert hm
      cases r.mode<;>cases r'.mode<;>simp [qzh]
     refine ⟨hM,fun w'' hw=>⟨gg,?_,by rw [p2,e2],q3,q4,q5,q6,fun i p hp=>?_⟩⟩
     .rw [hw.lp id (Nat.lt_of_lt_of_le hid0 g1.n),g1.lp id hid0]
      exact q1
     .obtain ⟨v,a,b⟩:=q7 i p hp
      exact ⟨v,a,b.mono ok.len (g1.trans hw)⟩
    .cases h2
   | cs t ps=>
    obtain ⟨vs0,_,_,_,ty0,r0⟩:=r0
    simp only [qhq] at h2
    rcases zn h2 with ⟨_,h2⟩ | ⟨hty,h2⟩
    .cases h2
    obtain ⟨dd,h1,h2⟩:=Option.bind_eq_some_iff.1 h2
    obtain ⟨_,hM,vs2,e,ex,hgt,ty2,r2⟩:=R2.h.cells id _ (qdv h1)
    exact ⟨hM,fun w'' hw=>⟨vs2,e,ex,hgt,zce hty ty2,(qf0 ok.len ok2 g1 hle R2.h.owns (fun id hi=>by rw [g1.c id hi,hle.c id hi]) g2 g3 ps dd h2 h3 r0 r2).mono ok.len hw⟩⟩
   | mp c lf va l=>
    simp only [qhq] at h2
    split at h2
    .rename_i m hm
     split at h2
     .rename_i hc
      obtain ⟨c',lf',va',l'⟩:=m
      simp only at hc
      subst hc
      rcases zn h2 with ⟨_,h2⟩ | ⟨hb,h2⟩
      .cases h2
      cases h2
      have he:l=l':=h3 _ List.mem_cons_self
      subst he
      simp only [Bool.and_eq_true,beq_iff_eq] at hb
      have e1:=qpm hb.1
      have e2:=hb.2
      subst e1
      subst e2
      have hlk:look st2.cells id=some (.mp c' lf va l):=by
       unfold qv1 at hm
       split at hm
       .rename_i e
        cases hm
        exact e
       .cases hm
      obtain ⟨_,hM,es,clock,hgt,hlen,hent⟩:=R2.h.cells id _ hlk
      have pl:∀ {x:K c'} {ps:List (PV K)} {vs:List V},(∀ p ∈ ps,p ∈ X.cells c' x)->qi X sz w2 ps vs->qi X sz w' ps vs:=fun hsub r2=>
       ⟨r2.1,fun j p hp=>(r2.2 j p hp).plain ok2.plain g2 (fun _ _ _ h=>by rw [g3];exact h) (ok2.plain c' _ p (hsub p (List.mem_of_getElem? hp)))⟩
      refine ⟨hM,fun w'' hw=>⟨es,clock,hgt,hlen,fun i x e a b=>?_⟩⟩
      obtain ⟨z1,z2,z3,z4⟩:=hent i x e a b
      exact ⟨(pl (fun p hp=>List.mem_of_mem_take hp) z1).mono ok.len hw,z2,(pl (fun p hp=>List.mem_of_mem_drop hp) z3).mono ok.len hw,z4⟩
     .cases h2
    .cases h2
   | ml c l=>
    simp only [qhq] at h2
    obtain ⟨l',h1,rfl⟩:=Option.map_eq_some_iff.1 h2
    have he:l=l':=h3 _ List.mem_cons_self
    subst he
    obtain ⟨_,hM,vs2,e,ex,hgt,_,r2⟩:=R2.h.cells id _ (qex h1)
    refine ⟨hM,fun w'' hw=>⟨vs2,e,ex,hgt,trivial,qi.mono ok.len hw ⟨r2.1,fun j p hp=>(r2.2 j p hp).plain ok2.plain g2 (fun _ _ _ h=>by rw [g3];exact h) ?_⟩⟩⟩
    obtain ⟨x,_,hx⟩:=List.mem_flatMap.1 (List.mem_of_getElem? hp)
    exact ok2.plain c x p hx
theorem q1a (ok:CfgOk X sz C) (ok2:CfgOk2 X C) {st0:StV K} {fr0:Fr} {H0:Heap} {w0:Wd} (R0:Rel X sz C base st0 fr0 H0 w0) {ds:List Nat} {slots:List RSlot} {ns:List (NV K)} (hN:qc3 (qk X tbl inv meas) st0 slots=some ns) (hd:distinct (zx st0 slots)=true)
  {G:List (NV K)->StV K->Prop} (hG:qby (qk X tbl inv meas) st0 slots (qcb st0 ds slots) G):∃ st1 w1,G ns st1/\Rel X sz C base st1 fr0 H0 w1/\Le w0 w1/\st1.n=st0.n:=by
 have howns:∀ i,look (qcb st0 ds slots).owns i=if i ∈ zx st0 slots then none else look st0.owns i:=fun i=>qh7
 refine qru ok ok2 R0 R0 (.refl w0) rfl (fun _ _=>rfl) hN (fun s hs=>?_) (fun id ps hl=>?_) (fun i s hi=>?_) (fun i hi=>?_) hd hG
 .intro x hx vs hvs i p hk hp w' h1 h2 h3
  obtain ⟨vs0,hvs0,r0⟩:=qjx R0 hx
  have:=qzm hvs hvs0
  subst this
  exact (r0.2 i p hp).mono ok.len h1
 .right
  intro w' hg
  obtain ⟨hcl0,hM,r0⟩:=R0.h.cells id ps hl
  exact ⟨hM,fun w'' hw=>r0.mono ok.len (hg.1.trans hw) (by rw [R0.h.n];exact (R0.h.cl id hcl0).1)⟩
 .rw [howns] at hi
  split at hi
  .cases hi
  .exact hi
 .rw [howns,if_pos hi]
abbrev qlo (X:Codecs K) (sz:Nat->Nat) (C:Cfg Int Bool (List UInt8) Prop (fun c=>List (K c))) (base:Heap) (w:Wd) (k:Ex->StV K->Prop) (ex:Ex) (fr':Fr) (H':Heap):Prop:=
 (∀ l,ex≠.goto l)/\∃ st' w',k ex st'/\Rel X sz C base st' fr' H' w'/\Le w w'
theorem q1d {σ:Type} {step:σ->(σ->Prop)->Prop} {n:Nat} {s:σ} (h:qyn step False n s):∃ m,n=m+1/\step s fun s'=>qyn step False m s':=by
 cases n with
 | zero=>exact absurd h id
 | succ m=>exact ⟨m,rfl,h⟩
theorem zcm {E:Env} {fn:FuncId} {round:Option Nat} {c:Code} {fr:Fr} {H:Heap} {Q:Ex->Fr->Heap->Prop}
  (h:Wp E fn round c fr H (qu6 (fun fr' H'=>∃ (Inv:Nat->Fr->Heap->Prop) (m:Nat),Inv m fr' H'/\∀ m fr H,Inv m fr H->Wp E fn round c fr H (qu6 (fun fr' H'=>∃ m',m'<m/\Inv m' fr' H') Q)) Q)):Wp E fn round (.loop c) fr H Q:=by
 obtain ⟨⟨e,fr1,H1⟩,hk,h2⟩:=h
 cases e with
 | normal=>
  obtain ⟨Inv,m1,hi,hs⟩:=h2
  refine qqb (fun m fr' H'=>(m=m1+1/\fr'=fr/\H'=H)∨(m<=m1/\Inv m fr' H')) (m:=m1+1) (.inl ⟨rfl,rfl,rfl⟩) ?_
  rintro m fr' H' (⟨rfl,rfl,rfl⟩ | ⟨hm,hi⟩)
  .exact ⟨_,hk,m1,Nat.lt_succ_self _,.inr ⟨Nat.le_refl _,hi⟩⟩
  .refine (hs m fr' H' hi).mono fun ex fr2 H2 hA=>?_
   cases ex with
   | normal=>
    obtain ⟨m',h1,h2⟩:=hA
    exact ⟨m',h1,.inr ⟨by omega,h2⟩⟩
   | _=>exact hA
 | _=>
  refine qqb (fun m fr' H'=>fr'=fr/\H'=H) (m:=0) ⟨rfl,rfl⟩ ?_
  rintro m fr' H' ⟨rfl,rfl⟩
  exact ⟨_,hk,h2⟩
def qxa (w:Wd) (rd round:Option Nat):Prop:=
 match rd,round with
 | none,none=>True
 | some id,some l=>id<w.n/\l=w.c id
 | _,_=>False
theorem qxa.mono {w w':Wd} {rd round:Option Nat} (h:qxa w rd round) (hle:Le w w'):qxa w' rd round:=by
 cases rd<;>cases round
 .trivial
 .exact h
 .exact h
 .obtain ⟨h1,h2⟩:=h
  exact ⟨Nat.lt_of_lt_of_le h1 hle.n,by rw [hle.c _ h1];exact h2⟩
theorem qo1 (ok:CfgOk X sz C) (ok2:CfgOk2 X C) {rd round:Option Nat} {fn:Nat} {c:Code} {j:Nat} {slots sees:List Slot} {st:StV K} {fr:Fr} {H:Heap} {w:Wd} {k:Ex->StV K->Prop} {body:StV K->(Ex->StV K->Prop)->Prop}
  (hbody:∀ {st:StV K} {fr:Fr} {H:Heap} {w:Wd} {k:Ex->StV K->Prop},qxa w rd round->Rel X sz C base st fr H w->body st k->Wp C.E fn round c fr H (qlo X sz C base w k))
  (hrd:qxa w rd round) (R:Rel X sz C base st fr H w) (h:q3b (qk X tbl inv meas) j slots sees (qd2 c) st body k) :
  ∃ (Inv:Nat->Fr->Heap->Prop) (m:Nat),Inv m fr H/\∀ m fr' H',Inv m fr' H'->Wp C.E fn round c fr' H' (qu6 (fun fr' H'=>∃ m',m'<m/\Inv m' fr' H') (qlo X sz C base w k)):=by
 unfold q3b at h
 obtain ⟨rs,hrs,h1⟩:=qa h
 obtain ⟨ns0,hns,h1⟩:=qa h1
 obtain ⟨seen,_,h2⟩:=qa h1
 cases hd:distinct (zx st rs) with
 | false=>rw [hd] at h2;exact absurd h2 id
 | true=>
  rw [hd] at h2
  simp only [cond_true] at h2
  obtain ⟨hinv0,hG⟩:=h2
  let Body:List (NV K)->StV K->Prop:=fun ns st1=>inv j (ns++seen)->body st1 fun ex st2=>match ex with
    | .normal=>qtx (qk X tbl inv meas) j seen rs (some ns) st (qcb st (qd2 c) rs) st2
    | ex=>k ex st2
  refine ⟨fun m fr' H'=>∃ ns st1 w1,m=meas j (ns++seen)/\inv j (ns++seen)/\Body ns st1/\Rel X sz C base st1 fr' H' w1/\Le w w1/\fr'.n=fr.n/\∀ t,t ∉ qd2 c->fr'.tmp t=fr.tmp t,meas j (ns0++seen),?_,?_⟩
  .obtain ⟨st1,w1,g1,g2,g3,g4⟩:=q1a ok ok2 R hns hd hG
   exact ⟨ns0,st1,w1,rfl,hinv0,g1,g2,g3,rfl,fun _ _=>rfl⟩
  .rintro m fr' H' ⟨ns,st1,w1,rfl,hinv,hB,R1,hle1,hn1,hf1⟩
   refine (Go.E3.Wp.frame (hbody (hrd.mono hle1) R1 (hB hinv))).mono fun ex fr2 H2 hA=>?_
   obtain ⟨⟨hgo,st2,w2,hk,R2,hle2⟩,hfr2,hnn2⟩:=hA
   cases ex with
   | normal=>
    obtain ⟨ns',hinv',hdec,hh⟩:=quc ok ok2 R R2 (hle1.trans hle2) (hnn2.trans hn1) (fun t ht=>(hfr2 t ht).trans (hf1 t ht)) hk
    obtain ⟨st3,w3,g1,g2,g3,_⟩:=hh _ hG
    exact ⟨meas j (ns'++seen),hdec ns rfl,ns',st3,w3,rfl,hinv',g1,g2,g3,hnn2.trans hn1,fun t ht=>(hfr2 t ht).trans (hf1 t ht)⟩
   | _=>exact ⟨hgo,st2,w2,hk,R2,hle1.trans hle2⟩
theorem q9w {E:Env} {fn:FuncId} {round:Option Nat} {f:Operand} {params:Array Tmp} {a b:Code} {fr:Fr} {H H1:Heap} {Q:Ex->Fr->Heap->Prop} {g:Nat} {va vc:List V} {mk:List Dfr} {d:Nat}
  (hf:opd fr H f=some (.func (.func g) va vc)) (hb:qh4 E g=true) (he:qnh round H=some (mk,H1,d))
  (h:qbi E (.func g) (va++[.func (.yield H1.next) [] []]++vc) (H1.new (.loop .ready none fr.tmps fr.n params.toList a b d)) fun _ H3=>∃ ex H4,qc6 H3 H1.next=some (ex,H4)/\Q ex {fr with defers:=mk++fr.defers} H4) :
  Wp E fn round (.rangeFunc f params a b) fr H Q:=by
 obtain ⟨v,H3,⟨k0,h1⟩,ex,H4,h2,h3⟩:=h
 refine ⟨(ex,{fr with defers:=mk++fr.defers},H4),⟨k0,fun k hk=>?_⟩,h3⟩
 simp only [qz,he,Option.bind_some,hf,qcq,hb,cond_true,h1 k hk,h2,Option.map_some]
theorem RelH.alike {H:Heap} {w:Wd} {st st':StV K} (R:RelH X sz C base st H w) (h1:st'.cells=st.cells) (h2:st'.owns=st.owns) (h3:st'.next=st.next) (h4:st'.known=st.known):RelH X sz C base st' H w:=by
 obtain ⟨t,n,c,o,x,kn⟩:=st
 obtain ⟨t',n',c',o',x',kn'⟩:=st'
 simp only at h1 h2 h3 h4
 subst h1 h2 h3 h4
 exact ⟨R.wf,R.rob,R.g,R.nx,R.b,R.Mlt,R.n,R.one,R.keeps,R.cl,R.cinj,R.cells,R.owns,R.ownn,R.eta,R.einj,R.ce,R.known,R.globs⟩
theorem qx0 (ok:CfgOk X sz C) {H:Heap} {w:Wd} {st:StV K} (R:RelH X sz C base st H w) {id:Nat} {ct:Cont Int Bool (List UInt8) Prop (fun c=>List (K c))} (o:O) (hl:look st.cells id=some ct) :
  ∃ w',RelH X sz C base {st with cells:=jv st.cells id} (H.put (w.c id) o) w'/\Le w w':=by
 obtain ⟨hcl,hM,hat⟩:=R.cells id _ hl
 obtain ⟨hid,hnext,hbase⟩:=R.cl id hcl
 let H':=H.put (w.c id) o
 have hget:∀ nm,nm≠w.c id->H'.get nm=H.get nm:=fun nm hn=>qah hn
 have hle:Le w {w with g:=H'.get}:=by
  refine ⟨⟨Nat.le_refl _,fun nm cs e gen floor frz ex h hM'=>⟨hM',[],gen,frz,ex,?_⟩,fun _ _=>rfl,fun _ _=>rfl,fun _ _ h=>h,fun _ _ _ _ h h'=>(by rw [h] at h';cases h';exact Nat.le_refl _),fun i s hi ho _=>⟨rfl,fun nm hn _=>?_⟩,rfl,fun _ _=>.rfl,Nat.le_refl _,rfl,fun _ _ h=>h,fun _ _=>rfl⟩,fun m hm=>?_,rfl⟩
  .rw [List.append_nil]
   show H'.get nm=_
   rw [hget nm (by intro he;subst he;exact hM' hM),<-R.g]
   exact h
  .show H'.get nm=w.g nm
   rw [R.owns] at ho
   obtain ⟨_,_,hnM⟩:=R.eta i s nm ho hn
   rw [hget nm (by intro he;subst he;exact hnM hM),R.g]
  .show H'.get m=_
   rw [R.g] at hm
   rw [hget m (by intro he;subst he;exact hat.some.1 hm)]
   exact hm
 refine ⟨{w with g:=H'.get},?_,hle⟩
 refine ⟨fun n hn=>?_,R.rob,rfl,R.nx,R.b,R.Mlt,R.n,R.one,R.keeps.put hbase _,R.cl,R.cinj,fun id' ps' h'=>?_,R.owns,R.ownn,R.eta,R.einj,R.ce,R.known,fun gn ps' h'=>?_⟩
 .have hn':H.next<=n:=hn
  rw [hget n (by omega)]
  exact R.wf n hn'
 .simp only [qdl] at h'
  by_cases hi:id'=id
  .rw [if_pos hi] at h';cases h'
  .rw [if_neg hi] at h'
   obtain ⟨q1,q2,q5⟩:=R.cells id' ps' h'
   refine ⟨q1,q2,?_⟩
   show qaa X sz _ id' _ (H'.get (w.c id'))
   rw [hget _ (by intro he;exact hi (R.cinj id' id q1 hcl he))]
   exact q5.mono ok.len hle (by rw [R.n];exact (R.cl id' q1).1)
 .obtain ⟨q0,vs',e',fl,fz,ex',q1,q2,q3⟩:=R.globs gn ps' h'
  exact ⟨q0,vs',e',fl,fz,ex',q1,q2,q3.mono ok.len hle⟩
theorem qwf (ok:CfgOk X sz C) (iok:qin X sz C inl) {rd round:Option Nat} {fnE:Nat} {st:StV K} {fr:Fr} {H:Heap} {w:Wd} (hrd:qxa w rd round) (R:Rel X sz C base st fr H w) (hin:inRound rd st=true)
  {f:Operand} {vf:V} {v:PV K} (ev:opd fr H f=some vf) (rv:Rep X sz w v vf) {r:LRec Int Bool (List UInt8) Prop (fun c=>List (K c))} {params:Array Tmp} {a b:Code}
  (e1:r.tmps=st.tmps) (e2:r.n=st.n) (e3:r.params=params.toList) (e4:r.assign=a) (e5:r.body=b) (e6:r.mode=.ready) {k:Ex->StV K->Prop} (h:q1s (qk X tbl inv meas) C inl r v st k) :
  Wp C.E fnE round (.rangeFunc f params a b) fr H (qlo X sz C base w k):=by
 unfold q1s at h
 split at h
 .rename_i g first cap
  cases rv with
  | @func f' a' c' va vc ha hc h1 h2=>
  obtain ⟨hb,h⟩:=cond_prop h
  obtain ⟨mk,H1,d,w1,he,R1,hle1,hds⟩:∃ mk H1 d w1,qnh round H=some (mk,H1,d)/\RelH X sz C base {st with next:=st.next+1} H1 w1/\Le w w1/\qwz base.next w1 (mk++fr.defers):=by
   cases round with
   | none=>
    obtain ⟨w1,R1,hle,hg,hg0⟩:=qv6 ok R.h
    have hds:=R.ds.mono hle
    refine ⟨[.mark H.next],H.new .dfr,H.next,w1,rfl,R1,hle,fun x hx=>?_,?_,hds.2.2⟩
    .rcases List.mem_cons.1 hx with rfl | hx
     .refine ⟨H.next,rfl,R.h.keeps.next,?_,hg⟩
      rw [hle.fl,<-R.h.nx]
      exact R.ds.2.2
     .exact hds.1 x hx
    .show (Dfr.mark H.next::fr.defers).Nodup
     rw [List.nodup_cons]
     refine ⟨fun hm=>?_,R.ds.2.1⟩
     obtain ⟨m,h3,_,_,h4⟩:=R.ds.1 _ hm
     cases h3
     rw [hg0] at h4
     cases h4
   | some l=>
    cases rd with
    | none=>exact absurd hrd id
    | some id=>
     obtain ⟨hid,rfl⟩:=hrd
     simp only [inRound] at hin
     split at hin
     .rename_i r' hl
      obtain ⟨_,_,g',_,p2,_⟩:=R.h.cells id _ hl
      obtain ⟨hle,R1⟩:=R.h.ext ok (m:=st.next+1) (nu':=w.nu) (Nat.le_succ _) (fun _ _=>rfl)
      refine ⟨[],H,g'.ld,_,?_,R1,hle,R.ds.mono hle⟩
      simp only [qnh,p2]
      unfold qec
      split
      .rename_i heq;split at heq<;>cases heq<;>rfl
      .rename_i hno
       exfalso
       split at hno<;>exact hno _ _ _ _ _ _ _ _ rfl
     .cases hin
  let gl:LG:=⟨fr.tmps,fr.n,params.toList,a,b,d⟩
  obtain ⟨w2,R2,hle2,hc2,hlt2⟩:=qh9 ok R1 (ct:=.lp r) (row:=.loop .ready none fr.tmps fr.n params.toList a b d) (lp':=fun i=>if i=st.next+1 then some gl else w1.lp i)
   (fun i hi=>if_neg (by have:i<st.next+1:=hi;omega)) (fun w' hw hlp=>⟨gl,by rw [hlp];exact if_pos rfl,by rw [e6];rfl,by rw [e2];exact R.n.symm,e3,e4,e5,fun i p hp=>by
     rw [e1] at hp
     obtain ⟨x,p1,p2⟩:=R.f i p hp
     exact ⟨x,p1,(p2.mono ok.len hle1).mono ok.len hw⟩⟩)
  have hle12:=hle1.trans hle2
  have ry:qi X sz w2 [.yield (st.next+1)] [.func (.yield H1.next) [] []]:=by
   have hy:=Rep.yield (X:=X) (sz:=sz) (w:=w2) (id:=st.next+1) hlt2
   rw [show w2.c (st.next+1)=H1.next from hc2] at hy
   exact .cons hy .nil
  have hra:qi X sz w2 (first++[.yield (st.next+1)]++cap) (va++[.func (.yield H1.next) [] []]++vc):=
   qi.append (qi.append (qi.mono ok.len hle12 (ps:=first) ⟨ha,h1⟩) ry) (qi.mono ok.len hle12 (ps:=cap) ⟨hc,h2⟩)
  refine q9w ev hb he ((iok (.func g) _ _ _ h base _ w2 _ R2 hra).mono fun _ H3 hA=>?_)
  obtain ⟨_,st3,w3,hk,t3,n3,R3,hle3,_⟩:=hA
  unfold zcw at hk
  split at hk
  .rename_i r3 hl3
   obtain ⟨hcl3,hM3,g3,p1,p2,_⟩:=R3.cells _ _ hl3
   have hc3:w3.c (st.next+1)=H1.next:=(hle3.c _ hlt2).trans hc2
   have hro:H3.ro<=H1.next:=by rw [R3.keeps.ro,<-hc3];exact Nat.le_trans R3.rob.1 (R3.cl _ hcl3).2.2
   rw [hc3] at p2
   have fin:∀ (ex:Ex) (o:O),(∀ l,ex≠.goto l)->qc6 H3 H1.next=some (ex,H3.put H1.next o)->k ex {st3 with cells:=jv st3.cells (st.next+1),tmps:=st.tmps,n:=st.n}->
     ∃ ex H4,qc6 H3 H1.next=some (ex,H4)/\qlo X sz C base w k ex {fr with defers:=mk++fr.defers} H4:=by
    intro ex o hg he hk
    obtain ⟨w4,R4,hle4⟩:=qx0 ok R3 o hl3
    rw [hc3] at R4
    have hle:Le w w4:=hle12.trans (hle3.trans hle4)
    exact ⟨ex,_,he,hg,_,w4,hk,⟨R4.alike rfl rfl rfl rfl,fun i p hp=>by
     obtain ⟨x,p1,p2⟩:=R.f i p hp
     exact ⟨x,p1,p2.mono ok.len hle⟩,R.n,hds.mono (hle2.trans (hle3.trans hle4))⟩,hle⟩
   split at hk
   .rename_i hm
    rw [hm] at p2
    exact fin .normal _ (by simp) (by simp only [qc6,p2,qec,qav hro,Option.bind_some,qcw,Option.map_some];rfl) hk
   .rename_i hm
    rw [hm] at p2
    exact fin .ret _ (by simp) (by simp only [qc6,p2,qec,qav hro,Option.bind_some,qcw,Option.map_some];rfl) hk
   .rename_i i hm
    rw [hm] at p2
    exact fin (.exit i) _ (by simp) (by simp only [qc6,p2,qec,qav hro,Option.bind_some,qcw,Option.map_some];rfl) hk
   .exact absurd hk id
  .exact absurd hk id
 .exact absurd h id
theorem z6 (ok:CfgOk X sz C) (ok2:CfgOk2 X C) (tok:qf9 X sz C tbl) (iok:qin X sz C inl) {rd round:Option Nat} {fn fnE:Nat}:∀ {c:Code} {p:Nat} {st:StV K} {fr:Fr} {H:Heap} {w:Wd} {k:Ex->StV K->Prop},
  qxa w rd round->Rel X sz C base st fr H w->qaf (qk X tbl inv meas) C inl rd fn p c st k->Wp C.E fnE round c fr H (qlo X sz C base w k)
 | .skip,p,st,fr,H,w,k,hrd,R,h=>zcn ⟨by simp,st,w,h,R,.refl w⟩
 | .label _,p,st,fr,H,w,k,hrd,R,h=>q9v ⟨by simp,st,w,h,R,.refl w⟩
 | .exit _,p,st,fr,H,w,k,hrd,R,h=>zcl ⟨by simp,st,w,h,R,.refl w⟩
 | .ret,p,st,fr,H,w,k,hrd,R,h=>q9x ⟨by simp,st,w,h,R,.refl w⟩
 | .goto _,p,st,fr,H,w,k,hrd,R,h=>absurd h id
 | .refuse _,p,st,fr,H,w,k,hrd,R,h=>absurd h id
 | .rangeFunc f params a b,p,st,fr,H,w,k,hrd,R,h=>by
  simp only [qaf] at h
  obtain ⟨hin,h1⟩:=cond_prop h
  obtain ⟨v,hv,h2⟩:=qa h1
  obtain ⟨vf,ev,rv⟩:=qh R hv
  exact qwf ok iok hrd R hin ev rv rfl rfl rfl rfl rfl rfl h2
 | .cond c a b,p,st,fr,H,w,k,hrd,R,h=>by
  simp only [qaf] at h
  split at h
  .rename_i pc hc
   obtain ⟨v,ev,rv⟩:=qh R hc
   obtain ⟨t,rfl⟩:=q2l rv h
   obtain ⟨st1,h1,hn,_,R1⟩:=qqx R.h rv h
   have R1':=R.zfb ok hn R1 (.refl w)
   refine zck ev ?_
   cases t with
   | true=>exact z6 ok ok2 tok iok hrd R1' h1
   | false=>exact z6 ok ok2 tok iok hrd R1' h1
  .exact absurd h id
 | .block id c,p,st,fr,H,w,k,hrd,R,h=>by
  simp only [qaf] at h
  refine q9u ((z6 ok ok2 tok iok hrd R h).mono fun ex fr' H' hA=>?_)
  obtain ⟨hg,st',w',hk,R',hle⟩:=hA
  cases ex with
  | exit id'=>
   simp only at hk
   simp only [qks]
   cases hb:Nat.beq id' id with
   | true=>
    rw [hb] at hk
    simp only [cond_true] at hk
    have:=Nat.eq_of_beq_eq_true hb
    subst this
    exact q0v ⟨by simp,st',w',hk,R',hle⟩
   | false=>
    rw [hb] at hk
    simp only [cond_false] at hk
    have hne:¬ id'=id:=by
     intro he
     subst he
     simp at hb
    exact qxm hne ⟨by simp,st',w',hk,R',hle⟩
  | _=>exact ⟨hg,st',w',hk,R',hle⟩
 | .scope c,p,st,fr,H,w,k,hrd,R,h=>by
  simp only [qaf] at h
  refine q9y ((z6 ok ok2 tok iok hrd R h).mono fun ex fr' H' hA=>⟨hA.1,hA⟩)
 | .region id ops draw,p,st,fr,H,w,k,hrd,R,h=>by
  simp only [qaf] at h
  cases draw with
  | true=>
   simp only [cond_true] at h
   refine qzt ?_
   have m:Mid X sz C base H.next st.next 0 w [] [] st fr H w:=⟨R,.nil,Nat.le_refl _,Nat.le_refl _,fun id _ hc=>(R.h.cl id hc).2.1,fun d hd=>(by cases hd),fun d hd=>(by cases hd),.refl w,_,_,R.h,rfl⟩
   obtain ⟨x,hx,e,st',w',a1,a2,a3⟩:=qii (b:=Region.before ops) (i:=0) ok ok2 tok iok m R.cm h
   exact ⟨x,hx,by simp,st',w',a1,a2,a3⟩
  | false=>
   simp only [cond_false] at h
   refine qvb ((qjl ok ok2 tok iok R h).mono fun ex fr' H' hA=>?_)
   obtain ⟨rfl,st',w',a1,a2,a3⟩:=hA
   exact ⟨by simp,st',w',a1,a2,a3⟩
 | .seq a b,p,st,fr,H,w,k,hrd,R,h=>by
  simp only [qaf] at h
  split at h
  .rename_i j slots sees hann
   obtain ⟨rs,hrs,h1⟩:=qa h
   obtain ⟨seen,_,h1⟩:=qa h1
   obtain ⟨ha,hg⟩:=h1
   refine qwq ((Go.E3.Wp.frame (z6 ok ok2 tok iok hrd R ha)).mono fun ex fr' H' hA=>?_)
   obtain ⟨⟨hgo,st',w',hk,R',hle⟩,hfr,hnn⟩:=hA
   cases ex with
   | normal=>
    obtain ⟨ns,hinv,_,hh⟩:=quc ok ok2 R R' hle hnn hfr hk
    obtain ⟨st1,w1,g1,g2,g3,_⟩:=hh _ hg
    refine (z6 ok ok2 tok iok (hrd.mono g3) g2 (g1 hinv)).mono fun ex fr2 H2 hB=>?_
    obtain ⟨q1,st3,w3,q2,q3,q4⟩:=hB
    exact ⟨q1,st3,w3,q2,q3,g3.trans q4⟩
   | _=>exact ⟨hgo,st',w',hk,R',hle⟩
  .refine qwq ((z6 ok ok2 tok iok hrd R h).mono fun ex fr' H' hA=>?_)
   obtain ⟨hg,st',w',hk,R',hle⟩:=hA
   cases ex with
   | normal=>
    refine (z6 ok ok2 tok iok (hrd.mono hle) R' hk).mono fun ex fr2 H2 hB=>?_
    obtain ⟨q1,st3,w3,q2,q3,q4⟩:=hB
    exact ⟨q1,st3,w3,q2,q3,hle.trans q4⟩
   | _=>exact ⟨hg,st',w',hk,R',hle⟩
 | .loop c,p,st,fr,H,w,k,hrd,R,h=>by
  simp only [qaf] at h
  split at h
  .rename_i j slots sees hann
   obtain ⟨Inv,m,h0,hs⟩:=qo1 ok ok2 (fun hrd R h=>z6 ok ok2 tok iok hrd R h) hrd R h
   exact qqb Inv h0 hs
  .rename_i j slots sees hann
   refine zcm ((z6 ok ok2 tok iok hrd R h).mono fun ex fr' H' hA=>?_)
   obtain ⟨hg,st1,w1,hk,R1,hle1⟩:=hA
   cases ex with
   | normal=>
    obtain ⟨Inv,m,h0,hs⟩:=qo1 ok ok2 (fun hrd R h=>z6 ok ok2 tok iok hrd R h) (hrd.mono hle1) R1 hk
    refine ⟨Inv,m,h0,fun m fr2 H2 hi=>(hs m fr2 H2 hi).mono fun ex fr3 H3 hB=>?_⟩
    cases ex with
    | normal=>exact hB
    | _=>
     obtain ⟨q1,st3,w3,q2,q3,q4⟩:=hB
     exact ⟨q1,st3,w3,q2,q3,hle1.trans q4⟩
   | _=>exact ⟨hg,st1,w1,hk,R1,hle1⟩
  .rename_i n hann
   refine qqb (fun m fr' H'=>∃ st1 w1,qyn (fun s g=>qaf (qk X tbl inv meas) C inl rd fn (2 * p) c s fun ex st1=>match ex with
    | .normal=>g st1
    | ex=>k ex st1) False m st1/\Rel X sz C base st1 fr' H' w1/\Le w w1) (m:=n) ⟨st,w,h,R,.refl w⟩ ?_
   rintro m fr' H' ⟨st1,w1,hit,R1,hle1⟩
   obtain ⟨m',rfl,hit'⟩:=q1d hit
   refine (z6 ok ok2 tok iok (hrd.mono hle1) R1 hit').mono fun ex fr2 H2 hA=>?_
   obtain ⟨hg,st2,w2,hk,R2,hle2⟩:=hA
   cases ex with
   | normal=>exact ⟨m',Nat.lt_succ_self _,st2,w2,hk,R2,hle1.trans hle2⟩
   | _=>exact ⟨hg,st2,w2,hk,R2,hle1.trans hle2⟩
  .exact absurd h id
end
end Go.E3
/- E3: FUNCTIONS against E2's: what the conditions of a function show. -/
namespace Go.E3
open Go Go.E2
variable {K:Nat->Type}
def ku:List (PV K)->List (PV K)->List (Nat×Nat)
 | .list _ _ (some (i,_))::ps,.list _ _ (some (j,_))::rs=>(j,i)::ku ps rs
 | _::ps,_::rs=>ku ps rs
 | _,_=>[]
def RT:PV K->Prop
 | .sb id _ b pt pf=>id=0/\(pt↔b=true)/\(pf↔b=false)
 | .int _ l _=>l=none
 | .list _ _ (some (_,s))=>s=0
 | _=>True
section
variable {X:Codecs K} {sz:Nat->Nat} {C:Cfg Int Bool (List UInt8) Prop (fun c=>List (K c))} {base H:Heap} {st:StV K} {w:Wd}
variable {tbl:Tbl K} {inv:Nat->List (NV K)->Prop} {meas:Nat->List (NV K)->Nat} {inl:Inl Int Bool (List UInt8) Prop (fun c=>List (K c))}
theorem qgp {fr:Fr} (R:RelH X sz C base st H w) (F:qxb X sz w st.tmps fr):∀ {rs:List ResultVar} {ps:List (PV K)},qfd (qk X tbl inv meas) C st rs=some ps->∃ vs,zz C.E fr H rs=some vs/\qi X sz w ps vs
 | [],ps,h=>by
  simp only [qfd,Option.some.injEq] at h
  subst h
  exact ⟨[],rfl,.nil⟩
 | .tmp t::rs,ps,h=>by
  simp only [qfd] at h
  obtain ⟨p,h1,h2⟩:=Option.bind_eq_some_iff.1 h
  obtain ⟨qs,h3,rfl⟩:=Option.map_eq_some_iff.1 h2
  obtain ⟨v,e1,r1⟩:=F t p h1
  obtain ⟨vs,e2,r2⟩:=qgp R F h3
  exact ⟨v::vs,by simp only [zz,e1,Option.bind_some,e2,Option.map_some],.cons r1 r2⟩
 | .cell a t::rs,ps,h=>by
  simp only [qfd] at h
  obtain ⟨ti,h0,h1⟩:=Option.bind_eq_some_iff.1 h
  obtain ⟨pa,h2,h3⟩:=Option.bind_eq_some_iff.1 h1
  obtain ⟨p,h4,h5⟩:=Option.bind_eq_some_iff.1 h3
  obtain ⟨qs,h6,rfl⟩:=Option.map_eq_some_iff.1 h5
  obtain ⟨va,e1,r1⟩:=F a pa h2
  obtain ⟨nm,gn,off,lim,rfl,_,hl,_⟩:=qgl R r1 h4
  obtain ⟨u,hu,ru⟩:=hl H rfl
  obtain ⟨vs,e2,r2⟩:=qgp R F h6
  exact ⟨u::vs,by simp only [zz,h0,e1,hu,Option.bind_some,e2,Option.map_some],.cons ru r2⟩
theorem q5i {ps:List (PV K)} {vs:List V} (r:qi X sz w ps vs):Rep X sz w (q1h ps) (oneOf vs):=by
 match ps,r with
 | [],r=>rw [r.zq];exact .undef
 | [p],r=>
  obtain ⟨v,vs',rfl,r1,r2⟩:=r.zj
  have:=r2.zq;subst this
  exact r1
 | p::q::ps,r=>
  obtain ⟨v,vs',rfl,r1,r2⟩:=r.zj
  obtain ⟨u,vs'',rfl,r3,r4⟩:=r2.zj
  exact .tuple' (.cons r1 (.cons r3 r4))
theorem qli (ok:CfgOk X sz C) {base H:Heap}:∀ {ps:List (PV K)} {vs:List V} {st:StV K} {w:Wd} {k:List (PV K)->StV K->Prop},RelH X sz C base st H w->qi X sz w ps vs->q19 (qk X tbl inv meas) ps st k->
  ∃ qs st' w',k qs st'/\RelH X sz C base st' H w'/\Le w w'/\qi X sz w' qs vs
 | [],vs,st,w,k,R,r,h=>⟨[],st,w,h,R,.refl w,r⟩
 | p::ps,vs,st,w,k,R,r,h=>by
  obtain ⟨v,vs',rfl,r1,r2⟩:=r.zj
  by_cases hmm:∃ id c n,p=.mlist id c n
  .obtain ⟨id,c,n,rfl⟩:=hmm
   simp only [q19] at h
   obtain ⟨l,hl,hn,h⟩:=qa h
   have hn:n=(l.length:Int):=hn
   have hl:=qex hl
   cases r1 with
   | mlist hi h0 hz=>
    obtain ⟨w1,R1,hle1,hn1,hg1,hrep⟩:=ql8 ok R hl hz
    have hB:Bump {st with cells:=jv st.cells id} {st with cells:=jv st.cells id,owns:=(st.next,0)::st.owns,next:=st.next+1} st.next 0:=by
     have hnone:look st.owns st.next=none:=by
      cases hl:look st.owns st.next with
      | none=>rfl
      | some g=>have:=R.ownn _ _ hl;omega
     exact ⟨rfl,rfl,rfl,rfl,fun j=>j8,Nat.le_succ _,Nat.lt_succ_self _,fun g hg=>(by have hg:look st.owns st.next=some g:=hg;rw [hnone] at hg;cases hg),fun _=>Nat.le_refl _⟩
    obtain ⟨w2,R2,hle2,ow,et,hn2,_⟩:=qlf (named:=false) ok R1 hB (by simp)
    have rl:=(hrep none trivial).mono ok.len hle2
    have ho:qhw w2 sz c (some (st.next,0)) (.slice (w.c id) 0 0 l.length (sz c) (some l.length)):=
     ⟨by rw [hn2];exact Nat.lt_succ_self _,fun cur hc'=>(by rw [ow] at hc';cases hc';exact Nat.le_refl _),fun _=>.inl rfl,fun h=>by cases h⟩
    have rl2:Rep X sz w2 (.list c l (some (st.next,0))) (.slice (w.c id) 0 0 l.length (sz c) (some l.length)):=by
     cases rl with
     | list hg hf hM hlen hb hz hcap hc _=>exact .list hg hf hM hlen hb hz hcap hc ho
    have hnn:n.toNat=l.length:=by omega
    obtain ⟨qs,st',w',a1,a2,a3,a4⟩:=qli ok R2 ((r2.mono ok.len hle1).mono ok.len hle2) h
    refine ⟨_,st',w',a1,a2,(hle1.trans hle2).trans a3,.cons ?_ a4⟩
    rw [hnn]
    exact rl2.mono ok.len a3
  .have hml':∀ id c n,p=.mlist id c n->False:=fun id c n he=>hmm ⟨id,c,n,he⟩
   simp only [q19] at h
   obtain ⟨qs,st',w',a1,a2,a3,a4⟩:=qli ok R r2 h
   exact ⟨_,st',w',a1,a2,a3,.cons (r1.mono ok.len a3) a4⟩
theorem q66 {X:Codecs K}:(X.u8 ▸ ([]:List (K 0)):List UInt8)=[]:=by
 rw [qjn]
 rfl
theorem qy9 (ok:CfgOk X sz C) (pok:q0l C) {f:Nat} (hf:C.prim f=true) {args:List (PV K)} {st:StV K} {k:PV K->StV K->Prop} (h:q89 (qk X tbl inv meas) args st k) {base H:Heap} {w:Wd} {vs:List V}
  (R:RelH X sz C base st H w) (ra:qi X sz w args vs):qbi C.E (.func f) vs H fun v H'=>∃ p st' w',k p st'/\st'.tmps=st.tmps/\st'.n=st.n/\RelH X sz C base st' H' w'/\Le w w'/\Rep X sz w' p v:=by
 unfold q89 at h
 split at h
 .rename_i id off lim
  obtain ⟨a,us,rfl,r1,r2⟩:=ra.zj
  have:=r2.zq;subst this
  obtain ⟨cs,hcs,h1⟩:=qa h
  clear h
  obtain ⟨hcl,hMc,vs,e,ex,hg,_,hr⟩:=R.cells id _ (qdv hcs)
  have hr:qi X sz w cs vs:=hr
  cases r1 with
  | cell hid=>
   obtain ⟨hb,h2⟩:=cond_prop h1
   clear h1
   simp only [Bool.and_eq_true,Nat.ble_eq] at hb
   obtain ⟨hb1,hb2⟩:=hb
   have hb2':lim<=vs.length:=by rw [<-hr.1];exact hb2
   obtain ⟨pk1,pk2⟩:=pok f hf H (w.c id) off lim vs e ex R.wf hg hb1 hb2'
   have hget:∀ q,cs[off+1]? = some q->∃ u,vs[off+1]? = some u/\Rep X sz w q u:=fun q hq=>hr.get hq
   split at h2
   .rename_i hq
    obtain ⟨u,hu,ru⟩:=hget _ hq
    cases ru
    refine (pk1 hu).mono fun v H' hA=>?_
    obtain ⟨rfl,rfl⟩:=hA
    exact ⟨_,st,w,h2,rfl,rfl,R,.refl w,.str⟩
   .rename_i c l i s hq
    split at h2
    .rename_i hc
     subst hc
     obtain ⟨ho,h3,h4⟩:=cond_prop h2
     clear h2
     simp only [Bool.and_eq_true] at ho
     have hodd:=Nat.eq_of_beq_eq_true ho.2
     have hlook:=qr0 R.owns ho.1
     obtain ⟨u,hu,ru⟩:=hget _ hq
     have hlk:look st.owns i=some s:=by rw [<-R.owns];exact hlook
     have hs1:sz 0=1:=by rw [<-ok.len 0 (X.dflt 0),ok.u8];rfl
     obtain ⟨ru0,ro⟩:=ru.q9r
     have hnb:=ro.2.2.2 hodd
     have hov:=ro.2.2.1 hlook
     rcases kg ru with ⟨rfl,rfl⟩ | ⟨nm,gn,o2,cap,cells,el,gen,floor,frz,eb,rfl,hgn,hf2,hM2,hlen,_,hcap,hcell,_⟩
     .refine (pk1 hu).mono fun v H' hA=>?_
      obtain ⟨rfl,rfl⟩:=hA
      have e0:(qk X tbl inv meas).bstr ([]:List (K 0))=[]:=q66 (X:=X)
      have h4':k (.str ((qk X tbl inv meas).bstr ([]:List (K 0)))) {st with owns:=jv st.owns i}:=h4
      rw [e0] at h4'
      obtain ⟨w',R',hle⟩:=q04 ok R i
      exact ⟨_,_,w',h4',rfl,rfl,R',hle,.str⟩
     .obtain ⟨rfl,rfl,hpos⟩:=hnb
      simp only [qpu] at hov
      rcases hov with hov | ⟨_,het,cells',el',floor',frz',eb',hg',htop,hfrz,hce⟩
      .cases hov
      .rw [hgn] at hg'
       cases hg'
       rw [R.g] at hgn
       rw [hs1] at htop hlen hu
       obtain ⟨hbase,hnext,hnM⟩:=R.eta i s nm hlk het
       obtain ⟨ecs,ee1,ee2⟩:=qe8 ok.len R.g ru0 (by rw [hs1];exact Nat.one_pos)
       rw [hs1] at ee1
       have hecs:ecs=cells:=by
        have b1:Nat.ble floor gn=true:=by rw [Nat.ble_eq];exact hf2
        have b2:Nat.ble (0+l.length * 1) (0+l.length * 1)=true:=by rw [Nat.ble_eq];exact Nat.le_refl _
        have b3:Nat.ble (0+l.length * 1) cells.length=true:=by rw [Nat.ble_eq];exact hlen
        simp only [zp,Nat.beq_refl,cond_true,kj,hgn,b1,b2,b3,Bool.and_self,Option.map_eq_some_iff,Prod.mk.injEq,true_and] at ee1
        obtain ⟨_,ee1,rfl⟩:=ee1
        obtain ⟨rfl,_⟩:=qia ee1
        rw [List.drop_zero,List.take_of_length_le]
        omega
       subst hecs
       have hbytes:=qiu ok ee2
       have hle':l.length<=140737488355328:=by
        have:(l.length:Int)<=140737488355328:=h3
        omega
       refine (pk2 nm gn l.length ecs el floor frz eb _ hu hgn (by omega) hf2 hpos hle' (by rw [<-R.ce];exact hce) hbytes ee2.qr3 (by rw [R.keeps.ro];exact Nat.le_trans R.rob.1 hbase) (fun he=>hnM (by rw [he];exact hMc))).mono fun v H' hA=>?_
       obtain ⟨rfl,rfl⟩:=hA
       obtain ⟨w',R',hle⟩:=q1w ok R hlk het (max frz l.length) hgn
       exact ⟨_,_,w',h4,rfl,rfl,R',hle,.str⟩
    .exact h2.elim
   .exact h2.elim
 .exact h.elim
theorem LeB.qik (w:Wd) (x:Nat):LeB w {w with fl:=x}:=
 have h:=LeB.refl w
 ⟨h.n,h.mem,h.c,h.nu,h.o1,h.o2,h.o3,h.ce,h.cl,h.nx,h.b,h.Mu,h.lp⟩
theorem RelH.qik (ok:CfgOk X sz C) (R:RelH X sz C base st H w) (x:Nat):RelH X sz C base st H {w with fl:=x}:=
 ⟨R.wf,R.rob,R.g,R.nx,R.b,R.Mlt,R.n,R.one,R.keeps,R.cl,R.cinj,fun id ct h=>by
  obtain ⟨a,b,c⟩:=R.cells id ct h
  exact ⟨a,b,c.qcd ok.len (LeB.qik w x) (by rw [R.n];exact (R.cl id a).1)⟩,R.owns,R.ownn,R.eta,R.einj,R.ce,R.known,fun gn ps h=>by
  obtain ⟨q0,vs',e',fl,fz,ex',q1,q2,q3⟩:=R.globs gn ps h
  exact ⟨q0,vs',e',fl,fz,ex',q1,q2,q3.qcd ok.len (LeB.qik w x)⟩⟩
theorem qpb (ok:CfgOk X sz C) {F:Nat}:∀ {ds:List Dfr} {H:Heap} {w:Wd},RelH X sz C base st H w->(∀ x ∈ ds,∃ m,x=.mark m/\base.next<=m/\F<=m/\w.g m=some .dfr)->ds.Nodup->
  ∃ H'' w2,qbd ds H=some H''/\RelH X sz C base st H'' w2/\LeB w w2/\w2.fl=w.fl/\∀ m,m<F->w2.g m=w.g m
 | [],H,w,R,_,_=>⟨H,w,rfl,R,.refl w,rfl,fun _ _=>rfl⟩
 | x::ds,H,w,R,hd,hn=>by
  obtain ⟨m,rfl,hb,hF,hg⟩:=hd x List.mem_cons_self
  rw [List.nodup_cons] at hn
  let H1:=H.put m .gone
  let w1:Wd:={w with g:=H1.get}
  have hgH:H.get m=some .dfr:=by rw [<-R.g];exact hg
  have hget:∀ nm,nm≠m->H1.get nm=H.get nm:=fun nm hn=>qah hn
  have hlt:m<H.next:=by
   by_cases h:m<H.next
   .exact h
   .rw [R.wf m (by omega)] at hgH;cases hgH
  have hle:LeB w w1:=by
   refine ⟨Nat.le_refl _,fun nm cs e gen floor frz ex h hM'=>⟨hM',[],gen,frz,ex,?_⟩,fun _ _=>rfl,fun _ _=>rfl,fun _ _ h=>h,fun _ _ _ _ h h'=>(by rw [h] at h';cases h';exact Nat.le_refl _),fun i s hi ho _=>⟨rfl,fun nm hn hne=>?_⟩,rfl,fun _ _=>.rfl,Nat.le_refl _,rfl,fun _ _ h=>h,fun _ _=>rfl⟩
   .rw [List.append_nil]
    show H1.get nm=_
    rw [hget nm (by intro he;subst he;rw [hg] at h;cases h),<-R.g]
    exact h
   .show H1.get nm=w.g nm
    rw [hget nm (by intro he;subst he;exact hne hg),R.g]
  have R1:RelH X sz C base st H1 w1:=by
   refine ⟨fun n hn=>?_,R.rob,rfl,R.nx,R.b,R.Mlt,R.n,R.one,R.keeps.put hb _,R.cl,R.cinj,fun id' ps' h'=>?_,R.owns,R.ownn,R.eta,R.einj,R.ce,R.known,fun gn ps' h'=>?_⟩
   .have hn':H.next<=n:=hn
    rw [hget n (by omega)]
    exact R.wf n hn'
   .obtain ⟨q1,q2,q5⟩:=R.cells id' ps' h'
    refine ⟨q1,q2,?_⟩
    show qaa X sz w1 id' _ (H1.get (w.c id'))
    rw [hget _ (by intro he;rw [he] at q5;exact q5.some.1 hgH)]
    exact q5.qcd ok.len hle (by rw [R.n];exact (R.cl id' q1).1)
   .obtain ⟨q0,vs',e',fl,fz,ex',q1,q2,q3⟩:=R.globs gn ps' h'
    exact ⟨q0,vs',e',fl,fz,ex',q1,q2,q3.qcd ok.len hle⟩
  obtain ⟨H'',w2,a1,a2,a3,a4,a5⟩:=qpb ok R1 (fun x hx=>by
   obtain ⟨m',h1,h2,h3,h4⟩:=hd x (List.mem_cons_of_mem _ hx)
   refine ⟨m',h1,h2,h3,?_⟩
   show H1.get m'=_
   rw [hget m' (by intro he;subst he;subst h1;exact hn.1 hx),<-R.g]
   exact h4) hn.2
  refine ⟨H'',w2,?_,a2,hle.trans a3,a4,fun m' hm'=>?_⟩
  .simp only [qbd,hgH,qav (show H.ro<=m by rw [R.keeps.ro];exact Nat.le_trans R.rob.1 hb),Option.bind_some]
   exact a1
  .rw [a5 m' hm']
   show H1.get m'=w.g m'
   rw [hget m' (by omega),R.g]
theorem Le.leave {w w1 w2 w3:Wd} (hwf:∀ n,w.nx<=n->w.g n=none) (h1:Le {w with fl:=w.nx} w1) (h2:LeB w1 w2) (hold:∀ m,m<w.nx->w2.g m=w1.g m) (h3:Le w2 w3):Le w {w3 with fl:=w.fl}:=by
 have h:=h1.toLeB.trans (h2.trans h3.toLeB)
 refine ⟨⟨h.n,h.mem,h.c,h.nu,h.o1,h.o2,h.o3,h.ce,h.cl,h.nx,h.b,h.Mu,h.lp⟩,fun m hm=>?_,rfl⟩
 have hlt:m<w.nx:=by
  by_cases hlt:m<w.nx
  .exact hlt
  .rw [hwf m (by omega)] at hm;cases hm
 refine h3.df m ?_
 rw [hold m hlt]
 exact h1.df m hm
theorem qb0 {n:Nat}:∀ {ps:List Tmp} {args:List (PV K)} {vs:List V} {t t':Tree (PV K)} {lt:Tree V},qi X sz w args vs->(∀ i p,t.get i=some p->∃ v,lt.get i=some v/\Rep X sz w p v)->qdq n ps args t=some t'->
  ∃ lt',qb6 n ps vs lt=some lt'/\∀ i p,t'.get i=some p->∃ v,lt'.get i=some v/\Rep X sz w p v
 | [],[],vs,t,t',lt,r,ht,h=>by
  have:=r.zq;subst this
  simp only [qdq,Option.some.injEq] at h
  subst h
  exact ⟨lt,rfl,ht⟩
 | [],_::_,vs,t,t',lt,r,ht,h=>by simp [qdq] at h
 | _::_,[],vs,t,t',lt,r,ht,h=>by simp [qdq] at h
 | p::ps,a::args,vs,t,t',lt,r,ht,h=>by
  obtain ⟨v,vs',rfl,r1,r2⟩:=r.zj
  simp only [qdq] at h
  rcases zn h with ⟨_,h1⟩ | ⟨hb,h1⟩
  .cases h1
  .obtain ⟨lt',e1,e2⟩:=qb0 (lt:=lt.set p v) r2 (fun i q hq=>by
    rw [Tree.zu] at hq ⊢
    by_cases hi:i=p
    .rw [if_pos hi] at hq ⊢
     cases hq
     exact ⟨v,rfl,r1⟩
    .rw [if_neg hi] at hq ⊢
     exact ht i q hq) h1
   refine ⟨lt',?_,e2⟩
   simp only [qb6,hb,cond_true]
   exact e1
theorem qxq {E:Env} {l:Nat} {args:List V} {H:Heap} {Q:V->Heap->Prop} {st:LoopState} {p:Option Code} {lt t:Tree V} {ln ld:Nat} {lp:List Tmp} {la lb:Code} (hl:H.get l=some (.loop st p lt ln lp la lb ld)) (hp:qb6 ln lp args lt=some t)
  (h:Wp E 0 (some l) la {tmps:=t,n:=ln,defers:=[]} H fun ex fr H1=>ex=.normal/\∃ H2,qqv H1 l=some H2/\Wp E 0 (some l) lb fr H2 fun ex' fr' H3=>∃ v H4,qjh l (ex',fr',H3)=some (.ret v,H4)/\Q v H4):qbi E (.round l) args H Q:=by
 obtain ⟨⟨ex,fr,H1⟩,⟨k0,h1⟩,h0,H2,hb,⟨x,⟨k1,h2⟩,v,H4,h3,h4⟩⟩:=h
 simp only at h0
 subst h0
 refine ⟨v,H4,⟨max k0 k1+1,fun k hk=>?_⟩,h4⟩
 obtain ⟨k,rfl⟩:∃ g,k=g+1:=⟨k-1,by omega⟩
 simp only [jc,hl,hp,Option.bind_some,h1 k (by omega)]
 simp only at hb
 rw [hb]
 simp only [Option.bind_some]
 simp only at h2
 rw [h2 k (by omega)]
 simp only [Option.bind_some]
 exact h3
theorem qtn (ok:CfgOk X sz C) (ok2:CfgOk2 X C) (tok:qf9 X sz C tbl) (iok:qin X sz C inl) {id:Nat} {args:List (PV K)} {st:StV K} {k:PV K->StV K->Prop} (h:qwu (qk X tbl inv meas) C inl id args st k) {base H:Heap} {w:Wd} {vs:List V}
  (R:RelH X sz C base st H w) (ra:qi X sz w args vs):qbi C.E (.round (w.c id)) vs H fun v H'=>∃ p st' w',k p st'/\st'.tmps=st.tmps/\st'.n=st.n/\RelH X sz C base st' H' w'/\Le w w'/\Rep X sz w' p v:=by
 unfold qwu at h
 split at h
 .rename_i r hl
  split at h
  .rename_i hm
   obtain ⟨t,ht,h1⟩:=qa h
   obtain ⟨hcl,hM,g,p1,p2,p3,p4,p5,p6,p7⟩:=R.cells id _ hl
   obtain ⟨hid,hnext,hbase⟩:=R.cl id hcl
   have hidn:id<w.n:=by rw [R.n];exact hid
   rw [hm] at p2
   let w0:Wd:={w with fl:=w.nx}
   have R0:RelH X sz C base st H w0:=R.qik ok w.nx
   have ra0:qi X sz w0 args vs:=ra.qcd ok.len (LeB.qik w w.nx)
   rw [p3,p4] at ht
   obtain ⟨lt',e1,e2⟩:=qb0 (lt:=g.lt) ra0 (fun i p hp=>by
    obtain ⟨v,a,b⟩:=p7 i p hp
    exact ⟨v,a,b.qcd ok.len (LeB.qik w w.nx)⟩) ht
   have F0:Rel X sz C base {st with tmps:=t,n:=r.n} {tmps:=lt',n:=g.ln,defers:=[]} H w0:=⟨R0.alike rfl rfl rfl rfl,e2,p3.symm,.nil (Nat.le_refl _)⟩
   have hrd:qxa w0 (some id) (some (w.c id)):=⟨hidn,rfl⟩
   refine qxq (l:=w.c id) (t:=lt') (by rw [p2];rfl) e1 ?_
   rw [<-p5]
   refine (z6 (fnE:=0) ok ok2 tok iok hrd F0 h1).mono fun ex fr1 H1 hA=>?_
   obtain ⟨_,st1,w1,hk,F1,hle1⟩:=hA
   cases ex with
   | normal=>
    refine ⟨rfl,?_⟩
    simp only at hk
    split at hk
    .rename_i r1 hl1
     split at hk
     .rename_i hm1
      obtain ⟨hcl1,hM1,g1,q1,q2,_⟩:=F1.h.cells id _ hl1
      have hc1:w1.c id=w.c id:=hle1.c id hidn
      have hg1:g1=g:=by
       have:w1.lp id=w.lp id:=hle1.lp id hidn
       rw [this,p1] at q1
       exact (Option.some.inj q1).symm
      subst hg1
      rw [hc1,hm1] at q2
      have hro1:H1.ro<=w.c id:=by rw [F1.h.keeps.ro,<-hc1];exact Nat.le_trans F1.h.rob.1 (F1.h.cl _ hcl1).2.2
      have hT1:∀ i p,r.tmps.get i=some p->∃ v,g1.lt.get i=some v/\Rep X sz w1 p v:=fun i p hp=>by
       obtain ⟨v,a,b⟩:=p7 i p hp
       exact ⟨v,a,(b.qcd ok.len (LeB.qik w w.nx)).mono ok.len hle1⟩
      obtain ⟨w2,R2,hle2⟩:=qie ok F1.h (ct':=.lp {r with mode:=.busy}) (o:=qec g1 .busy) hl1 ⟨g1,q1,rfl,p3,p4,p5,p6,hT1⟩
      rw [hc1] at R2
      have hle02:=hle1.trans hle2
      refine ⟨H1.put (w.c id) (qec g1 .busy),?_,?_⟩
      .simp only [qqv,q2,qec]
       exact qav hro1
      have F2:Rel X sz C base {st1 with cells:=qez st1.cells id (.lp {r with mode:=.busy})} fr1 (H1.put (w.c id) (qec g1 .busy)) w2:=⟨R2,fun i p hp=>by
       obtain ⟨x,a,b⟩:=F1.f i p hp
       exact ⟨x,a,b.mono ok.len hle2⟩,F1.n,F1.ds.mono hle2⟩
      rw [<-p6]
      refine (z6 (fnE:=0) ok ok2 tok iok (hrd.mono hle02) F2 hk).mono fun ex fr3 H3 hB=>?_
      obtain ⟨_,st3,w3,hk3,F3,hle3⟩:=hB
      split at hk3
      .rename_i r3 hl3
       obtain ⟨hcl3,hM3,g3,u1,u2,_⟩:=F3.h.cells id _ hl3
       have hle03:=hle02.trans hle3
       have hc3:w3.c id=w.c id:=hle03.c id hidn
       have hg3:g3=g1:=by
        have:w3.lp id=w.lp id:=hle03.lp id hidn
        rw [this,p1] at u1
        exact (Option.some.inj u1).symm
       subst hg3
       rw [hc3] at u2
       have hro3:H3.ro<=w.c id:=by rw [F3.h.keeps.ro,<-hc3];exact Nat.le_trans F3.h.rob.1 (F3.h.cl _ hcl3).2.2
       have hT3:∀ i p,r.tmps.get i=some p->∃ v,g3.lt.get i=some v/\Rep X sz w3 p v:=fun i p hp=>by
        obtain ⟨v,a,b⟩:=hT1 i p hp
        exact ⟨v,a,(b.mono ok.len hle2).mono ok.len hle3⟩
       have hend:∀ (jump:Option Code),qeo H3 (w.c id) jump=some (.ret (.bool jump.isNone),H3.put (w.c id) (.loop (if jump.isNone then .ready else .done) jump g3.lt g3.ln g3.lp g3.la g3.lb g3.ld)):=by
        intro jump
        simp only [qeo,u2]
        cases r3.mode with
        | done x=>cases x<;>simp only [qec,qav hro3,Option.map_some]
        | _=>simp only [qec,qav hro3,Option.map_some]
       have fin:∀ (md:LMode) (b:Bool) (ex:Ex),qjh (w.c id) (ex,fr3,H3)=some (.ret (.bool b),H3.put (w.c id) (qec g3 md))->k (.lit b) {st3 with cells:=qez st3.cells id (.lp {r with mode:=md}),tmps:=st.tmps,n:=st.n}->
         ∃ v H4,qjh (w.c id) (ex,fr3,H3)=some (.ret v,H4)/\∃ p st' w',k p st'/\st'.tmps=st.tmps/\st'.n=st.n/\RelH X sz C base st' H4 w'/\Le w w'/\Rep X sz w' p v:=by
        intro md b ex he hk
        obtain ⟨w4,R4,hle4⟩:=qie ok F3.h (ct':=.lp {r with mode:=md}) (o:=qec g3 md) hl3 ⟨g3,u1,rfl,p3,p4,p5,p6,hT3⟩
        rw [hc3] at R4
        have hfin:Le w {w4 with fl:=w.fl}:=Le.leave (fun n hn=>by rw [R.g];exact R.wf n (by rw [<-R.nx];exact hn)) (hle03.trans hle4) (.refl w4) (fun _ _=>rfl) (.refl w4)
        exact ⟨_,_,he,_,_,{w4 with fl:=w.fl},hk,rfl,rfl,(R4.qik ok w.fl).alike rfl rfl rfl rfl,hfin,.lit⟩
       cases ex with
       | normal=>exact fin .ready true .normal (hend none) hk3
       | ret=>exact fin (.done none) false .ret (hend (some .ret)) hk3
       | exit i=>exact fin (.done (some i)) false (.exit i) (hend (some (.exit i))) hk3
       | _=>exact (show False from hk3).elim
      .exact (show False from hk3).elim
     .exact (show False from hk).elim
    .exact (show False from hk).elim
   | _=>exact (show False from hk).elim
  .exact (show False from h).elim
 .exact (show False from h).elim
theorem qjb {α:Type} {p:Nat->Bool}:∀ {l:List (Nat×α)} {n:Nat} {a:α},look (l.filter fun x=>p x.1) n=some a->look l n=some a
 | [],_,_,h=>by cases h
 | (i,b)::l,n,a,h=>by
  rw [List.filter_cons] at h
  by_cases hn:i=n
  .subst hn
   cases hp:p i with
   | true=>simp only [hp,if_true,look,Nat.beq_refl,cond_true] at h ⊢;exact h
   | false=>
    exfalso
    simp only [hp,Bool.false_eq_true,if_false] at h
    have hm:=qc8 h
    rw [List.mem_filter] at hm
    have:=hm.2
    rw [hp] at this
    cases this
  .have hb:Nat.beq i n=false:=by rw [<-Bool.not_eq_true,Nat.beq_eq];exact hn
   simp only [look,hb,cond_false]
   cases hp:p i with
   | true=>simp only [hp,if_true,look,hb,cond_false] at h;exact qjb h
   | false=>simp only [hp,Bool.false_eq_true,if_false] at h;exact qjb h
theorem q7n {lo:Nat} {vs:List (PV K)} {cells:List (Nat×Cont Int Bool (List UInt8) Prop (fun c=>List (K c)))} {id:Nat} {ct:Cont Int Bool (List UInt8) Prop (fun c=>List (K c))} (h:look (gcC lo vs cells) id=some ct):look cells id=some ct:=by
 unfold gcC at h
 rw [cond_eq_ite] at h
 split at h
 .exact h
 .exact qjb (p:=fun i=>!Nat.ble lo i || (q08 lo cells 3 ((qph vs++cells.flatMap fun x=>bif Nat.ble lo x.1 then [] else x.2.refs).filter (Nat.ble lo))).any (Nat.beq i)) h
theorem RelH.zer (R:RelH X sz C base st H w) {cs:List (Nat×Cont Int Bool (List UInt8) Prop (fun c=>List (K c)))} (h:∀ {id ct},look cs id=some ct->look st.cells id=some ct):RelH X sz C base {st with cells:=cs} H w:=
 ⟨R.wf,R.rob,R.g,R.nx,R.b,R.Mlt,R.n,R.one,R.keeps,R.cl,R.cinj,fun id ct hl=>R.cells id ct (h hl),R.owns,R.ownn,R.eta,R.einj,R.ce,R.known,R.globs⟩
theorem qm5 (ok:CfgOk X sz C) (ok2:CfgOk2 X C) (tok:qf9 X sz C tbl) (hq:qw C) (iok:qin X sz C inl) {f:Nat} {args:List (PV K)} {st:StV K} {k:PV K->StV K->Prop} (h:qwt (qk X tbl inv meas) C inl f args st k) {base H:Heap} {w:Wd} {vs:List V}
  (R:RelH X sz C base st H w) (ra:qi X sz w args vs):qbi C.E (.func f) vs H fun v H'=>∃ p st' w',k p st'/\st'.tmps=st.tmps/\st'.n=st.n/\RelH X sz C base st' H' w'/\Le w w'/\Rep X sz w' p v:=by
 unfold qwt at h
 cases hans:C.ans f with
 | true=>rw [hans] at h;exact absurd h id
 | false=>
  rw [hans] at h
  simp only [cond_false] at h
  have hs:=hq.1 f hans
  cases hprim:C.prim f with
  | true=>
   rw [hprim] at h
   simp only [cond_true] at h
   exact qy9 ok hq.2 hprim h R ra
  | false=>
  rw [hprim] at h
  simp only [cond_false] at h
  split at h
  .rename_i fi hfi
   split at h
   .rename_i c hc
    have ra0:qi X sz {w with fl:=w.nx} args vs:=ra.qcd ok.len (LeB.qik w w.nx)
    have R1:Rel X sz C base {st with tmps:=Tree.ofList args,n:=max args.length fi.ntmps} {tmps:=qcr vs,n:=max vs.length fi.ntmps,defers:=[]} H {w with fl:=w.nx}:=by
     refine ⟨(R.qik ok w.nx).alike rfl rfl rfl rfl,fun i p hp=>?_,by rw [ra.1],.nil (Nat.le_refl _)⟩
     have hp':(Tree.ofList args).get i=some p:=hp
     rw [Tree.qk1] at hp'
     obtain ⟨v,h1,h2⟩:=ra0.get hp'
     exact ⟨v,qt0 h1,h2⟩
    refine qqy hs hfi hc ((z6 (rd:=none) (round:=none) ok ok2 tok iok trivial R1 h).mono fun ex fr' H' hA=>?_)
    obtain ⟨_,st1,w1,hk,R2,hle⟩:=hA
    have key:onS False (qfd (qk X tbl inv meas) C st1 fi.results) (fun vs=>q19 (qk X tbl inv meas) vs st1 fun vs st2=>k (q1h vs) {st2 with tmps:=st.tmps,n:=st.n,cells:=gcC st.next vs st2.cells})->∃ H'',qbd fr'.defers H'=some H''/\∃ vs,zz C.E fr' H'' fi.results=some vs/\∃ p st' w',k p st'/\st'.tmps=st.tmps/\st'.n=st.n/\RelH X sz C base st' H'' w'/\Le w w'/\Rep X sz w' p (oneOf vs):=by
     intro hm
     obtain ⟨qs,hps,hm⟩:=qa hm
     obtain ⟨H'',w2,hmk,R3,hB,hfl,hold⟩:=qpb ok R2.h (F:=w.nx) (fun x hx=>by
      obtain ⟨m,a1,a2,a3,a4⟩:=R2.ds.1 x hx
      exact ⟨m,a1,a2,by rw [hle.fl] at a3;exact a3,a4⟩) R2.ds.2.1
     obtain ⟨us,e1,e2⟩:=qgp (fr:=fr') R3 (fun i p hp=>by
      obtain ⟨v,h1,h2⟩:=R2.f i p hp
      exact ⟨v,h1,h2.qcd ok.len hB⟩) hps
     obtain ⟨qs',st2,w3,hm,R4,hle3,e3⟩:=qli ok R3 e2 hm
     have hfin:Le w {w3 with fl:=w.fl}:=Le.leave (fun n hn=>by rw [R.g];exact R.wf n (by rw [<-R.nx];exact hn)) hle hB hold hle3
     exact ⟨H'',hmk,us,e1,_,_,{w3 with fl:=w.fl},hm,rfl,rfl,((R4.qik ok w.fl).zer (cs:=gcC st.next qs' st2.cells) q7n).alike rfl rfl rfl rfl,hfin,q5i (e3.qcd ok.len (LeB.qik w3 w.fl))⟩
    cases ex with
    | normal=>exact ⟨.inl rfl,key hk⟩
    | ret=>exact ⟨.inr rfl,key hk⟩
    | _=>exact absurd hk id
   .rename_i hc
    split at h
    .rename_i x hext
     obtain ⟨v,vs',rfl,r1,r2⟩:=ra.zj
     have:=r2.zq;subst this
     exact qty hs hfi hc (v:=v) (by simp only [hext,q4r]) ⟨x,st,w,h,rfl,rfl,R,.refl w,r1⟩
    .exact absurd h id
  .exact absurd h id
theorem qsv (ok:CfgOk X sz C) (ok2:CfgOk2 X C) (tok:qf9 X sz C tbl) (hq:qw C):∀ n,qin X sz C (q30 (qk X tbl inv meas) C n)
 | 0=>fun g args st k h=>absurd h id
 | n+1=>fun t args st k h base H w vs R ra=>match t,h with
  | .func f,h=>qm5 ok ok2 tok hq (qsv ok ok2 tok hq n) h R ra
  | .round id,h=>qtn ok ok2 tok (qsv ok ok2 tok hq n) h R ra
theorem qfw:∀ {ps rs:List (PV K)} {obs:List Prop},qh8 (qk X tbl inv meas) st ps rs=some obs->∀ j i,(j,i) ∈ ku ps rs->∃ s,look st.owns i=some s
 | [],rs,obs,h,j,i,hm=>by cases rs<;>simp [ku] at hm
 | _::_,[],obs,h,j,i,hm=>by simp [qh8] at h
 | p::ps,r::rs,obs,h,j,i,hm=>by
  simp only [qh8] at h
  obtain ⟨x,h1,h2⟩:=Option.bind_eq_some_iff.1 h
  obtain ⟨y,h3,_⟩:=Option.map_eq_some_iff.1 h2
  have ih:=qfw h3 j i
  cases p with
  | list c l o=>
   cases o with
   | none=>cases r<;>exact ih hm
   | some a=>
    obtain ⟨i',s'⟩:=a
    cases r with
    | list c' l' o'=>
     cases o' with
     | none=>exact ih hm
     | some b=>
      obtain ⟨j',s2⟩:=b
      simp only [ku,List.mem_cons] at hm
      rcases hm with hm | hm
      .cases hm
       simp only [meets,Option.isSome_some,Bool.true_and] at h1
       rcases zn h1 with ⟨hb,_⟩ | ⟨_,hb⟩
       .simp only [Bool.not_eq_false',qcc] at hb
        split at hb
        .rename_i s3 hs3;exact ⟨s3,hs3⟩
        .cases hb
       .cases hb
      .exact ih hm
    | _=>exact ih hm
  | _=>cases r<;>exact ih hm
theorem qmr:∀ {ps rs:List (PV K)},(ku ps rs).map (·.2)=qgn ps rs
 | [],rs=>by cases rs<;>simp [ku,qgn]
 | p::ps,[]=>by cases p<;>simp [ku,qgn]
 | p::ps,r::rs=>by
  have ih:=qmr (ps:=ps) (rs:=rs)
  cases p with
  | list c l o=>
   cases o with
   | none=>cases r<;>simp only [ku,qgn,ih]
   | some a=>
    cases r with
    | list c' l' o'=>
     cases o' with
     | none=>simp only [ku,qgn,ih]
     | some b=>simp only [ku,qgn,List.map_cons,ih]
    | _=>simp only [ku,qgn,ih]
  | _=>cases r<;>simp only [ku,qgn,ih]
theorem qmq:∀ {ps rs:List (PV K)},((ku ps rs).map (·.1)).Sublist (qao rs)
 | [],rs=>by cases rs<;>simp [ku]
 | p::ps,[]=>by cases p<;>simp [ku]
 | p::ps,r::rs=>by
  have ih:=qmq (ps:=ps) (rs:=rs)
  cases r with
  | list c' l' o'=>
   cases o' with
   | none=>cases p with
    | list c l o=>cases o<;>exact ih
    | _=>exact ih
   | some b=>
    cases p with
    | list c l o=>
     cases o with
     | none=>exact ih.trans (List.sublist_cons_self _ _)
     | some a=>exact ih.cons_cons _
    | _=>exact ih.trans (List.sublist_cons_self _ _)
  | _=>cases p with
   | list c l o=>cases o<;>exact ih
   | _=>exact ih
theorem qo9:∀ {l:List (Nat×Nat)} {j i:Nat},(l.map (·.1)).Nodup->(j,i) ∈ l->look l j=some i
 | [],j,i,_,h=>by cases h
 | (a,b)::l,j,i,hn,h=>by
  simp only [List.map_cons,List.nodup_cons] at hn
  simp only [look,cond_eq_ite,Nat.beq_eq]
  rcases List.mem_cons.1 h with h | h
  .cases h
   rw [if_pos rfl]
  .rw [if_neg]
   .exact qo9 hn.2 h
   .intro he
    subst he
    exact hn.1 (List.mem_map.2 ⟨_,h,rfl⟩)
theorem qmn (ok2:CfgOk2 X C) (R:RelH X sz C base st H w) {w':Wd} (hg:w'.g=w.g) (hM':∀ nm x,w.g nm=some x->¬ w.M nm->¬ w'.M nm) (hce:w'.ce=w.ce) (ho:∀ i,w'.owns i=some 0):∀ {ps rs:List (PV K)} {obs:List Prop} {vs:List V},
  qh8 (qk X tbl inv meas) st ps rs=some obs->(∀ q ∈ obs,q)->qi X sz w ps vs->(∀ r ∈ rs,RT r)->(∀ j i,(j,i) ∈ ku ps rs->w'.eta j=w.eta i)->(∀ j ∈ qao rs,j<w'.n)->qi X sz w' rs vs
 | [],[],obs,vs,h,hq,r,ht,he,hn=>by rw [r.zq];exact .nil
 | [],_::_,obs,vs,h,hq,r,ht,he,hn=>by simp [qh8] at h
 | _::_,[],obs,vs,h,hq,r,ht,he,hn=>by simp [qh8] at h
 | p::ps,q::rs,obs,vs,h,hq,r,ht,he,hn=>by
  obtain ⟨v,vs',rfl,r1,r2⟩:=r.zj
  simp only [qh8] at h
  obtain ⟨x,h1,h2⟩:=Option.bind_eq_some_iff.1 h
  obtain ⟨y,h3,rfl⟩:=Option.map_eq_some_iff.1 h2
  have hsubP:∀ j i,(j,i) ∈ ku ps rs->(j,i) ∈ ku (p::ps) (q::rs):=by
   intro j i hm
   cases p with
   | list c l o=>
    cases o with
    | none=>cases q<;>exact hm
    | some a=>
     cases q with
     | list c' l' o'=>
      cases o' with
      | none=>exact hm
      | some b=>exact List.mem_cons_of_mem _ hm
     | _=>exact hm
   | _=>cases q<;>exact hm
  have hsubI:∀ j ∈ qao rs,j ∈ qao (q::rs):=by
   intro j hm
   cases q with
   | list c' l' o'=>
    cases o' with
    | none=>exact hm
    | some b=>exact List.mem_cons_of_mem _ hm
   | _=>exact hm
  have ih:=qmn ok2 R hg hM' hce ho h3 (fun q hq'=>hq q (List.mem_append_right _ hq')) r2 (fun r hr=>ht r (List.mem_cons_of_mem _ hr)) (fun j i hm=>he j i (hsubP j i hm)) (fun j hj=>hn j (hsubI j hj))
  refine .cons ?_ ih
  have hx:∀ a ∈ x,a:=fun a ha=>hq a (List.mem_append_left _ ha)
  have hT:=ht q List.mem_cons_self
  cases q with
  | int k' l' b=>
   cases p with
   | int k l a=>
    simp only [meets] at h1
    split at h1
    .rename_i hk
     subst hk
     cases h1
     have:a=b:=hx _ List.mem_cons_self
     subst this
     cases r1
     have:l'=none:=hT
     subst this
     exact .int fun m hm=>by cases hm
    .cases h1
   | _=>simp [meets] at h1
  | sb id neg b pt pf=>
   obtain ⟨t1,t2,t3⟩:id=0/\(pt↔b=true)/\(pf↔b=false):=hT
   have:v=.bool b:=by
    cases p with
    | lit a=>
     simp only [meets,Option.some.injEq] at h1
     subst h1
     have:a=b:=hx _ List.mem_cons_self
     subst this
     cases r1
     rfl
    | sb id' neg' a pt' pf'=>
     simp only [meets,Option.some.injEq] at h1
     subst h1
     have:a=b:=hx _ List.mem_cons_self
     subst this
     cases r1
     rfl
    | _=>simp [meets] at h1
   subst this
   exact .sb t2 t3 fun h0=>absurd t1 h0
  | str b=>
   cases p with
   | str a=>
    simp only [meets,Option.some.injEq] at h1
    subst h1
    have:a=b:=hx _ List.mem_cons_self
    subst this
    cases r1
    exact .str
   | _=>simp [meets] at h1
  | list c l o=>
   have hm:∃ l',asL (qk X tbl inv meas) c p=some l'/\l'=l/\(o.isSome=true->qcc st p=true):=by
    have e:meets (qk X tbl inv meas) st p (.list c l o)=(bif o.isSome&&!qcc st p then none else (asL (qk X tbl inv meas) c p).map fun l'=>[(qk X tbl inv meas).eqL c l' l]):=by
     cases p<;>rfl
    rw [e] at h1
    rcases zn h1 with ⟨hb,h4⟩ | ⟨_,hb⟩
    .obtain ⟨l',hl,rfl⟩:=Option.map_eq_some_iff.1 h4
     refine ⟨l',hl,hx _ List.mem_cons_self,fun hs=>?_⟩
     rw [hs] at hb
     simpa using hb
    .cases hb
   obtain ⟨l',hl,rfl,hown⟩:=hm
   have rl:=qcp r1 hl
   have rp:=rl.plain ok2.plain hg hM' .list
   cases o with
   | none=>exact rp
   | some b=>
    obtain ⟨j,s⟩:=b
    have hs0:s=0:=hT
    subst hs0
    have hown:=hown rfl
    have hj:j<w'.n:=hn j (by simp [qao])
    have hcur:∀ cur,w'.owns j=some cur->0<=cur:=fun _ _=>Nat.zero_le _
    rcases kg rp with ⟨rfl,rfl⟩ | ⟨nm,gn,off,cap,cs,e,gen,floor,frz,ex,rfl,hg',hf,hM2,hlen,hz,hcap,hcell,_⟩
    .exact .nlist ⟨hj,hcur,fun _=>trivial,fun _=>trivial⟩
    .refine .list hg' hf hM2 rfl hlen hz hcap hcell ⟨hj,hcur,fun _=>?_,fun h=>by cases h⟩
     cases p with
     | list c2 l2 o2=>
      cases o2 with
      | none=>simp [qcc] at hown
      | some a=>
       obtain ⟨i,s2⟩:=a
       have hcl:c2=c:=by
        unfold asL at hl
        simp only at hl
        split at hl
        .assumption
        .cases hl
       subst hcl
       have hls:look st.owns i=some s2:=by
        simp only [qcc] at hown
        split at hown
        .rename_i s3 hs3
         rw [hs3,Nat.eq_of_beq_eq_true hown]
        .cases hown
       have hll:l2.length=l'.length:=by
        unfold asL at hl
        simp only at hl
        split at hl
        .cases hl;rfl
        .cases hl
       have hclaim:qpu w sz i c2 (.slice nm gn off l'.length (sz c2) cap):=by
        rcases kg r1 with ⟨_,hh⟩ | ⟨nm3,gn3,off3,cap3,cs3,e3,gen3,floor3,frz3,ex3,hh,_,_,_,_,_,_,_,ho3⟩
        .cases hh
        .rw [hh];exact ho3.2.2.1 (by rw [R.owns];exact hls)
       have heta:w'.eta j=w.eta i:=he j i (by simp [ku])
       simp only [qpu] at hclaim ⊢
       rcases hclaim with hc | ⟨hc1,hc2,cs4,e4,floor4,frz4,ex4,hg4,hr4⟩
       .exact .inl hc
       .exact .inr ⟨hc1,by rw [heta];exact hc2,cs4,e4,floor4,frz4,ex4,by rw [hg];exact hg4,hr4.1,hr4.2.1,by rw [hce];exact hr4.2.2⟩
     | nils=>cases r1
     | _=>simp [qcc] at hown
  | _=>cases p<;>simp [meets] at h1
theorem q4t {ps:List (PV K)} {vs:List V} (r:qi X sz w ps vs):qi X sz w (ps.flatMap P.cellsOf) (vs.flatMap V.cells):=by
 induction ps generalizing vs with
 | nil=>rw [r.zq];exact .nil
 | cons p ps ih=>
  obtain ⟨v,vs',rfl,r1,r2⟩:=r.zj
  exact r1.cells.append (ih r2)
theorem qlr {w':Wd} {p r:PV K} {v:V} {cs:List (PV K)} {us:List V} (ha:qhx p r=true) (rp:Rep X sz w p v) (h:qi X sz w' (r.cellsOf++cs) (v.cells++us)):Rep X sz w' r v/\qi X sz w' cs us:=by
 have sp:∀ {a:List (PV K)} {b:List V},a.length=b.length->qi X sz w' (a++cs) (b++us)->qi X sz w' a b/\qi X sz w' cs us:=by
  intro a b hl hr
  have h1:=hr.take a.length
  have h2:=hr.drop a.length
  rw [List.take_left' rfl] at h1
  rw [List.drop_left' rfl] at h2
  rw [hl,List.take_left' rfl] at h1
  rw [hl,List.drop_left' rfl] at h2
  exact ⟨h1,h2⟩
 cases p with
 | agg a=>
  obtain ⟨vs,rfl,rl⟩:=rp.qde
  cases r with
  | agg b=>
   simp only [qhx] at ha
   have hl:=Nat.eq_of_beq_eq_true ha
   obtain ⟨q1,q2⟩:=sp (a:=b) (b:=vs) (by rw [<-hl,rl.1]) h
   exact ⟨.qnc q1,q2⟩
  | _=>simp [qhx] at ha
 | tuple a=>cases r<;>simp [qhx] at ha
 | _=>
  have hv:=rp.cellsOf (by intro ps hh;cases hh)
  cases r with
  | agg b=>simp [qhx] at ha
  | tuple b=>simp [qhx] at ha
  | _=>
   obtain ⟨q1,q2⟩:=sp (a:=P.cellsOf _) (b:=v.cells) (by rw [hv.2];rfl) h
   rw [hv.2] at q1
   obtain ⟨u,us',he,e1,e2⟩:=qi.zj q1
   simp only [List.cons.injEq] at he
   obtain ⟨rfl,rfl⟩:=he
   exact ⟨e1,q2⟩
theorem qqp {w':Wd}:∀ {ps rs:List (PV K)} {vs:List V},qkr ps rs=true->qi X sz w ps vs->qi X sz w' (rs.flatMap P.cellsOf) (vs.flatMap V.cells)->qi X sz w' rs vs
 | [],[],vs,_,r,_=>by rw [r.zq];exact .nil
 | [],_::_,vs,h,_,_=>by simp [qkr] at h
 | _::_,[],vs,h,_,_=>by simp [qkr] at h
 | p::ps,q::rs,vs,h,r,h2=>by
  obtain ⟨v,vs',rfl,r1,r2⟩:=r.zj
  simp only [qkr,Bool.and_eq_true] at h
  rw [List.flatMap_cons,List.flatMap_cons] at h2
  obtain ⟨a1,a2⟩:=qlr h.1 r1 h2
  exact .cons a1 (qqp h.2 r2 a2)
theorem qt5 {p:PV K} (h:∀ ps,p≠.tuple ps):p.flat=p.cellsOf:=by
 cases p with
 | tuple ps=>exact absurd rfl (h ps)
 | _=>rfl
theorem q5z {w':Wd} {p r:PV K} {v:V} (hs:q3s p r=true) (rp:Rep X sz w p v) (h:∀ us,qi X sz w p.flat us->qi X sz w' r.flat us):Rep X sz w' r v:=by
 by_cases hp:∃ ps,p=.tuple ps
 .obtain ⟨ps,rfl⟩:=hp
  obtain ⟨vs,rfl,rl⟩:=rp.qe1
  by_cases hr:∃ rs,r=.tuple rs
  .obtain ⟨rs,rfl⟩:=hr
   have hs':qkr ps rs=true:=hs
   exact .tuple' (qqp hs' rl (h _ (q4t rl)))
  .exfalso
   cases r with
   | tuple rs=>exact hr ⟨rs,rfl⟩
   | _=>cases hs
 .by_cases hr:∃ rs,r=.tuple rs
  .exfalso
   obtain ⟨rs,rfl⟩:=hr
   cases p with
   | tuple ps=>exact hp ⟨ps,rfl⟩
   | _=>cases hs
  .have hs':qhx p r=true:=by
    cases p with
    | tuple ps=>exact absurd ⟨ps,rfl⟩ hp
    | _=>cases r with
     | tuple rs=>exact absurd ⟨rs,rfl⟩ hr
     | _=>exact hs
   have h1:=h v.cells (by rw [qt5 (fun ps he=>hp ⟨ps,he⟩)];exact rp.cells)
   rw [qt5 (fun rs he=>hr ⟨rs,he⟩)] at h1
   exact (qlr (cs:=[]) (us:=[]) hs' rp (by simpa using h1)).1
theorem q4u (ok:CfgOk X sz C) (ok2:CfgOk2 X C) (tok:qf9 X sz C tbl) (hq:qw C) {depth f:Nat} {args:List (PV K)} {r:PV K} (hpl:∀ p ∈ args,Plain p) (hT:∀ p ∈ r.flat,RT p) (h:j9 (qk X tbl inv meas) C depth f args r):qaj X sz C f args r:=by
 intro H M vs S ra
 unfold j9 at h
 have hle1:Le (wd0 H M C.codec) {wd0 H M C.codec with n:=1}:=Le.ext (w:=wd0 H M C.codec) (m:=1) (nu':=fun _=>false) (Nat.zero_le _) (fun _ _=>rfl)
 have ra1:=ra.mono ok.len hle1
 obtain ⟨nu',g1,g2,g3⟩:=qcs ok.len ra1 (Nat.le_refl 1)
 let w0:Wd:={wd0 H M C.codec with n:=(kz args 1).2,nu:=nu'}
 have hle0:Le (wd0 H M C.codec) w0:=Le.ext (w:=wd0 H M C.codec) (Nat.zero_le _) (fun id hi=>by have:id<0:=hi;omega)
 have R0:RelH X sz C H {tmps:=.nil,n:=0,cells:=[],owns:=[],next:=(kz args 1).2,known:=[]} H w0:=by
  refine ⟨S.wf,S.ro,rfl,rfl,rfl,S.Mlt,rfl,g2,.refl H,fun _ hc=>False.elim hc,fun _ _ hc=>False.elim hc,fun id ps hl=>(by cases hl),fun _=>rfl,fun i s hl=>(by cases hl),fun i s nm hl=>(by cases hl),fun i j s s' nm hl=>(by cases hl),rfl,fun id b hl=>(by cases hl),fun gn ps hg=>?_⟩
  obtain ⟨q0,vs',e',fl,fz,ex',q1,q2,q3⟩:=S.globs gn ps hg
  exact ⟨q0,vs',e',fl,fz,ex',q1,q2,q3.mono ok.len hle0⟩
 refine (qm5 ok ok2 tok hq (qsv ok ok2 tok hq depth) h R0 g3).mono fun v H' hA=>?_
 obtain ⟨p,st',w',hk,_,_,R,hle,rp⟩:=hA
 unfold ends at hk
 obtain ⟨hb,hk⟩:=cond_prop hk
 simp only [Bool.and_eq_true] at hb
 split at hk
 .rename_i l hl
  obtain ⟨hobs,_⟩:=qls hk
  let pairs:=ku p.flat r.flat
  have hnd:(pairs.map (·.1)).Nodup:=(qd5 hb.2).sublist qmq
  have hnd2:(pairs.map (·.2)).Nodup:=by rw [qmr];exact qd5 hb.1.2
  let w2:Wd:={g:=H'.get,M:=fun n=>if n<H.next then M n else w'.M n,c:=fun _=>0,nu:=fun _=>false,n:=qk5 (qao r.flat),owns:=fun _=>some 0,eta:=fun j=>(look pairs j).bind w'.eta,ce:=C.codec,cl:=fun _=>False,nx:=H'.next,b:=H.next,lp:=fun _=>none,fl:=0}
  have heta:∀ j i,(j,i) ∈ pairs->w2.eta j=w'.eta i:=by
   intro j i hm
   show (look pairs j).bind w'.eta=_
   rw [qo9 hnd hm]
   rfl
  have hinv:∀ j nm,w2.eta j=some nm->∃ i,(j,i) ∈ pairs/\w'.eta i=some nm:=by
   intro j nm he
   obtain ⟨i,h1,h2⟩:=Option.bind_eq_some_iff.1 he
   exact ⟨i,qc8 h1,h2⟩
  have hold:=R.keeps
  refine ⟨w2,R.keeps,R.wf,rfl,fun n hn=>?_,fun n hn=>?_,rfl,rfl,fun _=>rfl,fun j nm he=>?_,fun j1 j2 nm e1 e2=>?_,?_⟩
  .show (if n<H.next then M n else w'.M n)↔M n
   rw [if_pos hn]
  .have hn':(if n<H.next then M n else w'.M n):=hn
   split at hn'
   .rename_i hlt;exact Nat.lt_of_lt_of_le hlt R.keeps.next
   .exact R.Mlt n hn'
  .obtain ⟨i,h1,h2⟩:=hinv j nm he
   obtain ⟨s,hs⟩:=qfw hl j i h1
   obtain ⟨b1,b2,b3⟩:=R.eta i s nm hs h2
   refine ⟨b1,b2,?_⟩
   show ¬ (if nm<H.next then M nm else w'.M nm)
   rw [if_neg (by omega)]
   exact b3
  .obtain ⟨i1,a1,b1⟩:=hinv j1 nm e1
   obtain ⟨i2,a2,b2⟩:=hinv j2 nm e2
   obtain ⟨s1,hs1⟩:=qfw hl j1 i1 a1
   obtain ⟨s2,hs2⟩:=qfw hl j2 i2 a2
   have:=R.einj i1 i2 s1 s2 nm hs1 hs2 b1 b2
   subst this
   have key:∀ (l:List (Nat×Nat)),(l.map (·.2)).Nodup->(j1,i1) ∈ l->(j2,i1) ∈ l->j1=j2:=by
    intro l
    induction l with
    | nil=>intro _ h;cases h
    | cons x l ih=>
     intro hn h1 h2
     simp only [List.map_cons,List.nodup_cons] at hn
     rcases List.mem_cons.1 h1 with h1 | h1<;>rcases List.mem_cons.1 h2 with h2 | h2
     .rw [<-h1] at h2;cases h2;rfl
     .exact absurd (List.mem_map.2 ⟨_,h2,by rw [<-h1]⟩) hn.1
     .exact absurd (List.mem_map.2 ⟨_,h1,by rw [<-h2]⟩) hn.1
     .exact ih hn.2 h1 h2
   exact key pairs hnd2 a1 a2
  .refine q5z hb.1.1 rp fun us hus=>?_
   exact qmn ok2 R (w':=w2) R.g.symm (fun nm x _ hm=>by
    show ¬ (if nm<H.next then M nm else w'.M nm)
    split
    .rename_i hlt;exact fun h0=>hm (hle.Mu nm hlt h0)
    .exact hm) R.ce.symm (fun _=>rfl) hl hobs hus hT heta (fun j hj=>(qno _ 0).2 j hj)
 .exact absurd hk id
end
end Go.E3
/- E3: TOOLS for claims: tables by lists, list elements of a claim's own types. -/
namespace Go.E3
open Go Go.E2
variable {K:Nat->Type}
def j7:List (Nat×Nat×Ann)->Nat->Nat->Option Ann
 | [],_,_=>none
 | (f,p,a)::l,g,q=>bif Nat.beq f g&&Nat.beq p q then some a else j7 l g q
abbrev Ct (K:Nat->Type):=List Sh×(List (NV K)->Option (Prop×PV K))
def ji:List (Nat×Ct K)->Tbl K
 | [],_=>none
 | (f,c)::l,g=>bif Nat.beq f g then some c else ji l g
section
variable {X:Codecs K} {sz:Nat->Nat} {C:Cfg Int Bool (List UInt8) Prop (fun c=>List (K c))}
def qba (X:Codecs K) (sz:Nat->Nat) (C:Cfg Int Bool (List UInt8) Prop (fun c=>List (K c))) (f:Nat) (c:Ct K):Prop:=
 ∀ ns pre r,c.2 ns=some (pre,r)->pre->∃ args,qiv c.1 ns=some args/\qaj X sz C f args r/\Form r
theorem zd:qf9 X sz C (ji []):=fun f shs res ns pre r h=>by cases h
theorem ql {f:Nat} {c:Ct K} {l:List (Nat×Ct K)} (h:qba X sz C f c) (hl:qf9 X sz C (ji l)):qf9 X sz C (ji ((f,c)::l)):=by
 intro g shs res ns pre r h1 h2 h3
 simp only [ji,cond_eq_ite,Nat.beq_eq] at h1
 split at h1
 .rename_i hf
  subst hf
  cases h1
  exact h ns pre r h2 h3
 .exact hl g shs res ns pre r h1 h2 h3
theorem CfgOk.ann (h:CfgOk X sz C) (a:Nat->Nat->Option Ann):CfgOk X sz {C with ann:=a}:=⟨h.len,h.pos,h.size,h.inj,h.one,h.u8,h.pack⟩
theorem CfgOk2.ann (h:CfgOk2 X C) (a:Nat->Nat->Option Ann):CfgOk2 X {C with ann:=a}:=⟨h.plain,h.qx⟩
theorem qaj.ann {f:Nat} {args:List (PV K)} {r:PV K} (h:qaj X sz C f args r) (a:Nat->Nat->Option Ann):qaj X sz {C with ann:=a} f args r:=by
 intro H M vs S ra
 refine (h H M vs ⟨S.wf,S.ro,S.Mlt,S.globs⟩ ra).mono fun v H' hA=>?_
 obtain ⟨w',b⟩:=hA
 exact ⟨w',b.keeps,b.wf,b.g,b.M,b.Mlt,b.ce,b.n,b.owns,b.eta,b.einj,b.rep⟩
theorem qaj.zfr {f:Nat} {args:List (PV K)} {r:PV K} {a:Nat->Nat->Option Ann} (h:qaj X sz {C with ann:=a} f args r):qaj X sz C f args r:=by
 intro H M vs S ra
 refine (h H M vs ⟨S.wf,S.ro,S.Mlt,S.globs⟩ ra).mono fun v H' hA=>?_
 obtain ⟨w',b⟩:=hA
 exact ⟨w',b.keeps,b.wf,b.g,b.M,b.Mlt,b.ce,b.n,b.owns,b.eta,b.einj,b.rep⟩
theorem qam (ok:CfgOk X sz C) (ok2:CfgOk2 X C) {l:List (Nat×Ct K)} (tok:qf9 X sz C (ji l)) (hq:qw C) {inv:Nat->List (NV K)->Prop} {meas:Nat->List (NV K)->Nat} {ann:List (Nat×Nat×Ann)} {depth f:Nat} {args:List (PV K)} {r:PV K} {VC:Prop}
  (hpl:∀ p ∈ args,Plain p) (hT:∀ p ∈ r.flat,RT p) (hvc:j9 (qk X (ji l) inv meas) {C with ann:=j7 ann} depth f args r=VC) (h:VC):qaj X sz C f args r:=
 q4u (C:={C with ann:=j7 ann}) (tbl:=ji l) (inv:=inv) (meas:=meas) (ok.ann _) (ok2.ann _) (fun f shs res ns pre r h1 h2 h3=>by
  obtain ⟨as,e1,e2,e3⟩:=tok f shs res ns pre r h1 h2 h3
  exact ⟨as,e1,e2.ann _,e3⟩) hq hpl hT (hvc.symm ▸ h) |>.zfr
def qwd:PV K->Bool
 | .int .. | .lit _ | .str _ | .nils | .nilp | .nilf | .nili=>true
 | .sb 0 _ _ _ _=>true
 | .list _ _ none=>true
 | .func _ [] []=>true
 | _=>false
def q1p:PV K->Bool
 | .agg ps=>ps.all qwd
 | p=>qwd p
theorem quw {p:PV K} (h:qwd p=true):Plain p:=by
 unfold qwd at h
 split at h<;>first | (cases h;done) | constructor
theorem q5p {p:PV K} (h:q1p p=true):Plain p:=by
 unfold q1p at h
 split at h
 .exact .agg fun p hp=>quw (List.all_eq_true.1 h p hp)
 .exact quw h
theorem qy {ps:List (PV K)} (h:ps.all q1p=true):∀ p ∈ ps,Plain p:=fun p hp=>q5p (List.all_eq_true.1 h p hp)
def qqa:PV K->Bool
 | .int .. | .lit _ | .str _=>true
 | .sb 0 _ _ _ _=>true
 | .list _ _ none=>true
 | .list _ _ (some (_,0))=>true
 | _=>false
def qvu:PV K->Bool
 | .agg ps=>ps.all qqa
 | p=>qqa p
def zcr:PV K->Bool
 | .tuple l=>l.all qvu
 | p=>qvu p
theorem qsj {p:PV K} (h:qqa p=true):Simple p:=by
 unfold qqa at h
 split at h<;>first | (cases h;done) | constructor
theorem qt9 {p:PV K} (h:qvu p=true):Form1 p:=by
 unfold qvu at h
 split at h
 .exact .agg fun p hp=>qsj (List.all_eq_true.1 h p hp)
 .exact .one (qsj h)
theorem ze {p:PV K} (h:zcr p=true):Form p:=by
 unfold zcr at h
 split at h
 .exact .tuple fun p hp=>qt9 (List.all_eq_true.1 h p hp)
 .exact .one (qt9 h)
def qfa (k:IntKind):PV K->Option Int
 | .int k' _ n=>if k=k' then some n else none
 | _=>none
def q4w:PV K->Option Bool
 | .lit b=>some b
 | .sb _ _ b _ _=>some b
 | _=>none
def q7o:PV K->Option (List UInt8)
 | .str s=>some s
 | _=>none
variable {w:Wd}
theorem ka {k:IntKind} {p:PV K} {n:Int} {v:V} (h:qfa k p=some n) (r:Rep X sz w p v):Rep X sz w (.int k none n) v:=by
 unfold qfa at h
 split at h
 .split at h
  .rename_i hk;subst hk;cases h;cases r;exact .int fun m hm=>by cases hm
  .cases h
 .cases h
theorem ql9 {p:PV K} {b:Bool} {v:V} (h:q4w p=some b) (r:Rep X sz w p v):Rep X sz w (.sb 0 false b (b=true) (b=false)) v:=by
 unfold q4w at h
 split at h
 .cases h;cases r;exact .sb .rfl .rfl fun h0=>absurd rfl h0
 .cases h;cases r;exact .sb .rfl .rfl fun h0=>absurd rfl h0
 .cases h
theorem qrm {p:PV K} {s:List UInt8} {v:V} (h:q7o p=some s) (r:Rep X sz w p v):Rep X sz w (.str s) v:=by
 unfold q7o at h
 split at h
 .cases h;exact r
 .cases h
theorem zk {p q:PV K} {ps qs:List (PV K)} {vs:List V} (h:∀ v,Rep X sz w p v->Rep X sz w q v) (hl:∀ us,qi X sz w ps us->qi X sz w qs us) (r:qi X sz w (p::ps) vs):qi X sz w (q::qs) vs:=by
 obtain ⟨v,vs',rfl,r1,r2⟩:=r.zj
 exact .cons (h v r1) (hl vs' r2)
end
end Go.E3
/- E3: FUNCTIONS WITHOUT A BODY as contracts. -/
namespace Go.E3
open Go Go.E2
variable {K:Nat->Type}
def qyk (s:List UInt8) (c:Int):Int:=match s.findIdx? (fun b=>b == c.toNat.toUInt8) with | some i=>(i:Int) | none=>-1
section
variable {X:Codecs K} {sz:Nat->Nat} {C:Cfg Int Bool (List UInt8) Prop (fun c=>List (K c))}
theorem zdo (ok2:CfgOk2 X C) (hq:qw C) {f:Nat} {fi:FI} {args:List (PV K)} {r:PV K} (hans:C.ans f=false) (hf:C.E.funcs f=some fi) (hb:fi.body=none) (hp:Plain r) (hr:qao r.flat=[])
  (h:∀ H M vs,Start X sz C H M->qi X sz (wd0 H M C.codec) args vs->∃ v,q4r fi.ext vs=some v/\Rep X sz (wd0 H M C.codec) r v):qaj X sz C f args r:=by
 intro H M vs S ra
 obtain ⟨v,hv,rv⟩:=h H M vs S ra
 let w':Wd:={wd0 H M C.codec with owns:=fun _=>some 0}
 have rv':Rep X sz w' r v:=Rep.plain (w:=wd0 H M C.codec) (w':=w') ok2.plain rfl (fun _ _ _ h=>h) rv hp
 refine qty (hq.1 f hans) hf hb hv ⟨w',?_⟩
 refine ⟨.refl H,S.wf,rfl,fun n _=>.rfl,S.Mlt,rfl,?_,fun _=>rfl,fun i nm he=>(by cases he),fun i j nm he=>(by cases he),rv'⟩
 rw [hr]
 rfl
theorem q7l (ok2:CfgOk2 X C) {f:Nat} {r:PV K} {v:V} (hp:Plain r) (hr:qao r.flat=[]) (h:∀ H,H.qx=C.ng->(∀ gn o,C.gobj gn=some o->H.get gn=some o/\gn<H.next)->qbi C.E (.func f) [] H fun u H'=>u=v/\H'=H) (hv:∀ H M,Rep X sz (wd0 H M C.codec) r v):qaj X sz C f [] r:=by
 intro H M vs S ra
 have:=ra.zq;subst this
 refine (h H S.ro.2.1 S.ro.2.2).mono fun u H' hA=>?_
 obtain ⟨rfl,rfl⟩:=hA
 let w':Wd:={wd0 H' M C.codec with owns:=fun _=>some 0}
 have rv':Rep X sz w' r u:=Rep.plain (w:=wd0 H' M C.codec) (w':=w') ok2.plain rfl (fun _ _ _ h=>h) (hv H' M) hp
 refine ⟨w',?_⟩
 refine ⟨.refl H',S.wf,rfl,fun n _=>.rfl,S.Mlt,rfl,?_,fun _=>rfl,fun i nm he=>(by cases he),fun i j nm he=>(by cases he),rv'⟩
 rw [hr]
 rfl
theorem q7w (ok2:CfgOk2 X C) (hq:qw C) {f:Nat} {fi:FI} (hans:C.ans f=false) (hf:C.E.funcs f=some fi) (hb:fi.body=none) (he:fi.ext=1) (s:List UInt8) (c:Int) :
  qaj X sz C f [.str s,.int .u8 none c] (.int .i64 none (qyk s c)):=by
 refine zdo ok2 hq hans hf hb .int rfl fun H M vs S ra=>?_
 obtain ⟨v,vs',rfl,r1,r2⟩:=ra.zj
 obtain ⟨u,vs'',rfl,r3,r4⟩:=r2.zj
 have:=r4.zq;subst this
 cases r1;cases r3
 exact ⟨.int .i64 (qyk s c),by rw [he];rfl,.int fun m hm=>by cases hm⟩
theorem q7i {f e:Nat} (h:(C.E.funcs f).map (fun fi=>(fi.body.isNone,fi.ext))=some (true,e)):∃ fi,C.E.funcs f=some fi/\fi.body=none/\fi.ext=e:=by
 obtain ⟨fi,h1,h2⟩:=Option.map_eq_some_iff.1 h
 simp only [Prod.mk.injEq,Option.isNone_iff_eq_none] at h2
 exact ⟨fi,h1,h2.1,h2.2⟩
theorem q4z (ok2:CfgOk2 X C) (hq:qw C) {f:Nat} (hans:C.ans f=false) (hf:(C.E.funcs f).map (fun fi=>(fi.body.isNone,fi.ext))=some (true,1)) (s:List UInt8) (c:Int) :
  qaj X sz C f [.str s,.int .u8 none c] (.int .i64 none (qyk s c)):=by
 obtain ⟨fi,h1,h2,h3⟩:=q7i hf
 exact q7w ok2 hq hans h1 h2 h3 s c
end
end Go.E3
/- E3: ARGUMENTS THAT LIE IN MEMORY: slices whose elements are numbers, conditions, texts, structs of such. -/
namespace Go.E3
open Go Go.E2
variable {K:Nat->Type}
def qdh:Value->V
 | .int k n=>.int k n
 | .bool b=>.bool b
 | .string s=>.str s.data.toList
 | _=>.tuple [.slice 0 0 0 0 0 none]
theorem q60 (G:qb) (W:World) (x:Value):isHole (qdh x)=true∨Go.E2.Rel G W (qdh x) x:=by
 cases x with
 | int k n=>right;simp [qdh,Go.E2.Rel]
 | bool b=>right;simp [qdh,Go.E2.Rel]
 | string s=>right;simp [qdh,Go.E2.Rel]
 | _=>exact .inl rfl
theorem qzb (G:qb) (W:World):∀ l:List Value,zt G W (l.map qdh) l
 | []=>by simp [zt]
 | x::l=>by
  simp only [List.map_cons,zt]
  exact ⟨x,l,rfl,q60 G W x,qzb G W l⟩
def zbu (W:World) (b:Nat):Option (Nat×O):=
 match W.heap[b]? with
 | some (.cells arr e fz)=>some (b,.row (arr.toList.map qdh) e 0 0 fz.2 false)
 | _=>none
def q8o (W:World):List (Nat×O):=(List.range W.heap.size).filterMap (zbu W)
theorem q5h {W:World} {b:Nat} {x:Nat×O} (h:zbu W b=some x):∃ arr e fz,W.heap[b]? = some (.cells arr e fz)/\x=(b,.row (arr.toList.map qdh) e 0 0 fz.2 false):=by
 unfold zbu at h
 split at h
 .rename_i arr e fz hb
  exact ⟨arr,e,fz,hb,(Option.some.inj h).symm⟩
 .cases h
theorem qup {W:World} {b:Nat} {o:O} (h:(b,o) ∈ q8o W):∃ arr e fz,W.heap[b]? = some (.cells arr e fz)/\o=.row (arr.toList.map qdh) e 0 0 fz.2 false:=by
 obtain ⟨b',_,h2⟩:=List.mem_filterMap.1 h
 obtain ⟨arr,e,fz,h3,h4⟩:=q5h h2
 cases h4
 exact ⟨arr,e,fz,h3,rfl⟩
def qc7 (W:World) (ng:Nat):Heap:={j6:=qcn (q8o W),next:=W.heap.size,ro:=W.heap.size,qx:=ng}
theorem qjo {W:World} {ng b:Nat} {arr:Array Value} {e:TypeId} {fz:Nat×Nat} (h:W.heap[b]? = some (.cells arr e fz)):(qc7 W ng).get b=some (.row (arr.toList.map qdh) e 0 0 fz.2 false):=by
 have hm:(b,O.row (arr.toList.map qdh) e 0 0 fz.2 false) ∈ q8o W:=by
  refine List.mem_filterMap.2 ⟨b,List.mem_range.2 (qck h),?_⟩
  unfold zbu
  rw [h]
 obtain ⟨o,ho⟩:=qgh hm
 obtain ⟨arr',e',fz',h',rfl⟩:=qup (qac _ _ _ ho)
 rw [h] at h'
 cases h'
 exact ho
theorem qk3 {W:World} {ng b:Nat} {o:O} (h:(qc7 W ng).get b=some o):∃ arr e fz,W.heap[b]? = some (.cells arr e fz)/\o=.row (arr.toList.map qdh) e 0 0 fz.2 false:=
 qup (qac _ _ _ h)
def qb9 (W:World):qb:=fun nm g=>if g=0 then (match W.heap[nm]? with
 | some (.cells arr _ _)=>some (nm,0,arr.size)
 | _=>none) else none
theorem jx {W:World} {nm g:Nat} {x:Nat×Nat×Nat} (h:qb9 W nm g=some x):g=0/\∃ arr e fz,W.heap[nm]? = some (.cells arr e fz)/\x=(nm,0,arr.size):=by
 unfold qb9 at h
 split at h
 .rename_i hg
  split at h
  .rename_i arr e fz hb
   exact ⟨hg,arr,e,fz,hb,(Option.some.inj h).symm⟩
  .cases h
 .cases h
theorem qes {W:World} {b:Nat} {arr:Array Value} {e:TypeId} {fz:Nat×Nat} (h:W.heap[b]? = some (.cells arr e fz)):qb9 W b 0=some (b,0,arr.size):=by
 unfold qb9
 rw [if_pos rfl,h]
theorem zgo {W:World} {ng:Nat} (hng:ng<=W.heap.size):Sim (qc7 W ng) (qb9 W) W:=by
 refine ⟨fun nm g b sh n h=>?_,fun nm g b sh n nm' g' sh' n' h h'=>?_,fun nm o _ ho=>?_,Nat.le_refl _,hng,fun g o _ ho=>?_⟩
 .obtain ⟨_,arr,e,fz,hb,hx⟩:=jx h
  cases hx
  exact ⟨qck hb,qck hb⟩
 .obtain ⟨_,_,_,_,_,hx⟩:=jx h
  obtain ⟨_,_,_,_,_,hx'⟩:=jx h'
  cases hx
  cases hx'
  exact ⟨rfl,rfl⟩
 .obtain ⟨arr,e,fz,hb,rfl⟩:=qk3 ho
  refine ⟨Nat.le_refl _,fun h=>(by cases h),fun g b sh n hg=>?_⟩
  obtain ⟨rfl,arr',e',fz',hb',hx⟩:=jx hg
  rw [hb] at hb'
  cases hb'
  cases hx
  refine ⟨Nat.le_refl _,Nat.zero_le _,by simp,fun _=>by simp,fun h=>(by cases h),fun _=>⟨arr,fz,hb,by simp,?_,fun _ i h1 h2=>by omega,fun h=>(by cases h)⟩⟩
  rw [List.drop_zero,Nat.sub_zero,List.take_of_length_le (by simp),List.take_of_length_le (by simp)]
  exact qzb _ _ _
 .obtain ⟨arr,e,fz,hb,_⟩:=qk3 ho
  exact ⟨_,qes hb⟩
theorem q4s {W w':World} {G':qb} (h:Ext W.heap.size (qb9 W) W G' w'):∀ b,b<W.heap.size->w'.heap[b]? = W.heap[b]?:=by
 intro b hb
 cases hc:qb9 W b 0 with
 | some x=>
  obtain ⟨_,arr,e,fz,_,rfl⟩:=jx hc
  exact h.ro b 0 b 0 _ hb hc
 | none=>
  refine (h.frg b hb fun nm g sh n hg=>?_).1
  obtain ⟨rfl,arr,e,fz,hb',hx⟩:=jx hg
  cases hx
  rw [qes hb'] at hc
  cases hc
inductive Leaf4 where
 | int (k:IntKind)
 | bool
 | str
 | list (c:Nat)
def Leaf4.flat:Leaf4->Bool
 | .list _=>false
 | _=>true
def qsq (P:Program) (g:TypeId->Option (List Leaf4)):List Field->Nat->Option (List Leaf4)
 | [],_=>some []
 | f::fs,off=>(g f.type).bind fun l=>bif Nat.beq f.offset off&&Nat.beq l.length (P.cellsOf f.type) then (qsq P g fs (off+l.length)).map fun r=>l++r else none
def qps (P:Program) (cd:TypeId->Option Nat):Nat->TypeId->Option (List Leaf4)
 | 0,_=>none
 | d+1,t=>match P.underlying t with
  | some (.int k)=>some [.int k]
  | some .bool=>some [.bool]
  | some .string=>some [.str]
  | some (.slice e)=>(cd e).map fun c=>[.list c]
  | some (.struct fs)=>(qsq P (qps P cd d) fs.toList 0).bind fun l=>bif Nat.beq l.length (P.cellsOf t) then some l else none
  | _=>none
section
variable {Hd:Type} {enc:TypeId×Value->Hd} {P:Program} {W:World} {cd:TypeId->Option Nat}
def qal (enc:TypeId×Value->Hd) (P:Program) (W:World) (cd:TypeId->Option Nat):Leaf4->Value->Prop
 | .int k,x=>∃ n,x=.int k n/\(Lit.int k n).wf=true
 | .bool,x=>∃ b,x=.bool b
 | .str,x=>∃ s,x=.string s/\s.size<=maxLen
 | .list c,x=>x=.slice none 0 0∨∃ e a len cap,cd e=some c/\x=.slice (some a) len cap/\len<=cap/\cap<=maxLen/\
   ∀ i,i<cap->∃ cs m r,W.cells? 0 (a.add (i * P.cellsOf e)) (P.cellsOf e)=some cs/\DataW.trod enc P W 0 (fun _=>true) true m e cs=some r
theorem qpr {Q:Leaf4->Value->Prop} {cs:List Value} {g:TypeId->Option (List Leaf4)}:∀ {fs:List Field} {off:Nat} {ls:List Leaf4},qsq P g fs off=some ls->
  (∀ f ∈ fs,∀ l,g f.type=some l->l.length=P.cellsOf f.type->∀ (i:Nat) leaf x,l[i]? = some leaf->((cs.drop f.offset).take (P.cellsOf f.type))[i]? = some x->Q leaf x)->
  ∀ (i:Nat) leaf x,ls[i]? = some leaf->cs[off+i]? = some x->Q leaf x
 | [],off,ls,h,_,i,leaf,x,hl,_=>by
  simp only [qsq,Option.some.injEq] at h
  subst h
  simp at hl
 | f::fs,off,ls,h,hR,i,leaf,x,hl,hx=>by
  simp only [qsq] at h
  obtain ⟨l,h1,h2⟩:=Option.bind_eq_some_iff.1 h
  rcases zn h2 with ⟨_,h3⟩ | ⟨h3,h4⟩
  .cases h3
  .simp only [Bool.and_eq_true,Nat.beq_eq] at h3
   obtain ⟨rfl,hlen⟩:=h3
   obtain ⟨r,h5,rfl⟩:=Option.map_eq_some_iff.1 h4
   by_cases hi:i<l.length
   .rw [List.getElem?_append_left hi] at hl
    refine hR f List.mem_cons_self l h1 hlen i leaf x hl ?_
    rw [List.getElem?_take_of_lt (by omega),List.getElem?_drop]
    exact hx
   .rw [List.getElem?_append_right (by omega)] at hl
    refine qpr h5 (fun f' hf'=>hR f' (List.mem_cons_of_mem _ hf')) (i-l.length) leaf x hl ?_
    rw [show f.offset+l.length+(i-l.length)=f.offset+i by omega]
    exact hx
theorem qf5:∀ (d:Nat) {n:Nat} {t:TypeId} {cs:List Value} {r:DataW Hd×List MemPlace} {ls:List Leaf4},DataW.trod enc P W 0 (fun _=>true) true n t cs=some r->qps P cd d t=some ls->
  cs.length=ls.length/\∀ (i:Nat) leaf x,ls[i]? = some leaf->cs[i]? = some x->qal enc P W cd leaf x
 | 0,n,t,cs,r,ls,h,ht=>by cases ht
 | d+1,n,t,cs,r,ls,h,ht=>by
  have one:∀ {leaf:Leaf4} {x:Value},qal enc P W cd leaf x->[x].length=[leaf].length/\∀ (i:Nat) l y,[leaf][i]? = some l->[x][i]? = some y->qal enc P W cd l y:=by
   intro leaf x hr
   refine ⟨rfl,fun i l y h1 h2=>?_⟩
   cases i with
   | zero=>simp only [List.getElem?_cons_zero,Option.some.injEq] at h1 h2;subst h1;subst h2;exact hr
   | succ i=>simp at h1
  simp only [qps] at ht
  split at ht
  .rename_i k hu
   cases ht
   obtain ⟨m,rfl,_,hw⟩:=DataW.trod_int hu h
   exact one ⟨m,rfl,hw⟩
  .rename_i hu
   cases ht
   obtain ⟨b,rfl,_⟩:=DataW.trod_bool hu h
   exact one ⟨b,rfl⟩
  .rename_i hu
   cases ht
   obtain ⟨s,rfl,_,hs⟩:=DataW.trod_string hu h
   exact one ⟨s,rfl,hs⟩
  .rename_i e hu
   obtain ⟨c,hc,rfl⟩:=Option.map_eq_some_iff.1 ht
   rcases DataW.trod_slice hu h with ⟨rfl,_⟩ | ⟨a,len,cap,elems,rest,m,_,rfl,_,_,hl,hm,hel,he1,he2,_⟩
   .exact one (.inl rfl)
   .refine one (.inr ⟨e,a,len,cap,hc,rfl,hl,hm,fun i hi=>?_⟩)
    obtain ⟨hr1,hr2⟩:=he2 rfl
    by_cases hil:i<len
    .have:=he1 i hil
     rw [List.getElem?_eq_getElem (by omega)] at this
     obtain ⟨cs',h1,h2⟩:=Option.bind_eq_some_iff.1 this
     exact ⟨cs',m,_,h1,h2⟩
    .have:=hr2 (i-len) (by omega)
     rw [List.getElem?_eq_getElem (by omega),show len+(i-len)=i by omega] at this
     obtain ⟨cs',h1,h2⟩:=Option.bind_eq_some_iff.1 this
     exact ⟨cs',m,_,h1,h2⟩
  .rename_i fs hu
   obtain ⟨l,h1,h2⟩:=Option.bind_eq_some_iff.1 ht
   rcases zn h2 with ⟨_,h3⟩ | ⟨h3,h4⟩
   .cases h3
   .cases h4
    have hlen:=Nat.eq_of_beq_eq_true h3
    obtain ⟨xs,m,_,_,hl,hxs,hf⟩:=DataW.trod_struct hu h
    refine ⟨by omega,fun i leaf x hi hx=>?_⟩
    refine qpr (Q:=qal enc P W cd) (off:=0) h1 (fun f hfm l' hg hgl j lf y hj hy=>?_) i leaf x hi (by simpa using hx)
    obtain ⟨q,hq,rfl⟩:=List.mem_iff_getElem.1 hfm
    have h5:=hf q fs.toList[q] (by simp at hq ⊢)
    rw [List.getElem?_eq_getElem (by simp at hq;omega)] at h5
    exact (qf5 d h5 hg).2 j lf y hj hy
  .cases ht
def qoh (good:∀ c,K c->Prop):Leaf4->PV K->Prop
 | .int k,p=>∃ n,p=.int k none n/\k.min<=n/\n<=k.max
 | .bool,p=>∃ b,p=.sb 0 false b (b=true) (b=false)
 | .str,p=>∃ s:List UInt8,p=.str s/\s.length<=maxLen
 | .list c,p=>∃ l:List (K c),p=.list c l none/\l.length<=maxLen/\∀ x ∈ l,good c x
def qgu (good:∀ c,K c->Prop):List Leaf4->List (PV K)->Prop
 | [],ps=>ps=[]
 | l::ls,ps=>∃ p qs,ps=p::qs/\qoh good l p/\qgu good ls qs
variable {good:∀ c,K c->Prop}
variable {X:Codecs K} {sz:Nat->Nat} {w:Wd}
theorem qns {leaf:Leaf4} {x:Value} (hf:leaf.flat=true) (h:qal enc P W cd leaf x):∃ p:PV K,qoh good leaf p/\Rep X sz w p (qdh x):=by
 cases leaf with
 | int k=>
  obtain ⟨n,rfl,hw⟩:=h
  simp only [Lit.wf,Bool.and_eq_true,decide_eq_true_eq] at hw
  exact ⟨_,⟨n,rfl,hw⟩,.int fun m hm=>by cases hm⟩
 | bool=>
  obtain ⟨b,rfl⟩:=h
  exact ⟨_,⟨b,rfl⟩,.sb .rfl .rfl fun h0=>absurd rfl h0⟩
 | str=>
  obtain ⟨s,rfl,hs⟩:=h
  exact ⟨_,⟨s.data.toList,rfl,by simpa using hs⟩,.str⟩
 | list c=>cases hf
theorem qi9:∀ {ls:List Leaf4} {cs:List Value},ls.all Leaf4.flat=true->cs.length=ls.length->(∀ (i:Nat) leaf x,ls[i]? = some leaf->cs[i]? = some x->qal enc P W cd leaf x)->
  ∃ ps:List (PV K),qgu good ls ps/\qi X sz w ps (cs.map qdh)
 | [],[],_,_,_=>⟨[],rfl,.nil⟩
 | [],_::_,_,h,_=>by simp at h
 | _::_,[],_,h,_=>by simp at h
 | l::ls,x::cs,hf,hl,hr=>by
  simp only [List.all_cons,Bool.and_eq_true] at hf
  obtain ⟨p,h1,h2⟩:=qns (X:=X) (sz:=sz) (w:=w) hf.1 (hr 0 l x rfl rfl)
  obtain ⟨ps,h3,h4⟩:=qi9 (cs:=cs) hf.2 (by simpa using hl) fun i leaf y h5 h6=>hr (i+1) leaf y (by simpa using h5) (by simpa using h6)
  exact ⟨p::ps,⟨p,ps,rfl,h1,h3⟩,.cons h2 h4⟩
theorem qg6 {α:Type} {Q:Nat->α->Prop}:∀ {n:Nat},(∀ i,i<n->∃ x,Q i x)->∃ l:List α,l.length=n/\∀ (i:Nat) (h:i<l.length),Q i (l[i]'h)
 | 0,_=>⟨[],rfl,fun i h=>by simp at h⟩
 | n+1,h=>by
  obtain ⟨l,h1,h2⟩:=qg6 (n:=n) fun i hi=>h i (by omega)
  obtain ⟨x,hx⟩:=h n (by omega)
  refine ⟨l++[x],by simp [h1],fun i hi=>?_⟩
  by_cases hin:i<l.length
  .rw [List.getElem_append_left hin];exact h2 i hin
  .have:i=n:=by simp at hi;omega
   subst this
   rw [List.getElem_append_right (by omega)]
   simpa [h1] using hx
theorem q5w {f:TypeId->Bool}:∀ {d:Nat} {e:TypeId} {count off n:Nat},rowAt P f d e count off n=true->off<=count * P.cellsOf e
 | 0,_,_,_,_,h=>by simp [rowAt] at h
 | d+1,e,count,off,n,h=>by
  unfold rowAt at h
  by_cases hs:P.cellsOf e=0
  .simp [hs] at h
  .simp only [hs,if_false,Bool.or_eq_true,Bool.and_eq_true,beq_iff_eq,decide_eq_true_eq] at h
   have hd:=Nat.div_add_mod off (P.cellsOf e)
   have hm:=Nat.mod_lt off (Nat.pos_of_ne_zero hs)
   rcases h with ⟨⟨h1,h2⟩,_⟩ | ⟨h1,_⟩
   .have:=Nat.mul_le_mul_right (P.cellsOf e) (show off / P.cellsOf e<=count by omega)
    rw [Nat.mul_comm] at hd
    omega
   .have:=Nat.mul_le_mul_right (P.cellsOf e) (show off / P.cellsOf e+1<=count by omega)
    rw [Nat.add_mul,Nat.one_mul] at this
    rw [Nat.mul_comm] at hd
    omega
theorem qr2:∀ {d:Nat} {e:TypeId} {count off:Nat} {u:TypeId} {n:Nat},liesAt P d e count off u n=true->off<=count * P.cellsOf e
 | 0,_,_,_,_,_,h=>by simp [liesAt] at h
 | d+1,e,count,off,u,n,h=>by
  unfold liesAt at h
  simp only [Bool.or_eq_true] at h
  rcases h with h | h
  .exact q5w h
  .split at h
   .exact qr2 h
   .cases h
theorem qzl {base:Nat} {u:TypeId} {a:Addr} {len cap:Nat} (h:Cell.okWide P W .any base u (.slice (some a) len cap)) :
  a.spot=none/\∃ arr e fz,W.heap[a.block]? = some (.cells arr e fz)/\a.off<=arr.size:=by
 have h':Cell.ok P W .any base u (.slice (some a) len cap):=by
  unfold Cell.okWide at h
  split at h<;>first | exact h | (rename_i hx;cases hx)
 unfold Cell.ok at h'
 split at h'<;>try (first | exact h'.elim | (rename_i hx;cases hx;done))
 rename_i e a' len' cap' _ hx
 cases hx
 obtain ⟨_,_,_,h1,row,cells,h2,h3⟩:=h'
 refine ⟨h1,?_⟩
 simp only [World.shape?] at h2
 split at h2
 .rename_i arr el fz hb
  cases h2
  refine ⟨arr,_,fz,hb,Nat.le_trans (qr2 h3) ?_⟩
  exact Nat.div_mul_le_self _ _
 .cases h2
structure ArgOk (good:∀ c,K c->Prop) (X:Codecs K) (sz:Nat->Nat) (P:Program) (cd:TypeId->Option Nat) (depth:Nat):Prop where
 elem:∀ e c,cd e=some c->∃ ls,qps P cd depth e=some ls/\ls.all Leaf4.flat=true/\ls.length=sz c/\P.cellsOf e=sz c/\0<sz c/\∀ ps:List (PV K),qgu good ls ps->∃ pre x,X.pack c ps=some (pre,x)/\pre/\good c x
theorem q48 {C:Cfg Int Bool (List UInt8) Prop (fun c=>List (K c))} (ok:CfgOk X sz C) {depth ng:Nat} (ao:ArgOk good X sz P cd depth) {base:Nat} {u:TypeId} {c:Nat} {x:Value} {M:Nat->Prop} (hM:∀ n,¬ M n) (hc:Cell.okWide P W .any base u x) (h:qal enc P W cd (.list c) x) :
  ∃ (p:PV K) (v:V),qoh good (.list c) p/\Rep X sz (wd0 (qc7 W ng) M C.codec) p v/\Go.E2.Rel (qb9 W) W v x:=by
 rcases h with rfl | ⟨e,a,len,cap,he,rfl,hl,hcap,hr⟩
 .exact ⟨.list c [] none,.nils,⟨[],rfl,Nat.zero_le _,fun x hx=>by cases hx⟩,.nlist trivial,by simp [Go.E2.Rel]⟩
 .obtain ⟨hsp,arr,el,fz,hb,hoff⟩:=qzl hc
  obtain ⟨b,off,spot⟩:=a
  simp only at hsp hb hoff
  subst hsp
  obtain ⟨ls,h1,h2,h3,h4,h5,h6⟩:=ao.elem e c he
  rw [h4] at hr
  have hcell:∀ i,i<cap->∃ cs:List Value,cs.length=sz c/\(∀ j,j<sz c->arr[off+i * sz c+j]? = cs[j]?)/\∃ y:K c,good c y/\qi X sz (wd0 (qc7 W ng) M C.codec) (X.cells c y) (cs.map qdh):=by
   intro i hi
   obtain ⟨cs,m,r,h7,h8⟩:=hr i hi
   obtain ⟨_,h9,h10⟩:=World.cells?_some h7
   obtain ⟨h11,h12⟩:=qf5 depth h8 h1
   obtain ⟨ps,h13,h14⟩:=qi9 (X:=X) (sz:=sz) (w:=wd0 (qc7 W ng) M C.codec) h2 h11 h12
   obtain ⟨pre,y,h15,h16,h17⟩:=h6 ps h13
   refine ⟨cs,h9,fun j hj=>?_,y,h17,ok.pack c ps pre y h15 h16 _ _ h14⟩
   have hadd:((⟨b,off,none⟩:Addr).add (i * sz c)).add j=⟨b,off+i * sz c+j,none⟩:=by
    unfold Addr.add
    by_cases h0:i * sz c=0
    .rw [if_pos h0,h0]
     by_cases hj0:j=0
     .rw [if_pos hj0,hj0];simp
     .rw [if_neg hj0];simp
    .rw [if_neg h0]
     by_cases hj0:j=0
     .rw [if_pos hj0,hj0];simp
     .rw [if_neg hj0]
   have:=h10 j hj
   rw [hadd] at this
   simp only [World.cell?,hb] at this
   simpa using this
  have hsz:off+cap * sz c<=arr.size:=by
   cases cap with
   | zero=>simpa using hoff
   | succ q=>
    obtain ⟨cs,g1,g2,_⟩:=hcell q (Nat.lt_succ_self q)
    have:=g2 (sz c-1) (by omega)
    rw [List.getElem?_eq_getElem (by omega)] at this
    have:=(Array.getElem?_eq_some_iff.1 this).1
    rw [Nat.add_mul,Nat.one_mul]
    omega
  have hlm:len * sz c<=cap * sz c:=Nat.mul_le_mul_right _ hl
  obtain ⟨l,g1,g2⟩:=qg6 (Q:=fun i (y:K c)=>∃ cs:List Value,cs.length=sz c/\(∀ j,j<sz c->arr[off+i * sz c+j]? = cs[j]?)/\good c y/\qi X sz (wd0 (qc7 W ng) M C.codec) (X.cells c y) (cs.map qdh)) (n:=len) fun i hi=>by
   obtain ⟨cs,q1,q2,y,q4,q3⟩:=hcell i (by omega)
   exact ⟨y,cs,q1,q2,q4,q3⟩
  refine ⟨.list c l none,.slice b 0 off len (sz c) (some cap),⟨l,rfl,by omega,fun y hy=>?_⟩,?_,?_⟩
  .obtain ⟨i,hi,rfl⟩:=List.mem_iff_getElem.1 hy
   obtain ⟨cs,q1,q2,q4,q3⟩:=g2 i hi
   exact q4
  .refine .list (qjo hb) (Nat.le_refl _) (hM b) g1.symm (by simp;omega) h5 (fun k hk=>by cases hk;exact hl) (fun i hi j p hp=>?_) trivial
   obtain ⟨cs,q1,q2,q4,q3⟩:=g2 i hi
   have hj:j<sz c:=by rw [<-ok.len c (l[i]'hi)];exact (List.getElem?_eq_some_iff.1 hp).1
   have:=q3.2 j p hp
   rw [List.getD_eq_getElem?_getD,List.getElem?_map] at this ⊢
   rw [Array.getElem?_toList,q2 j hj]
   exact this
  .simp only [Go.E2.Rel]
   exact ⟨b,0,arr.size,off,cap,el,arr.size,_,qes hb,rfl,.inr rfl,hl,Nat.zero_le _,by omega,.inl rfl,fun k hk=>by cases hk;exact ⟨rfl,hsz⟩,by simp only [World.shape?,hb],hsz⟩
theorem q7k {leaf:Leaf4} {x:Value} (hf:leaf.flat=true) (h:qal enc P W cd leaf x) (G:qb):Go.E2.Rel G W (qdh x) x:=by
 cases leaf with
 | int k=>obtain ⟨n,rfl,_⟩:=h;simp [qdh,Go.E2.Rel]
 | bool=>obtain ⟨b,rfl⟩:=h;simp [qdh,Go.E2.Rel]
 | str=>obtain ⟨s,rfl,_⟩:=h;simp [qdh,Go.E2.Rel]
 | list c=>cases hf
theorem q46 {C:Cfg Int Bool (List UInt8) Prop (fun c=>List (K c))} (ok:CfgOk X sz C) {depth ng:Nat} (ao:ArgOk good X sz P cd depth) {base:Nat} {u:TypeId} {leaf:Leaf4} {x:Value} {M:Nat->Prop} (hM:∀ n,¬ M n) (hc:Cell.okWide P W .any base u x) (h:qal enc P W cd leaf x) :
  ∃ (p:PV K) (v:V),qoh good leaf p/\Rep X sz (wd0 (qc7 W ng) M C.codec) p v/\Go.E2.Rel (qb9 W) W v x:=by
 cases hf:leaf.flat with
 | true=>
  obtain ⟨p,h1,h2⟩:=qns (X:=X) (sz:=sz) (w:=wd0 (qc7 W ng) M C.codec) hf h
  exact ⟨p,qdh x,h1,h2,q7k hf h _⟩
 | false=>
  cases leaf with
  | list c=>exact q48 ok ao hM hc h
  | _=>cases hf
theorem qo8 {C:Cfg Int Bool (List UInt8) Prop (fun c=>List (K c))} (ok:CfgOk X sz C) {depth ng:Nat} (ao:ArgOk good X sz P cd depth) {base:Nat} {M:Nat->Prop} (hM:∀ n,¬ M n):∀ {ls:List Leaf4} {cs:List Value},cs.length=ls.length->
  (∀ (i:Nat) x,cs[i]? = some x->∃ u,Cell.okWide P W .any base u x)->(∀ (i:Nat) leaf x,ls[i]? = some leaf->cs[i]? = some x->qal enc P W cd leaf x)->
  ∃ (ps:List (PV K)) (vs:List V),qgu good ls ps/\qi X sz (wd0 (qc7 W ng) M C.codec) ps vs/\Go.E2.qe (qb9 W) W vs cs
 | [],[],_,_,_=>⟨[],[],rfl,.nil,by simp [Go.E2.qe]⟩
 | [],_::_,h,_,_=>by simp at h
 | _::_,[],h,_,_=>by simp at h
 | l::ls,x::cs,hl,hc,hr=>by
  obtain ⟨u,hu⟩:=hc 0 x rfl
  obtain ⟨p,v,h1,h2,h3⟩:=q46 (ng:=ng) ok ao hM hu (hr 0 l x rfl rfl)
  obtain ⟨ps,vs,h4,h5,h6⟩:=qo8 (ng:=ng) ok ao hM (cs:=cs) (ls:=ls) (by simpa using hl) (fun i y hy=>hc (i+1) y (by simpa using hy)) fun i leaf y h7 h8=>hr (i+1) leaf y (by simpa using h7) (by simpa using h8)
  exact ⟨p::ps,v::vs,⟨p,ps,rfl,h1,h4⟩,.cons h2 h5,Go.E2.qe.cons h3 h6⟩
theorem q0s {C:Cfg Int Bool (List UInt8) Prop (fun c=>List (K c))} (ok:CfgOk X sz C) {depth ng:Nat} (ao:ArgOk good X sz P cd depth) {base:Nat} {M:Nat->Prop} (hM:∀ n,¬ M n) {t:TypeId} {v:Value} {d:DataW Hd} {ps:List MemPlace} {ls:List Leaf4} {fs:Array Field}
  (ht:P.underlying t=some (.struct fs)) (hl:qps P cd depth t=some ls) (hv:Value.okWide P W .any base t v) (hd:DataW.Trod enc P W 0 (fun _=>true) true t v d ps) :
  ∃ (ps:List (PV K)) (u:V),qgu good ls ps/\Rep X sz (wd0 (qc7 W ng) M C.codec) (.agg ps) u/\Go.E2.Rel (qb9 W) W u v:=by
 obtain ⟨n,hn⟩:=hd
 obtain ⟨h1,h2⟩:=qf5 depth hn hl
 unfold Value.okWide at hv
 rw [ht] at hv
 obtain ⟨cs,rfl,_,ts,_,_,hts⟩:=hv
 have hcs:(Value.agg cs).cells.toList=cs.toList:=rfl
 rw [hcs] at h1 h2
 obtain ⟨qs,vs,h3,h4,h5⟩:=qo8 (ng:=ng) ok ao hM h1 (fun i x hx=>by
  obtain ⟨u,_,hu⟩:=hts i x (by simpa using hx)
  exact ⟨u,hu⟩) h2
 exact ⟨qs,.agg vs,h3,.agg h4.1 h4.2,by simp only [Go.E2.Rel];exact ⟨cs,rfl,h5⟩⟩
theorem q3a {p:MemPlace} (h:Go.Good W p):p.block<W.heap.size:=by
 cases p with
 | cell b off=>
  obtain ⟨v,hv,_⟩:=h
  simp only [World.cell?] at hv
  split at hv
  .rename_i hb;exact qck hb
  .cases hv
 | map b=>
  obtain ⟨es,clock,hb⟩:=h
  exact qck hb
theorem q2b {w':World} {t:TypeId} {v:Value} {d:DataW Hd} {ps:List MemPlace} (hlaid:laidOutB P=true) (hrec:P.readableRec t=true) (hrow:t<P.types.size) (h:DataW.Trod enc P W 0 (fun _=>true) true t v d ps) (hs:∀ b,b<W.heap.size->w'.heap[b]? = W.heap[b]?)
  (sp:Nat->Bool) (hsp:∀ b,b<W.heap.size->sp b=true):DataW.Trod enc P w' 0 sp true t v d ps:=by
 obtain ⟨n,hn⟩:=h
 have K:=kids_book hlaid hrec
 have hgood:=DataW.trod_good K (fun h=>by cases h) n t _ _ ⟨hrow,book_self t⟩ hn
 refine ⟨n,DataW.trod_stays K (book_sized hrec) (fun h=>by cases h) ⟨hrow,book_self t⟩ hn (fun p hp=>?_) (fun p hp=>hsp _ ?_)⟩
 .have hlt:p.block<W.heap.size:=q3a (hgood p hp)
  cases p with
  | cell b off=>simp only [World.sameAt,World.cell?,hs b hlt]
  | map b=>exact hs b hlt
 .exact q3a (hgood p hp)
end
end Go.E3
/- E3: (*strings.Builder).String, BY ITS TEXT: a check of the body, and what the body does. -/
namespace Go.E3
open Go Go.E2
def isT (t:Nat):Operand->Bool
 | .tmp x=>Nat.beq x t
 | _=>false
theorem qi5 {t:Nat} {x:Operand} (h:isT t x=true):x=.tmp t:=by
 cases x<;>simp only [isT,Bool.false_eq_true] at h
 rw [Nat.eq_of_beq_eq_true h]
def qp6 (t:Nat):Op->Bool
 | .move x=>isT t x
 | _=>false
def qnq (t:Nat):Op->Bool
 | .assign x=>isT t x
 | _=>false
def qnp:Op->Bool
 | .assign (.const c)=>match qip 1000 c with
  | some (.str [])=>true
  | _=>false
 | _=>false
def qvz (t:Nat):Op->Bool
 | .nilCheck x=>isT t x
 | _=>false
def zbh (tB t k:Nat):Op->Bool
 | .fieldAddr a x i=>Nat.beq a tB&&isT t x&&Nat.beq i k
 | _=>false
def qp5 (tS t:Nat):Op->Bool
 | .load a x=>Nat.beq a tS&&isT t x
 | _=>false
def qrx (b:Builtin->Bool) (ts:List Nat) (tys:List Nat):Op->Bool
 | .call c=>(match c.callee with
  | .builtin x=>b x
  | _=>false)&&Nat.beq c.args.toList.length ts.length&&((c.args.toList.zip ts).all fun p=>isT p.2 p.1)&&listEq Nat.beq c.argTypes.toList tys
 | _=>false
 where listEq (f:Nat->Nat->Bool):List Nat->List Nat->Bool
 | [],[]=>true
 | a::l,b::m=>f a b&&listEq f l m
 | _,_=>false
theorem qnt:∀ {a b:List Nat},qrx.listEq Nat.beq a b=true->a=b
 | [],[],_=>rfl
 | a::l,b::m,h=>by
  simp only [qrx.listEq,Bool.and_eq_true] at h
  rw [Nat.eq_of_beq_eq_true h.1,qnt h.2]
 | [],_::_,h=>by simp [qrx.listEq] at h
 | _::_,[],h=>by simp [qrx.listEq] at h
theorem qrz {t:Nat} {op:Op} (h:qp6 t op=true):op=.move (.tmp t):=by
 cases op<;>simp only [qp6,Bool.false_eq_true] at h
 rw [qi5 h]
theorem qvy {t:Nat} {op:Op} (h:qnq t op=true):op=.assign (.tmp t):=by
 cases op<;>simp only [qnq,Bool.false_eq_true] at h
 rw [qi5 h]
theorem qvx {op:Op} (h:qnp op=true):∃ c,op=.assign (.const c)/\qip 1000 c=some (.str []):=by
 unfold qnp at h
 split at h
 .split at h
  .exact ⟨_,rfl,by assumption⟩
  .cases h
 .cases h
theorem qud {t:Nat} {op:Op} (h:qvz t op=true):op=.nilCheck (.tmp t):=by
 cases op<;>simp only [qvz,Bool.false_eq_true] at h
 rw [qi5 h]
theorem q3d {tB t k:Nat} {op:Op} (h:zbh tB t k op=true):op=.fieldAddr tB (.tmp t) k:=by
 cases op<;>simp only [zbh,Bool.false_eq_true,Bool.and_eq_true] at h
 rw [qi5 h.1.2,Nat.eq_of_beq_eq_true h.1.1,Nat.eq_of_beq_eq_true h.2]
theorem qry {tS t:Nat} {op:Op} (h:qp5 tS t op=true):op=.load tS (.tmp t):=by
 cases op<;>simp only [qp5,Bool.false_eq_true,Bool.and_eq_true] at h
 rw [qi5 h.2,Nat.eq_of_beq_eq_true h.1]
theorem zct {b:Builtin->Bool} {t ty:Nat} {op:Op} (h:qrx b [t] [ty] op=true):∃ c x,op=.call c/\c.callee=.builtin x/\b x=true/\c.args.toList=[.tmp t]/\c.argTypes.toList=[ty]:=by
 cases op<;>simp only [qrx,Bool.false_eq_true,Bool.and_eq_true] at h
 rename_i c
 obtain ⟨⟨⟨h1,h2⟩,h3⟩,h4⟩:=h
 cases hc:c.callee with
 | builtin x=>
  rw [hc] at h1
  refine ⟨c,x,rfl,hc,h1,?_,qnt h4⟩
  match ha:c.args.toList with
  | []=>rw [ha] at h2;simp at h2
  | [a]=>
   rw [ha] at h3
   simp only [List.zip_cons_cons,List.zip_nil_left,List.all_cons,List.all_nil,Bool.and_true] at h3
   rw [qi5 h3]
  | a::b::l=>rw [ha] at h2;simp at h2
 | value f=>rw [hc] at h1;cases h1
 | invoke r m=>rw [hc] at h1;cases h1
theorem ze8 {b:Builtin->Bool} {t t' ty ty':Nat} {op:Op} (h:qrx b [t,t'] [ty,ty'] op=true):∃ c x,op=.call c/\c.callee=.builtin x/\b x=true/\c.args.toList=[.tmp t,.tmp t']/\c.argTypes.toList=[ty,ty']:=by
 cases op<;>simp only [qrx,Bool.false_eq_true,Bool.and_eq_true] at h
 rename_i c
 obtain ⟨⟨⟨h1,h2⟩,h3⟩,h4⟩:=h
 cases hc:c.callee with
 | builtin x=>
  rw [hc] at h1
  refine ⟨c,x,rfl,hc,h1,?_,qnt h4⟩
  match ha:c.args.toList with
  | []=>rw [ha] at h2;simp at h2
  | [a]=>rw [ha] at h2;simp at h2
  | [a,a']=>
   rw [ha] at h3
   simp only [List.zip_cons_cons,List.zip_nil_left,List.all_cons,List.all_nil,Bool.and_true,Bool.and_eq_true] at h3
   rw [qi5 h3.1,qi5 h3.2]
  | a::b::d::l=>rw [ha] at h2;simp at h2
 | value f=>rw [hc] at h1;cases h1
 | invoke r m=>rw [hc] at h1;cases h1
def qlb (d:Nat) (p:Op->Bool) (o:Oper):Bool:=
 (match o.dst with
 | some e=>Nat.beq e d
 | none=>false)&&(match o.guard with
 | none=>true
 | some _=>false)&&p o.op
theorem qcv {d:Nat} {p:Op->Bool} {o:Oper} (h:qlb d p o=true):o.dst=some d/\o.guard=none/\p o.op=true:=by
 simp only [qlb,Bool.and_eq_true] at h
 obtain ⟨⟨h1,h2⟩,h3⟩:=h
 refine ⟨?_,?_,h3⟩
 .split at h1
  .rename_i e he
   rw [he,Nat.eq_of_beq_eq_true h1]
  .cases h1
 .split at h2
  .assumption
  .cases h2
def q9l (tB tS tQ tI:Nat):List Oper->Bool
 | [a,b,c,d,e,f,g,h,i,j,k,l]=>
  qlb 3 (qp6 0) a&&qlb 4 (qvz 3) b&&qlb 5 (zbh tB 4 1) c&&qlb 6 (qp5 tS 5) d&&qlb 7 (qrx (fun | .unsafeSliceData=>true | _=>false) [6] [tS]) e&&
  qlb 8 (qp6 0) f&&qlb 9 (qvz 8) g&&qlb 10 (zbh tB 9 1) h&&qlb 11 (qp5 tS 10) i&&qlb 12 (qrx (fun | .len=>true | _=>false) [11] [tS]) j&&
  qlb 13 (qrx (fun | .unsafeString=>true | _=>false) [7,12] [tQ,tI]) k&&qlb 2 (qnq 13) l
 | _=>false
def qwo (E:Env) (tB tS tQ tU:Nat):Bool:=
 (match E.types tB with
 | some ti=>match qd6 ti 1 with
  | some f=>Nat.beq f.offset 1&&(match E.types f.type with
   | some fi=>!Nat.beq fi.size 0
   | none=>false)
  | none=>false
 | none=>false)&&
 (match E.types tS with
 | some ti=>Nat.beq ti.size 1&&!ti.isAgg&&(match ti.under with
  | .slice u=>Nat.beq u tU
  | _=>false)
 | none=>false)&&
 (match E.types tQ with
 | some ti=>match ti.under with
  | .pointer u=>Nat.beq u tU
  | _=>false
 | none=>false)&&
 (match E.types tU with
 | some ti=>Nat.beq ti.size 1
 | none=>false)
def qwn (E:Env) (F tB tS tQ tI tU:Nat):Bool:=
 match E.funcs F with
 | some fi=>(match fi.results with
  | [.tmp 2]=>true
  | _=>false)&&Nat.beq fi.ntmps 14&&qwo E tB tS tQ tU&&
  (match fi.body with
  | some (.seq (.region _ a false) (.seq (.region _ ops true) .ret))=>(match a.toList with
   | [o]=>qlb 2 qnp o
   | _=>false)&&q9l tB tS tQ tI ops.toList&&((List.range 10).all fun i=>((Region.before ops).getD 10 0).testBit i)
  | _=>false)
 | none=>false
section
variable {E:Env} {fn:FuncId} {round:Option Nat} {all:Array Oper} {b:Array Nat} {i:Nat} {l:List Oper} {done:List Done} {o:Oper} {fr:Fr} {H:Heap} {Q:Ex->Fr->Heap->Prop} {B:Nat}
def qlm (B i:Nat) (done:List Done):Prop:=E2.Calm B done/\∀ d ∈ done,d.i<i
theorem q4n:qlm B 0 []:=⟨q67,fun d h=>by cases h⟩
theorem qq0 {fp:FP} {lo hi:Nat} {dels:List Nat} (h:qlm B i done) (hf:fp=.none∨∃ l,fp=.reads l) (hl:B<=lo):qlm B (i+1) (⟨i,fp,lo,hi,dels⟩::done):=by
 refine ⟨q4o hf hl h.1,fun d hd=>?_⟩
 rcases List.mem_cons.1 hd with rfl | hd
 .exact Nat.lt_succ_self _
 .exact Nat.lt_succ_of_lt (h.2 d hd)
theorem qjq {t:Nat} (h:Operand.tmp t ∈ o.op.operands.toList):t ∈ o.looksAt all:=by
 unfold Oper.looksAt
 exact List.mem_append_left _ (List.mem_filterMap.2 ⟨_,h,rfl⟩)
theorem qhb {v:V} {d:Nat} (hc:qlm B i done) (hB:B<=H.next) (hT:zm E o.op=false) (hg:o.guard=none) (hd:o.dst=some d) (hn:d<fr.n)
  (hev:∀ fr' H',(∀ t,Operand.tmp t ∈ o.op.operands.toList->fr'.tmp t=fr.tmp t)->zo E o fr' H'=some (.val v,H'))
  (k:∀ done' fr',qlm B (i+1) done'->Upd fr d v fr'->WpD E all b (i+1) l done' fr' H Q):WpD E all b i (o::l) done fr H Q:=by
 refine qay (fp:=.none) (out:=.val v) (K:=zc H .none _) (qf6 hg) (by simp only [qer,hT,Bool.not_false,cond_true]) (by simp) (qq1 hc.1 (.inl rfl)) (hev _ _ fun t ht=>qat (qjq ht)) (.inl rfl) (Nat.le_refl _) ?_
 rw [qgk,hd]
 exact k _ _ (qq0 hc (.inl rfl) hB) (qms hn)
theorem q90 {t:TypeId} {ti:TI} {s d nm g off lim:Nat} {v:V} (hc:qlm B i done) (hB:B<=H.next) (ho:o.op=.load t (.tmp s)) (ht:E.types t=some ti) (hp:fr.tmp s=some (.ptr nm g off lim)) (hnm:nm<B) (hg:o.guard=none) (hd:o.dst=some d) (hn:d<fr.n) (h:qfl H ti (.ptr nm g off lim)=some v)
  (k:∀ done' fr',qlm B (i+1) done'->Upd fr d v fr'->WpD E all b (i+1) l done' fr' H Q):WpD E all b i (o::l) done fr H Q:=by
 have hfp:qer E o fr=.reads [nm]:=by
  simp only [qer,ho,zm,Bool.not_true,cond_false,jo,Op.operands,List.flatMap_cons,List.flatMap_nil,qjd,hp,V.nm,List.append_nil]
 have hm:s ∈ o.looksAt all:=by simp [Oper.looksAt,ho,Op.operands]
 refine qay (fp:=.reads [nm]) (out:=.val v) (K:=zc H (.reads [nm]) ((zb b i done).flatMap Done.names)) (qf6 hg) hfp (by simp) (qq1 hc.1 (.inr ⟨_,rfl⟩)) ?_ (.inl rfl) (Nat.le_refl _) ?_
 .have hg:=qha (H:=H) (l:=[nm]) (dels:=(zb b i done).flatMap Done.names) (List.mem_singleton.2 rfl) (by omega) (q4p hc.1 hnm)
  have hl:qfl (zc H (.reads [nm]) ((zb b i done).flatMap Done.names)) ti (.ptr nm g off lim)=some v:=by
   rw [<-h]
   simp only [qfl,kj,hg]
  simp only [zo,ho,ht,Option.bind_some,opd,qat hm,hp,hl,Option.map_some]
 .rw [qg4,hd]
  exact k _ _ (qq0 hc (.inr ⟨_,rfl⟩) hB) (qms hn)
theorem q07 (hc:qlm B i done) (hb:((List.range i).all fun j=>(b.getD i 0).testBit j)=true):zb b i done=[]:=by
 unfold zb
 rw [List.filter_eq_nil_iff]
 intro d hd
 rw [List.all_eq_true] at hb
 rw [hb d.i (List.mem_range.2 (hc.2 d hd))]
 simp
end
theorem qu4 {E:Env} {tB tS tQ tU:Nat} (h:qwo E tB tS tQ tU=true) :
  (∃ ti f fi,E.types tB=some ti/\qd6 ti 1=some f/\f.offset=1/\E.types f.type=some fi/\Nat.beq fi.size 0=false)/\
  (∃ ti,E.types tS=some ti/\ti.size=1/\ti.isAgg=false/\ti.under=.slice tU)/\
  (∃ ti,E.types tQ=some ti/\ti.under=.pointer tU)/\∃ ti,E.types tU=some ti/\ti.size=1:=by
 simp only [qwo,Bool.and_eq_true] at h
 obtain ⟨⟨⟨h1,h2⟩,h3⟩,h4⟩:=h
 refine ⟨?_,?_,?_,?_⟩
 .split at h1
  .rename_i ti hti
   split at h1
   .rename_i f hf
    simp only [Bool.and_eq_true] at h1
    obtain ⟨a1,a2⟩:=h1
    split at a2
    .rename_i fi hfi
     exact ⟨ti,f,fi,hti,hf,Nat.eq_of_beq_eq_true a1,hfi,by simpa using a2⟩
    .cases a2
   .cases h1
  .cases h1
 .split at h2
  .rename_i ti hti
   simp only [Bool.and_eq_true,Bool.not_eq_true'] at h2
   obtain ⟨⟨a1,a2⟩,a3⟩:=h2
   split at a3
   .rename_i u hu
    exact ⟨ti,hti,Nat.eq_of_beq_eq_true a1,a2,by rw [hu,Nat.eq_of_beq_eq_true a3]⟩
   .cases a3
  .cases h2
 .split at h3
  .rename_i ti hti
   split at h3
   .rename_i u hu
    exact ⟨ti,hti,by rw [hu,Nat.eq_of_beq_eq_true h3]⟩
   .cases h3
  .cases h3
 .split at h4
  .rename_i ti hti
   exact ⟨ti,hti,Nat.eq_of_beq_eq_true h4⟩
  .cases h4
theorem qlw {c:Go.Call} {b:Builtin} {x:Operand} (hc:c.callee=.builtin b) (h:x ∈ c.args.toList):x ∈ (Op.call c).operands.toList:=by
 simp only [Op.operands,Call.operands,hc]
 simpa using h
theorem q49 {H:Heap} {ti:TI} {nm off lim:Nat} {vs:List V} {e:TypeId} {ex:Bool} {x:V} (hs:ti.size=1) (ha:ti.isAgg=false) (hg:H.get nm=some (.row vs e 0 0 0 ex)) (h1:off+2<=lim) (h2:lim<=vs.length) (hx:vs[off+1]? = some x) (hnh:isHole x=false):qfl H ti (.ptr nm 0 (off+1) lim)=some x:=by
 have b2:Nat.ble (off+1+1) lim=true:=by rw [Nat.ble_eq];omega
 have b3:Nat.ble lim vs.length=true:=by rw [Nat.ble_eq];exact h2
 have hd:(vs.drop (off+1)).take 1=[x]:=by
  have hlt:off+1<vs.length:=by omega
  rw [List.drop_eq_getElem_cons hlt]
  simp only [List.take_succ_cons,List.take_zero,List.cons.injEq,and_true]
  rw [List.getElem?_eq_getElem hlt] at hx
  exact Option.some.inj hx
 have hn:qjs [x]=some [x]:=qg8 fun v hv=>by
  rw [List.mem_singleton.1 hv]
  exact hnh
 simp only [qfl,kj,hg,hs,b2,b3,hd,hn,ha,Nat.ble_eq,Nat.le_refl,Nat.ble,Bool.and_self,Bool.true_and,cond_true,cond_false,Option.bind_some]
section
variable {E:Env} {F tB tS tQ tI tU:Nat}
theorem qzp (hq:E.spec F=none) (hc:qwn E F tB tS tQ tI tU=true) {H H':Heap} {nm off lim:Nat} {vs:List V} {e:TypeId} {ex:Bool} (wf:∀ n,H.next<=n->H.get n=none) (hg:H.get nm=some (.row vs e 0 0 0 ex)) (h1:off+2<=lim) (h2:lim<=vs.length) {x p s:V} {n:Int} (hx:vs[off+1]? = some x) (hnh:isHole x=false)
  (hsd:∀ H0,kk E .unsafeSliceData [tS] [x] H0=some (.val p,H0)) (hlen:∀ H0,kk E .len [tS] [x] H0=some (.val (.int .i64 n),H0))
  (hus:∃ K,kk E .unsafeString [tQ,tI] [p,.int .i64 n] (zc H (.writes p.nm) [])=some (.val s,K)/\H.next<=K.next/\qae H K (.writes p.nm) []=H') :
  qbi E (.func F) [.ptr nm 0 off lim] H fun v K=>v=s/\K=H':=by
 have hnm:nm<H.next:=by
  by_cases h:nm<H.next
  .exact h
  .rw [wf nm (by omega)] at hg
   cases hg
 unfold qwn at hc
 cases hf:E.funcs F with
 | none=>rw [hf] at hc;cases hc
 | some fi=>
 rw [hf] at hc
 simp only [Bool.and_eq_true] at hc
 obtain ⟨⟨⟨c1,c2⟩,c3⟩,c4⟩:=hc
 have c2:=Nat.eq_of_beq_eq_true c2
 obtain ⟨⟨tib,fd,fdi,b1,b2,b3,b4,b5⟩,⟨tis,s1,s2,s3,s4⟩,-,-⟩:=qu4 c3
 split at c1
 .rename_i hres
  split at c4
  .rename_i id0 oa id1 ops hb
   simp only [Bool.and_eq_true] at c4
   obtain ⟨⟨d1,d2⟩,d3⟩:=c4
   split at d1
   .rename_i o0 ho0
    obtain ⟨e1,e2,e3⟩:=qcv d1
    obtain ⟨cc,e3,e4⟩:=qvx e3
    unfold q9l at d2
    split at d2
    .rename_i q0 q1 q2 q3 q4 q5 q6 q7 q8 q9 q10 q11 hops
     simp only [Bool.and_eq_true] at d2
     obtain ⟨⟨⟨⟨⟨⟨⟨⟨⟨⟨⟨f0,f1⟩,f2⟩,f3⟩,f4⟩,f5⟩,f6⟩,f7⟩,f8⟩,f9⟩,f10⟩,f11⟩:=d2
     obtain ⟨g0a,g0b,g0⟩:=qcv f0
     obtain ⟨g1a,g1b,g1⟩:=qcv f1
     obtain ⟨g2a,g2b,g2⟩:=qcv f2
     obtain ⟨g3a,g3b,g3⟩:=qcv f3
     obtain ⟨g4a,g4b,g4⟩:=qcv f4
     obtain ⟨g5a,g5b,g5⟩:=qcv f5
     obtain ⟨g6a,g6b,g6⟩:=qcv f6
     obtain ⟨g7a,g7b,g7⟩:=qcv f7
     obtain ⟨g8a,g8b,g8⟩:=qcv f8
     obtain ⟨g9a,g9b,g9⟩:=qcv f9
     obtain ⟨g10a,g10b,g10⟩:=qcv f10
     obtain ⟨g11a,g11b,g11⟩:=qcv f11
     have g0:=qrz g0
     have g1:=qud g1
     have g2:=q3d g2
     have g3:=qry g3
     obtain ⟨k4,y4,g4,g4c,g4d,g4e,g4f⟩:=zct g4
     have g5:=qrz g5
     have g6:=qud g6
     have g7:=q3d g7
     have g8:=qry g8
     obtain ⟨k9,y9,g9,g9c,g9d,g9e,g9f⟩:=zct g9
     obtain ⟨k10,y10,g10,g10c,g10d,g10e,g10f⟩:=ze8 g10
     have g11:=qvy g11
     have y4:y4=.unsafeSliceData:=by cases y4<;>first | rfl | cases g4d
     have y9:y9=.len:=by cases y9<;>first | rfl | cases g9d
     have y10:y10=.unsafeString:=by cases y10<;>first | rfl | cases g10d
     subst y4 y9 y10
     have hld:=q49 s2 s3 hg h1 h2 hx hnh
     have hfn:∀ fr':Fr,fr'.n=max 1 fi.ntmps->fr'.n=14:=fun fr' h=>by rw [h,c2];rfl
     refine qqy hq hf hb ?_
     refine qwq (qvb ?_)
     rw [ho0]
     have n0:({tmps:=qcr [.ptr nm 0 off lim],n:=max [V.ptr nm 0 off lim].length fi.ntmps,defers:=[]}:Fr).n=14:=by simp only [c2];rfl
     refine zek (d:=2) (v:=.str []) (H':=H) (by simp only [qfr,e3]) (qf6 e2) e1 (by rw [n0];decide) (qt3 e3 (q5l e4)) fun fr1 u1=>q31 (qzq (qwq (qzt ?_)))
     have t0:fr1.tmp 0=some (.ptr nm 0 off lim):=(u1.other 0 rfl).trans (qt0 rfl)
     have n1:fr1.n=14:=u1.n.trans n0
     have m1:fr1.defers=[]:=u1.ds
     clear u1
     rw [hops]
     have ci0:qlm H.next 0 []:=q4n
     have tT:∀ (z:Op) (t:Nat),z.operands.toList=[.tmp t]->(z.operands.any fun | .global _=>true | _=>false)=false:=by
      intro z t hz
      rw [<-Array.any_toList,hz]
      rfl
     have t0_1:=t0
     refine qhb (d:=3) (v:=.ptr nm 0 off lim) ci0 (Nat.le_refl _) (by simp only [zm,g0];first | exact tT _ _ rfl | rfl) g0b g0a (by rw [n1];decide) (fun fr' H' hh=>q2z g0 (qee ((hh 0 (by rw [g0];simp [Op.operands])).trans t0_1))) fun dn1 fr2 ci1 u2=>?_
     have t0_2:fr2.tmp 0=some (.ptr nm 0 off lim):=(u2.other 0 rfl).trans t0_1
     have t3_2:fr2.tmp 3=some (.ptr nm 0 off lim):=u2.get
     have n2:fr2.n=14:=u2.n.trans n1
     have m2:fr2.defers=[]:=u2.ds.trans m1
     clear u2
     refine qhb (d:=4) (v:=.ptr nm 0 off lim) ci1 (Nat.le_refl _) (by simp only [zm,g1];first | exact tT _ _ rfl | rfl) g1b g1a (by rw [n2];decide) (fun fr' H' hh=>by simp only [zo,g1,(qee ((hh 3 (by rw [g1];simp [Op.operands])).trans t3_2))]) fun dn2 fr3 ci2 u3=>?_
     have t0_3:fr3.tmp 0=some (.ptr nm 0 off lim):=(u3.other 0 rfl).trans t0_2
     have t3_3:fr3.tmp 3=some (.ptr nm 0 off lim):=(u3.other 3 rfl).trans t3_2
     have t4_3:fr3.tmp 4=some (.ptr nm 0 off lim):=u3.get
     have n3:fr3.n=14:=u3.n.trans n2
     have m3:fr3.defers=[]:=u3.ds.trans m2
     clear u3
     refine qhb (d:=5) (v:=.ptr nm 0 (off+1) lim) ci2 (Nat.le_refl _) (by simp only [zm,g2];first | exact tT _ _ rfl | rfl) g2b g2a (by rw [n3];decide) (fun fr' H' hh=>by have h0:=ql5 (H:=H') g2 b1 b2 b4 b5 (qee ((hh 4 (by rw [g2];simp [Op.operands])).trans t4_3));rw [b3] at h0;exact h0) fun dn3 fr4 ci3 u4=>?_
     have t0_4:fr4.tmp 0=some (.ptr nm 0 off lim):=(u4.other 0 rfl).trans t0_3
     have t3_4:fr4.tmp 3=some (.ptr nm 0 off lim):=(u4.other 3 rfl).trans t3_3
     have t4_4:fr4.tmp 4=some (.ptr nm 0 off lim):=(u4.other 4 rfl).trans t4_3
     have t5_4:fr4.tmp 5=some (.ptr nm 0 (off+1) lim):=u4.get
     have n4:fr4.n=14:=u4.n.trans n3
     have m4:fr4.defers=[]:=u4.ds.trans m3
     clear u4
     refine q90 (ti:=tis) (s:=5) (d:=6) (v:=x) ci3 (Nat.le_refl _) g3 s1 t5_4 hnm g3b g3a (by rw [n4];decide) hld fun dn4 fr5 ci4 u5=>?_
     have t0_5:fr5.tmp 0=some (.ptr nm 0 off lim):=(u5.other 0 rfl).trans t0_4
     have t3_5:fr5.tmp 3=some (.ptr nm 0 off lim):=(u5.other 3 rfl).trans t3_4
     have t4_5:fr5.tmp 4=some (.ptr nm 0 off lim):=(u5.other 4 rfl).trans t4_4
     have t5_5:fr5.tmp 5=some (.ptr nm 0 (off+1) lim):=(u5.other 5 rfl).trans t5_4
     have t6_5:fr5.tmp 6=some (x):=u5.get
     have n5:fr5.n=14:=u5.n.trans n4
     have m5:fr5.defers=[]:=u5.ds.trans m4
     clear u5
     refine qhb (d:=7) (v:=p) ci4 (Nat.le_refl _) (by simp only [zm,g4,g4c];rw [<-Array.any_toList,g4e];rfl) g4b g4a (by rw [n5];decide) (fun fr' H' hh=>by simp only [zo,g4,g4c,g4e,g4f,qak,(qee ((hh 6 (by rw [g4];exact qlw g4c (by rw [g4e];simp))).trans t6_5)),Option.bind_some,Option.map_some,hsd]) fun dn5 fr6 ci5 u6=>?_
     have t0_6:fr6.tmp 0=some (.ptr nm 0 off lim):=(u6.other 0 rfl).trans t0_5
     have t3_6:fr6.tmp 3=some (.ptr nm 0 off lim):=(u6.other 3 rfl).trans t3_5
     have t4_6:fr6.tmp 4=some (.ptr nm 0 off lim):=(u6.other 4 rfl).trans t4_5
     have t5_6:fr6.tmp 5=some (.ptr nm 0 (off+1) lim):=(u6.other 5 rfl).trans t5_5
     have t6_6:fr6.tmp 6=some (x):=(u6.other 6 rfl).trans t6_5
     have t7_6:fr6.tmp 7=some (p):=u6.get
     have n6:fr6.n=14:=u6.n.trans n5
     have m6:fr6.defers=[]:=u6.ds.trans m5
     clear u6
     refine qhb (d:=8) (v:=.ptr nm 0 off lim) ci5 (Nat.le_refl _) (by simp only [zm,g5];first | exact tT _ _ rfl | rfl) g5b g5a (by rw [n6];decide) (fun fr' H' hh=>q2z g5 (qee ((hh 0 (by rw [g5];simp [Op.operands])).trans t0_6))) fun dn6 fr7 ci6 u7=>?_
     have t0_7:fr7.tmp 0=some (.ptr nm 0 off lim):=(u7.other 0 rfl).trans t0_6
     have t3_7:fr7.tmp 3=some (.ptr nm 0 off lim):=(u7.other 3 rfl).trans t3_6
     have t4_7:fr7.tmp 4=some (.ptr nm 0 off lim):=(u7.other 4 rfl).trans t4_6
     have t5_7:fr7.tmp 5=some (.ptr nm 0 (off+1) lim):=(u7.other 5 rfl).trans t5_6
     have t6_7:fr7.tmp 6=some (x):=(u7.other 6 rfl).trans t6_6
     have t7_7:fr7.tmp 7=some (p):=(u7.other 7 rfl).trans t7_6
     have t8_7:fr7.tmp 8=some (.ptr nm 0 off lim):=u7.get
     have n7:fr7.n=14:=u7.n.trans n6
     have m7:fr7.defers=[]:=u7.ds.trans m6
     clear u7
     refine qhb (d:=9) (v:=.ptr nm 0 off lim) ci6 (Nat.le_refl _) (by simp only [zm,g6];first | exact tT _ _ rfl | rfl) g6b g6a (by rw [n7];decide) (fun fr' H' hh=>by simp only [zo,g6,(qee ((hh 8 (by rw [g6];simp [Op.operands])).trans t8_7))]) fun dn7 fr8 ci7 u8=>?_
     have t0_8:fr8.tmp 0=some (.ptr nm 0 off lim):=(u8.other 0 rfl).trans t0_7
     have t3_8:fr8.tmp 3=some (.ptr nm 0 off lim):=(u8.other 3 rfl).trans t3_7
     have t4_8:fr8.tmp 4=some (.ptr nm 0 off lim):=(u8.other 4 rfl).trans t4_7
     have t5_8:fr8.tmp 5=some (.ptr nm 0 (off+1) lim):=(u8.other 5 rfl).trans t5_7
     have t6_8:fr8.tmp 6=some (x):=(u8.other 6 rfl).trans t6_7
     have t7_8:fr8.tmp 7=some (p):=(u8.other 7 rfl).trans t7_7
     have t8_8:fr8.tmp 8=some (.ptr nm 0 off lim):=(u8.other 8 rfl).trans t8_7
     have t9_8:fr8.tmp 9=some (.ptr nm 0 off lim):=u8.get
     have n8:fr8.n=14:=u8.n.trans n7
     have m8:fr8.defers=[]:=u8.ds.trans m7
     clear u8
     refine qhb (d:=10) (v:=.ptr nm 0 (off+1) lim) ci7 (Nat.le_refl _) (by simp only [zm,g7];first | exact tT _ _ rfl | rfl) g7b g7a (by rw [n8];decide) (fun fr' H' hh=>by have h0:=ql5 (H:=H') g7 b1 b2 b4 b5 (qee ((hh 9 (by rw [g7];simp [Op.operands])).trans t9_8));rw [b3] at h0;exact h0) fun dn8 fr9 ci8 u9=>?_
     have t0_9:fr9.tmp 0=some (.ptr nm 0 off lim):=(u9.other 0 rfl).trans t0_8
     have t3_9:fr9.tmp 3=some (.ptr nm 0 off lim):=(u9.other 3 rfl).trans t3_8
     have t4_9:fr9.tmp 4=some (.ptr nm 0 off lim):=(u9.other 4 rfl).trans t4_8
     have t5_9:fr9.tmp 5=some (.ptr nm 0 (off+1) lim):=(u9.other 5 rfl).trans t5_8
     have t6_9:fr9.tmp 6=some (x):=(u9.other 6 rfl).trans t6_8
     have t7_9:fr9.tmp 7=some (p):=(u9.other 7 rfl).trans t7_8
     have t8_9:fr9.tmp 8=some (.ptr nm 0 off lim):=(u9.other 8 rfl).trans t8_8
     have t9_9:fr9.tmp 9=some (.ptr nm 0 off lim):=(u9.other 9 rfl).trans t9_8
     have t10_9:fr9.tmp 10=some (.ptr nm 0 (off+1) lim):=u9.get
     have n9:fr9.n=14:=u9.n.trans n8
     have m9:fr9.defers=[]:=u9.ds.trans m8
     clear u9
     refine q90 (ti:=tis) (s:=10) (d:=11) (v:=x) ci8 (Nat.le_refl _) g8 s1 t10_9 hnm g8b g8a (by rw [n9];decide) hld fun dn9 fr10 ci9 u10=>?_
     have t0_10:fr10.tmp 0=some (.ptr nm 0 off lim):=(u10.other 0 rfl).trans t0_9
     have t3_10:fr10.tmp 3=some (.ptr nm 0 off lim):=(u10.other 3 rfl).trans t3_9
     have t4_10:fr10.tmp 4=some (.ptr nm 0 off lim):=(u10.other 4 rfl).trans t4_9
     have t5_10:fr10.tmp 5=some (.ptr nm 0 (off+1) lim):=(u10.other 5 rfl).trans t5_9
     have t6_10:fr10.tmp 6=some (x):=(u10.other 6 rfl).trans t6_9
     have t7_10:fr10.tmp 7=some (p):=(u10.other 7 rfl).trans t7_9
     have t8_10:fr10.tmp 8=some (.ptr nm 0 off lim):=(u10.other 8 rfl).trans t8_9
     have t9_10:fr10.tmp 9=some (.ptr nm 0 off lim):=(u10.other 9 rfl).trans t9_9
     have t10_10:fr10.tmp 10=some (.ptr nm 0 (off+1) lim):=(u10.other 10 rfl).trans t10_9
     have t11_10:fr10.tmp 11=some (x):=u10.get
     have n10:fr10.n=14:=u10.n.trans n9
     have m10:fr10.defers=[]:=u10.ds.trans m9
     clear u10
     refine qhb (d:=12) (v:=.int .i64 n) ci9 (Nat.le_refl _) (by obtain ⟨u1,u2,u3,u4,u5⟩:=tis;simp only at s4;subst s4;simp only [zm,g9,g9c,g9f,s1];rw [<-Array.any_toList,g9e];rfl) g9b g9a (by rw [n10];decide) (fun fr' H' hh=>by simp only [zo,g9,g9c,g9e,g9f,qak,(qee ((hh 11 (by rw [g9];exact qlw g9c (by rw [g9e];simp))).trans t11_10)),Option.bind_some,Option.map_some,hlen]) fun dn10 fr11 ci10 u11=>?_
     have t0_11:fr11.tmp 0=some (.ptr nm 0 off lim):=(u11.other 0 rfl).trans t0_10
     have t3_11:fr11.tmp 3=some (.ptr nm 0 off lim):=(u11.other 3 rfl).trans t3_10
     have t4_11:fr11.tmp 4=some (.ptr nm 0 off lim):=(u11.other 4 rfl).trans t4_10
     have t5_11:fr11.tmp 5=some (.ptr nm 0 (off+1) lim):=(u11.other 5 rfl).trans t5_10
     have t6_11:fr11.tmp 6=some (x):=(u11.other 6 rfl).trans t6_10
     have t7_11:fr11.tmp 7=some (p):=(u11.other 7 rfl).trans t7_10
     have t8_11:fr11.tmp 8=some (.ptr nm 0 off lim):=(u11.other 8 rfl).trans t8_10
     have t9_11:fr11.tmp 9=some (.ptr nm 0 off lim):=(u11.other 9 rfl).trans t9_10
     have t10_11:fr11.tmp 10=some (.ptr nm 0 (off+1) lim):=(u11.other 10 rfl).trans t10_10
     have t11_11:fr11.tmp 11=some (x):=(u11.other 11 rfl).trans t11_10
     have t12_11:fr11.tmp 12=some (.int .i64 n):=u11.get
     have n11:fr11.n=14:=u11.n.trans n10
     have m11:fr11.defers=[]:=u11.ds.trans m10
     clear u11
     obtain ⟨K,hk1,hk2,hk3⟩:=hus
     have hfree:zb (Region.before ops) (0+1+1+1+1+1+1+1+1+1+1) dn10=[]:=q07 ci10 d3
     have m7:Operand.tmp 7 ∈ q10.op.operands.toList:=by rw [g10];exact qlw g10c (by rw [g10e];simp)
     have m12:Operand.tmp 12 ∈ q10.op.operands.toList:=by rw [g10];exact qlw g10c (by rw [g10e];simp)
     refine qay (fp:=.writes p.nm) (out:=.val s) (K:=K) (qf6 g10b) ?_ (by simp) (by rw [hfree];rfl) ?_ (.inl rfl) hk2 ?_
     .simp only [qer,zm,g10,g10c,Bool.not_true,cond_false,jo,g10e,List.flatMap_cons,List.flatMap_nil,qjd,t7_11,t12_11,V.nm,List.append_nil]
     .rw [hfree]
      simp only [zo,g10,g10c,g10e,g10f,qak,qee ((qat (qjq m7)).trans t7_11),qee ((qat (qjq m12)).trans t12_11),Option.bind_some,Option.map_some,List.flatMap_nil]
      exact hk1
     .rw [hfree,List.flatMap_nil,hk3,g10a]
      have u12:=qms (v:=s) (fr:=fr11) (d:=13) (by rw [n11];decide)
      have t13:=u12.get
      have n12:=u12.n.trans n11
      have m12:=u12.ds.trans m11
      generalize fr11.put (some 13) s=fr12 at *
      refine qay (fp:=.none) (out:=.val s) (K:=zc H' .none ?dels) (qf6 g11b) (by simp only [qer,zm,g11,Op.operands];rw [<-Array.any_toList];rfl) (by simp) ?g1 ?g2 (.inl rfl) (Nat.le_refl _) ?g3
      case g2=>exact qt3 g11 (qee ((qat (qjq (by rw [g11];simp [Op.operands]))).trans t13))
      case g1=>
       rw [<-Bool.not_eq_true,List.any_eq_true]
       rintro ⟨d,_,hcl⟩
       rw [qkt] at hcl
       cases hcl
      case g3=>
       rw [qgk,g11a]
       have u13:=qms (v:=s) (fr:=fr12) (d:=2) (by rw [n12];decide)
       refine q3z (qzq (q9x ⟨.inr rfl,?_⟩))
       refine ⟨_,zeq (u13.ds.trans m12),[s],?_,rfl,rfl⟩
       rw [hres]
       exact zb7 u13.get zb6
    .cases d2
   .cases d1
  .cases c4
 .cases c1
end
theorem q43 {H:Heap} {bn:Nat} {x:O} (h:bn<H.next):qae H ((zc H (.writes [bn]) []).put bn x) (.writes [bn]) []=H.put bn x:=by
 have hb:Nat.blt bn H.next=true:=by rw [Nat.blt_eq];exact h
 have hf:[bn].filter (fun n=>Nat.blt n H.next&&!([]:List Nat).any fun m=>Nat.beq n m)=[bn]:=by
  simp only [List.filter_cons,hb,List.any_nil,Bool.not_false,Bool.and_self,if_true,List.filter_nil]
 have hg:((zc H (.writes [bn]) []).put bn x).j6.get bn=some x:=je
 have hn:((zc H (.writes [bn]) []).put bn x).next=H.next:=rfl
 simp only [qae,hn,hf,Nat.sub_self,List.range'_zero,List.append_nil,zr,hg]
 rfl
theorem q70 {H:Heap}:qae H (zc H (.writes []) []) (.writes []) []=H:=by
 have hn:(zc H (.writes []) []).next=H.next:=rfl
 simp only [qae,hn,List.filter_nil,Nat.sub_self,List.range'_zero,List.append_nil,zr]
theorem zb3 {K:Nat->Type} {C:Cfg Int Bool (List UInt8) Prop (fun c=>List (K c))} {F tB tS tQ tI tU:Nat} (hpr:C.prim=fun f=>Nat.beq f F) (hq:C.E.spec F=none) (hc:qwn C.E F tB tS tQ tI tU=true) (hu:∀ el,C.codec el=some 0->el=tU):q0l C:=by
 intro f hf
 rw [hpr] at hf
 have hf:=Nat.eq_of_beq_eq_true hf
 subst hf
 intro H nm off lim vs e ex wf hg h1 h2
 have htys:qwo C.E tB tS tQ tU=true:=by
  have h:=hc
  unfold qwn at h
  split at h
  .simp only [Bool.and_eq_true] at h
   exact h.1.2
  .cases h
 obtain ⟨-,⟨tis,s1,s2,s3,s4⟩,⟨tq,q1,q2⟩,⟨tu,v1,v2⟩⟩:=qu4 htys
 refine ⟨fun hx=>?_,fun bn g len cells el floor frz eb l hx hgb hlen hfl hpos hle hcod hby hho hro hne=>?_⟩
 .refine qzp (p:=.nilp) (n:=0) hq hc wf hg h1 h2 hx rfl (fun H0=>rfl) (fun H0=>?_) ⟨zc H (.writes []) [],?_,Nat.le_refl _,q70⟩
  .simp only [kk,s1,Option.bind_some,s4,qca]
   rfl
  .simp only [kk,V.nm,if_true]
 .have hel:=hu el hcod
  subst hel
  have hbn:bn<H.next:=by
   by_cases h:bn<H.next
   .exact h
   .rw [wf bn (by omega)] at hgb
    cases hgb
  have hb:Nat.blt 0 len=true:=by rw [Nat.blt_eq];exact hpos
  have hbb:Nat.blt bn H.next=true:=by rw [Nat.blt_eq];exact hbn
  have hf:[bn].filter (fun n=>Nat.blt n H.next&&!([]:List Nat).any fun m=>Nat.beq n m)=[bn]:=by
   simp only [List.filter_cons,hbb,List.any_nil,Bool.not_false,Bool.and_self,if_true,List.filter_nil]
  have hgt:(zc H (.writes [bn]) []).get bn=some (.row cells el g floor frz eb):=by
   rw [<-hgb]
   simp only [zc,hf,Heap.get,ke,List.mem_singleton,if_true]
  have hup:(zc H (.writes [bn]) []).upd bn (.row cells el g floor (max frz len) eb)=some ((zc H (.writes [bn]) []).put bn (.row cells el g floor (max frz len) eb)):=qav hro
  refine qzp (p:=.ptr bn g 0 (0+len * 1)) (n:=len) (H':=H.put bn (.row cells el g floor (max frz len) eb)) hq hc wf hg h1 h2 hx rfl (fun H0=>?_) (fun H0=>?_) ⟨(zc H (.writes [bn]) []).put bn (.row cells el g floor (max frz len) eb),?_,Nat.le_refl _,q43 hbn⟩
  .simp only [kk,hb,cond_true]
  .simp only [kk,s1,Option.bind_some,s4,qca]
  .have b1:Nat.ble floor g=true:=by rw [Nat.ble_eq];exact hfl
   have b2:Nat.ble (0+len) (0+len * 1)=true:=by rw [Nat.ble_eq];omega
   have b3:Nat.ble (0+len * 1) cells.length=true:=by rw [Nat.ble_eq];omega
   have hcond:el=el/\tu.size=1/\(0:Int)<(len:Int)/\(len:Int)<=140737488355328/\g=g:=⟨rfl,v2,by omega,by omega,rfl⟩
   have htk:(cells.drop 0).take len=cells:=by
    rw [List.drop_zero,List.take_of_length_le (by omega)]
   have hrd:kj (zc H (.writes [bn]) []) len (.ptr bn g 0 (0+len * 1))=some cells:=by
    simp only [kj,hgt,b1,b2,b3,Bool.and_self,cond_true,htk]
    exact qg8 hho
   simp only [kk,V.nm,q1,q2,hgt,Option.bind_some,v1,hcond,and_self,if_true,Int.toNat_natCast,hrd,hby,hup,Option.map_some]
theorem qtg {P:Program} {Hd:Type} {enc:TypeId×Value->Hd} {g:Func} {s:Go.ChangeSpec} {apart fresh handsOn:Bool} {W w':World} {args:Array Value} {ds gs:List (DataW Hd)} {before:List MemPlace} {t:TypeId}
  (hW:DataW.Whole enc P g.params.toList s.vars apart W args.toList ds gs before) (hv:s.vars=[]) (ht:g.resultTypes = #[t]) (hu:P.underlying t=some .bool)
  (hfn:s.fn Hd ds = {results:=[.lit (.bool true)],args:=ds}) (hargs:∃ pa,DataW.TrodAll enc P w' 0 (fun b=>decide (b<W.heap.size)) true g.params.toList args.toList ds pa) (hk:∀ may,W.keptBut w' may) :
  s.post enc P g apart fresh handsOn false W args (.bool true) w':=by
 have hW':=hW
 obtain ⟨p,q,hA,hV,rfl,_,_⟩:=hW
 rw [hv] at hV
 obtain ⟨rfl,rfl⟩:=Go.ChangeShapes.trodVars_none hV
 obtain ⟨pa,hpa⟩:=hargs
 refine ⟨ds,[],p++[],[],pa,[],hW',?_,?_,?_,hk _,fun h=>by cases h⟩
 .rw [ht,List.append_nil,hfn]
  exact Go.ChangeShapes.trodAll_mk1 (Go.RowKit.shut_bool hu true)
 .rw [List.append_nil,hfn]
  exact hpa
 .rw [hv,List.append_nil,hfn]
  rfl
end Go.E3
/- E3: A CLOSED CALL that looks at listed variables, as a contract. -/
namespace Go.E2
open Go
def Fact.qq6 (F:Fact):Bool:=
 F.args.isEmpty&&(F.pre.all fun x=>match assoc (F.pre.map fun x=>(x.1,x.1)) x.1,qti (assoc (F.pre.map fun x=>(x.1,x.1))) x.2 with
  | some k,some o=>Nat.beq k x.1&&qt1 o x.2
  | _,_=>false)&&qje (F.pre.map fun x=>(x.1,x.1))&&(F.pre.all fun x=>Nat.blt x.1 F.next)&&Nat.beq F.ro F.next&&qgt F.ret ((qdr (fun _=>none) F.ret).getD (.tuple [.nilp]))
theorem zcd {F:Fact} {H:Heap} (hc:F.qq6=true) (hg:H.qx=F.qx) (ho:∀ x ∈ F.pre,H.get x.1=some x.2/\x.1<H.next):F.qtm [] H=some (.ret F.ret,H):=by
 simp only [Fact.qq6,Bool.and_eq_true] at hc
 obtain ⟨⟨⟨⟨⟨c1,c2⟩,c3⟩,c4⟩,c5⟩,c6⟩:=hc
 have ha:F.args=[]:=List.isEmpty_iff.1 c1
 have hfit:F.fits (F.pre.map fun x=>(x.1,x.1)) [] H=true:=by
  simp only [Fact.fits,Bool.and_eq_true]
  refine ⟨⟨⟨⟨?_,?_⟩,?_⟩,c3⟩,?_⟩
  .rw [ha];rfl
  .rw [hg];exact Nat.beq_refl _
  .unfold qnm
   rw [List.all_eq_true]
   intro x hx
   have:=List.all_eq_true.1 c2 x hx
   split at this
   .rename_i k o h1 h2
    simp only [Bool.and_eq_true] at this
    have hk:=Nat.eq_of_beq_eq_true this.1
    subst hk
    simp only [h1,h2,(ho x hx).1]
    exact this.2
   .cases this
  .rw [List.all_eq_true]
   intro x hx
   obtain ⟨y,hy,rfl⟩:=List.mem_map.1 hx
   have h1:=List.all_eq_true.1 c4 y hy
   have h2:Nat.blt y.1 H.next=true:=by rw [Nat.blt_eq];exact (ho y hy).2
   have h3:Nat.ble F.ro y.1=false:=by
    rw [<-Bool.not_eq_true,Nat.ble_eq,Nat.eq_of_beq_eq_true c5]
    rw [Nat.blt_eq] at h1
    omega
   simp only [h1,h2,h3,Nat.beq_refl,Bool.and_true,Bool.or_true,Bool.not_false,Bool.true_or]
 simp only [Fact.qtm,hfit,c5,c6,Bool.and_true,cond_true]
end Go.E2
namespace Go.E3
open Go Go.E2
theorem qka {α:Type}:∀ {l:List (Nat×α)},distinct (l.map (·.1))=true->∀ {x:Nat×α},x ∈ l->look l x.1=some x.2
 | [],_,x,hx=>by cases hx
 | y::l,h,x,hx=>by
  simp only [List.map_cons,distinct,Bool.and_eq_true,Bool.not_eq_true'] at h
  simp only [look,cond_eq_ite,Nat.beq_eq]
  rcases List.mem_cons.1 hx with rfl | hx
  .rw [if_pos rfl]
  .rw [if_neg]
   .exact qka h.2 hx
   .intro he
    have h1:=h.1
    rw [<-Bool.not_eq_true,List.any_eq_true] at h1
    exact h1 ⟨x.1,List.mem_map.2 ⟨x,hx,rfl⟩,by rw [he];exact Nat.beq_refl _⟩
end Go.E3
/- E3: ARGUMENTS WHOSE ELEMENTS HOLD SLICES, all of them of one element size S, whose own elements are numbers, conditions, texts. -/
namespace Go.E3
open Go Go.E2
variable {K:Nat->Type}
def qel (W:World) (S self:Nat):Value->V
 | .slice none len cap=>if len=0/\cap=0 then .nils else .tuple [.slice 0 0 0 0 0 none]
 | .slice (some a) len cap=>
  if cap=0 then (if len=0 then .slice self 0 0 0 S (some 0) else .tuple [.slice 0 0 0 0 0 none])
  else match W.heap[a.block]? with
   | some (.cells arr _ _)=>if a.spot=none/\len<=cap/\a.off+cap * S<=arr.size then .slice a.block 0 a.off len S (some cap) else .tuple [.slice 0 0 0 0 0 none]
   | _=>.tuple [.slice 0 0 0 0 0 none]
 | x=>qdh x
theorem q6z {W:World} {S self:Nat} {arr:Array Value} {e:TypeId} {fz:Nat×Nat} (hb:W.heap[self]? = some (.cells arr e fz)) (x:Value):isHole (qel W S self x)=true∨Go.E2.Rel (qb9 W) W (qel W S self x) x:=by
 cases x with
 | slice a len cap=>
  cases a with
  | none=>
   simp only [qel]
   split
   .rename_i h
    obtain ⟨rfl,rfl⟩:=h
    right;simp [Go.E2.Rel]
   .exact .inl rfl
  | some a=>
   simp only [qel]
   split
   .rename_i hc
    subst hc
    split
    .rename_i hl
     subst hl
     right
     simp only [Go.E2.Rel]
     exact ⟨self,0,arr.size,0,0,e,arr.size,a,qes hb,rfl,.inl rfl,Nat.le_refl _,Nat.le_refl _,by omega,.inr rfl,fun k hk=>by cases hk;exact ⟨rfl,by omega⟩,by simp only [World.shape?,hb],by omega⟩
    .exact .inl rfl
   .split
    .rename_i arr' e' fz' hb'
     split
     .rename_i h
      obtain ⟨h1,h2,h3⟩:=h
      right
      have hm:len * S<=cap * S:=Nat.mul_le_mul_right _ h2
      obtain ⟨b,off,spot⟩:=a
      simp only at h1 h3 hb'
      subst h1
      simp only [Go.E2.Rel]
      exact ⟨b,0,arr'.size,off,cap,e',arr'.size,_,qes hb',rfl,.inr rfl,h2,Nat.zero_le _,by omega,.inl rfl,fun k hk=>by cases hk;exact ⟨rfl,h3⟩,by simp only [World.shape?,hb'],h3⟩
     .exact .inl rfl
    .exact .inl rfl
 | int k n=>right;simp [qel,qdh,Go.E2.Rel]
 | bool b=>right;simp [qel,qdh,Go.E2.Rel]
 | string s=>right;simp [qel,qdh,Go.E2.Rel]
 | _=>exact .inl rfl
theorem quy {W:World} {S self:Nat} {arr:Array Value} {e:TypeId} {fz:Nat×Nat} (hb:W.heap[self]? = some (.cells arr e fz)):∀ l:List Value,zt (qb9 W) W (l.map (qel W S self)) l
 | []=>by simp [zt]
 | x::l=>by
  simp only [List.map_cons,zt]
  exact ⟨x,l,rfl,q6z hb x,quy hb l⟩
def zbt (W:World) (S b:Nat):Option (Nat×O):=
 match W.heap[b]? with
 | some (.cells arr e fz)=>some (b,.row (arr.toList.map (qel W S b)) e 0 0 fz.2 false)
 | _=>none
def q8n (W:World) (S:Nat):List (Nat×O):=(List.range W.heap.size).filterMap (zbt W S)
theorem q5g {W:World} {S b:Nat} {x:Nat×O} (h:zbt W S b=some x):∃ arr e fz,W.heap[b]? = some (.cells arr e fz)/\x=(b,.row (arr.toList.map (qel W S b)) e 0 0 fz.2 false):=by
 unfold zbt at h
 split at h
 .rename_i arr e fz hb
  exact ⟨arr,e,fz,hb,(Option.some.inj h).symm⟩
 .cases h
theorem qun {W:World} {S b:Nat} {o:O} (h:(b,o) ∈ q8n W S):∃ arr e fz,W.heap[b]? = some (.cells arr e fz)/\o=.row (arr.toList.map (qel W S b)) e 0 0 fz.2 false:=by
 obtain ⟨b',_,h2⟩:=List.mem_filterMap.1 h
 obtain ⟨arr,e,fz,h3,h4⟩:=q5g h2
 cases h4
 exact ⟨arr,e,fz,h3,rfl⟩
def qg1 (W:World) (S ng:Nat):Heap:={j6:=qcn (q8n W S),next:=W.heap.size,ro:=W.heap.size,qx:=ng}
theorem qnl {W:World} {S ng b:Nat} {arr:Array Value} {e:TypeId} {fz:Nat×Nat} (h:W.heap[b]? = some (.cells arr e fz)):(qg1 W S ng).get b=some (.row (arr.toList.map (qel W S b)) e 0 0 fz.2 false):=by
 have hm:(b,O.row (arr.toList.map (qel W S b)) e 0 0 fz.2 false) ∈ q8n W S:=by
  refine List.mem_filterMap.2 ⟨b,List.mem_range.2 (qck h),?_⟩
  unfold zbt
  rw [h]
 obtain ⟨o,ho⟩:=qgh hm
 obtain ⟨arr',e',fz',h',rfl⟩:=qun (qac _ _ _ ho)
 rw [h] at h'
 cases h'
 exact ho
theorem qrv {W:World} {S ng b:Nat} {o:O} (h:(qg1 W S ng).get b=some o):∃ arr e fz,W.heap[b]? = some (.cells arr e fz)/\o=.row (arr.toList.map (qel W S b)) e 0 0 fz.2 false:=
 qun (qac _ _ _ h)
theorem zgq {W:World} {S ng:Nat} (hng:ng<=W.heap.size):Sim (qg1 W S ng) (qb9 W) W:=by
 refine ⟨fun nm g b sh n h=>?_,fun nm g b sh n nm' g' sh' n' h h'=>?_,fun nm o _ ho=>?_,Nat.le_refl _,hng,fun g o _ ho=>?_⟩
 .obtain ⟨_,arr,e,fz,hb,hx⟩:=jx h
  cases hx
  exact ⟨qck hb,qck hb⟩
 .obtain ⟨_,_,_,_,_,hx⟩:=jx h
  obtain ⟨_,_,_,_,_,hx'⟩:=jx h'
  cases hx
  cases hx'
  exact ⟨rfl,rfl⟩
 .obtain ⟨arr,e,fz,hb,rfl⟩:=qrv ho
  refine ⟨Nat.le_refl _,fun h=>(by cases h),fun g b sh n hg=>?_⟩
  obtain ⟨rfl,arr',e',fz',hb',hx⟩:=jx hg
  rw [hb] at hb'
  cases hb'
  cases hx
  refine ⟨Nat.le_refl _,Nat.zero_le _,by simp,fun _=>by simp,fun h=>(by cases h),fun _=>⟨arr,fz,hb,by simp,?_,fun _ i h1 h2=>by omega,fun h=>(by cases h)⟩⟩
  rw [List.drop_zero,Nat.sub_zero,List.take_of_length_le (by simp),List.take_of_length_le (by simp)]
  exact quy hb _
 .obtain ⟨arr,e,fz,hb,_⟩:=qrv ho
  exact ⟨_,qes hb⟩
section
variable {Hd:Type} {enc:TypeId×Value->Hd} {P:Program} {W:World} {cd:TypeId->Option Nat} {good:∀ c,K c->Prop} {X:Codecs K} {sz:Nat->Nat}
theorem qtv {leaf:Leaf4} {x:Value} {S self:Nat} (hf:leaf.flat=true) (h:qal enc P W cd leaf x):qel W S self x=qdh x:=by
 cases leaf with
 | int k=>obtain ⟨n,rfl,_⟩:=h;rfl
 | bool=>obtain ⟨b,rfl⟩:=h;rfl
 | str=>obtain ⟨s,rfl,_⟩:=h;rfl
 | list c=>cases hf
theorem qys {S self:Nat}:∀ {ls:List Leaf4} {cs:List Value},ls.all Leaf4.flat=true->cs.length=ls.length->(∀ (i:Nat) leaf x,ls[i]? = some leaf->cs[i]? = some x->qal enc P W cd leaf x)->cs.map (qel W S self)=cs.map qdh
 | [],[],_,_,_=>rfl
 | [],_::_,_,h,_=>by simp at h
 | _::_,[],_,h,_=>by simp at h
 | l::ls,x::cs,hf,hl,hr=>by
  simp only [List.all_cons,Bool.and_eq_true] at hf
  simp only [List.map_cons]
  rw [qtv hf.1 (hr 0 l x rfl rfl),qys (cs:=cs) hf.2 (by simpa using hl) fun i leaf y h5 h6=>hr (i+1) leaf y (by simpa using h5) (by simpa using h6)]
structure FlatOk (good:∀ c,K c->Prop) (X:Codecs K) (sz:Nat->Nat) (P:Program) (cd:TypeId->Option Nat) (depth:Nat) (c:Nat):Prop where
 elem:∀ e,cd e=some c->∃ ls,qps P cd depth e=some ls/\ls.all Leaf4.flat=true/\ls.length=sz c/\P.cellsOf e=sz c/\0<sz c/\∀ ps:List (PV K),qgu good ls ps->∃ pre x,X.pack c ps=some (pre,x)/\pre/\good c x
theorem add_add (b off i j:Nat):((⟨b,off,none⟩:Addr).add i).add j=⟨b,off+i+j,none⟩:=by
 unfold Addr.add
 by_cases h0:i=0
 .rw [if_pos h0,h0]
  by_cases hj0:j=0
  .rw [if_pos hj0,hj0];simp
  .rw [if_neg hj0];simp
 .rw [if_neg h0]
  by_cases hj0:j=0
  .rw [if_pos hj0,hj0];simp
  .rw [if_neg hj0]
theorem q50 {a:Addr} {n:Nat} {cs:List Value} (hn:0<n) (h:W.cells? 0 (a.add (0 * n)) n=some cs):a.spot=none/\∃ arr e fz,W.heap[a.block]? = some (.cells arr e fz):=by
 obtain ⟨_,h9,h10⟩:=World.cells?_some h
 have h0:=h10 0 hn
 rw [Nat.zero_mul] at h0
 have ha:(a.add 0).add 0=a:=by simp [Addr.add]
 rw [ha,List.getElem?_eq_getElem (by omega)] at h0
 simp only [World.cell?] at h0
 split at h0
 .rename_i arr e fz hb
  split at h0
  .cases h0
  .rename_i hs
   exact ⟨by simpa using hs,arr,e,fz,hb⟩
 .cases h0
theorem q1b {C:Cfg Int Bool (List UInt8) Prop (fun c=>List (K c))} (ok:CfgOk X sz C) {depth ng S self c:Nat} (fo:FlatOk good X sz P cd depth c) (hS:sz c=S) {arr0:Array Value} {e0:TypeId} {fz0:Nat×Nat} (hself:W.heap[self]? = some (.cells arr0 e0 fz0)) {x:Value} {M:Nat->Prop} (hM:∀ n,¬ M n)
  (h:qal enc P W cd (.list c) x):∃ p:PV K,qoh good (.list c) p/\Rep X sz (wd0 (qg1 W S ng) M C.codec) p (qel W S self x):=by
 rcases h with rfl | ⟨e,a,len,cap,he,rfl,hl,hcap,hr⟩
 .exact ⟨.list c [] none,⟨[],rfl,Nat.zero_le _,fun x hx=>by cases hx⟩,.nlist trivial⟩
 .obtain ⟨ls,h1,h2,h3,h4,h5,h6⟩:=fo.elem e he
  rw [h4] at hr
  by_cases hc0:cap=0
  .subst hc0
   obtain rfl:len=0:=by omega
   refine ⟨.list c [] none,⟨[],rfl,Nat.zero_le _,fun x hx=>by cases hx⟩,?_⟩
   have:qel W S self (.slice (some a) 0 0)=.slice self 0 0 0 (sz c) (some 0):=by simp [qel,hS]
   rw [this]
   exact .list (qnl hself) (Nat.le_refl _) (hM self) rfl (by simp) h5 (fun k hk=>by cases hk;exact Nat.le_refl _) (fun i hi=>by simp at hi) trivial
  .obtain ⟨cs0,m0,r0,q0,_⟩:=hr 0 (by omega)
   obtain ⟨hsp,arr,el,fz,hb⟩:=q50 h5 q0
   obtain ⟨b,off,spot⟩:=a
   simp only at hsp hb
   subst hsp
   have hcell:∀ i,i<cap->∃ cs:List Value,cs.length=sz c/\(∀ j,j<sz c->arr[off+i * sz c+j]? = cs[j]?)/\∃ y:K c,good c y/\qi X sz (wd0 (qg1 W S ng) M C.codec) (X.cells c y) (cs.map (qel W S b)):=by
    intro i hi
    obtain ⟨cs,m,r,h7,h8⟩:=hr i hi
    obtain ⟨_,h9,h10⟩:=World.cells?_some h7
    obtain ⟨h11,h12⟩:=qf5 depth h8 h1
    obtain ⟨ps,h13,h14⟩:=qi9 (X:=X) (sz:=sz) (w:=wd0 (qg1 W S ng) M C.codec) h2 h11 h12
    rw [<-qys (S:=S) (self:=b) h2 h11 h12] at h14
    obtain ⟨pre,y,h15,h16,h17⟩:=h6 ps h13
    refine ⟨cs,h9,fun j hj=>?_,y,h17,ok.pack c ps pre y h15 h16 _ _ h14⟩
    have:=h10 j hj
    rw [add_add] at this
    simp only [World.cell?,hb] at this
    simpa using this
   have hsz:off+cap * sz c<=arr.size:=by
    obtain ⟨q,rfl⟩:∃ q,cap=q+1:=⟨cap-1,by omega⟩
    obtain ⟨cs,g1,g2,_⟩:=hcell q (Nat.lt_succ_self q)
    have:=g2 (sz c-1) (by omega)
    rw [List.getElem?_eq_getElem (by omega)] at this
    have:=(Array.getElem?_eq_some_iff.1 this).1
    rw [Nat.add_mul,Nat.one_mul]
    omega
   have hlm:len * sz c<=cap * sz c:=Nat.mul_le_mul_right _ hl
   have habs:qel W S self (.slice (some ⟨b,off,none⟩) len cap)=.slice b 0 off len (sz c) (some cap):=by
    simp only [qel,if_neg hc0,hb]
    rw [if_pos ⟨trivial,hl,by rw [<-hS];exact hsz⟩,hS]
   obtain ⟨l,g1,g2⟩:=qg6 (Q:=fun i (y:K c)=>∃ cs:List Value,cs.length=sz c/\(∀ j,j<sz c->arr[off+i * sz c+j]? = cs[j]?)/\good c y/\qi X sz (wd0 (qg1 W S ng) M C.codec) (X.cells c y) (cs.map (qel W S b))) (n:=len) fun i hi=>by
    obtain ⟨cs,q1,q2,y,q4,q3⟩:=hcell i (by omega)
    exact ⟨y,cs,q1,q2,q4,q3⟩
   refine ⟨.list c l none,⟨l,rfl,by omega,fun y hy=>?_⟩,?_⟩
   .obtain ⟨i,hi,rfl⟩:=List.mem_iff_getElem.1 hy
    obtain ⟨cs,q1,q2,q4,q3⟩:=g2 i hi
    exact q4
   .rw [habs]
    refine .list (qnl hb) (Nat.le_refl _) (hM b) g1.symm (by simp;omega) h5 (fun k hk=>by cases hk;exact hl) (fun i hi j p hp=>?_) trivial
    obtain ⟨cs,q1,q2,q4,q3⟩:=g2 i hi
    have hj:j<sz c:=by rw [<-ok.len c (l[i]'hi)];exact (List.getElem?_eq_some_iff.1 hp).1
    have:=q3.2 j p hp
    rw [List.getD_eq_getElem?_getD,List.getElem?_map] at this ⊢
    rw [Array.getElem?_toList,q2 j hj]
    exact this
theorem qo7 {C:Cfg Int Bool (List UInt8) Prop (fun c=>List (K c))} (ok:CfgOk X sz C) {depth ng S self:Nat} {arr0:Array Value} {e0:TypeId} {fz0:Nat×Nat} (hself:W.heap[self]? = some (.cells arr0 e0 fz0)) {M:Nat->Prop} (hM:∀ n,¬ M n) :
  ∀ {ls:List Leaf4} {cs:List Value},(∀ leaf ∈ ls,leaf.flat=true∨∃ c,leaf=.list c/\sz c=S/\FlatOk good X sz P cd depth c)->cs.length=ls.length->
   (∀ (i:Nat) leaf x,ls[i]? = some leaf->cs[i]? = some x->qal enc P W cd leaf x)->
   ∃ ps:List (PV K),qgu good ls ps/\qi X sz (wd0 (qg1 W S ng) M C.codec) ps (cs.map (qel W S self))
 | [],[],_,_,_=>⟨[],rfl,.nil⟩
 | [],_::_,_,h,_=>by simp at h
 | _::_,[],_,h,_=>by simp at h
 | l::ls,x::cs,hf,hl,hr=>by
  obtain ⟨ps,h3,h4⟩:=qo7 (ng:=ng) ok hself hM (cs:=cs) (fun leaf hm=>hf leaf (List.mem_cons_of_mem _ hm)) (by simpa using hl) fun i leaf y h5 h6=>hr (i+1) leaf y (by simpa using h5) (by simpa using h6)
  have h0:=hr 0 l x rfl rfl
  obtain ⟨p,h1,h2⟩:∃ p:PV K,qoh good l p/\Rep X sz (wd0 (qg1 W S ng) M C.codec) p (qel W S self x):=by
   rcases hf l List.mem_cons_self with h | ⟨c,rfl,hS,fo⟩
   .obtain ⟨p,h1,h2⟩:=qns (good:=good) (X:=X) (sz:=sz) (w:=wd0 (qg1 W S ng) M C.codec) h h0
    exact ⟨p,h1,by rw [qtv h h0];exact h2⟩
   .exact q1b ok fo hS hself hM h0
  exact ⟨p::ps,⟨p,ps,rfl,h1,h3⟩,.cons h2 h4⟩
structure NestOk (good:∀ c,K c->Prop) (X:Codecs K) (sz:Nat->Nat) (P:Program) (cd:TypeId->Option Nat) (depth S c:Nat):Prop where
 elem:∀ e,cd e=some c->∃ ls,qps P cd depth e=some ls/\(∀ leaf ∈ ls,leaf.flat=true∨∃ c',leaf=.list c'/\sz c'=S/\FlatOk good X sz P cd depth c')/\ls.length=sz c/\P.cellsOf e=sz c/\0<sz c/\
  ∀ ps:List (PV K),qgu good ls ps->∃ pre x,X.pack c ps=some (pre,x)/\pre/\good c x
theorem q5d {C:Cfg Int Bool (List UInt8) Prop (fun c=>List (K c))} (ok:CfgOk X sz C) {depth ng S:Nat} {base:Nat} {u:TypeId} {c:Nat} {x:Value} (no:NestOk good X sz P cd depth S c) {M:Nat->Prop} (hM:∀ n,¬ M n) (hc:Cell.okWide P W .any base u x) (h:qal enc P W cd (.list c) x) :
  ∃ (p:PV K) (v:V),qoh good (.list c) p/\Rep X sz (wd0 (qg1 W S ng) M C.codec) p v/\Go.E2.Rel (qb9 W) W v x:=by
 rcases h with rfl | ⟨e,a,len,cap,he,rfl,hl,hcap,hr⟩
 .exact ⟨.list c [] none,.nils,⟨[],rfl,Nat.zero_le _,fun x hx=>by cases hx⟩,.nlist trivial,by simp [Go.E2.Rel]⟩
 .obtain ⟨hsp,arr,el,fz,hb,hoff⟩:=qzl hc
  obtain ⟨b,off,spot⟩:=a
  simp only at hsp hb hoff
  subst hsp
  obtain ⟨ls,h1,h2,h3,h4,h5,h6⟩:=no.elem e he
  rw [h4] at hr
  have hcell:∀ i,i<cap->∃ cs:List Value,cs.length=sz c/\(∀ j,j<sz c->arr[off+i * sz c+j]? = cs[j]?)/\∃ y:K c,good c y/\qi X sz (wd0 (qg1 W S ng) M C.codec) (X.cells c y) (cs.map (qel W S b)):=by
   intro i hi
   obtain ⟨cs,m,r,h7,h8⟩:=hr i hi
   obtain ⟨_,h9,h10⟩:=World.cells?_some h7
   obtain ⟨h11,h12⟩:=qf5 depth h8 h1
   obtain ⟨ps,h13,h14⟩:=qo7 (X:=X) (sz:=sz) (ng:=ng) ok hb hM h2 h11 h12
   obtain ⟨pre,y,h15,h16,h17⟩:=h6 ps h13
   refine ⟨cs,h9,fun j hj=>?_,y,h17,ok.pack c ps pre y h15 h16 _ _ h14⟩
   have:=h10 j hj
   rw [add_add] at this
   simp only [World.cell?,hb] at this
   simpa using this
  have hsz:off+cap * sz c<=arr.size:=by
   cases cap with
   | zero=>simpa using hoff
   | succ q=>
    obtain ⟨cs,g1,g2,_⟩:=hcell q (Nat.lt_succ_self q)
    have:=g2 (sz c-1) (by omega)
    rw [List.getElem?_eq_getElem (by omega)] at this
    have:=(Array.getElem?_eq_some_iff.1 this).1
    rw [Nat.add_mul,Nat.one_mul]
    omega
  have hlm:len * sz c<=cap * sz c:=Nat.mul_le_mul_right _ hl
  obtain ⟨l,g1,g2⟩:=qg6 (Q:=fun i (y:K c)=>∃ cs:List Value,cs.length=sz c/\(∀ j,j<sz c->arr[off+i * sz c+j]? = cs[j]?)/\good c y/\qi X sz (wd0 (qg1 W S ng) M C.codec) (X.cells c y) (cs.map (qel W S b))) (n:=len) fun i hi=>by
   obtain ⟨cs,q1,q2,y,q4,q3⟩:=hcell i (by omega)
   exact ⟨y,cs,q1,q2,q4,q3⟩
  refine ⟨.list c l none,.slice b 0 off len (sz c) (some cap),⟨l,rfl,by omega,fun y hy=>?_⟩,?_,?_⟩
  .obtain ⟨i,hi,rfl⟩:=List.mem_iff_getElem.1 hy
   obtain ⟨cs,q1,q2,q4,q3⟩:=g2 i hi
   exact q4
  .refine .list (qnl hb) (Nat.le_refl _) (hM b) g1.symm (by simp;omega) h5 (fun k hk=>by cases hk;exact hl) (fun i hi j p hp=>?_) trivial
   obtain ⟨cs,q1,q2,q4,q3⟩:=g2 i hi
   have hj:j<sz c:=by rw [<-ok.len c (l[i]'hi)];exact (List.getElem?_eq_some_iff.1 hp).1
   have:=q3.2 j p hp
   rw [List.getD_eq_getElem?_getD,List.getElem?_map] at this ⊢
   rw [Array.getElem?_toList,q2 j hj]
   exact this
  .simp only [Go.E2.Rel]
   exact ⟨b,0,arr.size,off,cap,el,arr.size,_,qes hb,rfl,.inr rfl,hl,Nat.zero_le _,by omega,.inl rfl,fun k hk=>by cases hk;exact ⟨rfl,hsz⟩,by simp only [World.shape?,hb],hsz⟩
theorem zen {C:Cfg Int Bool (List UInt8) Prop (fun c=>List (K c))} (ok:CfgOk X sz C) {depth ng S c:Nat} (no:NestOk good X sz P cd depth S c) {base:Nat} {M:Nat->Prop} (hM:∀ n,¬ M n) {t:TypeId} {v:Value} {d:DataW Hd} {ps:List MemPlace}
  (ht:(match P.underlying t with | some (.struct _) | some (.array _ _)=>false | _=>true)=true) (hl:qps P cd depth t=some [.list c]) (hv:Value.okWide P W .any base t v) (hd:DataW.Trod enc P W 0 (fun _=>true) true t v d ps) :
  ∃ (p:PV K) (u:V),qoh good (.list c) p/\Rep X sz (wd0 (qg1 W S ng) M C.codec) p u/\Go.E2.Rel (qb9 W) W u v:=by
 obtain ⟨n,hn⟩:=hd
 obtain ⟨h1,h2⟩:=qf5 depth hn hl
 have hcell:Cell.okWide P W .any base t v:=by
  unfold Value.okWide at hv
  split at hv
  .rename_i h;simp [h] at ht
  .rename_i h;simp [h] at ht
  .exact hv
 have hcs:v.cells.toList=[v]:=by
  cases v with
  | agg cs=>
   exfalso
   unfold Cell.okWide at hcell
   split at hcell<;>first | (rename_i hx;cases hx;done) | skip
   unfold Cell.ok at hcell
   split at hcell<;>first | (rename_i hx;cases hx;done) | exact hcell
  | _=>rfl
 exact q5d ok no hM hcell (h2 0 (.list c) v rfl (by rw [hcs];rfl))
end
end Go.E3
/- PLAIN LEAN FOR CONDITIONS: elements, bytes, parts of lists by numbers; places up to which something holds; cuts at a byte. No program in sight. -/
namespace Go.E3
theorem q1e {α:Type} [Inhabited α] {l:List α} {i:Nat} (h:i<l.length):ix l (i:Int)=l[i]:=by
 simp [ix,List.getD_eq_getElem?_getD,h]
theorem qbc {α:Type} (l:List α):0<=ln l:=Int.natCast_nonneg _
theorem jk {α:Type} (l m:List α):ln (l++m)=ln l+ln m:=by simp [ln]
theorem zbl {α:Type} (a:α) (l:List α):ln (a::l)=ln l+1:=by simp [ln]
theorem q0x {a b:UInt8} (h:(a.toNat:Int)=b.toNat):a=b:=UInt8.toNat_inj.1 (by omega)
theorem zdz {α:Type} [Inhabited α] {l:List α} {a:α} (h:a ∈ l):∃ i:Int,0<=i/\i<ln l/\ix l i=a:=by
 obtain ⟨i,hi,rfl⟩:=List.mem_iff_getElem.1 h
 exact ⟨i,by omega,by simp only [ln];omega,q1e hi⟩
theorem zdu {α:Type} [Inhabited α] {l:List α} {i:Int} (h0:0<=i) (h:i<ln l):ix l i ∈ l:=by
 have hi:i.toNat<l.length:=by simp only [ln] at h;omega
 have:ix l i=l[i.toNat]:=by simp [ix,List.getD_eq_getElem?_getD,hi]
 rw [this];exact List.getElem_mem hi
theorem qyr {α:Type} [Inhabited α] {l m:List α} (h:ln l=ln m) (he:∀ i,0<=i->i<ln l->ix l i=ix m i):l=m:=by
 apply List.ext_getElem (by simp only [ln] at h;omega)
 intro i h1 h2
 have:=he i (by omega) (by simp only [ln];omega)
 rwa [q1e h1,q1e h2] at this
def zcy (p:Int->Bool) (s:List UInt8) (i:Int):Int:=if h:0<=i/\i<ln s/\p (bx s i)=true then zcy p s (i+1) else i
 termination_by (ln s-i).toNat
 decreasing_by omega
end Go.E3
