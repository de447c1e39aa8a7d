/- A VERIFIED EVALUATOR, texts E3v, E3w, E3x, E3y, E3z, E3za, E3zb, E3zd, L3a in one. -/
import Derived.Test.YtbopmiclcimjgaaGreatDoorM5
import Derived.ChangeBook
import Derived.ChangeStays
import Derived.ChangeArms
import Derived.ChangeMaps5
import Derived.OpenShut
/- E3: CODE against E2's. -/
namespace Go.E3
open Go Go.E2
variable {K:Nat->Type}
section
variable {X:Codecs K} {sz:Nat->Nat} {C:Cfg Int Bool (List UInt8) Prop (fun c=>List (K c))} {base:Heap}
variable {tbl:Tbl K} {inv:Nat->List (NV K)->Prop} {meas:Nat->List (NV K)->Nat} {inl:Inl Int Bool (List UInt8) Prop (fun c=>List (K c))}
theorem qtx {fr2:Fr} {H2:Heap} {w2:Wd} {s:RSlot} {vs us:List V} (h1:qvf fr2 H2 w2 s vs) (h2:qvf fr2 H2 w2 s us):vs=us:=by
 cases s with
 | one t k=>
  obtain ⟨v,a,rfl⟩:=h1
  obtain ⟨u,b,rfl⟩:=h2
  rw [a] at b
  cases b
  rfl
 | agg t ks=>
  have a:fr2.tmp t=some (.agg vs):=h1
  have b:fr2.tmp t=some (.agg us):=h2
  rw [a] at b
  cases b
  rfl
 | var id ks=>
  obtain ⟨_,e,ex,a⟩:=h1
  obtain ⟨_,e',ex',b⟩:=h2
  rw [a] at b
  cases b
  rfl
 | ml id c=>exact False.elim h1
theorem qju {st0 st2:StV K}:∀ {ks:List SK} {as bs:List (PV K)} {obs:List Prop},qfz (qj X tbl inv meas) st2 ks as bs=some obs->(∀ q ∈ obs,q)->∀ (i:Nat) (p:PV K),ks[i]? = some .keep->as[i]? = some p->
  ∃ p2 o,bs[i]? = some p2/\ke (qj X tbl inv meas) st2 p p2=some o/\∀ q ∈ o,q
 | [],as,bs,obs,h,ho,i,p,hk,ha=>by simp at hk
 | k::ks,[],bs,obs,h,ho,i,p,hk,ha=>by simp at ha
 | k::ks,a::as,[],obs,h,ho,i,p,hk,ha=>by cases k<;>simp [qfz] at h
 | k::ks,a::as,b::bs,obs,h,ho,i,p,hk,ha=>by
  have rest:∀ obs',qfz (qj X tbl inv meas) st2 ks as bs=some obs'->(∀ q ∈ obs',q)->∀ i',i=i'+1->∃ p2 o,(b::bs)[i]? = some p2/\ke (qj X tbl inv meas) st2 p p2=some o/\∀ q ∈ o,q:=by
   intro obs' h1 h2 i' hi
   subst hi
   obtain ⟨p2,o,e1,e2,e3⟩:=qju (st0:=st0) (st2:=st2) h1 h2 i' p (by simpa using hk) (by simpa using ha)
   exact ⟨p2,o,by simpa using e1,e2,e3⟩
  cases k with
  | keep=>
   simp only [qfz] at h
   obtain ⟨x,hx,h1⟩:=zI.1 h
   obtain ⟨y,hy,rfl⟩:=zM.1 h1
   cases i with
   | zero=>
    simp only [List.getElem?_cons_zero,zS] at ha
    subst ha
    exact ⟨b,x,rfl,hx,fun q hq=>ho q (List.mem_append_left _ hq)⟩
   | succ i=>exact rest y hy (fun q hq=>ho q (List.mem_append_right _ hq)) i rfl
  | _=>
   have h':qfz (qj X tbl inv meas) st2 ks as bs=some obs:=h
   cases i with
   | zero=>simp at hk
   | succ i=>exact rest obs h' ho i rfl
theorem qdg {st0 st2:StV K}:∀ {slots:List RSlot} {obs:List Prop},qcu (qj X tbl inv meas) st0 st2 slots=some obs->(∀ q ∈ obs,q)->∀ s ∈ slots,(∃ id c,s=.ml id c)∨∃ x y o,jl st0 s=some x/\jl st2 s=some y/\qfz (qj X tbl inv meas) st2 x.1 x.2 y.2=some o/\∀ q ∈ o,q
 | [],obs,_,_,s,hs=>by cases hs
 | s0::slots,obs,h,ho,s,hs=>by
  by_cases hmm:∃ id c,s0=.ml id c
  .obtain ⟨id,c,rfl⟩:=hmm
   simp only [qcu] at h
   rcases zD.1 hs with rfl | hs
   .exact .inl ⟨id,c,rfl⟩
   .exact qdg h ho s hs
  have hml':∀ id c,s0=.ml id c->False:=fun id c he=>hmm ⟨id,c,he⟩
  simp only [qcu] at h
  obtain ⟨x,hx,h1⟩:=zI.1 h
  obtain ⟨y,hy,h2⟩:=zI.1 h1
  obtain ⟨a,ha,h3⟩:=zI.1 h2
  obtain ⟨r,hr,rfl⟩:=zM.1 h3
  rcases zD.1 hs with rfl | hs
  .exact .inr ⟨x,y,a,hx,hy,ha,fun q hq=>ho q (List.mem_append_left _ hq)⟩
  .exact qdg hr (fun q hq=>ho q (List.mem_append_right _ hq)) s hs
theorem qdi {vias:List Nat} {st2:StV K}:∀ {l:List (Nat×Cont Int Bool (List UInt8) Prop (fun c=>List (K c)))} {obs:List Prop},qd4 (qj X tbl inv meas) vias st2 l=some obs->(∀ q ∈ obs,q)->∀ id ct,(id,ct) ∈ l->id ∈ vias∨∃ o,qfh (qj X tbl inv meas) st2 id ct=some o/\∀ q ∈ o,q
 | [],obs,_,_,id,ps,h=>by cases h
 | (i,cs)::l,obs,h,ho,id,ps,hm=>by
  simp only [qd4] at h
  rcases qt h with ⟨hb,h1⟩ | ⟨hb,h1⟩
  .obtain ⟨x,hx,h3⟩:=zI.1 h1
   obtain ⟨y,hy,rfl⟩:=zM.1 h3
   rcases zD.1 hm with he | hm
   .cases he
    exact .inr ⟨x,hx,fun q hq=>ho q (List.mem_append_left _ hq)⟩
   .exact qdi hy (fun q hq=>ho q (List.mem_append_right _ hq)) id ps hm
  .rcases zD.1 hm with he | hm
   .cases he
    obtain ⟨j,hj,hb2⟩:=List.any_eq_true.1 hb
    have:=zE hb2
    subst this
    exact .inl hj
   .exact qdi h1 ho id ps hm
theorem cond_prop {c:Bool} {p:Prop} (h:bif c then p else False):c=true/\p:=by
 cases c with
 | false=>exact absurd h id
 | true=>exact ⟨rfl,h⟩
theorem q07 {t t':Option TypeId} {ps qs:List (PV K)} {e:TypeId} {ex:Bool} (h:q3h t t'=true) (h':qoy (.cs t' qs) e ex):qoy (.cs t ps) e ex:=by
 cases t with
 | none=>trivial
 | some a=>
  cases t' with
  | none=>cases h
  | some b=>
   have:=zE h
   subst this
   exact h'
theorem qwt {j:Nat} {seen:List (NV K)} {slots:List RSlot} {dec:Option (List (NV K))} {st0 hd st2:StV K} (h:qpp (qj X tbl inv meas) j seen slots dec st0 hd st2) :
  ∃ ns a b,qbb (qj X tbl inv meas) st2 slots=some ns/\qcu (qj X tbl inv meas) st0 st2 slots=some a/\qd4 (qj X tbl inv meas) (qc3 slots) st2 st0.cells=some b/\(∀ q ∈ a,q)/\(∀ q ∈ b,q)/\
   distinct (za st2 slots)=true/\(∀ i ∈ za st2 slots,look hd.owns i=none)/\(∀ i s,look hd.owns i=some s->look st2.owns i=some s)/\inv j (ns++seen)/\(∀ m,dec=some m->meas j (ns++seen)<meas j (m++seen)):=by
 unfold qpp at h
 split at h
 .rename_i ns a b hN hK hS
  obtain ⟨hb,h⟩:=cond_prop h
  simp only [zA] at hb
  obtain ⟨h1,h2⟩:=qi9 h
  obtain ⟨h3,h4⟩:=qi9 h2
  refine ⟨ns,a,b,hN,hK,hS,h1,h3,hb.1.1,fun i hi=>?_,fun i s hi=>?_,h4.1,fun m hm=>?_⟩
  .cases hl:look hd.owns i with
   | none=>rfl
   | some s=>
    have:=List.all_eq_true.1 hb.1.2 i hi
    simp only [Bool.not_eq_true',<-Bool.not_eq_true,List.any_eq_true] at this
    exact absurd ⟨(i,s),qdd hl,Nat.beq_refl i⟩ this
  .have:=List.all_eq_true.1 hb.2 (i,s) (qdd hi)
   simp only at this
   split at this
   .rename_i s' hs'
    have:=zE this
    rw [hs',this]
   .cases this
  .subst hm
   exact h4.2
 .exact absurd h id
theorem qp0 (ok:CfgOk X sz C) (ok2:CfgOk2 X C) {st0 st2:StV K} {fr0 fr2:Fr} {H0 H2:Heap} {w0 w2:Wd} (R0:Rel X sz C base st0 fr0 H0 w0) (R2:Rel X sz C base st2 fr2 H2 w2) (hle:Le w0 w2) {j:Nat} {seen:List (NV K)} {ds:List Nat} {slots:List RSlot} {dec:Option (List (NV K))}
  (hn:fr2.n=fr0.n) (hfr:∀ t,t ∉ ds->fr2.tmp t=fr0.tmp t) (hb:qpp (qj X tbl inv meas) j seen slots dec st0 (qal st0 ds slots) st2) :
  ∃ ns,inv j (ns++seen)/\(∀ m,dec=some m->meas j (ns++seen)<meas j (m++seen))/\∀ G:List (NV K)->StV K->Prop,j9 (qj X tbl inv meas) st0 slots (qal st0 ds slots) G->∃ st1 w1,G ns st1/\Rel X sz C base st1 fr2 H2 w1/\Le w0 w1/\st1.n=st0.n:=by
 obtain ⟨ns,a,b,hN,hK,hS,ha,hbb,hd,hsep,hret,hinv,hdec⟩:=qwt hb
 refine ⟨ns,hinv,hdec,fun G hG=>qn0 ok ok2 R0 R2 hle (by rw [<-R2.n,hn,R0.n]) hfr hN (fun s hs=>?_) (fun id ps hl=>?_) hret hsep hd hG⟩
 .rcases qdg hK ha s hs with ⟨id,c,rfl⟩ | ⟨x,y,o,hx,hy,ho,hq⟩
  .intro x' hx'
   simp [jl] at hx'
  intro x' hx' vs hvs i p hk hp w' h1 h2 h3
  rw [hx] at hx'
  cases hx'
  obtain ⟨p2,o2,hp2,hs2,ho2⟩:=qju (st0:=st0) (st2:=st2) ho hq i p hk hp
  obtain ⟨vs0,_,r0⟩:=qhr R0 hx
  obtain ⟨vs2,hvs2,r2⟩:=qhr R2 hy
  have:=qtx hvs hvs2
  subst this
  obtain ⟨v0,_,q0⟩:=r0.get hp
  have q2:=r2.2 i p2 hp2
  exact ql8 ok.len ok2 h1 hle R2.h.owns (fun id hi=>by rw [h1.c id hi,hle.c id hi]) h2 h3 p p2 hs2 ho2 q0 q2
 .rcases qdi hS hbb id ps (qdd hl) with h1 | ⟨o,h2,h3⟩
  .exact .inl h1
  .right
   intro w' hg
   obtain ⟨g1,g2,g3,g4⟩:=hg
   obtain ⟨hcl0,_,r0⟩:=R0.h.cells id ps hl
   have hid0:id<w0.n:=by rw [R0.h.n];exact (R0.h.cl id hcl0).1
   cases ps with
   | lp r=>
    simp only [qfh] at h2
    split at h2
    .rename_i r' hl2
     rcases qt h2 with ⟨_,h2⟩ | ⟨hm,_⟩
     .cases h2
     obtain ⟨_,hM,gg,p1,p2,_⟩:=R2.h.cells id _ hl2
     obtain ⟨gg0,q1,_,q3,q4,q5,q6,q7⟩:=r0
     have e1:gg=gg0:=by
      rw [hle.lp id hid0,q1] at p1
      exact (Option.some.inj p1).symm
     subst e1
     have e2:r'.mode=r.mode:=by
      revert hm
      cases r.mode<;>cases r'.mode<;>simp [qtt]
     refine ⟨hM,fun w'' hw=>⟨gg,?_,by rw [p2,e2],q3,q4,q5,q6,fun i p hp=>?_⟩⟩
     .rw [hw.lp id (zL hid0 g1.n),g1.lp id hid0]
      exact q1
     .obtain ⟨v,a,b⟩:=q7 i p hp
      exact ⟨v,a,b.mono ok.len (g1.trans hw)⟩
    .cases h2
   | cs t ps=>
    obtain ⟨vs0,_,_,_,ty0,r0⟩:=r0
    simp only [qfh] at h2
    rcases qt h2 with ⟨_,h2⟩ | ⟨hty,h2⟩
    .cases h2
    obtain ⟨dd,h1,h2⟩:=zI.1 h2
    obtain ⟨_,hM,vs2,e,ex,hgt,ty2,r2⟩:=R2.h.cells id _ (qbv h1)
    exact ⟨hM,fun w'' hw=>⟨vs2,e,ex,hgt,q07 hty ty2,(qd0 ok.len ok2 g1 hle R2.h.owns (fun id hi=>by rw [g1.c id hi,hle.c id hi]) g2 g3 ps dd h2 h3 r0 r2).mono ok.len hw⟩⟩
   | mp c lf va l=>
    simp only [qfh] at h2
    split at h2
    .rename_i m hm
     split at h2
     .rename_i hc
      obtain ⟨c',lf',va',l'⟩:=m
      simp only at hc
      subst hc
      rcases qt h2 with ⟨_,h2⟩ | ⟨hb,h2⟩
      .cases h2
      cases h2
      have he:l=l':=h3 _ zC
      subst he
      simp only [zA,beq_iff_eq] at hb
      have e1:=ql7 hb.1
      have e2:=hb.2
      subst e1
      subst e2
      have hlk:look st2.cells id=some (.mp c' lf va l):=by
       unfold qq6 at hm
       split at hm
       .rename_i e
        cases hm
        exact e
       .cases hm
      obtain ⟨_,hM,es,clock,hgt,hlen,hent⟩:=R2.h.cells id _ hlk
      have pl:∀ {x:K c'} {ps:List (PV K)} {vs:List V},(∀ p ∈ ps,p ∈ X.cells c' x)->qh X sz w2 ps vs->qh X sz w' ps vs:=fun hsub r2=>
       ⟨r2.1,fun j p hp=>(r2.2 j p hp).plain ok2.plain g2 (fun _ _ _ h=>by rw [g3];exact h) (ok2.plain c' _ p (hsub p (List.mem_of_getElem? hp)))⟩
      refine ⟨hM,fun w'' hw=>⟨es,clock,hgt,hlen,fun i x e a b=>?_⟩⟩
      obtain ⟨z1,z2,z3,z4⟩:=hent i x e a b
      exact ⟨(pl (fun p hp=>List.mem_of_mem_take hp) z1).mono ok.len hw,z2,(pl (fun p hp=>List.mem_of_mem_drop hp) z3).mono ok.len hw,z4⟩
     .cases h2
    .cases h2
   | ml c l=>
    simp only [qfh] at h2
    obtain ⟨l',h1,rfl⟩:=zM.1 h2
    have he:l=l':=h3 _ zC
    subst he
    obtain ⟨_,hM,vs2,e,ex,hgt,_,r2⟩:=R2.h.cells id _ (qcv h1)
    refine ⟨hM,fun w'' hw=>⟨vs2,e,ex,hgt,trivial,qh.mono ok.len hw ⟨r2.1,fun j p hp=>(r2.2 j p hp).plain ok2.plain g2 (fun _ _ _ h=>by rw [g3];exact h) ?_⟩⟩⟩
    obtain ⟨x,_,hx⟩:=List.mem_flatMap.1 (List.mem_of_getElem? hp)
    exact ok2.plain c x p hx
theorem qur (ok:CfgOk X sz C) (ok2:CfgOk2 X C) {st0:StV K} {fr0:Fr} {H0:Heap} {w0:Wd} (R0:Rel X sz C base st0 fr0 H0 w0) {ds:List Nat} {slots:List RSlot} {ns:List (NV K)} (hN:qbb (qj X tbl inv meas) st0 slots=some ns) (hd:distinct (za st0 slots)=true)
  {G:List (NV K)->StV K->Prop} (hG:j9 (qj X tbl inv meas) st0 slots (qal st0 ds slots) G):∃ st1 w1,G ns st1/\Rel X sz C base st1 fr0 H0 w1/\Le w0 w1/\st1.n=st0.n:=by
 have howns:∀ i,look (qal st0 ds slots).owns i=if i ∈ za st0 slots then none else look st0.owns i:=fun i=>qf0
 refine qn0 ok ok2 R0 R0 (.refl w0) rfl (fun _ _=>rfl) hN (fun s hs=>?_) (fun id ps hl=>?_) (fun i s hi=>?_) (fun i hi=>?_) hd hG
 .intro x hx vs hvs i p hk hp w' h1 h2 h3
  obtain ⟨vs0,hvs0,r0⟩:=qhr R0 hx
  have:=qtx hvs hvs0
  subst this
  exact (r0.2 i p hp).mono ok.len h1
 .right
  intro w' hg
  obtain ⟨hcl0,hM,r0⟩:=R0.h.cells id ps hl
  exact ⟨hM,fun w'' hw=>r0.mono ok.len (hg.1.trans hw) (by rw [R0.h.n];exact (R0.h.cl id hcl0).1)⟩
 .rw [howns] at hi
  split at hi
  .cases hi
  .exact hi
 .rw [howns,zT hi]
abbrev qi6 (X:Codecs K) (sz:Nat->Nat) (C:Cfg Int Bool (List UInt8) Prop (fun c=>List (K c))) (base:Heap) (w:Wd) (k:Ex->StV K->Prop) (ex:Ex) (fr':Fr) (H':Heap):Prop:=
 (∀ l,ex≠.goto l)/\∃ st' w',k ex st'/\Rel X sz C base st' fr' H' w'/\Le w w'
theorem qut {σ:Type} {step:σ->(σ->Prop)->Prop} {n:Nat} {s:σ} (h:qs5 step False n s):∃ m,n=m+1/\step s fun s'=>qs5 step False m s':=by
 cases n with
 | zero=>exact absurd h id
 | succ m=>exact ⟨m,rfl,h⟩
theorem q1d {E:Env} {fn:FuncId} {round:Option Nat} {c:Code} {fr:Fr} {H:Heap} {Q:Ex->Fr->Heap->Prop}
  (h:Wp E fn round c fr H (qtz (fun fr' H'=>∃ (Inv:Nat->Fr->Heap->Prop) (m:Nat),Inv m fr' H'/\∀ m fr H,Inv m fr H->Wp E fn round c fr H (qtz (fun fr' H'=>∃ m',m'<m/\Inv m' fr' H') Q)) Q)):Wp E fn round (.loop c) fr H Q:=by
 obtain ⟨⟨e,fr1,H1⟩,hk,h2⟩:=h
 cases e with
 | normal=>
  obtain ⟨Inv,m1,hi,hs⟩:=h2
  refine qmq (fun m fr' H'=>(m=m1+1/\fr'=fr/\H'=H)∨(m<=m1/\Inv m fr' H')) (m:=m1+1) (.inl ⟨rfl,rfl,rfl⟩) ?_
  rintro m fr' H' (⟨rfl,rfl,rfl⟩ | ⟨hm,hi⟩)
  .exact ⟨_,hk,m1,Nat.lt_succ_self _,.inr ⟨zN _,hi⟩⟩
  .refine (hs m fr' H' hi).mono fun ex fr2 H2 hA=>?_
   cases ex with
   | normal=>
    obtain ⟨m',h1,h2⟩:=hA
    exact ⟨m',h1,.inr ⟨by omega,h2⟩⟩
   | _=>exact hA
 | _=>
  refine qmq (fun m fr' H'=>fr'=fr/\H'=H) (m:=0) ⟨rfl,rfl⟩ ?_
  rintro m fr' H' ⟨rfl,rfl⟩
  exact ⟨_,hk,h2⟩
def qr1 (w:Wd) (rd round:Option Nat):Prop:=
 match rd,round with
 | none,none=>True
 | some id,some l=>id<w.n/\l=w.c id
 | _,_=>False
theorem qr1.mono {w w':Wd} {rd round:Option Nat} (h:qr1 w rd round) (hle:Le w w'):qr1 w' rd round:=by
 cases rd<;>cases round
 .trivial
 .exact h
 .exact h
 .obtain ⟨h1,h2⟩:=h
  exact ⟨zL h1 hle.n,by rw [hle.c _ h1];exact h2⟩
theorem qlr (ok:CfgOk X sz C) (ok2:CfgOk2 X C) {rd round:Option Nat} {fn:Nat} {c:Code} {j:Nat} {slots sees:List Slot} {st:StV K} {fr:Fr} {H:Heap} {w:Wd} {k:Ex->StV K->Prop} {body:StV K->(Ex->StV K->Prop)->Prop}
  (hbody:∀ {st:StV K} {fr:Fr} {H:Heap} {w:Wd} {k:Ex->StV K->Prop},qr1 w rd round->Rel X sz C base st fr H w->body st k->Wp C.E fn round c fr H (qi6 X sz C base w k))
  (hrd:qr1 w rd round) (R:Rel X sz C base st fr H w) (h:qvz (qj X tbl inv meas) j slots sees (qb3 c) st body k) :
  ∃ (Inv:Nat->Fr->Heap->Prop) (m:Nat),Inv m fr H/\∀ m fr' H',Inv m fr' H'->Wp C.E fn round c fr' H' (qtz (fun fr' H'=>∃ m',m'<m/\Inv m' fr' H') (qi6 X sz C base w k)):=by
 unfold qvz at h
 obtain ⟨rs,hrs,h1⟩:=qa h
 obtain ⟨ns0,hns,h1⟩:=qa h1
 obtain ⟨seen,_,h2⟩:=qa h1
 cases hd:distinct (za st rs) with
 | false=>rw [hd] at h2;exact absurd h2 id
 | true=>
  rw [hd] at h2
  simp only [zO] at h2
  obtain ⟨hinv0,hG⟩:=h2
  let Body:List (NV K)->StV K->Prop:=fun ns st1=>inv j (ns++seen)->body st1 fun ex st2=>match ex with
    | .normal=>qpp (qj X tbl inv meas) j seen rs (some ns) st (qal st (qb3 c) rs) st2
    | ex=>k ex st2
  refine ⟨fun m fr' H'=>∃ ns st1 w1,m=meas j (ns++seen)/\inv j (ns++seen)/\Body ns st1/\Rel X sz C base st1 fr' H' w1/\Le w w1/\fr'.n=fr.n/\∀ t,t ∉ qb3 c->fr'.tmp t=fr.tmp t,meas j (ns0++seen),?_,?_⟩
  .obtain ⟨st1,w1,g1,g2,g3,g4⟩:=qur ok ok2 R hns hd hG
   exact ⟨ns0,st1,w1,rfl,hinv0,g1,g2,g3,rfl,fun _ _=>rfl⟩
  .rintro m fr' H' ⟨ns,st1,w1,rfl,hinv,hB,R1,hle1,hn1,hf1⟩
   refine (Go.E3.Wp.frame (hbody (hrd.mono hle1) R1 (hB hinv))).mono fun ex fr2 H2 hA=>?_
   obtain ⟨⟨hgo,st2,w2,hk,R2,hle2⟩,hfr2,hnn2⟩:=hA
   cases ex with
   | normal=>
    obtain ⟨ns',hinv',hdec,hh⟩:=qp0 ok ok2 R R2 (hle1.trans hle2) (hnn2.trans hn1) (fun t ht=>(hfr2 t ht).trans (hf1 t ht)) hk
    obtain ⟨st3,w3,g1,g2,g3,_⟩:=hh _ hG
    exact ⟨meas j (ns'++seen),hdec ns rfl,ns',st3,w3,rfl,hinv',g1,g2,g3,hnn2.trans hn1,fun t ht=>(hfr2 t ht).trans (hf1 t ht)⟩
   | _=>exact ⟨hgo,st2,w2,hk,R2,hle1.trans hle2⟩
theorem qzx {E:Env} {fn:FuncId} {round:Option Nat} {f:Operand} {params:Array Tmp} {a b:Code} {fr:Fr} {H H1:Heap} {Q:Ex->Fr->Heap->Prop} {g:Nat} {va vc:List V} {mk:List Dfr} {d:Nat}
  (hf:opd fr H f=some (.func (.func g) va vc)) (hb:qfw E g=true) (he:qkn round H=some (mk,H1,d))
  (h:j7 E (.func g) (va++[.func (.yield H1.next) [] []]++vc) (H1.new (.loop .ready none fr.tmps fr.n params.toList a b d)) fun _ H3=>∃ ex H4,qbd H3 H1.next=some (ex,H4)/\Q ex {fr with defers:=mk++fr.defers} H4) :
  Wp E fn round (.rangeFunc f params a b) fr H Q:=by
 obtain ⟨v,H3,⟨k0,h1⟩,ex,H4,h2,h3⟩:=h
 refine ⟨(ex,{fr with defers:=mk++fr.defers},H4),⟨k0,fun k hk=>?_⟩,h3⟩
 simp only [qm,he,zB,hf,qa0,hb,zO,h1 k hk,h2,zH]
theorem RelH.alike {H:Heap} {w:Wd} {st st':StV K} (R:RelH X sz C base st H w) (h1:st'.cells=st.cells) (h2:st'.owns=st.owns) (h3:st'.next=st.next) (h4:st'.known=st.known):RelH X sz C base st' H w:=by
 obtain ⟨t,n,c,o,x,kn⟩:=st
 obtain ⟨t',n',c',o',x',kn'⟩:=st'
 simp only at h1 h2 h3 h4
 subst h1 h2 h3 h4
 exact ⟨R.wf,R.rob,R.g,R.nx,R.b,R.Mlt,R.n,R.one,R.keeps,R.cl,R.cinj,R.cells,R.owns,R.ownn,R.eta,R.einj,R.ce,R.known,R.globs⟩
theorem qsi (ok:CfgOk X sz C) {H:Heap} {w:Wd} {st:StV K} (R:RelH X sz C base st H w) {id:Nat} {ct:Cont Int Bool (List UInt8) Prop (fun c=>List (K c))} (o:O) (hl:look st.cells id=some ct) :
  ∃ w',RelH X sz C base {st with cells:=kk st.cells id} (H.put (w.c id) o) w'/\Le w w':=by
 obtain ⟨hcl,hM,hat⟩:=R.cells id _ hl
 obtain ⟨hid,hnext,hbase⟩:=R.cl id hcl
 let H':=H.put (w.c id) o
 have hget:∀ nm,nm≠w.c id->H'.get nm=H.get nm:=fun nm hn=>k7 hn
 have hle:Le w {w with g:=H'.get}:=by
  refine ⟨⟨zN _,fun nm cs e gen floor frz ex h hM'=>⟨hM',[],gen,frz,ex,?_⟩,fun _ _=>rfl,fun _ _=>rfl,fun _ _ h=>h,fun _ _ _ _ h h'=>(by rw [h] at h';cases h';exact zN _),fun i s hi ho _=>⟨rfl,fun nm hn _=>?_⟩,rfl,fun _ _=>.rfl,zN _,rfl,fun _ _ h=>h,fun _ _=>rfl⟩,fun m hm=>?_,rfl⟩
  .rw [zJ]
   show H'.get nm=_
   rw [hget nm (by intro he;subst he;exact hM' hM),<-R.g]
   exact h
  .show H'.get nm=w.g nm
   rw [R.owns] at ho
   obtain ⟨_,_,hnM⟩:=R.eta i s nm ho hn
   rw [hget nm (by intro he;subst he;exact hnM hM),R.g]
  .show H'.get m=_
   rw [R.g] at hm
   rw [hget m (by intro he;subst he;exact hat.some.1 hm)]
   exact hm
 refine ⟨{w with g:=H'.get},?_,hle⟩
 refine ⟨fun n hn=>?_,R.rob,rfl,R.nx,R.b,R.Mlt,R.n,R.one,R.keeps.put hbase _,R.cl,R.cinj,fun id' ps' h'=>?_,R.owns,R.ownn,R.eta,R.einj,R.ce,R.known,fun gn ps' h'=>?_⟩
 .have hn':H.next<=n:=hn
  rw [hget n (by omega)]
  exact R.wf n hn'
 .simp only [qbm] at h'
  by_cases hi:id'=id
  .rw [zT hi] at h';cases h'
  .rw [zF hi] at h'
   obtain ⟨q1,q2,q5⟩:=R.cells id' ps' h'
   refine ⟨q1,q2,?_⟩
   show kv X sz _ id' _ (H'.get (w.c id'))
   rw [hget _ (by intro he;exact hi (R.cinj id' id q1 hcl he))]
   exact q5.mono ok.len hle (by rw [R.n];exact (R.cl id' q1).1)
 .obtain ⟨q0,vs',e',fl,fz,ex',q1,q2,q3⟩:=R.globs gn ps' h'
  exact ⟨q0,vs',e',fl,fz,ex',q1,q2,q3.mono ok.len hle⟩
theorem qrk (ok:CfgOk X sz C) (iok:qgh X sz C inl) {rd round:Option Nat} {fnE:Nat} {st:StV K} {fr:Fr} {H:Heap} {w:Wd} (hrd:qr1 w rd round) (R:Rel X sz C base st fr H w) (hin:inRound rd st=true)
  {f:Operand} {vf:V} {v:PV K} (ev:opd fr H f=some vf) (rv:Rep X sz w v vf) {r:LRec Int Bool (List UInt8) Prop (fun c=>List (K c))} {params:Array Tmp} {a b:Code}
  (e1:r.tmps=st.tmps) (e2:r.n=st.n) (e3:r.params=params.toList) (e4:r.assign=a) (e5:r.body=b) (e6:r.mode=.ready) {k:Ex->StV K->Prop} (h:qu3 (qj X tbl inv meas) C inl r v st k) :
  Wp C.E fnE round (.rangeFunc f params a b) fr H (qi6 X sz C base w k):=by
 unfold qu3 at h
 split at h
 .rename_i g first cap
  cases rv with
  | @func f' a' c' va vc ha hc h1 h2=>
  obtain ⟨hb,h⟩:=cond_prop h
  obtain ⟨mk,H1,d,w1,he,R1,hle1,hds⟩:∃ mk H1 d w1,qkn round H=some (mk,H1,d)/\RelH X sz C base {st with next:=st.next+1} H1 w1/\Le w w1/\qry base.next w1 (mk++fr.defers):=by
   cases round with
   | none=>
    obtain ⟨w1,R1,hle,hg,hg0⟩:=qra ok R.h
    have hds:=R.ds.mono hle
    refine ⟨[.mark H.next],H.new .dfr,H.next,w1,rfl,R1,hle,fun x hx=>?_,?_,hds.2.2⟩
    .rcases zD.1 hx with rfl | hx
     .refine ⟨H.next,rfl,R.h.keeps.next,?_,hg⟩
      rw [hle.fl,<-R.h.nx]
      exact R.ds.2.2
     .exact hds.1 x hx
    .show (Dfr.mark H.next::fr.defers).Nodup
     rw [List.nodup_cons]
     refine ⟨fun hm=>?_,R.ds.2.1⟩
     obtain ⟨m,h3,_,_,h4⟩:=R.ds.1 _ hm
     cases h3
     rw [hg0] at h4
     cases h4
   | some l=>
    cases rd with
    | none=>exact absurd hrd id
    | some id=>
     obtain ⟨hid,rfl⟩:=hrd
     simp only [inRound] at hin
     split at hin
     .rename_i r' hl
      obtain ⟨_,_,g',_,p2,_⟩:=R.h.cells id _ hl
      obtain ⟨hle,R1⟩:=R.h.ext ok (m:=st.next+1) (nu':=w.nu) (Nat.le_succ _) (fun _ _=>rfl)
      refine ⟨[],H,g'.ld,_,?_,R1,hle,R.ds.mono hle⟩
      simp only [qkn,p2]
      unfold qcc
      split
      .rename_i heq;split at heq<;>cases heq<;>rfl
      .rename_i hno
       exfalso
       split at hno<;>exact hno _ _ _ _ _ _ _ _ rfl
     .cases hin
  let gl:LG:=⟨fr.tmps,fr.n,params.toList,a,b,d⟩
  obtain ⟨w2,R2,hle2,hc2,hlt2⟩:=qf2 ok R1 (ct:=.lp r) (row:=.loop .ready none fr.tmps fr.n params.toList a b d) (lp':=fun i=>if i=st.next+1 then some gl else w1.lp i)
   (fun i hi=>zF (by have:i<st.next+1:=hi;omega)) (fun w' hw hlp=>⟨gl,by rw [hlp];exact zT rfl,by rw [e6];rfl,by rw [e2];exact R.n.symm,e3,e4,e5,fun i p hp=>by
     rw [e1] at hp
     obtain ⟨x,p1,p2⟩:=R.f i p hp
     exact ⟨x,p1,(p2.mono ok.len hle1).mono ok.len hw⟩⟩)
  have hle12:=hle1.trans hle2
  have ry:qh X sz w2 [.yield (st.next+1)] [.func (.yield H1.next) [] []]:=by
   have hy:=Rep.yield (X:=X) (sz:=sz) (w:=w2) (id:=st.next+1) hlt2
   rw [show w2.c (st.next+1)=H1.next from hc2] at hy
   exact .cons hy .nil
  have hra:qh X sz w2 (first++[.yield (st.next+1)]++cap) (va++[.func (.yield H1.next) [] []]++vc):=
   qh.append (qh.append (qh.mono ok.len hle12 (ps:=first) ⟨ha,h1⟩) ry) (qh.mono ok.len hle12 (ps:=cap) ⟨hc,h2⟩)
  refine qzx ev hb he ((iok (.func g) _ _ _ h base _ w2 _ R2 hra).mono fun _ H3 hA=>?_)
  obtain ⟨_,st3,w3,hk,t3,n3,R3,hle3,_⟩:=hA
  unfold q1o at hk
  split at hk
  .rename_i r3 hl3
   obtain ⟨hcl3,hM3,g3,p1,p2,_⟩:=R3.cells _ _ hl3
   have hc3:w3.c (st.next+1)=H1.next:=(hle3.c _ hlt2).trans hc2
   have hro:H3.ro<=H1.next:=by rw [R3.keeps.ro,<-hc3];exact zR R3.rob.1 (R3.cl _ hcl3).2.2
   rw [hc3] at p2
   have fin:∀ (ex:Ex) (o:O),(∀ l,ex≠.goto l)->qbd H3 H1.next=some (ex,H3.put H1.next o)->k ex {st3 with cells:=kk st3.cells (st.next+1),tmps:=st.tmps,n:=st.n}->
     ∃ ex H4,qbd H3 H1.next=some (ex,H4)/\qi6 X sz C base w k ex {fr with defers:=mk++fr.defers} H4:=by
    intro ex o hg he hk
    obtain ⟨w4,R4,hle4⟩:=qsi ok R3 o hl3
    rw [hc3] at R4
    have hle:Le w w4:=hle12.trans (hle3.trans hle4)
    exact ⟨ex,_,he,hg,_,w4,hk,⟨R4.alike rfl rfl rfl rfl,fun i p hp=>by
     obtain ⟨x,p1,p2⟩:=R.f i p hp
     exact ⟨x,p1,p2.mono ok.len hle⟩,R.n,hds.mono (hle2.trans (hle3.trans hle4))⟩,hle⟩
   split at hk
   .rename_i hm
    rw [hm] at p2
    exact fin .normal _ (by simp) (by simp only [qbd,p2,qcc,ju hro,zB,qa3,zH];rfl) hk
   .rename_i hm
    rw [hm] at p2
    exact fin .ret _ (by simp) (by simp only [qbd,p2,qcc,ju hro,zB,qa3,zH];rfl) hk
   .rename_i i hm
    rw [hm] at p2
    exact fin (.exit i) _ (by simp) (by simp only [qbd,p2,qcc,ju hro,zB,qa3,zH];rfl) hk
   .exact absurd hk id
  .exact absurd hk id
 .exact absurd h id
theorem ze (ok:CfgOk X sz C) (ok2:CfgOk2 X C) (tok:qd8 X sz C tbl) (iok:qgh X sz C inl) {rd round:Option Nat} {fn fnE:Nat}:∀ {c:Code} {p:Nat} {st:StV K} {fr:Fr} {H:Heap} {w:Wd} {k:Ex->StV K->Prop},
  qr1 w rd round->Rel X sz C base st fr H w->k6 (qj X tbl inv meas) C inl rd fn p c st k->Wp C.E fnE round c fr H (qi6 X sz C base w k)
 | .skip,p,st,fr,H,w,k,hrd,R,h=>q1e ⟨by simp,st,w,h,R,.refl w⟩
 | .label _,p,st,fr,H,w,k,hrd,R,h=>qzw ⟨by simp,st,w,h,R,.refl w⟩
 | .exit _,p,st,fr,H,w,k,hrd,R,h=>q1c ⟨by simp,st,w,h,R,.refl w⟩
 | .ret,p,st,fr,H,w,k,hrd,R,h=>q2j ⟨by simp,st,w,h,R,.refl w⟩
 | .goto _,p,st,fr,H,w,k,hrd,R,h=>absurd h id
 | .refuse _,p,st,fr,H,w,k,hrd,R,h=>absurd h id
 | .rangeFunc f params a b,p,st,fr,H,w,k,hrd,R,h=>by
  simp only [k6] at h
  obtain ⟨hin,h1⟩:=cond_prop h
  obtain ⟨v,hv,h2⟩:=qa h1
  obtain ⟨vf,ev,rv⟩:=qf R hv
  exact qrk ok iok hrd R hin ev rv rfl rfl rfl rfl rfl rfl h2
 | .cond c a b,p,st,fr,H,w,k,hrd,R,h=>by
  simp only [k6] at h
  split at h
  .rename_i pc hc
   obtain ⟨v,ev,rv⟩:=qf R hc
   obtain ⟨t,rfl⟩:=qvk rv h
   obtain ⟨st1,h1,hn,_,R1⟩:=qm7 R.h rv h
   have R1':=R.q26 ok hn R1 (.refl w)
   refine q1b ev ?_
   cases t with
   | true=>exact ze ok ok2 tok iok hrd R1' h1
   | false=>exact ze ok ok2 tok iok hrd R1' h1
  .exact absurd h id
 | .block id c,p,st,fr,H,w,k,hrd,R,h=>by
  simp only [k6] at h
  refine qzu ((ze ok ok2 tok iok hrd R h).mono fun ex fr' H' hA=>?_)
  obtain ⟨hg,st',w',hk,R',hle⟩:=hA
  cases ex with
  | exit id'=>
   simp only at hk
   simp only [qib]
   cases hb:Nat.beq id' id with
   | true=>
    rw [hb] at hk
    simp only [zO] at hk
    have:=zE hb
    subst this
    exact quf ⟨by simp,st',w',hk,R',hle⟩
   | false=>
    rw [hb] at hk
    simp only [zQ] at hk
    have hne:¬ id'=id:=by
     intro he
     subst he
     simp at hb
    exact qr9 hne ⟨by simp,st',w',hk,R',hle⟩
  | _=>exact ⟨hg,st',w',hk,R',hle⟩
 | .scope c,p,st,fr,H,w,k,hrd,R,h=>by
  simp only [k6] at h
  refine qzy ((ze ok ok2 tok iok hrd R h).mono fun ex fr' H' hA=>⟨hA.1,hA⟩)
 | .region id ops draw,p,st,fr,H,w,k,hrd,R,h=>by
  simp only [k6] at h
  cases draw with
  | true=>
   simp only [zO] at h
   refine qzv ?_
   have m:Mid X sz C base H.next st.next 0 w [] [] st fr H w:=⟨R,.nil,zN _,zN _,fun id _ hc=>(R.h.cl id hc).2.1,fun d hd=>(by cases hd),fun d hd=>(by cases hd),.refl w,_,_,R.h,rfl⟩
   obtain ⟨x,hx,e,st',w',a1,a2,a3⟩:=qgb (b:=Region.before ops) (i:=0) ok ok2 tok iok m R.cm h
   exact ⟨x,hx,by simp,st',w',a1,a2,a3⟩
  | false=>
   simp only [zQ] at h
   refine qxx ((qhf ok ok2 tok iok R h).mono fun ex fr' H' hA=>?_)
   obtain ⟨rfl,st',w',a1,a2,a3⟩:=hA
   exact ⟨by simp,st',w',a1,a2,a3⟩
 | .seq a b,p,st,fr,H,w,k,hrd,R,h=>by
  simp only [k6] at h
  split at h
  .rename_i j slots sees hann
   obtain ⟨rs,hrs,h1⟩:=qa h
   obtain ⟨seen,_,h1⟩:=qa h1
   obtain ⟨ha,hg⟩:=h1
   refine qzz ((Go.E3.Wp.frame (ze ok ok2 tok iok hrd R ha)).mono fun ex fr' H' hA=>?_)
   obtain ⟨⟨hgo,st',w',hk,R',hle⟩,hfr,hnn⟩:=hA
   cases ex with
   | normal=>
    obtain ⟨ns,hinv,_,hh⟩:=qp0 ok ok2 R R' hle hnn hfr hk
    obtain ⟨st1,w1,g1,g2,g3,_⟩:=hh _ hg
    refine (ze ok ok2 tok iok (hrd.mono g3) g2 (g1 hinv)).mono fun ex fr2 H2 hB=>?_
    obtain ⟨q1,st3,w3,q2,q3,q4⟩:=hB
    exact ⟨q1,st3,w3,q2,q3,g3.trans q4⟩
   | _=>exact ⟨hgo,st',w',hk,R',hle⟩
  .refine qzz ((ze ok ok2 tok iok hrd R h).mono fun ex fr' H' hA=>?_)
   obtain ⟨hg,st',w',hk,R',hle⟩:=hA
   cases ex with
   | normal=>
    refine (ze ok ok2 tok iok (hrd.mono hle) R' hk).mono fun ex fr2 H2 hB=>?_
    obtain ⟨q1,st3,w3,q2,q3,q4⟩:=hB
    exact ⟨q1,st3,w3,q2,q3,hle.trans q4⟩
   | _=>exact ⟨hg,st',w',hk,R',hle⟩
 | .loop c,p,st,fr,H,w,k,hrd,R,h=>by
  simp only [k6] at h
  split at h
  .rename_i j slots sees hann
   obtain ⟨Inv,m,h0,hs⟩:=qlr ok ok2 (fun hrd R h=>ze ok ok2 tok iok hrd R h) hrd R h
   exact qmq Inv h0 hs
  .rename_i j slots sees hann
   refine q1d ((ze ok ok2 tok iok hrd R h).mono fun ex fr' H' hA=>?_)
   obtain ⟨hg,st1,w1,hk,R1,hle1⟩:=hA
   cases ex with
   | normal=>
    obtain ⟨Inv,m,h0,hs⟩:=qlr ok ok2 (fun hrd R h=>ze ok ok2 tok iok hrd R h) (hrd.mono hle1) R1 hk
    refine ⟨Inv,m,h0,fun m fr2 H2 hi=>(hs m fr2 H2 hi).mono fun ex fr3 H3 hB=>?_⟩
    cases ex with
    | normal=>exact hB
    | _=>
     obtain ⟨q1,st3,w3,q2,q3,q4⟩:=hB
     exact ⟨q1,st3,w3,q2,q3,hle1.trans q4⟩
   | _=>exact ⟨hg,st1,w1,hk,R1,hle1⟩
  .rename_i n hann
   refine qmq (fun m fr' H'=>∃ st1 w1,qs5 (fun s g=>k6 (qj X tbl inv meas) C inl rd fn (2 * p) c s fun ex st1=>match ex with
    | .normal=>g st1
    | ex=>k ex st1) False m st1/\Rel X sz C base st1 fr' H' w1/\Le w w1) (m:=n) ⟨st,w,h,R,.refl w⟩ ?_
   rintro m fr' H' ⟨st1,w1,hit,R1,hle1⟩
   obtain ⟨m',rfl,hit'⟩:=qut hit
   refine (ze ok ok2 tok iok (hrd.mono hle1) R1 hit').mono fun ex fr2 H2 hA=>?_
   obtain ⟨hg,st2,w2,hk,R2,hle2⟩:=hA
   cases ex with
   | normal=>exact ⟨m',Nat.lt_succ_self _,st2,w2,hk,R2,hle1.trans hle2⟩
   | _=>exact ⟨hg,st2,w2,hk,R2,hle1.trans hle2⟩
  .exact absurd h id
end
end Go.E3
/- E3: FUNCTIONS against E2's: what the conditions of a function show. -/
namespace Go.E3
open Go Go.E2
variable {K:Nat->Type}
def zo:List (PV K)->List (PV K)->List (Nat×Nat)
 | .list _ _ (some (i,_))::ps,.list _ _ (some (j,_))::rs=>(j,i)::zo ps rs
 | _::ps,_::rs=>zo ps rs
 | _,_=>[]
def RT:PV K->Prop
 | .sb id _ b pt pf=>id=0/\(pt↔b=true)/\(pf↔b=false)
 | .int _ l _=>l=none
 | .list _ _ (some (_,s))=>s=0
 | _=>True
section
variable {X:Codecs K} {sz:Nat->Nat} {C:Cfg Int Bool (List UInt8) Prop (fun c=>List (K c))} {base H:Heap} {st:StV K} {w:Wd}
variable {tbl:Tbl K} {inv:Nat->List (NV K)->Prop} {meas:Nat->List (NV K)->Nat} {inl:Inl Int Bool (List UInt8) Prop (fun c=>List (K c))}
theorem qep {fr:Fr} (R:RelH X sz C base st H w) (F:qr2 X sz w st.tmps fr):∀ {rs:List ResultVar} {ps:List (PV K)},qde (qj X tbl inv meas) C st rs=some ps->∃ vs,zk C.E fr H rs=some vs/\qh X sz w ps vs
 | [],ps,h=>by
  simp only [qde,zS] at h
  subst h
  exact ⟨[],rfl,.nil⟩
 | .tmp t::rs,ps,h=>by
  simp only [qde] at h
  obtain ⟨p,h1,h2⟩:=zI.1 h
  obtain ⟨qs,h3,rfl⟩:=zM.1 h2
  obtain ⟨v,e1,r1⟩:=F t p h1
  obtain ⟨vs,e2,r2⟩:=qep R F h3
  exact ⟨v::vs,by simp only [zk,e1,zB,e2,zH],.cons r1 r2⟩
 | .cell a t::rs,ps,h=>by
  simp only [qde] at h
  obtain ⟨ti,h0,h1⟩:=zI.1 h
  obtain ⟨pa,h2,h3⟩:=zI.1 h1
  obtain ⟨p,h4,h5⟩:=zI.1 h3
  obtain ⟨qs,h6,rfl⟩:=zM.1 h5
  obtain ⟨va,e1,r1⟩:=F a pa h2
  obtain ⟨nm,gn,off,lim,rfl,_,hl,_⟩:=qel R r1 h4
  obtain ⟨u,hu,ru⟩:=hl H rfl
  obtain ⟨vs,e2,r2⟩:=qep R F h6
  exact ⟨u::vs,by simp only [zk,h0,e1,hu,zB,e2,zH],.cons ru r2⟩
theorem qxk {ps:List (PV K)} {vs:List V} (r:qh X sz w ps vs):Rep X sz w (quv ps) (oneOf vs):=by
 match ps,r with
 | [],r=>rw [r.qx];exact .undef
 | [p],r=>
  obtain ⟨v,vs',rfl,r1,r2⟩:=r.qp
  have:=r2.qx;subst this
  exact r1
 | p::q::ps,r=>
  obtain ⟨v,vs',rfl,r1,r2⟩:=r.qp
  obtain ⟨u,vs'',rfl,r3,r4⟩:=r2.qp
  exact .tuple' (.cons r1 (.cons r3 r4))
theorem qi2 (ok:CfgOk X sz C) {base H:Heap}:∀ {ps:List (PV K)} {vs:List V} {st:StV K} {w:Wd} {k:List (PV K)->StV K->Prop},RelH X sz C base st H w->qh X sz w ps vs->qvb (qj X tbl inv meas) ps st k->
  ∃ qs st' w',k qs st'/\RelH X sz C base st' H w'/\Le w w'/\qh X sz w' qs vs
 | [],vs,st,w,k,R,r,h=>⟨[],st,w,h,R,.refl w,r⟩
 | p::ps,vs,st,w,k,R,r,h=>by
  obtain ⟨v,vs',rfl,r1,r2⟩:=r.qp
  by_cases hmm:∃ id c n,p=.mlist id c n
  .obtain ⟨id,c,n,rfl⟩:=hmm
   simp only [qvb] at h
   obtain ⟨l,hl,hn,h⟩:=qa h
   have hn:n=(l.length:Int):=hn
   have hl:=qcv hl
   cases r1 with
   | mlist hi h0 hz=>
    obtain ⟨w1,R1,hle1,hn1,hg1,hrep⟩:=qjn ok R hl hz
    have hB:Bump {st with cells:=kk st.cells id} {st with cells:=kk st.cells id,owns:=(st.next,0)::st.owns,next:=st.next+1} st.next 0:=by
     have hnone:look st.owns st.next=none:=by
      cases hl:look st.owns st.next with
      | none=>rfl
      | some g=>have:=R.ownn _ _ hl;omega
     exact ⟨rfl,rfl,rfl,rfl,fun j=>kr,Nat.le_succ _,Nat.lt_succ_self _,fun g hg=>(by have hg:look st.owns st.next=some g:=hg;rw [hnone] at hg;cases hg),fun _=>zN _⟩
    obtain ⟨w2,R2,hle2,ow,et,hn2,_⟩:=qi0 (named:=false) ok R1 hB (by simp)
    have rl:=(hrep none trivial).mono ok.len hle2
    have ho:qfn w2 sz c (some (st.next,0)) (.slice (w.c id) 0 0 l.length (sz c) (some l.length)):=
     ⟨by rw [hn2];exact Nat.lt_succ_self _,fun cur hc'=>(by rw [ow] at hc';cases hc';exact zN _),fun _=>.inl rfl,fun h=>by cases h⟩
    have rl2:Rep X sz w2 (.list c l (some (st.next,0))) (.slice (w.c id) 0 0 l.length (sz c) (some l.length)):=by
     cases rl with
     | list hg hf hM hlen hb hz hcap hc _=>exact .list hg hf hM hlen hb hz hcap hc ho
    have hnn:n.toNat=l.length:=by omega
    obtain ⟨qs,st',w',a1,a2,a3,a4⟩:=qi2 ok R2 ((r2.mono ok.len hle1).mono ok.len hle2) h
    refine ⟨_,st',w',a1,a2,(hle1.trans hle2).trans a3,.cons ?_ a4⟩
    rw [hnn]
    exact rl2.mono ok.len a3
  .have hml':∀ id c n,p=.mlist id c n->False:=fun id c n he=>hmm ⟨id,c,n,he⟩
   simp only [qvb] at h
   obtain ⟨qs,st',w',a1,a2,a3,a4⟩:=qi2 ok R r2 h
   exact ⟨_,st',w',a1,a2,a3,.cons (r1.mono ok.len a3) a4⟩
theorem qya {X:Codecs K}:(X.u8 ▸ ([]:List (K 0)):List UInt8)=[]:=by
 rw [qhh]
 rfl
theorem qtk (ok:CfgOk X sz C) (pok:qx1 C) {f:Nat} (hf:C.prim f=true) {args:List (PV K)} {st:StV K} {k:PV K->StV K->Prop} (h:qzk (qj X tbl inv meas) args st k) {base H:Heap} {w:Wd} {vs:List V}
  (R:RelH X sz C base st H w) (ra:qh X sz w args vs):j7 C.E (.func f) vs H fun v H'=>∃ p st' w',k p st'/\st'.tmps=st.tmps/\st'.n=st.n/\RelH X sz C base st' H' w'/\Le w w'/\Rep X sz w' p v:=by
 unfold qzk at h
 split at h
 .rename_i id off lim
  obtain ⟨a,us,rfl,r1,r2⟩:=ra.qp
  have:=r2.qx;subst this
  obtain ⟨cs,hcs,h1⟩:=qa h
  clear h
  obtain ⟨hcl,hMc,vs,e,ex,hg,_,hr⟩:=R.cells id _ (qbv hcs)
  have hr:qh X sz w cs vs:=hr
  cases r1 with
  | cell hid=>
   obtain ⟨hb,h2⟩:=cond_prop h1
   clear h1
   simp only [zA,Nat.ble_eq] at hb
   obtain ⟨hb1,hb2⟩:=hb
   have hb2':lim<=vs.length:=by rw [<-hr.1];exact hb2
   obtain ⟨pk1,pk2⟩:=pok f hf H (w.c id) off lim vs e ex R.wf hg hb1 hb2'
   have hget:∀ q,cs[off+1]? = some q->∃ u,vs[off+1]? = some u/\Rep X sz w q u:=fun q hq=>hr.get hq
   split at h2
   .rename_i hq
    obtain ⟨u,hu,ru⟩:=hget _ hq
    cases ru
    refine (pk1 hu).mono fun v H' hA=>?_
    obtain ⟨rfl,rfl⟩:=hA
    exact ⟨_,st,w,h2,rfl,rfl,R,.refl w,.str⟩
   .rename_i c l i s hq
    split at h2
    .rename_i hc
     subst hc
     obtain ⟨ho,h3,h4⟩:=cond_prop h2
     clear h2
     simp only [zA] at ho
     have hodd:=zE ho.2
     have hlook:=qn4 R.owns ho.1
     obtain ⟨u,hu,ru⟩:=hget _ hq
     have hlk:look st.owns i=some s:=by rw [<-R.owns];exact hlook
     have hs1:sz 0=1:=by rw [<-ok.len 0 (X.dflt 0),ok.u8];rfl
     obtain ⟨ru0,ro⟩:=ru.qzr
     have hnb:=ro.2.2.2 hodd
     have hov:=ro.2.2.1 hlook
     rcases zl ru with ⟨rfl,rfl⟩ | ⟨nm,gn,o2,z,cap,cells,el,gen,floor,frz,eb,rfl,hgn,hf2,hM2,hlen,hzz,hcap,hcell,_⟩
     .refine (pk1 hu).mono fun v H' hA=>?_
      obtain ⟨rfl,rfl⟩:=hA
      have e0:(qj X tbl inv meas).bstr ([]:List (K 0))=[]:=qya (X:=X)
      have h4':k (.str ((qj X tbl inv meas).bstr ([]:List (K 0)))) {st with owns:=kk st.owns i}:=h4
      rw [e0] at h4'
      obtain ⟨w',R',hle⟩:=quk ok R i
      exact ⟨_,_,w',h4',rfl,rfl,R',hle,.str⟩
     .obtain ⟨rfl,rfl,hpos⟩:=hnb
      simp only [qmf] at hov
      obtain rfl:z=sz 0:=by
       rcases hzz.2 with h | ⟨_,_,h⟩
       .exact h
       .cases h
      rcases hov with hov | ⟨_,het,cells',el',floor',frz',eb',hg',htop,hfrz,hce⟩
      .cases hov
      .rw [hgn] at hg'
       cases hg'
       rw [R.g] at hgn
       rw [hs1] at htop hlen hu
       obtain ⟨hbase,hnext,hnM⟩:=R.eta i s nm hlk het
       obtain ⟨ecs,ee1,ee2⟩:=qda ok.len R.g ru0 (by rw [hs1];exact Nat.one_pos)
       rw [<-qll,qho hzz] at ee1
       rw [hs1] at ee1
       have hecs:ecs=cells:=by
        have b1:Nat.ble floor gn=true:=by rw [Nat.ble_eq];exact hf2
        have b2:Nat.ble (0+l.length * 1) (0+l.length * 1)=true:=by rw [Nat.ble_eq];exact zN _
        have b3:Nat.ble (0+l.length * 1) cells.length=true:=by rw [Nat.ble_eq];exact hlen
        simp only [qz,V.qfg,je,Nat.beq_refl,zO,ku,hgn,b1,b2,b3,Bool.and_self,zM,zP,true_and] at ee1
        obtain ⟨_,ee1,rfl⟩:=ee1
        obtain ⟨rfl,_⟩:=qf3 ee1
        rw [List.drop_zero,List.take_of_length_le]
        omega
       subst hecs
       have hbytes:=qgp ok ee2
       have hle':l.length<=140737488355328:=by
        have:(l.length:Int)<=140737488355328:=h3
        omega
       refine (pk2 nm gn l.length ecs el floor frz eb _ hu hgn (by omega) hf2 hpos hle' (by rw [<-R.ce];exact hce) hbytes ee2.qn9 (by rw [R.keeps.ro];exact zR R.rob.1 hbase) (fun he=>hnM (by rw [he];exact hMc))).mono fun v H' hA=>?_
       obtain ⟨rfl,rfl⟩:=hA
       obtain ⟨w',R',hle⟩:=qu6 ok R hlk het (max frz l.length) hgn
       exact ⟨_,_,w',h4,rfl,rfl,R',hle,.str⟩
    .exact h2.elim
   .exact h2.elim
 .exact h.elim
theorem LeB.qge (w:Wd) (x:Nat):LeB w {w with fl:=x}:=
 have h:=LeB.refl w
 ⟨h.n,h.mem,h.c,h.nu,h.o1,h.o2,h.o3,h.ce,h.cl,h.nx,h.b,h.Mu,h.lp⟩
theorem RelH.qge (ok:CfgOk X sz C) (R:RelH X sz C base st H w) (x:Nat):RelH X sz C base st H {w with fl:=x}:=
 ⟨R.wf,R.rob,R.g,R.nx,R.b,R.Mlt,R.n,R.one,R.keeps,R.cl,R.cinj,fun id ct h=>by
  obtain ⟨a,b,c⟩:=R.cells id ct h
  exact ⟨a,b,c.qao ok.len (LeB.qge w x) (by rw [R.n];exact (R.cl id a).1)⟩,R.owns,R.ownn,R.eta,R.einj,R.ce,R.known,fun gn ps h=>by
  obtain ⟨q0,vs',e',fl,fz,ex',q1,q2,q3⟩:=R.globs gn ps h
  exact ⟨q0,vs',e',fl,fz,ex',q1,q2,q3.qao ok.len (LeB.qge w x)⟩⟩
theorem qlx (ok:CfgOk X sz C) {F:Nat}:∀ {ds:List Dfr} {H:Heap} {w:Wd},RelH X sz C base st H w->(∀ x ∈ ds,∃ m,x=.mark m/\base.next<=m/\F<=m/\w.g m=some .dfr)->ds.Nodup->
  ∃ H'' w2,qah ds H=some H''/\RelH X sz C base st H'' w2/\LeB w w2/\w2.fl=w.fl/\∀ m,m<F->w2.g m=w.g m
 | [],H,w,R,_,_=>⟨H,w,rfl,R,.refl w,rfl,fun _ _=>rfl⟩
 | x::ds,H,w,R,hd,hn=>by
  obtain ⟨m,rfl,hb,hF,hg⟩:=hd x zC
  rw [List.nodup_cons] at hn
  let H1:=H.put m .gone
  let w1:Wd:={w with g:=H1.get}
  have hgH:H.get m=some .dfr:=by rw [<-R.g];exact hg
  have hget:∀ nm,nm≠m->H1.get nm=H.get nm:=fun nm hn=>k7 hn
  have hlt:m<H.next:=by
   by_cases h:m<H.next
   .exact h
   .rw [R.wf m (by omega)] at hgH;cases hgH
  have hle:LeB w w1:=by
   refine ⟨zN _,fun nm cs e gen floor frz ex h hM'=>⟨hM',[],gen,frz,ex,?_⟩,fun _ _=>rfl,fun _ _=>rfl,fun _ _ h=>h,fun _ _ _ _ h h'=>(by rw [h] at h';cases h';exact zN _),fun i s hi ho _=>⟨rfl,fun nm hn hne=>?_⟩,rfl,fun _ _=>.rfl,zN _,rfl,fun _ _ h=>h,fun _ _=>rfl⟩
   .rw [zJ]
    show H1.get nm=_
    rw [hget nm (by intro he;subst he;rw [hg] at h;cases h),<-R.g]
    exact h
   .show H1.get nm=w.g nm
    rw [hget nm (by intro he;subst he;exact hne hg),R.g]
  have R1:RelH X sz C base st H1 w1:=by
   refine ⟨fun n hn=>?_,R.rob,rfl,R.nx,R.b,R.Mlt,R.n,R.one,R.keeps.put hb _,R.cl,R.cinj,fun id' ps' h'=>?_,R.owns,R.ownn,R.eta,R.einj,R.ce,R.known,fun gn ps' h'=>?_⟩
   .have hn':H.next<=n:=hn
    rw [hget n (by omega)]
    exact R.wf n hn'
   .obtain ⟨q1,q2,q5⟩:=R.cells id' ps' h'
    refine ⟨q1,q2,?_⟩
    show kv X sz w1 id' _ (H1.get (w.c id'))
    rw [hget _ (by intro he;rw [he] at q5;exact q5.some.1 hgH)]
    exact q5.qao ok.len hle (by rw [R.n];exact (R.cl id' q1).1)
   .obtain ⟨q0,vs',e',fl,fz,ex',q1,q2,q3⟩:=R.globs gn ps' h'
    exact ⟨q0,vs',e',fl,fz,ex',q1,q2,q3.qao ok.len hle⟩
  obtain ⟨H'',w2,a1,a2,a3,a4,a5⟩:=qlx ok R1 (fun x hx=>by
   obtain ⟨m',h1,h2,h3,h4⟩:=hd x (zG _ hx)
   refine ⟨m',h1,h2,h3,?_⟩
   show H1.get m'=_
   rw [hget m' (by intro he;subst he;subst h1;exact hn.1 hx),<-R.g]
   exact h4) hn.2
  refine ⟨H'',w2,?_,a2,hle.trans a3,a4,fun m' hm'=>?_⟩
  .simp only [qah,hgH,ju (show H.ro<=m by rw [R.keeps.ro];exact zR R.rob.1 hb),zB]
   exact a1
  .rw [a5 m' hm']
   show H1.get m'=w.g m'
   rw [hget m' (by omega),R.g]
theorem Le.leave {w w1 w2 w3:Wd} (hwf:∀ n,w.nx<=n->w.g n=none) (h1:Le {w with fl:=w.nx} w1) (h2:LeB w1 w2) (hold:∀ m,m<w.nx->w2.g m=w1.g m) (h3:Le w2 w3):Le w {w3 with fl:=w.fl}:=by
 have h:=h1.toLeB.trans (h2.trans h3.toLeB)
 refine ⟨⟨h.n,h.mem,h.c,h.nu,h.o1,h.o2,h.o3,h.ce,h.cl,h.nx,h.b,h.Mu,h.lp⟩,fun m hm=>?_,rfl⟩
 have hlt:m<w.nx:=by
  by_cases hlt:m<w.nx
  .exact hlt
  .rw [hwf m (by omega)] at hm;cases hm
 refine h3.df m ?_
 rw [hold m hlt]
 exact h1.df m hm
theorem qab {n:Nat}:∀ {ps:List Tmp} {args:List (PV K)} {vs:List V} {t t':Tree (PV K)} {lt:Tree V},qh X sz w args vs->(∀ i p,t.get i=some p->∃ v,lt.get i=some v/\Rep X sz w p v)->qbr n ps args t=some t'->
  ∃ lt',qai n ps vs lt=some lt'/\∀ i p,t'.get i=some p->∃ v,lt'.get i=some v/\Rep X sz w p v
 | [],[],vs,t,t',lt,r,ht,h=>by
  have:=r.qx;subst this
  simp only [qbr,zS] at h
  subst h
  exact ⟨lt,rfl,ht⟩
 | [],_::_,vs,t,t',lt,r,ht,h=>by simp [qbr] at h
 | _::_,[],vs,t,t',lt,r,ht,h=>by simp [qbr] at h
 | p::ps,a::args,vs,t,t',lt,r,ht,h=>by
  obtain ⟨v,vs',rfl,r1,r2⟩:=r.qp
  simp only [qbr] at h
  rcases qt h with ⟨_,h1⟩ | ⟨hb,h1⟩
  .cases h1
  .obtain ⟨lt',e1,e2⟩:=qab (lt:=lt.set p v) r2 (fun i q hq=>by
    rw [Tree.zc] at hq ⊢
    by_cases hi:i=p
    .rw [zT hi] at hq ⊢
     cases hq
     exact ⟨v,rfl,r1⟩
    .rw [zF hi] at hq ⊢
     exact ht i q hq) h1
   refine ⟨lt',?_,e2⟩
   simp only [qai,hb,zO]
   exact e1
theorem qsd {E:Env} {l:Nat} {args:List V} {H:Heap} {Q:V->Heap->Prop} {st:LoopState} {p:Option Code} {lt t:Tree V} {ln ld:Nat} {lp:List Tmp} {la lb:Code} (hl:H.get l=some (.loop st p lt ln lp la lb ld)) (hp:qai ln lp args lt=some t)
  (h:Wp E 0 (some l) la {tmps:=t,n:=ln,defers:=[]} H fun ex fr H1=>ex=.normal/\∃ H2,qm5 H1 l=some H2/\Wp E 0 (some l) lb fr H2 fun ex' fr' H3=>∃ v H4,qg9 l (ex',fr',H3)=some (.ret v,H4)/\Q v H4):j7 E (.round l) args H Q:=by
 obtain ⟨⟨ex,fr,H1⟩,⟨k0,h1⟩,h0,H2,hb,⟨x,⟨k1,h2⟩,v,H4,h3,h4⟩⟩:=h
 simp only at h0
 subst h0
 refine ⟨v,H4,⟨max k0 k1+1,fun k hk=>?_⟩,h4⟩
 obtain ⟨k,rfl⟩:∃ g,k=g+1:=⟨k-1,by omega⟩
 simp only [zx,hl,hp,zB,h1 k (by omega)]
 simp only at hb
 rw [hb]
 simp only [zB]
 simp only at h2
 rw [h2 k (by omega)]
 simp only [zB]
 exact h3
theorem qpl (ok:CfgOk X sz C) (ok2:CfgOk2 X C) (tok:qd8 X sz C tbl) (iok:qgh X sz C inl) {id:Nat} {args:List (PV K)} {st:StV K} {k:PV K->StV K->Prop} (h:qrw (qj X tbl inv meas) C inl id args st k) {base H:Heap} {w:Wd} {vs:List V}
  (R:RelH X sz C base st H w) (ra:qh X sz w args vs):j7 C.E (.round (w.c id)) vs H fun v H'=>∃ p st' w',k p st'/\st'.tmps=st.tmps/\st'.n=st.n/\RelH X sz C base st' H' w'/\Le w w'/\Rep X sz w' p v:=by
 unfold qrw at h
 split at h
 .rename_i r hl
  split at h
  .rename_i hm
   obtain ⟨t,ht,h1⟩:=qa h
   obtain ⟨hcl,hM,g,p1,p2,p3,p4,p5,p6,p7⟩:=R.cells id _ hl
   obtain ⟨hid,hnext,hbase⟩:=R.cl id hcl
   have hidn:id<w.n:=by rw [R.n];exact hid
   rw [hm] at p2
   let w0:Wd:={w with fl:=w.nx}
   have R0:RelH X sz C base st H w0:=R.qge ok w.nx
   have ra0:qh X sz w0 args vs:=ra.qao ok.len (LeB.qge w w.nx)
   rw [p3,p4] at ht
   obtain ⟨lt',e1,e2⟩:=qab (lt:=g.lt) ra0 (fun i p hp=>by
    obtain ⟨v,a,b⟩:=p7 i p hp
    exact ⟨v,a,b.qao ok.len (LeB.qge w w.nx)⟩) ht
   have F0:Rel X sz C base {st with tmps:=t,n:=r.n} {tmps:=lt',n:=g.ln,defers:=[]} H w0:=⟨R0.alike rfl rfl rfl rfl,e2,p3.symm,.nil (zN _)⟩
   have hrd:qr1 w0 (some id) (some (w.c id)):=⟨hidn,rfl⟩
   refine qsd (l:=w.c id) (t:=lt') (by rw [p2];rfl) e1 ?_
   rw [<-p5]
   refine (ze (fnE:=0) ok ok2 tok iok hrd F0 h1).mono fun ex fr1 H1 hA=>?_
   obtain ⟨_,st1,w1,hk,F1,hle1⟩:=hA
   cases ex with
   | normal=>
    refine ⟨rfl,?_⟩
    simp only at hk
    split at hk
    .rename_i r1 hl1
     split at hk
     .rename_i hm1
      obtain ⟨hcl1,hM1,g1,q1,q2,_⟩:=F1.h.cells id _ hl1
      have hc1:w1.c id=w.c id:=hle1.c id hidn
      have hg1:g1=g:=by
       have:w1.lp id=w.lp id:=hle1.lp id hidn
       rw [this,p1] at q1
       exact (Option.some.inj q1).symm
      subst hg1
      rw [hc1,hm1] at q2
      have hro1:H1.ro<=w.c id:=by rw [F1.h.keeps.ro,<-hc1];exact zR F1.h.rob.1 (F1.h.cl _ hcl1).2.2
      have hT1:∀ i p,r.tmps.get i=some p->∃ v,g1.lt.get i=some v/\Rep X sz w1 p v:=fun i p hp=>by
       obtain ⟨v,a,b⟩:=p7 i p hp
       exact ⟨v,a,(b.qao ok.len (LeB.qge w w.nx)).mono ok.len hle1⟩
      obtain ⟨w2,R2,hle2⟩:=qf7 ok F1.h (ct':=.lp {r with mode:=.busy}) (o:=qcc g1 .busy) hl1 ⟨g1,q1,rfl,p3,p4,p5,p6,hT1⟩
      rw [hc1] at R2
      have hle02:=hle1.trans hle2
      refine ⟨H1.put (w.c id) (qcc g1 .busy),?_,?_⟩
      .simp only [qm5,q2,qcc]
       exact ju hro1
      have F2:Rel X sz C base {st1 with cells:=qcy st1.cells id (.lp {r with mode:=.busy})} fr1 (H1.put (w.c id) (qcc g1 .busy)) w2:=⟨R2,fun i p hp=>by
       obtain ⟨x,a,b⟩:=F1.f i p hp
       exact ⟨x,a,b.mono ok.len hle2⟩,F1.n,F1.ds.mono hle2⟩
      rw [<-p6]
      refine (ze (fnE:=0) ok ok2 tok iok (hrd.mono hle02) F2 hk).mono fun ex fr3 H3 hB=>?_
      obtain ⟨_,st3,w3,hk3,F3,hle3⟩:=hB
      split at hk3
      .rename_i r3 hl3
       obtain ⟨hcl3,hM3,g3,u1,u2,_⟩:=F3.h.cells id _ hl3
       have hle03:=hle02.trans hle3
       have hc3:w3.c id=w.c id:=hle03.c id hidn
       have hg3:g3=g1:=by
        have:w3.lp id=w.lp id:=hle03.lp id hidn
        rw [this,p1] at u1
        exact (Option.some.inj u1).symm
       subst hg3
       rw [hc3] at u2
       have hro3:H3.ro<=w.c id:=by rw [F3.h.keeps.ro,<-hc3];exact zR F3.h.rob.1 (F3.h.cl _ hcl3).2.2
       have hT3:∀ i p,r.tmps.get i=some p->∃ v,g3.lt.get i=some v/\Rep X sz w3 p v:=fun i p hp=>by
        obtain ⟨v,a,b⟩:=hT1 i p hp
        exact ⟨v,a,(b.mono ok.len hle2).mono ok.len hle3⟩
       have hend:∀ (jump:Option Code),qcn H3 (w.c id) jump=some (.ret (.bool jump.isNone),H3.put (w.c id) (.loop (if jump.isNone then .ready else .done) jump g3.lt g3.ln g3.lp g3.la g3.lb g3.ld)):=by
        intro jump
        simp only [qcn,u2]
        cases r3.mode with
        | done x=>cases x<;>simp only [qcc,ju hro3,zH]
        | _=>simp only [qcc,ju hro3,zH]
       have fin:∀ (md:LMode) (b:Bool) (ex:Ex),qg9 (w.c id) (ex,fr3,H3)=some (.ret (.bool b),H3.put (w.c id) (qcc g3 md))->k (.lit b) {st3 with cells:=qcy st3.cells id (.lp {r with mode:=md}),tmps:=st.tmps,n:=st.n}->
         ∃ v H4,qg9 (w.c id) (ex,fr3,H3)=some (.ret v,H4)/\∃ p st' w',k p st'/\st'.tmps=st.tmps/\st'.n=st.n/\RelH X sz C base st' H4 w'/\Le w w'/\Rep X sz w' p v:=by
        intro md b ex he hk
        obtain ⟨w4,R4,hle4⟩:=qf7 ok F3.h (ct':=.lp {r with mode:=md}) (o:=qcc g3 md) hl3 ⟨g3,u1,rfl,p3,p4,p5,p6,hT3⟩
        rw [hc3] at R4
        have hfin:Le w {w4 with fl:=w.fl}:=Le.leave (fun n hn=>by rw [R.g];exact R.wf n (by rw [<-R.nx];exact hn)) (hle03.trans hle4) (.refl w4) (fun _ _=>rfl) (.refl w4)
        exact ⟨_,_,he,_,_,{w4 with fl:=w.fl},hk,rfl,rfl,(R4.qge ok w.fl).alike rfl rfl rfl rfl,hfin,.lit⟩
       cases ex with
       | normal=>exact fin .ready true .normal (hend none) hk3
       | ret=>exact fin (.done none) false .ret (hend (some .ret)) hk3
       | exit i=>exact fin (.done (some i)) false (.exit i) (hend (some (.exit i))) hk3
       | _=>exact (show False from hk3).elim
      .exact (show False from hk3).elim
     .exact (show False from hk).elim
    .exact (show False from hk).elim
   | _=>exact (show False from hk).elim
  .exact (show False from h).elim
 .exact (show False from h).elim
theorem qg4 {α:Type} {p:Nat->Bool}:∀ {l:List (Nat×α)} {n:Nat} {a:α},look (l.filter fun x=>p x.1) n=some a->look l n=some a
 | [],_,_,h=>by cases h
 | (i,b)::l,n,a,h=>by
  rw [List.filter_cons] at h
  by_cases hn:i=n
  .subst hn
   cases hp:p i with
   | true=>simp only [hp,if_true,look,Nat.beq_refl,zO] at h ⊢;exact h
   | false=>
    exfalso
    simp only [hp,Bool.false_eq_true,if_false] at h
    have hm:=qdd h
    rw [List.mem_filter] at hm
    have:=hm.2
    rw [hp] at this
    cases this
  .have hb:Nat.beq i n=false:=by rw [<-Bool.not_eq_true,Nat.beq_eq];exact hn
   simp only [look,hb,zQ]
   cases hp:p i with
   | true=>simp only [hp,if_true,look,hb,zQ] at h;exact qg4 h
   | false=>simp only [hp,Bool.false_eq_true,if_false] at h;exact qg4 h
theorem qyk {lo:Nat} {vs:List (PV K)} {cells:List (Nat×Cont Int Bool (List UInt8) Prop (fun c=>List (K c)))} {id:Nat} {ct:Cont Int Bool (List UInt8) Prop (fun c=>List (K c))} (h:look (gcC lo vs cells) id=some ct):look cells id=some ct:=by
 unfold gcC at h
 rw [cond_eq_ite] at h
 split at h
 .exact h
 .exact qg4 (p:=fun i=>!Nat.ble lo i || (qun lo cells 3 ((ql2 vs++cells.flatMap fun x=>bif Nat.ble lo x.1 then [] else x.2.refs).filter (Nat.ble lo))).any (Nat.beq i)) h
theorem RelH.q2o (R:RelH X sz C base st H w) {cs:List (Nat×Cont Int Bool (List UInt8) Prop (fun c=>List (K c)))} (h:∀ {id ct},look cs id=some ct->look st.cells id=some ct):RelH X sz C base {st with cells:=cs} H w:=
 ⟨R.wf,R.rob,R.g,R.nx,R.b,R.Mlt,R.n,R.one,R.keeps,R.cl,R.cinj,fun id ct hl=>R.cells id ct (h hl),R.owns,R.ownn,R.eta,R.einj,R.ce,R.known,R.globs⟩
theorem qkc (ok:CfgOk X sz C) (ok2:CfgOk2 X C) (tok:qd8 X sz C tbl) (hq:qb4 C) (iok:qgh X sz C inl) {f:Nat} {args:List (PV K)} {st:StV K} {k:PV K->StV K->Prop} (h:qrv (qj X tbl inv meas) C inl f args st k) {base H:Heap} {w:Wd} {vs:List V}
  (R:RelH X sz C base st H w) (ra:qh X sz w args vs):j7 C.E (.func f) vs H fun v H'=>∃ p st' w',k p st'/\st'.tmps=st.tmps/\st'.n=st.n/\RelH X sz C base st' H' w'/\Le w w'/\Rep X sz w' p v:=by
 unfold qrv at h
 cases hans:C.ans f with
 | true=>rw [hans] at h;exact absurd h id
 | false=>
  rw [hans] at h
  simp only [zQ] at h
  have hs:=hq.1 f hans
  cases hprim:C.prim f with
  | true=>
   rw [hprim] at h
   simp only [zO] at h
   exact qtk ok hq.2 hprim h R ra
  | false=>
  rw [hprim] at h
  simp only [zQ] at h
  split at h
  .rename_i fi hfi
   split at h
   .rename_i c hc
    have ra0:qh X sz {w with fl:=w.nx} args vs:=ra.qao ok.len (LeB.qge w w.nx)
    have R1:Rel X sz C base {st with tmps:=Tree.ofList args,n:=max args.length fi.ntmps} {tmps:=qbt vs,n:=max vs.length fi.ntmps,defers:=[]} H {w with fl:=w.nx}:=by
     refine ⟨(R.qge ok w.nx).alike rfl rfl rfl rfl,fun i p hp=>?_,by rw [ra.1],.nil (zN _)⟩
     have hp':(Tree.ofList args).get i=some p:=hp
     rw [Tree.qil] at hp'
     obtain ⟨v,h1,h2⟩:=ra0.get hp'
     exact ⟨v,qwx h1,h2⟩
    refine quh hs hfi hc ((ze (rd:=none) (round:=none) ok ok2 tok iok trivial R1 h).mono fun ex fr' H' hA=>?_)
    obtain ⟨_,st1,w1,hk,R2,hle⟩:=hA
    have key:onS False (qde (qj X tbl inv meas) C st1 fi.results) (fun vs=>qvb (qj X tbl inv meas) vs st1 fun vs st2=>k (quv vs) {st2 with tmps:=st.tmps,n:=st.n,cells:=gcC st.next vs st2.cells})->∃ H'',qah fr'.defers H'=some H''/\∃ vs,zk C.E fr' H'' fi.results=some vs/\∃ p st' w',k p st'/\st'.tmps=st.tmps/\st'.n=st.n/\RelH X sz C base st' H'' w'/\Le w w'/\Rep X sz w' p (oneOf vs):=by
     intro hm
     obtain ⟨qs,hps,hm⟩:=qa hm
     obtain ⟨H'',w2,hmk,R3,hB,hfl,hold⟩:=qlx ok R2.h (F:=w.nx) (fun x hx=>by
      obtain ⟨m,a1,a2,a3,a4⟩:=R2.ds.1 x hx
      exact ⟨m,a1,a2,by rw [hle.fl] at a3;exact a3,a4⟩) R2.ds.2.1
     obtain ⟨us,e1,e2⟩:=qep (fr:=fr') R3 (fun i p hp=>by
      obtain ⟨v,h1,h2⟩:=R2.f i p hp
      exact ⟨v,h1,h2.qao ok.len hB⟩) hps
     obtain ⟨qs',st2,w3,hm,R4,hle3,e3⟩:=qi2 ok R3 e2 hm
     have hfin:Le w {w3 with fl:=w.fl}:=Le.leave (fun n hn=>by rw [R.g];exact R.wf n (by rw [<-R.nx];exact hn)) hle hB hold hle3
     exact ⟨H'',hmk,us,e1,_,_,{w3 with fl:=w.fl},hm,rfl,rfl,((R4.qge ok w.fl).q2o (cs:=gcC st.next qs' st2.cells) qyk).alike rfl rfl rfl rfl,hfin,qxk (e3.qao ok.len (LeB.qge w3 w.fl))⟩
    cases ex with
    | normal=>exact ⟨.inl rfl,key hk⟩
    | ret=>exact ⟨.inr rfl,key hk⟩
    | _=>exact absurd hk id
   .rename_i hc
    split at h
    .rename_i x hext
     obtain ⟨v,vs',rfl,r1,r2⟩:=ra.qp
     have:=r2.qx;subst this
     exact qwu hs hfi hc (v:=v) (by simp only [hext,qyg]) ⟨x,st,w,h,rfl,rfl,R,.refl w,r1⟩
    .exact absurd h id
  .exact absurd h id
theorem qou (ok:CfgOk X sz C) (ok2:CfgOk2 X C) (tok:qd8 X sz C tbl) (hq:qb4 C):∀ n,qgh X sz C (qwh (qj X tbl inv meas) C n)
 | 0=>fun g args st k h=>absurd h id
 | n+1=>fun t args st k h base H w vs R ra=>match t,h with
  | .func f,h=>qkc ok ok2 tok hq (qou ok ok2 tok hq n) h R ra
  | .round id,h=>qpl ok ok2 tok (qou ok ok2 tok hq n) h R ra
theorem qdw:∀ {ps rs:List (PV K)} {obs:List Prop},qf1 (qj X tbl inv meas) st ps rs=some obs->∀ j i,(j,i) ∈ zo ps rs->∃ s,look st.owns i=some s
 | [],rs,obs,h,j,i,hm=>by cases rs<;>simp [zo] at hm
 | _::_,[],obs,h,j,i,hm=>by simp [qf1] at h
 | p::ps,r::rs,obs,h,j,i,hm=>by
  simp only [qf1] at h
  obtain ⟨x,h1,h2⟩:=zI.1 h
  obtain ⟨y,h3,_⟩:=zM.1 h2
  have ih:=qdw h3 j i
  cases p with
  | list c l o=>
   cases o with
   | none=>cases r<;>exact ih hm
   | some a=>
    obtain ⟨i',s'⟩:=a
    cases r with
    | list c' l' o'=>
     cases o' with
     | none=>exact ih hm
     | some b=>
      obtain ⟨j',s2⟩:=b
      simp only [zo,zD] at hm
      rcases hm with hm | hm
      .cases hm
       simp only [meets,Option.isSome_some,Bool.true_and] at h1
       rcases qt h1 with ⟨hb,_⟩ | ⟨_,hb⟩
       .simp only [Bool.not_eq_false',qan] at hb
        split at hb
        .rename_i s3 hs3;exact ⟨s3,hs3⟩
        .cases hb
       .cases hb
      .exact ih hm
    | _=>exact ih hm
  | _=>cases r<;>exact ih hm
theorem qj2:∀ {ps rs:List (PV K)},(zo ps rs).map (·.2)=qen ps rs
 | [],rs=>by cases rs<;>simp [zo,qen]
 | p::ps,[]=>by cases p<;>simp [zo,qen]
 | p::ps,r::rs=>by
  have ih:=qj2 (ps:=ps) (rs:=rs)
  cases p with
  | list c l o=>
   cases o with
   | none=>cases r<;>simp only [zo,qen,ih]
   | some a=>
    cases r with
    | list c' l' o'=>
     cases o' with
     | none=>simp only [zo,qen,ih]
     | some b=>simp only [zo,qen,List.map_cons,ih]
    | _=>simp only [zo,qen,ih]
  | _=>cases r<;>simp only [zo,qen,ih]
theorem qj1:∀ {ps rs:List (PV K)},((zo ps rs).map (·.1)).Sublist (jb rs)
 | [],rs=>by cases rs<;>simp [zo]
 | p::ps,[]=>by cases p<;>simp [zo]
 | p::ps,r::rs=>by
  have ih:=qj1 (ps:=ps) (rs:=rs)
  cases r with
  | list c' l' o'=>
   cases o' with
   | none=>cases p with
    | list c l o=>cases o<;>exact ih
    | _=>exact ih
   | some b=>
    cases p with
    | list c l o=>
     cases o with
     | none=>exact ih.trans (List.sublist_cons_self _ _)
     | some a=>exact ih.cons_cons _
    | _=>exact ih.trans (List.sublist_cons_self _ _)
  | _=>cases p with
   | list c l o=>cases o<;>exact ih
   | _=>exact ih
theorem qlv:∀ {l:List (Nat×Nat)} {j i:Nat},(l.map (·.1)).Nodup->(j,i) ∈ l->look l j=some i
 | [],j,i,_,h=>by cases h
 | (a,b)::l,j,i,hn,h=>by
  simp only [List.map_cons,List.nodup_cons] at hn
  simp only [look,cond_eq_ite,Nat.beq_eq]
  rcases zD.1 h with h | h
  .cases h
   rw [zT rfl]
  .rw [zF]
   .exact qlv hn.2 h
   .intro he
    subst he
    exact hn.1 (List.mem_map.2 ⟨_,h,rfl⟩)
theorem qjy (ok2:CfgOk2 X C) (R:RelH X sz C base st H w) {w':Wd} (hg:w'.g=w.g) (hM':∀ nm x,w.g nm=some x->¬ w.M nm->¬ w'.M nm) (hce:w'.ce=w.ce) (ho:∀ i,w'.owns i=some 0):∀ {ps rs:List (PV K)} {obs:List Prop} {vs:List V},
  qf1 (qj X tbl inv meas) st ps rs=some obs->(∀ q ∈ obs,q)->qh X sz w ps vs->(∀ r ∈ rs,RT r)->(∀ j i,(j,i) ∈ zo ps rs->w'.eta j=w.eta i)->(∀ j ∈ jb rs,j<w'.n)->qh X sz w' rs vs
 | [],[],obs,vs,h,hq,r,ht,he,hn=>by rw [r.qx];exact .nil
 | [],_::_,obs,vs,h,hq,r,ht,he,hn=>by simp [qf1] at h
 | _::_,[],obs,vs,h,hq,r,ht,he,hn=>by simp [qf1] at h
 | p::ps,q::rs,obs,vs,h,hq,r,ht,he,hn=>by
  obtain ⟨v,vs',rfl,r1,r2⟩:=r.qp
  simp only [qf1] at h
  obtain ⟨x,h1,h2⟩:=zI.1 h
  obtain ⟨y,h3,rfl⟩:=zM.1 h2
  have hsubP:∀ j i,(j,i) ∈ zo ps rs->(j,i) ∈ zo (p::ps) (q::rs):=by
   intro j i hm
   cases p with
   | list c l o=>
    cases o with
    | none=>cases q<;>exact hm
    | some a=>
     cases q with
     | list c' l' o'=>
      cases o' with
      | none=>exact hm
      | some b=>exact zG _ hm
     | _=>exact hm
   | _=>cases q<;>exact hm
  have hsubI:∀ j ∈ jb rs,j ∈ jb (q::rs):=by
   intro j hm
   cases q with
   | list c' l' o'=>
    cases o' with
    | none=>exact hm
    | some b=>exact zG _ hm
   | _=>exact hm
  have ih:=qjy ok2 R hg hM' hce ho h3 (fun q hq'=>hq q (List.mem_append_right _ hq')) r2 (fun r hr=>ht r (zG _ hr)) (fun j i hm=>he j i (hsubP j i hm)) (fun j hj=>hn j (hsubI j hj))
  refine .cons ?_ ih
  have hx:∀ a ∈ x,a:=fun a ha=>hq a (List.mem_append_left _ ha)
  have hT:=ht q zC
  cases q with
  | int k' l' b=>
   cases p with
   | int k l a=>
    simp only [meets] at h1
    split at h1
    .rename_i hk
     subst hk
     cases h1
     have:a=b:=hx _ zC
     subst this
     cases r1
     have:l'=none:=hT
     subst this
     exact .int fun m hm=>by cases hm
    .cases h1
   | _=>simp [meets] at h1
  | sb id neg b pt pf=>
   obtain ⟨t1,t2,t3⟩:id=0/\(pt↔b=true)/\(pf↔b=false):=hT
   have:v=.bool b:=by
    cases p with
    | lit a=>
     simp only [meets,zS] at h1
     subst h1
     have:a=b:=hx _ zC
     subst this
     cases r1
     rfl
    | sb id' neg' a pt' pf'=>
     simp only [meets,zS] at h1
     subst h1
     have:a=b:=hx _ zC
     subst this
     cases r1
     rfl
    | _=>simp [meets] at h1
   subst this
   exact .sb t2 t3 fun h0=>absurd t1 h0
  | str b=>
   cases p with
   | str a=>
    simp only [meets,zS] at h1
    subst h1
    have:a=b:=hx _ zC
    subst this
    cases r1
    exact .str
   | _=>simp [meets] at h1
  | list c l o=>
   have hm:∃ l',asL (qj X tbl inv meas) c p=some l'/\l'=l/\(o.isSome=true->qan st p=true):=by
    have e:meets (qj X tbl inv meas) st p (.list c l o)=(bif o.isSome&&!qan st p then none else (asL (qj X tbl inv meas) c p).map fun l'=>[(qj X tbl inv meas).eqL c l' l]):=by
     cases p<;>rfl
    rw [e] at h1
    rcases qt h1 with ⟨hb,h4⟩ | ⟨_,hb⟩
    .obtain ⟨l',hl,rfl⟩:=zM.1 h4
     refine ⟨l',hl,hx _ zC,fun hs=>?_⟩
     rw [hs] at hb
     simpa using hb
    .cases hb
   obtain ⟨l',hl,rfl,hown⟩:=hm
   have rl:=qaz r1 hl
   have rp:=rl.plain ok2.plain hg hM' .list
   cases o with
   | none=>exact rp
   | some b=>
    obtain ⟨j,s⟩:=b
    have hs0:s=0:=hT
    subst hs0
    have hown:=hown rfl
    have hj:j<w'.n:=hn j (by simp [jb])
    have hcur:∀ cur,w'.owns j=some cur->0<=cur:=fun _ _=>Nat.zero_le _
    rcases zl rp with ⟨rfl,rfl⟩ | ⟨nm,gn,off,z,cap,cs,e,gen,floor,frz,ex,rfl,hg',hf,hM2,hlen,hz,hcap,hcell,_⟩
    .exact .nlist ⟨hj,hcur,fun _=>trivial,fun _=>trivial⟩
    .refine .list hg' hf hM2 rfl hlen hz hcap hcell ⟨hj,hcur,fun _=>?_,fun h=>by cases h⟩
     cases p with
     | list c2 l2 o2=>
      cases o2 with
      | none=>simp [qan] at hown
      | some a=>
       obtain ⟨i,s2⟩:=a
       have hcl:c2=c:=by
        unfold asL at hl
        simp only at hl
        split at hl
        .assumption
        .cases hl
       subst hcl
       have hls:look st.owns i=some s2:=by
        simp only [qan] at hown
        split at hown
        .rename_i s3 hs3
         rw [hs3,zE hown]
        .cases hown
       have hll:l2.length=l'.length:=by
        unfold asL at hl
        simp only at hl
        split at hl
        .cases hl;rfl
        .cases hl
       have hclaim:qmf w sz i c2 (.slice nm gn off l'.length z cap):=by
        rcases zl r1 with ⟨_,hh⟩ | ⟨nm3,gn3,off3,z3,cap3,cs3,e3,gen3,floor3,frz3,ex3,hh,_,_,_,_,_,_,_,ho3⟩
        .cases hh
        .rw [hh];exact ho3.2.2.1 (by rw [R.owns];exact hls)
       have heta:w'.eta j=w.eta i:=he j i (by simp [zo])
       simp only [qmf] at hclaim ⊢
       rcases hclaim with hc | ⟨hc1,hc2,cs4,e4,floor4,frz4,ex4,hg4,hr4⟩
       .exact .inl hc
       .exact .inr ⟨hc1,by rw [heta];exact hc2,cs4,e4,floor4,frz4,ex4,by rw [hg];exact hg4,hr4.1,hr4.2.1,by rw [hce];exact hr4.2.2⟩
     | nils=>cases r1
     | _=>simp [qan] at hown
  | _=>cases p<;>simp [meets] at h1
theorem qwz {ps:List (PV K)} {vs:List V} (r:qh X sz w ps vs):qh X sz w (ps.flatMap P.cellsOf) (vs.flatMap V.cells):=by
 induction ps generalizing vs with
 | nil=>rw [r.qx];exact .nil
 | cons p ps ih=>
  obtain ⟨v,vs',rfl,r1,r2⟩:=r.qp
  exact r1.cells.append (ih r2)
theorem qi8 {w':Wd} {p r:PV K} {v:V} {cs:List (PV K)} {us:List V} (ha:qfo p r=true) (rp:Rep X sz w p v) (h:qh X sz w' (r.cellsOf++cs) (v.cells++us)):Rep X sz w' r v/\qh X sz w' cs us:=by
 have sp:∀ {a:List (PV K)} {b:List V},a.length=b.length->qh X sz w' (a++cs) (b++us)->qh X sz w' a b/\qh X sz w' cs us:=by
  intro a b hl hr
  have h1:=hr.take a.length
  have h2:=hr.drop a.length
  rw [List.take_left' rfl] at h1
  rw [List.drop_left' rfl] at h2
  rw [hl,List.take_left' rfl] at h1
  rw [hl,List.drop_left' rfl] at h2
  exact ⟨h1,h2⟩
 cases p with
 | agg a=>
  obtain ⟨vs,rfl,rl⟩:=rp.qbi
  cases r with
  | agg b=>
   simp only [qfo] at ha
   have hl:=zE ha
   obtain ⟨q1,q2⟩:=sp (a:=b) (b:=vs) (by rw [<-hl,rl.1]) h
   exact ⟨.qki q1,q2⟩
  | _=>simp [qfo] at ha
 | tuple a=>cases r<;>simp [qfo] at ha
 | _=>
  have hv:=rp.cellsOf (by intro ps hh;cases hh)
  cases r with
  | agg b=>simp [qfo] at ha
  | tuple b=>simp [qfo] at ha
  | _=>
   obtain ⟨q1,q2⟩:=sp (a:=P.cellsOf _) (b:=v.cells) (by rw [hv.2];rfl) h
   rw [hv.2] at q1
   obtain ⟨u,us',he,e1,e2⟩:=qh.qp q1
   simp only [List.cons.injEq] at he
   obtain ⟨rfl,rfl⟩:=he
   exact ⟨e1,q2⟩
theorem qmy {w':Wd}:∀ {ps rs:List (PV K)} {vs:List V},qia ps rs=true->qh X sz w ps vs->qh X sz w' (rs.flatMap P.cellsOf) (vs.flatMap V.cells)->qh X sz w' rs vs
 | [],[],vs,_,r,_=>by rw [r.qx];exact .nil
 | [],_::_,vs,h,_,_=>by simp [qia] at h
 | _::_,[],vs,h,_,_=>by simp [qia] at h
 | p::ps,q::rs,vs,h,r,h2=>by
  obtain ⟨v,vs',rfl,r1,r2⟩:=r.qp
  simp only [qia,zA] at h
  rw [List.flatMap_cons,List.flatMap_cons] at h2
  obtain ⟨a1,a2⟩:=qi8 h.1 r1 h2
  exact .cons a1 (qmy h.2 r2 a2)
theorem qpu {p:PV K} (h:∀ ps,p≠.tuple ps):p.flat=p.cellsOf:=by
 cases p with
 | tuple ps=>exact absurd rfl (h ps)
 | _=>rfl
theorem qxt {w':Wd} {p r:PV K} {v:V} (hs:qwc p r=true) (rp:Rep X sz w p v) (h:∀ us,qh X sz w p.flat us->qh X sz w' r.flat us):Rep X sz w' r v:=by
 by_cases hp:∃ ps,p=.tuple ps
 .obtain ⟨ps,rfl⟩:=hp
  obtain ⟨vs,rfl,rl⟩:=rp.qc2
  by_cases hr:∃ rs,r=.tuple rs
  .obtain ⟨rs,rfl⟩:=hr
   have hs':qia ps rs=true:=hs
   exact .tuple' (qmy hs' rl (h _ (qwz rl)))
  .exfalso
   cases r with
   | tuple rs=>exact hr ⟨rs,rfl⟩
   | _=>cases hs
 .by_cases hr:∃ rs,r=.tuple rs
  .exfalso
   obtain ⟨rs,rfl⟩:=hr
   cases p with
   | tuple ps=>exact hp ⟨ps,rfl⟩
   | _=>cases hs
  .have hs':qfo p r=true:=by
    cases p with
    | tuple ps=>exact absurd ⟨ps,rfl⟩ hp
    | _=>cases r with
     | tuple rs=>exact absurd ⟨rs,rfl⟩ hr
     | _=>exact hs
   have h1:=h v.cells (by rw [qpu (fun ps he=>hp ⟨ps,he⟩)];exact rp.cells)
   rw [qpu (fun rs he=>hr ⟨rs,he⟩)] at h1
   exact (qi8 (cs:=[]) (us:=[]) hs' rp (by simpa using h1)).1
theorem qw0 (ok:CfgOk X sz C) (ok2:CfgOk2 X C) (tok:qd8 X sz C tbl) (hq:qb4 C) {depth f:Nat} {args:List (PV K)} {r:PV K} (hpl:∀ p ∈ args,Plain p) (hT:∀ p ∈ r.flat,RT p) (h:qme (qj X tbl inv meas) C depth f args r):qgf X sz C f args r:=by
 intro H M vs S ra
 unfold qme at h
 have hle1:Le (wd0 H M C.codec) {wd0 H M C.codec with n:=1}:=Le.ext (w:=wd0 H M C.codec) (m:=1) (nu':=fun _=>false) (Nat.zero_le _) (fun _ _=>rfl)
 have ra1:=ra.mono ok.len hle1
 obtain ⟨nu',g1,g2,g3⟩:=qa1 ok.len ra1 (zN 1)
 let w0:Wd:={wd0 H M C.codec with n:=(zt args 1).2,nu:=nu'}
 have hle0:Le (wd0 H M C.codec) w0:=Le.ext (w:=wd0 H M C.codec) (Nat.zero_le _) (fun id hi=>by have:id<0:=hi;omega)
 have R0:RelH X sz C H {tmps:=.nil,n:=0,cells:=[],owns:=[],next:=(zt args 1).2,known:=[]} H w0:=by
  refine ⟨S.wf,S.ro,rfl,rfl,rfl,S.Mlt,rfl,g2,.refl H,fun _ hc=>False.elim hc,fun _ _ hc=>False.elim hc,fun id ps hl=>(by cases hl),fun _=>rfl,fun i s hl=>(by cases hl),fun i s nm hl=>(by cases hl),fun i j s s' nm hl=>(by cases hl),rfl,fun id b hl=>(by cases hl),fun gn ps hg=>?_⟩
  obtain ⟨q0,vs',e',fl,fz,ex',q1,q2,q3⟩:=S.globs gn ps hg
  exact ⟨q0,vs',e',fl,fz,ex',q1,q2,q3.mono ok.len hle0⟩
 refine (qkc ok ok2 tok hq (qou ok ok2 tok hq depth) h R0 g3).mono fun v H' hA=>?_
 obtain ⟨p,st',w',hk,_,_,R,hle,rp⟩:=hA
 unfold ends at hk
 obtain ⟨hb,hk⟩:=cond_prop hk
 simp only [zA] at hb
 split at hk
 .rename_i l hl
  obtain ⟨hobs,_⟩:=qi9 hk
  let pairs:=zo p.flat r.flat
  have hnd:(pairs.map (·.1)).Nodup:=(qb7 hb.2).sublist qj1
  have hnd2:(pairs.map (·.2)).Nodup:=by rw [qj2];exact qb7 hb.1.2
  let w2:Wd:={g:=H'.get,M:=fun n=>if n<H.next then M n else w'.M n,c:=fun _=>0,nu:=fun _=>false,n:=qio (jb r.flat),owns:=fun _=>some 0,eta:=fun j=>(look pairs j).bind w'.eta,ce:=C.codec,cl:=fun _=>False,nx:=H'.next,b:=H.next,lp:=fun _=>none,fl:=0}
  have heta:∀ j i,(j,i) ∈ pairs->w2.eta j=w'.eta i:=by
   intro j i hm
   show (look pairs j).bind w'.eta=_
   rw [qlv hnd hm]
   rfl
  have hinv:∀ j nm,w2.eta j=some nm->∃ i,(j,i) ∈ pairs/\w'.eta i=some nm:=by
   intro j nm he
   obtain ⟨i,h1,h2⟩:=zI.1 he
   exact ⟨i,qdd h1,h2⟩
  have hold:=R.keeps
  refine ⟨w2,R.keeps,R.wf,rfl,fun n hn=>?_,fun n hn=>?_,rfl,rfl,fun _=>rfl,fun j nm he=>?_,fun j1 j2 nm e1 e2=>?_,?_⟩
  .show (if n<H.next then M n else w'.M n)↔M n
   rw [zT hn]
  .have hn':(if n<H.next then M n else w'.M n):=hn
   split at hn'
   .rename_i hlt;exact zL hlt R.keeps.next
   .exact R.Mlt n hn'
  .obtain ⟨i,h1,h2⟩:=hinv j nm he
   obtain ⟨s,hs⟩:=qdw hl j i h1
   obtain ⟨b1,b2,b3⟩:=R.eta i s nm hs h2
   refine ⟨b1,b2,?_⟩
   show ¬ (if nm<H.next then M nm else w'.M nm)
   rw [zF (by omega)]
   exact b3
  .obtain ⟨i1,a1,b1⟩:=hinv j1 nm e1
   obtain ⟨i2,a2,b2⟩:=hinv j2 nm e2
   obtain ⟨s1,hs1⟩:=qdw hl j1 i1 a1
   obtain ⟨s2,hs2⟩:=qdw hl j2 i2 a2
   have:=R.einj i1 i2 s1 s2 nm hs1 hs2 b1 b2
   subst this
   have key:∀ (l:List (Nat×Nat)),(l.map (·.2)).Nodup->(j1,i1) ∈ l->(j2,i1) ∈ l->j1=j2:=by
    intro l
    induction l with
    | nil=>intro _ h;cases h
    | cons x l ih=>
     intro hn h1 h2
     simp only [List.map_cons,List.nodup_cons] at hn
     rcases zD.1 h1 with h1 | h1<;>rcases zD.1 h2 with h2 | h2
     .rw [<-h1] at h2;cases h2;rfl
     .exact absurd (List.mem_map.2 ⟨_,h2,by rw [<-h1]⟩) hn.1
     .exact absurd (List.mem_map.2 ⟨_,h1,by rw [<-h2]⟩) hn.1
     .exact ih hn.2 h1 h2
   exact key pairs hnd2 a1 a2
  .refine qxt hb.1.1 rp fun us hus=>?_
   exact qjy ok2 R (w':=w2) R.g.symm (fun nm x _ hm=>by
    show ¬ (if nm<H.next then M nm else w'.M nm)
    split
    .rename_i hlt;exact fun h0=>hm (hle.Mu nm hlt h0)
    .exact hm) R.ce.symm (fun _=>rfl) hl hobs hus hT heta (fun j hj=>(qkt _ 0).2 j hj)
 .exact absurd hk id
end
end Go.E3
/- E3: TOOLS for claims: tables by lists, list elements of a claim's own types. -/
namespace Go.E3
open Go Go.E2
variable {K:Nat->Type}
def qlf:List (Nat×Nat×Ann)->Nat->Nat->Option Ann
 | [],_,_=>none
 | (f,p,a)::l,g,q=>bif Nat.beq f g&&Nat.beq p q then some a else qlf l g q
abbrev Ct (K:Nat->Type):=List Sh×(List (NV K)->Option (Prop×PV K))
def qfj:List (Nat×Ct K)->Tbl K
 | [],_=>none
 | (f,c)::l,g=>bif Nat.beq f g then some c else qfj l g
section
variable {X:Codecs K} {sz:Nat->Nat} {C:Cfg Int Bool (List UInt8) Prop (fun c=>List (K c))}
def qmr (X:Codecs K) (sz:Nat->Nat) (C:Cfg Int Bool (List UInt8) Prop (fun c=>List (K c))) (f:Nat) (c:Ct K):Prop:=
 ∀ ns pre r,c.2 ns=some (pre,r)->pre->∃ args,qgq c.1 ns=some args/\qgf X sz C f args r/\Form r
theorem qfk:qd8 X sz C (qfj []):=fun f shs res ns pre r h=>by cases h
theorem qc1 {f:Nat} {c:Ct K} {l:List (Nat×Ct K)} (h:qmr X sz C f c) (hl:qd8 X sz C (qfj l)):qd8 X sz C (qfj ((f,c)::l)):=by
 intro g shs res ns pre r h1 h2 h3
 simp only [qfj,cond_eq_ite,Nat.beq_eq] at h1
 split at h1
 .rename_i hf
  subst hf
  cases h1
  exact h ns pre r h2 h3
 .exact hl g shs res ns pre r h1 h2 h3
theorem CfgOk.ann (h:CfgOk X sz C) (a:Nat->Nat->Option Ann):CfgOk X sz {C with ann:=a}:=⟨h.len,h.pos,h.size,h.inj,h.one,h.u8,h.pack⟩
theorem CfgOk2.ann (h:CfgOk2 X C) (a:Nat->Nat->Option Ann):CfgOk2 X {C with ann:=a}:=⟨h.plain,h.qk⟩
theorem qgf.ann {f:Nat} {args:List (PV K)} {r:PV K} (h:qgf X sz C f args r) (a:Nat->Nat->Option Ann):qgf X sz {C with ann:=a} f args r:=by
 intro H M vs S ra
 refine (h H M vs ⟨S.wf,S.ro,S.Mlt,S.globs⟩ ra).mono fun v H' hA=>?_
 obtain ⟨w',b⟩:=hA
 exact ⟨w',b.keeps,b.wf,b.g,b.M,b.Mlt,b.ce,b.n,b.owns,b.eta,b.einj,b.rep⟩
theorem qgf.q3i {f:Nat} {args:List (PV K)} {r:PV K} {a:Nat->Nat->Option Ann} (h:qgf X sz {C with ann:=a} f args r):qgf X sz C f args r:=by
 intro H M vs S ra
 refine (h H M vs ⟨S.wf,S.ro,S.Mlt,S.globs⟩ ra).mono fun v H' hA=>?_
 obtain ⟨w',b⟩:=hA
 exact ⟨w',b.keeps,b.wf,b.g,b.M,b.Mlt,b.ce,b.n,b.owns,b.eta,b.einj,b.rep⟩
theorem qsy (ok:CfgOk X sz C) (ok2:CfgOk2 X C) {l:List (Nat×Ct K)} (tok:qd8 X sz C (qfj l)) (hq:qb4 C) {inv:Nat->List (NV K)->Prop} {meas:Nat->List (NV K)->Nat} {ann:List (Nat×Nat×Ann)} {depth f:Nat} {args:List (PV K)} {r:PV K} {VC:Prop}
  (hpl:∀ p ∈ args,Plain p) (hT:∀ p ∈ r.flat,RT p) (hvc:qme (qj X (qfj l) inv meas) {C with ann:=qlf ann} depth f args r=VC) (h:VC):qgf X sz C f args r:=
 qw0 (C:={C with ann:=qlf ann}) (tbl:=qfj l) (inv:=inv) (meas:=meas) (ok.ann _) (ok2.ann _) (fun f shs res ns pre r h1 h2 h3=>by
  obtain ⟨as,e1,e2,e3⟩:=tok f shs res ns pre r h1 h2 h3
  exact ⟨as,e1,e2.ann _,e3⟩) hq hpl hT (hvc.symm ▸ h) |>.q3i
def qrh:PV K->Bool
 | .int .. | .lit _ | .str _ | .nils | .nilp | .nilf | .nili=>true
 | .sb 0 _ _ _ _=>true
 | .list _ _ none=>true
 | .func _ [] []=>true
 | _=>false
def qu0:PV K->Bool
 | .agg ps=>ps.all qrh
 | p=>qrh p
theorem qqh {p:PV K} (h:qrh p=true):Plain p:=by
 unfold qrh at h
 split at h<;>first | (cases h;done) | constructor
theorem qxn {p:PV K} (h:qu0 p=true):Plain p:=by
 unfold qu0 at h
 split at h
 .exact .agg fun p hp=>qqh (List.all_eq_true.1 h p hp)
 .exact qqh h
theorem qcx {ps:List (PV K)} (h:ps.all qu0=true):∀ p ∈ ps,Plain p:=fun p hp=>qxn (List.all_eq_true.1 h p hp)
def qmp:PV K->Bool
 | .int .. | .lit _ | .str _=>true
 | .sb 0 _ _ _ _=>true
 | .list _ _ none=>true
 | .list _ _ (some (_,0))=>true
 | _=>false
def qq2:PV K->Bool
 | .agg ps=>ps.all qmp
 | p=>qmp p
def q1n:PV K->Bool
 | .tuple l=>l.all qq2
 | p=>qq2 p
theorem qom {p:PV K} (h:qmp p=true):Simple p:=by
 unfold qmp at h
 split at h<;>first | (cases h;done) | constructor
theorem qpy {p:PV K} (h:qq2 p=true):Form1 p:=by
 unfold qq2 at h
 split at h
 .exact .agg fun p hp=>qom (List.all_eq_true.1 h p hp)
 .exact .one (qom h)
theorem qff {p:PV K} (h:q1n p=true):Form p:=by
 unfold q1n at h
 split at h
 .exact .tuple fun p hp=>qpy (List.all_eq_true.1 h p hp)
 .exact .one (qpy h)
def q0g (k:IntKind):PV K->Option Int
 | .int k' _ n=>if k=k' then some n else none
 | _=>none
variable {w:Wd}
theorem qs0 {k:IntKind} {p:PV K} {n:Int} {v:V} (h:q0g k p=some n) (r:Rep X sz w p v):Rep X sz w (.int k none n) v:=by
 unfold q0g at h
 split at h
 .split at h
  .rename_i hk;subst hk;cases h;cases r;exact .int fun m hm=>by cases hm
  .cases h
 .cases h
theorem qto {p q:PV K} {ps qs:List (PV K)} {vs:List V} (h:∀ v,Rep X sz w p v->Rep X sz w q v) (hl:∀ us,qh X sz w ps us->qh X sz w qs us) (r:qh X sz w (p::ps) vs):qh X sz w (q::qs) vs:=by
 obtain ⟨v,vs',rfl,r1,r2⟩:=r.qp
 exact .cons (h v r1) (hl vs' r2)
end
end Go.E3
/- E3: FUNCTIONS WITHOUT A BODY as contracts. -/
namespace Go.E3
open Go Go.E2
variable {K:Nat->Type}
section
variable {X:Codecs K} {sz:Nat->Nat} {C:Cfg Int Bool (List UInt8) Prop (fun c=>List (K c))}
theorem qyi (ok2:CfgOk2 X C) {f:Nat} {r:PV K} {v:V} (hp:Plain r) (hr:jb r.flat=[]) (h:∀ H,H.qk=C.ng->(∀ gn o,C.gobj gn=some o->H.get gn=some o/\gn<H.next)->j7 C.E (.func f) [] H fun u H'=>u=v/\H'=H) (hv:∀ H M,Rep X sz (wd0 H M C.codec) r v):qgf X sz C f [] r:=by
 intro H M vs S ra
 have:=ra.qx;subst this
 refine (h H S.ro.2.1 S.ro.2.2).mono fun u H' hA=>?_
 obtain ⟨rfl,rfl⟩:=hA
 let w':Wd:={wd0 H' M C.codec with owns:=fun _=>some 0}
 have rv':Rep X sz w' r u:=Rep.plain (w:=wd0 H' M C.codec) (w':=w') ok2.plain rfl (fun _ _ _ h=>h) (hv H' M) hp
 refine ⟨w',?_⟩
 refine ⟨.refl H',S.wf,rfl,fun n _=>.rfl,S.Mlt,rfl,?_,fun _=>rfl,fun i nm he=>(by cases he),fun i j nm he=>(by cases he),rv'⟩
 rw [hr]
 rfl
end
end Go.E3
/- E3: ARGUMENTS THAT LIE IN MEMORY: slices whose elements are numbers, conditions, texts, structs of such. -/
namespace Go.E3
open Go Go.E2
variable {K:Nat->Type}
def qb2:Value->V
 | .int k n=>.int k n
 | .bool b=>.bool b
 | .string s=>.str s.data.toList
 | _=>.tuple [.slice 0 0 0 0 0 none]
theorem qx5 (G:qb) (W:World) (x:Value):isHole (qb2 x)=true∨Go.E2.Rel G W (qb2 x) x:=by
 cases x with
 | int k n=>right;simp [qb2,Go.E2.Rel]
 | bool b=>right;simp [qb2,Go.E2.Rel]
 | string s=>right;simp [qb2,Go.E2.Rel]
 | _=>exact .inl rfl
theorem qtm (G:qb) (W:World):∀ l:List Value,qw G W (l.map qb2) l
 | []=>by simp [qw]
 | x::l=>by
  simp only [List.map_cons,qw]
  exact ⟨x,l,rfl,qx5 G W x,qtm G W l⟩
def q0u (W:World) (b:Nat):Option (Nat×O):=
 match W.heap[b]? with
 | some (.cells arr e fz)=>some (b,.row (arr.toList.map qb2) e 0 0 fz.2 false)
 | _=>none
def qy5 (W:World):List (Nat×O):=(List.range W.heap.size).filterMap (q0u W)
theorem qxj {W:World} {b:Nat} {x:Nat×O} (h:q0u W b=some x):∃ arr e fz,W.heap[b]? = some (.cells arr e fz)/\x=(b,.row (arr.toList.map qb2) e 0 0 fz.2 false):=by
 unfold q0u at h
 split at h
 .rename_i arr e fz hb
  exact ⟨arr,e,fz,hb,(Option.some.inj h).symm⟩
 .cases h
theorem qqa {W:World} {b:Nat} {o:O} (h:(b,o) ∈ qy5 W):∃ arr e fz,W.heap[b]? = some (.cells arr e fz)/\o=.row (arr.toList.map qb2) e 0 0 fz.2 false:=by
 obtain ⟨b',_,h2⟩:=List.mem_filterMap.1 h
 obtain ⟨arr,e,fz,h3,h4⟩:=qxj h2
 cases h4
 exact ⟨arr,e,fz,h3,rfl⟩
def qeh (W:World) (ng:Nat):Heap:={kz:=qax (qy5 W),next:=W.heap.size,ro:=W.heap.size,qk:=ng}
theorem qhi {W:World} {ng b:Nat} {arr:Array Value} {e:TypeId} {fz:Nat×Nat} (h:W.heap[b]? = some (.cells arr e fz)):(qeh W ng).get b=some (.row (arr.toList.map qb2) e 0 0 fz.2 false):=by
 have hm:(b,O.row (arr.toList.map qb2) e 0 0 fz.2 false) ∈ qy5 W:=by
  refine List.mem_filterMap.2 ⟨b,List.mem_range.2 (qau h),?_⟩
  unfold q0u
  rw [h]
 obtain ⟨o,ho⟩:=qeg hm
 obtain ⟨arr',e',fz',h',rfl⟩:=qqa (ky _ _ _ ho)
 rw [h] at h'
 cases h'
 exact ho
theorem qim {W:World} {ng b:Nat} {o:O} (h:(qeh W ng).get b=some o):∃ arr e fz,W.heap[b]? = some (.cells arr e fz)/\o=.row (arr.toList.map qb2) e 0 0 fz.2 false:=
 qqa (ky _ _ _ h)
def j5 (W:World):qb:=fun nm g=>if g=0 then (match W.heap[nm]? with
 | some (.cells arr _ _)=>some (nm,0,arr.size)
 | _=>none) else none
theorem km {W:World} {nm g:Nat} {x:Nat×Nat×Nat} (h:j5 W nm g=some x):g=0/\∃ arr e fz,W.heap[nm]? = some (.cells arr e fz)/\x=(nm,0,arr.size):=by
 unfold j5 at h
 split at h
 .rename_i hg
  split at h
  .rename_i arr e fz hb
   exact ⟨hg,arr,e,fz,hb,(Option.some.inj h).symm⟩
  .cases h
 .cases h
theorem qcq {W:World} {b:Nat} {arr:Array Value} {e:TypeId} {fz:Nat×Nat} (h:W.heap[b]? = some (.cells arr e fz)):j5 W b 0=some (b,0,arr.size):=by
 unfold j5
 rw [zT rfl,h]
theorem q31 {W:World} {ng:Nat} (hng:ng<=W.heap.size):Sim (qeh W ng) (j5 W) W:=by
 refine ⟨fun nm g b sh n h=>?_,fun nm g b sh n nm' g' sh' n' h h'=>?_,fun nm o _ ho=>?_,zN _,hng,fun g o _ ho=>?_⟩
 .obtain ⟨_,arr,e,fz,hb,hx⟩:=km h
  cases hx
  exact ⟨qau hb,qau hb⟩
 .obtain ⟨_,_,_,_,_,hx⟩:=km h
  obtain ⟨_,_,_,_,_,hx'⟩:=km h'
  cases hx
  cases hx'
  exact ⟨rfl,rfl⟩
 .obtain ⟨arr,e,fz,hb,rfl⟩:=qim ho
  refine ⟨zN _,fun h=>(by cases h),fun g b sh n hg=>?_⟩
  obtain ⟨rfl,arr',e',fz',hb',hx⟩:=km hg
  rw [hb] at hb'
  cases hb'
  cases hx
  refine ⟨zN _,Nat.zero_le _,by simp,fun _=>by simp,fun h=>(by cases h),fun _=>⟨arr,fz,hb,by simp,?_,fun _ i h1 h2=>by omega,fun h=>(by cases h)⟩⟩
  rw [List.drop_zero,Nat.sub_zero,List.take_of_length_le (by simp),List.take_of_length_le (by simp)]
  exact qtm _ _ _
 .obtain ⟨arr,e,fz,hb,_⟩:=qim ho
  exact ⟨_,qcq hb⟩
theorem qwy {W w':World} {G':qb} (h:Ext W.heap.size (j5 W) W G' w'):∀ b,b<W.heap.size->w'.heap[b]? = W.heap[b]?:=by
 intro b hb
 cases hc:j5 W b 0 with
 | some x=>
  obtain ⟨_,arr,e,fz,_,rfl⟩:=km hc
  exact h.ro b 0 b 0 _ hb hc
 | none=>
  refine (h.frg b hb fun nm g sh n hg=>?_).1
  obtain ⟨rfl,arr,e,fz,hb',hx⟩:=km hg
  cases hx
  rw [qcq hb'] at hc
  cases hc
inductive Leaf4 where
 | int (k:IntKind)
 | bool
 | str
 | list (c:Nat)
def Leaf4.flat:Leaf4->Bool
 | .list _=>false
 | _=>true
def qop (P:Program) (g:TypeId->Option (List Leaf4)):List Field->Nat->Option (List Leaf4)
 | [],_=>some []
 | f::fs,off=>(g f.type).bind fun l=>bif Nat.beq f.offset off&&Nat.beq l.length (P.cellsOf f.type) then (qop P g fs (off+l.length)).map fun r=>l++r else none
def qh8 (P:Program) (cd:TypeId->Option Nat):Nat->TypeId->Option (List Leaf4)
 | 0,_=>none
 | d+1,t=>match P.underlying t with
  | some (.int k)=>some [.int k]
  | some .bool=>some [.bool]
  | some .string=>some [.str]
  | some (.slice e)=>(cd e).map fun c=>[.list c]
  | some (.struct fs)=>(qop P (qh8 P cd d) fs.toList 0).bind fun l=>bif Nat.beq l.length (P.cellsOf t) then some l else none
  | _=>none
section
variable {Hd:Type} {enc:TypeId×Value->Hd} {P:Program} {W:World} {cd:TypeId->Option Nat}
def kh (enc:TypeId×Value->Hd) (P:Program) (W:World) (cd:TypeId->Option Nat):Leaf4->Value->Prop
 | .int k,x=>∃ n,x=.int k n/\(Lit.int k n).wf=true
 | .bool,x=>∃ b,x=.bool b
 | .str,x=>∃ s,x=.string s/\s.size<=maxLen
 | .list c,x=>x=.slice none 0 0∨∃ e a len cap,cd e=some c/\x=.slice (some a) len cap/\len<=cap/\cap<=maxLen/\
   ∀ i,i<cap->∃ cs m r,W.cells? 0 (a.add (i * P.cellsOf e)) (P.cellsOf e)=some cs/\DataW.trod enc P W 0 (fun _=>true) true m e cs=some r
theorem qmc {Q:Leaf4->Value->Prop} {cs:List Value} {g:TypeId->Option (List Leaf4)}:∀ {fs:List Field} {off:Nat} {ls:List Leaf4},qop P g fs off=some ls->
  (∀ f ∈ fs,∀ l,g f.type=some l->l.length=P.cellsOf f.type->∀ (i:Nat) leaf x,l[i]? = some leaf->((cs.drop f.offset).take (P.cellsOf f.type))[i]? = some x->Q leaf x)->
  ∀ (i:Nat) leaf x,ls[i]? = some leaf->cs[off+i]? = some x->Q leaf x
 | [],off,ls,h,_,i,leaf,x,hl,_=>by
  simp only [qop,zS] at h
  subst h
  simp at hl
 | f::fs,off,ls,h,hR,i,leaf,x,hl,hx=>by
  simp only [qop] at h
  obtain ⟨l,h1,h2⟩:=zI.1 h
  rcases qt h2 with ⟨_,h3⟩ | ⟨h3,h4⟩
  .cases h3
  .simp only [zA,Nat.beq_eq] at h3
   obtain ⟨rfl,hlen⟩:=h3
   obtain ⟨r,h5,rfl⟩:=zM.1 h4
   by_cases hi:i<l.length
   .rw [List.getElem?_append_left hi] at hl
    refine hR f zC l h1 hlen i leaf x hl ?_
    rw [List.getElem?_take_of_lt (by omega),List.getElem?_drop]
    exact hx
   .rw [List.getElem?_append_right (by omega)] at hl
    refine qmc h5 (fun f' hf'=>hR f' (zG _ hf')) (i-l.length) leaf x hl ?_
    rw [show f.offset+l.length+(i-l.length)=f.offset+i by omega]
    exact hx
theorem qd5:∀ (d:Nat) {n:Nat} {t:TypeId} {cs:List Value} {r:DataW Hd×List MemPlace} {ls:List Leaf4},DataW.trod enc P W 0 (fun _=>true) true n t cs=some r->qh8 P cd d t=some ls->
  cs.length=ls.length/\∀ (i:Nat) leaf x,ls[i]? = some leaf->cs[i]? = some x->kh enc P W cd leaf x
 | 0,n,t,cs,r,ls,h,ht=>by cases ht
 | d+1,n,t,cs,r,ls,h,ht=>by
  have one:∀ {leaf:Leaf4} {x:Value},kh enc P W cd leaf x->[x].length=[leaf].length/\∀ (i:Nat) l y,[leaf][i]? = some l->[x][i]? = some y->kh enc P W cd l y:=by
   intro leaf x hr
   refine ⟨rfl,fun i l y h1 h2=>?_⟩
   cases i with
   | zero=>simp only [List.getElem?_cons_zero,zS] at h1 h2;subst h1;subst h2;exact hr
   | succ i=>simp at h1
  simp only [qh8] at ht
  split at ht
  .rename_i k hu
   cases ht
   obtain ⟨m,rfl,_,hw⟩:=DataW.trod_int hu h
   exact one ⟨m,rfl,hw⟩
  .rename_i hu
   cases ht
   obtain ⟨b,rfl,_⟩:=DataW.trod_bool hu h
   exact one ⟨b,rfl⟩
  .rename_i hu
   cases ht
   obtain ⟨s,rfl,_,hs⟩:=DataW.trod_string hu h
   exact one ⟨s,rfl,hs⟩
  .rename_i e hu
   obtain ⟨c,hc,rfl⟩:=zM.1 ht
   rcases DataW.trod_slice hu h with ⟨rfl,_⟩ | ⟨a,len,cap,elems,rest,m,_,rfl,_,_,hl,hm,hel,he1,he2,_⟩
   .exact one (.inl rfl)
   .refine one (.inr ⟨e,a,len,cap,hc,rfl,hl,hm,fun i hi=>?_⟩)
    obtain ⟨hr1,hr2⟩:=he2 rfl
    by_cases hil:i<len
    .have:=he1 i hil
     rw [List.getElem?_eq_getElem (by omega)] at this
     obtain ⟨cs',h1,h2⟩:=zI.1 this
     exact ⟨cs',m,_,h1,h2⟩
    .have:=hr2 (i-len) (by omega)
     rw [List.getElem?_eq_getElem (by omega),show len+(i-len)=i by omega] at this
     obtain ⟨cs',h1,h2⟩:=zI.1 this
     exact ⟨cs',m,_,h1,h2⟩
  .rename_i fs hu
   obtain ⟨l,h1,h2⟩:=zI.1 ht
   rcases qt h2 with ⟨_,h3⟩ | ⟨h3,h4⟩
   .cases h3
   .cases h4
    have hlen:=zE h3
    obtain ⟨xs,m,_,_,hl,hxs,hf⟩:=DataW.trod_struct hu h
    refine ⟨by omega,fun i leaf x hi hx=>?_⟩
    refine qmc (Q:=kh enc P W cd) (off:=0) h1 (fun f hfm l' hg hgl j lf y hj hy=>?_) i leaf x hi (by simpa using hx)
    obtain ⟨q,hq,rfl⟩:=List.mem_iff_getElem.1 hfm
    have h5:=hf q fs.toList[q] (by simp at hq ⊢)
    rw [List.getElem?_eq_getElem (by simp at hq;omega)] at h5
    exact (qd5 d h5 hg).2 j lf y hj hy
  .cases ht
def qgi (good:∀ c,K c->Prop):Leaf4->PV K->Prop
 | .int k,p=>∃ n,p=.int k none n/\k.min<=n/\n<=k.max
 | .bool,p=>∃ b,p=.sb 0 false b (b=true) (b=false)
 | .str,p=>∃ s:List UInt8,p=.str s/\s.length<=maxLen
 | .list c,p=>∃ l:List (K c),p=.list c l none/\l.length<=maxLen/\∀ x ∈ l,good c x
def qdm (good:∀ c,K c->Prop):List Leaf4->List (PV K)->Prop
 | [],ps=>ps=[]
 | l::ls,ps=>∃ p qs,ps=p::qs/\qgi good l p/\qdm good ls qs
variable {good:∀ c,K c->Prop}
variable {X:Codecs K} {sz:Nat->Nat} {w:Wd}
theorem qhk {leaf:Leaf4} {x:Value} (hf:leaf.flat=true) (h:kh enc P W cd leaf x):∃ p:PV K,qgi good leaf p/\Rep X sz w p (qb2 x):=by
 cases leaf with
 | int k=>
  obtain ⟨n,rfl,hw⟩:=h
  simp only [Lit.wf,zA,decide_eq_true_eq] at hw
  exact ⟨_,⟨n,rfl,hw⟩,.int fun m hm=>by cases hm⟩
 | bool=>
  obtain ⟨b,rfl⟩:=h
  exact ⟨_,⟨b,rfl⟩,.sb .rfl .rfl fun h0=>absurd rfl h0⟩
 | str=>
  obtain ⟨s,rfl,hs⟩:=h
  exact ⟨_,⟨s.data.toList,rfl,by simpa using hs⟩,.str⟩
 | list c=>cases hf
theorem qlu:∀ {ls:List Leaf4} {cs:List Value},ls.all Leaf4.flat=true->cs.length=ls.length->(∀ (i:Nat) leaf x,ls[i]? = some leaf->cs[i]? = some x->kh enc P W cd leaf x)->
  ∃ ps:List (PV K),qdm good ls ps/\qh X sz w ps (cs.map qb2)
 | [],[],_,_,_=>⟨[],rfl,.nil⟩
 | [],_::_,_,h,_=>by simp at h
 | _::_,[],_,h,_=>by simp at h
 | l::ls,x::cs,hf,hl,hr=>by
  simp only [List.all_cons,zA] at hf
  obtain ⟨p,h1,h2⟩:=qhk (X:=X) (sz:=sz) (w:=w) hf.1 (hr 0 l x rfl rfl)
  obtain ⟨ps,h3,h4⟩:=qlu (cs:=cs) hf.2 (by simpa using hl) fun i leaf y h5 h6=>hr (i+1) leaf y (by simpa using h5) (by simpa using h6)
  exact ⟨p::ps,⟨p,ps,rfl,h1,h3⟩,.cons h2 h4⟩
theorem qg1 {α:Type} {Q:Nat->α->Prop}:∀ {n:Nat},(∀ i,i<n->∃ x,Q i x)->∃ l:List α,l.length=n/\∀ (i:Nat) (h:i<l.length),Q i (l[i]'h)
 | 0,_=>⟨[],rfl,fun i h=>by simp at h⟩
 | n+1,h=>by
  obtain ⟨l,h1,h2⟩:=qg1 (n:=n) fun i hi=>h i (by omega)
  obtain ⟨x,hx⟩:=h n (by omega)
  refine ⟨l++[x],by simp [h1],fun i hi=>?_⟩
  by_cases hin:i<l.length
  .rw [List.getElem_append_left hin];exact h2 i hin
  .have:i=n:=by simp at hi;omega
   subst this
   rw [List.getElem_append_right (by omega)]
   simpa [h1] using hx
theorem qxr {f:TypeId->Bool}:∀ {d:Nat} {e:TypeId} {count off n:Nat},rowAt P f d e count off n=true->off<=count * P.cellsOf e
 | 0,_,_,_,_,h=>by simp [rowAt] at h
 | d+1,e,count,off,n,h=>by
  unfold rowAt at h
  by_cases hs:P.cellsOf e=0
  .simp [hs] at h
  .simp only [hs,if_false,Bool.or_eq_true,zA,beq_iff_eq,decide_eq_true_eq] at h
   have hd:=Nat.div_add_mod off (P.cellsOf e)
   have hm:=Nat.mod_lt off (Nat.pos_of_ne_zero hs)
   rcases h with ⟨⟨h1,h2⟩,_⟩ | ⟨h1,_⟩
   .have:=zU (P.cellsOf e) (show off / P.cellsOf e<=count by omega)
    rw [Nat.mul_comm] at hd
    omega
   .have:=zU (P.cellsOf e) (show off / P.cellsOf e+1<=count by omega)
    rw [Nat.add_mul,Nat.one_mul] at this
    rw [Nat.mul_comm] at hd
    omega
theorem qn8:∀ {d:Nat} {e:TypeId} {count off:Nat} {u:TypeId} {n:Nat},liesAt P d e count off u n=true->off<=count * P.cellsOf e
 | 0,_,_,_,_,_,h=>by simp [liesAt] at h
 | d+1,e,count,off,u,n,h=>by
  unfold liesAt at h
  simp only [Bool.or_eq_true] at h
  rcases h with h | h
  .exact qxr h
  .split at h
   .exact qn8 h
   .cases h
theorem qtw {base:Nat} {u:TypeId} {a:Addr} {len cap:Nat} (h:Cell.okWide P W .any base u (.slice (some a) len cap)) :
  a.spot=none/\∃ arr e fz,W.heap[a.block]? = some (.cells arr e fz)/\a.off<=arr.size:=by
 have h':Cell.ok P W .any base u (.slice (some a) len cap):=by
  unfold Cell.okWide at h
  split at h<;>first | exact h | (rename_i hx;cases hx)
 unfold Cell.ok at h'
 split at h'<;>try (first | exact h'.elim | (rename_i hx;cases hx;done))
 rename_i e a' len' cap' _ hx
 cases hx
 obtain ⟨_,_,_,h1,row,cells,h2,h3⟩:=h'
 refine ⟨h1,?_⟩
 simp only [World.shape?] at h2
 split at h2
 .rename_i arr el fz hb
  cases h2
  refine ⟨arr,_,fz,hb,zR (qn8 h3) ?_⟩
  exact Nat.div_mul_le_self _ _
 .cases h2
structure ArgOk (good:∀ c,K c->Prop) (X:Codecs K) (sz:Nat->Nat) (P:Program) (cd:TypeId->Option Nat) (depth:Nat):Prop where
 elem:∀ e c,cd e=some c->∃ ls,qh8 P cd depth e=some ls/\ls.all Leaf4.flat=true/\ls.length=sz c/\P.cellsOf e=sz c/\0<sz c/\∀ ps:List (PV K),qdm good ls ps->∃ pre x,X.pack c ps=some (pre,x)/\pre/\good c x
theorem qxc {C:Cfg Int Bool (List UInt8) Prop (fun c=>List (K c))} (ok:CfgOk X sz C) {depth ng:Nat} (ao:ArgOk good X sz P cd depth) {base:Nat} {u:TypeId} {c:Nat} {x:Value} {M:Nat->Prop} (hM:∀ n,¬ M n) (hc:Cell.okWide P W .any base u x) (h:kh enc P W cd (.list c) x) :
  ∃ (p:PV K) (v:V),qgi good (.list c) p/\Rep X sz (wd0 (qeh W ng) M C.codec) p v/\Go.E2.Rel (j5 W) W v x:=by
 rcases h with rfl | ⟨e,a,len,cap,he,rfl,hl,hcap,hr⟩
 .exact ⟨.list c [] none,.nils,⟨[],rfl,Nat.zero_le _,fun x hx=>by cases hx⟩,.nlist trivial,by simp [Go.E2.Rel]⟩
 .obtain ⟨hsp,arr,el,fz,hb,hoff⟩:=qtw hc
  obtain ⟨b,off,spot⟩:=a
  simp only at hsp hb hoff
  subst hsp
  obtain ⟨ls,h1,h2,h3,h4,h5,h6⟩:=ao.elem e c he
  rw [h4] at hr
  have hcell:∀ i,i<cap->∃ cs:List Value,cs.length=sz c/\(∀ j,j<sz c->arr[off+i * sz c+j]? = cs[j]?)/\∃ y:K c,good c y/\qh X sz (wd0 (qeh W ng) M C.codec) (X.cells c y) (cs.map qb2):=by
   intro i hi
   obtain ⟨cs,m,r,h7,h8⟩:=hr i hi
   obtain ⟨_,h9,h10⟩:=World.cells?_some h7
   obtain ⟨h11,h12⟩:=qd5 depth h8 h1
   obtain ⟨ps,h13,h14⟩:=qlu (X:=X) (sz:=sz) (w:=wd0 (qeh W ng) M C.codec) h2 h11 h12
   obtain ⟨pre,y,h15,h16,h17⟩:=h6 ps h13
   refine ⟨cs,h9,fun j hj=>?_,y,h17,ok.pack c ps pre y h15 h16 _ _ h14⟩
   have hadd:((⟨b,off,none⟩:Addr).add (i * sz c)).add j=⟨b,off+i * sz c+j,none⟩:=by
    unfold Addr.add
    by_cases h0:i * sz c=0
    .rw [zT h0,h0]
     by_cases hj0:j=0
     .rw [zT hj0,hj0];simp
     .rw [zF hj0];simp
    .rw [zF h0]
     by_cases hj0:j=0
     .rw [zT hj0,hj0];simp
     .rw [zF hj0]
   have:=h10 j hj
   rw [hadd] at this
   simp only [World.cell?,hb] at this
   simpa using this
  have hsz:off+cap * sz c<=arr.size:=by
   cases cap with
   | zero=>simpa using hoff
   | succ q=>
    obtain ⟨cs,g1,g2,_⟩:=hcell q (Nat.lt_succ_self q)
    have:=g2 (sz c-1) (by omega)
    rw [List.getElem?_eq_getElem (by omega)] at this
    have:=(Array.getElem?_eq_some_iff.1 this).1
    rw [Nat.add_mul,Nat.one_mul]
    omega
  have hlm:len * sz c<=cap * sz c:=zU _ hl
  obtain ⟨l,g1,g2⟩:=qg1 (Q:=fun i (y:K c)=>∃ cs:List Value,cs.length=sz c/\(∀ j,j<sz c->arr[off+i * sz c+j]? = cs[j]?)/\good c y/\qh X sz (wd0 (qeh W ng) M C.codec) (X.cells c y) (cs.map qb2)) (n:=len) fun i hi=>by
   obtain ⟨cs,q1,q2,y,q4,q3⟩:=hcell i (by omega)
   exact ⟨y,cs,q1,q2,q4,q3⟩
  refine ⟨.list c l none,.slice b 0 off len (sz c) (some cap),⟨l,rfl,by omega,fun y hy=>?_⟩,?_,?_⟩
  .obtain ⟨i,hi,rfl⟩:=List.mem_iff_getElem.1 hy
   obtain ⟨cs,q1,q2,q4,q3⟩:=g2 i hi
   exact q4
  .refine .list (qhi hb) (zN _) (hM b) g1.symm (by simp;omega) ⟨h5,.inl rfl⟩ (fun k hk=>by cases hk;exact hl) (fun i hi j p hp=>?_) trivial
   obtain ⟨cs,q1,q2,q4,q3⟩:=g2 i hi
   have hj:j<sz c:=by rw [<-ok.len c (l[i]'hi)];exact (List.getElem?_eq_some_iff.1 hp).1
   have:=q3.2 j p hp
   rw [List.getD_eq_getElem?_getD,List.getElem?_map] at this ⊢
   rw [Array.getElem?_toList,q2 j hj]
   exact this
  .simp only [Go.E2.Rel]
   exact ⟨b,0,arr.size,off,cap,el,arr.size,_,qcq hb,rfl,.inr rfl,hl,Nat.zero_le _,by omega,.inl rfl,fun k hk=>by cases hk;exact ⟨rfl,hsz⟩,by simp only [World.shape?,hb],hsz⟩
theorem qsx {leaf:Leaf4} {x:Value} (hf:leaf.flat=true) (h:kh enc P W cd leaf x) (G:qb):Go.E2.Rel G W (qb2 x) x:=by
 cases leaf with
 | int k=>obtain ⟨n,rfl,_⟩:=h;simp [qb2,Go.E2.Rel]
 | bool=>obtain ⟨b,rfl⟩:=h;simp [qb2,Go.E2.Rel]
 | str=>obtain ⟨s,rfl,_⟩:=h;simp [qb2,Go.E2.Rel]
 | list c=>cases hf
theorem qxa {C:Cfg Int Bool (List UInt8) Prop (fun c=>List (K c))} (ok:CfgOk X sz C) {depth ng:Nat} (ao:ArgOk good X sz P cd depth) {base:Nat} {u:TypeId} {leaf:Leaf4} {x:Value} {M:Nat->Prop} (hM:∀ n,¬ M n) (hc:Cell.okWide P W .any base u x) (h:kh enc P W cd leaf x) :
  ∃ (p:PV K) (v:V),qgi good leaf p/\Rep X sz (wd0 (qeh W ng) M C.codec) p v/\Go.E2.Rel (j5 W) W v x:=by
 cases hf:leaf.flat with
 | true=>
  obtain ⟨p,h1,h2⟩:=qhk (X:=X) (sz:=sz) (w:=wd0 (qeh W ng) M C.codec) hf h
  exact ⟨p,qb2 x,h1,h2,qsx hf h _⟩
 | false=>
  cases leaf with
  | list c=>exact qxc ok ao hM hc h
  | _=>cases hf
theorem qvh {C:Cfg Int Bool (List UInt8) Prop (fun c=>List (K c))} (ok:CfgOk X sz C) {depth ng:Nat} (ao:ArgOk good X sz P cd depth) {base:Nat} {M:Nat->Prop} (hM:∀ n,¬ M n) {t:TypeId} {v:Value} {d:DataW Hd} {ps:List MemPlace} {leaf:Leaf4}
  (ht:(match P.underlying t with | some (.struct _) | some (.array _ _)=>false | _=>true)=true) (hl:qh8 P cd depth t=some [leaf]) (hv:Value.okWide P W .any base t v) (hd:DataW.Trod enc P W 0 (fun _=>true) true t v d ps) :
  ∃ (p:PV K) (u:V),qgi good leaf p/\Rep X sz (wd0 (qeh W ng) M C.codec) p u/\Go.E2.Rel (j5 W) W u v:=by
 obtain ⟨n,hn⟩:=hd
 obtain ⟨h1,h2⟩:=qd5 depth hn hl
 have hcell:Cell.okWide P W .any base t v:=by
  unfold Value.okWide at hv
  split at hv
  .rename_i h;simp [h] at ht
  .rename_i h;simp [h] at ht
  .exact hv
 have hcs:v.cells.toList=[v]:=by
  cases v with
  | agg cs=>
   exfalso
   unfold Cell.okWide at hcell
   split at hcell<;>first | (rename_i hx;cases hx;done) | skip
   unfold Cell.ok at hcell
   split at hcell<;>first | (rename_i hx;cases hx;done) | exact hcell
  | _=>rfl
 exact qxa ok ao hM hcell (h2 0 leaf v rfl (by rw [hcs];rfl))
theorem qvy {p:MemPlace} (h:Go.Good W p):p.block<W.heap.size:=by
 cases p with
 | cell b off=>
  obtain ⟨v,hv,_⟩:=h
  simp only [World.cell?] at hv
  split at hv
  .rename_i hb;exact qau hb
  .cases hv
 | map b=>
  obtain ⟨es,clock,hb⟩:=h
  exact qau hb
theorem qos {w':World} {t:TypeId} {v:Value} {d:DataW Hd} {ps:List MemPlace} (hlaid:laidOutB P=true) (hrec:P.readableRec t=true) (hrow:t<P.types.size) (h:DataW.Trod enc P W 0 (fun _=>true) true t v d ps) (hs:∀ b,b<W.heap.size->w'.heap[b]? = W.heap[b]?)
  (sp:Nat->Bool) (hsp:∀ b,b<W.heap.size->sp b=true):DataW.Trod enc P w' 0 sp true t v d ps:=by
 obtain ⟨n,hn⟩:=h
 have K:=kids_book hlaid hrec
 have hgood:=DataW.trod_good K (fun h=>by cases h) n t _ _ ⟨hrow,book_self t⟩ hn
 refine ⟨n,DataW.trod_stays K (book_sized hrec) (fun h=>by cases h) ⟨hrow,book_self t⟩ hn (fun p hp=>?_) (fun p hp=>hsp _ ?_)⟩
 .have hlt:p.block<W.heap.size:=qvy (hgood p hp)
  cases p with
  | cell b off=>simp only [World.sameAt,World.cell?,hs b hlt]
  | map b=>exact hs b hlt
 .exact qvy (hgood p hp)
end
end Go.E3
/- E3: (*strings.Builder).String, BY ITS TEXT: a check of the body, and what the body does. -/
namespace Go.E3
open Go Go.E2
section
variable {E:Env} {fn:FuncId} {round:Option Nat} {all:Array Oper} {b:Array Nat} {i:Nat} {l:List Oper} {done:List Done} {o:Oper} {fr:Fr} {H:Heap} {Q:Ex->Fr->Heap->Prop} {B:Nat}
end
section
variable {E:Env} {F tB tS tQ tI tU:Nat}
end
theorem qpg {P:Program} {Hd:Type} {enc:TypeId×Value->Hd} {g:Func} {s:Go.ChangeSpec} {apart fresh handsOn:Bool} {W w':World} {args:Array Value} {ds gs:List (DataW Hd)} {before:List MemPlace} {t:TypeId}
  (hW:DataW.Whole enc P g.params.toList s.vars apart W args.toList ds gs before) (hv:s.vars=[]) (ht:g.resultTypes = #[t]) (hu:P.underlying t=some .bool)
  (hfn:s.fn Hd ds = {results:=[.lit (.bool true)],args:=ds}) (hargs:∃ pa,DataW.TrodAll enc P w' 0 (fun b=>decide (b<W.heap.size)) true g.params.toList args.toList ds pa) (hk:∀ may,W.keptBut w' may) :
  s.post enc P g apart fresh handsOn false W args (.bool true) w':=by
 have hW':=hW
 obtain ⟨p,q,hA,hV,rfl,_,_⟩:=hW
 rw [hv] at hV
 obtain ⟨rfl,rfl⟩:=Go.ChangeShapes.trodVars_none hV
 obtain ⟨pa,hpa⟩:=hargs
 refine ⟨ds,[],p++[],[],pa,[],hW',?_,?_,?_,hk _,fun h=>by cases h⟩
 .rw [ht,zJ,hfn]
  exact Go.ChangeShapes.trodAll_mk1 (Go.RowKit.shut_bool hu true)
 .rw [zJ,hfn]
  exact hpa
 .rw [hv,zJ,hfn]
  rfl
end Go.E3
/- E3: A CLOSED CALL that looks at listed variables, as a contract. -/
namespace Go.E2
open Go
def Fact.qnh (F:Fact):Bool:=
 F.args.isEmpty&&(F.pre.all fun x=>match assoc (F.pre.map fun x=>(x.1,x.1)) x.1,qrl (assoc (F.pre.map fun x=>(x.1,x.1))) x.2 with
  | some k,some o=>Nat.beq k x.1&&qso o x.2
  | _,_=>false)&&qg6 (F.pre.map fun x=>(x.1,x.1))&&(F.pre.all fun x=>Nat.blt x.1 F.next)&&Nat.beq F.ro F.next&&qft F.ret ((qcf (fun _=>none) F.ret).getD (.tuple [.nilp]))
theorem q06 {F:Fact} {H:Heap} (hc:F.qnh=true) (hg:H.qk=F.qk) (ho:∀ x ∈ F.pre,H.get x.1=some x.2/\x.1<H.next):F.qt0 [] H=some (.ret F.ret,H):=by
 simp only [Fact.qnh,zA] at hc
 obtain ⟨⟨⟨⟨⟨c1,c2⟩,c3⟩,c4⟩,c5⟩,c6⟩:=hc
 have ha:F.args=[]:=List.isEmpty_iff.1 c1
 have hfit:F.fits (F.pre.map fun x=>(x.1,x.1)) [] H=true:=by
  simp only [Fact.fits,zA]
  refine ⟨⟨⟨⟨?_,?_⟩,?_⟩,c3⟩,?_⟩
  .rw [ha];rfl
  .rw [hg];exact Nat.beq_refl _
  .unfold qq5
   rw [List.all_eq_true]
   intro x hx
   have:=List.all_eq_true.1 c2 x hx
   split at this
   .rename_i k o h1 h2
    simp only [zA] at this
    have hk:=zE this.1
    subst hk
    simp only [h1,h2,(ho x hx).1]
    exact this.2
   .cases this
  .rw [List.all_eq_true]
   intro x hx
   obtain ⟨y,hy,rfl⟩:=List.mem_map.1 hx
   have h1:=List.all_eq_true.1 c4 y hy
   have h2:Nat.blt y.1 H.next=true:=by rw [Nat.blt_eq];exact (ho y hy).2
   have h3:Nat.ble F.ro y.1=false:=by
    rw [<-Bool.not_eq_true,Nat.ble_eq,zE c5]
    rw [Nat.blt_eq] at h1
    omega
   simp only [h1,h2,h3,Nat.beq_refl,Bool.and_true,Bool.or_true,Bool.not_false,Bool.true_or]
 simp only [Fact.qt0,hfit,c5,c6,Bool.and_true,zO]
end Go.E2
namespace Go.E3
open Go Go.E2
theorem qh0 {α:Type}:∀ {l:List (Nat×α)},distinct (l.map (·.1))=true->∀ {x:Nat×α},x ∈ l->look l x.1=some x.2
 | [],_,x,hx=>by cases hx
 | y::l,h,x,hx=>by
  simp only [List.map_cons,distinct,zA,Bool.not_eq_true'] at h
  simp only [look,cond_eq_ite,Nat.beq_eq]
  rcases zD.1 hx with rfl | hx
  .rw [zT rfl]
  .rw [zF]
   .exact qh0 h.2 hx
   .intro he
    have h1:=h.1
    rw [<-Bool.not_eq_true,List.any_eq_true] at h1
    exact h1 ⟨x.1,List.mem_map.2 ⟨x,hx,rfl⟩,by rw [he];exact Nat.beq_refl _⟩
end Go.E3
/- E3: ARGUMENTS WHOSE ELEMENTS HOLD SLICES, to whatever depth. The element size of a slice that lies in a cell is told by a function F of the cells where it points. -/
namespace Go.E3
open Go Go.E2
variable {K:Nat->Type}
def qci (W:World) (F:Array Value->Nat->Nat) (self:Nat):Value->V
 | .slice none len cap=>if len=0/\cap=0 then .nils else .tuple [.slice 0 0 0 0 0 none]
 | .slice (some a) len cap=>
  if cap=0 then (if len=0 then .slice self 0 0 0 1 (some 0) else .tuple [.slice 0 0 0 0 0 none])
  else match W.heap[a.block]? with
   | some (.cells arr _ _)=>if a.spot=none/\len<=cap/\a.off+cap * F arr a.off<=arr.size then .slice a.block 0 a.off len (F arr a.off) (some cap) else .tuple [.slice 0 0 0 0 0 none]
   | _=>.tuple [.slice 0 0 0 0 0 none]
 | x=>qb2 x
theorem qx4 {W:World} {F:Array Value->Nat->Nat} {self:Nat} {arr:Array Value} {e:TypeId} {fz:Nat×Nat} (hb:W.heap[self]? = some (.cells arr e fz)) (x:Value):isHole (qci W F self x)=true∨Go.E2.Rel (j5 W) W (qci W F self x) x:=by
 cases x with
 | slice a len cap=>
  cases a with
  | none=>
   simp only [qci]
   split
   .rename_i h
    obtain ⟨rfl,rfl⟩:=h
    right;simp [Go.E2.Rel]
   .exact .inl rfl
  | some a=>
   simp only [qci]
   split
   .rename_i hc
    subst hc
    split
    .rename_i hl
     subst hl
     right
     simp only [Go.E2.Rel]
     exact ⟨self,0,arr.size,0,0,e,arr.size,a,qcq hb,rfl,.inl rfl,zN _,zN _,by omega,.inr rfl,fun k hk=>by cases hk;exact ⟨rfl,by omega⟩,by simp only [World.shape?,hb],by omega⟩
    .exact .inl rfl
   .split
    .rename_i arr' e' fz' hb'
     split
     .rename_i h
      obtain ⟨h1,h2,h3⟩:=h
      right
      obtain ⟨b,off,spot⟩:=a
      simp only at h1 h3 hb'
      subst h1
      have hm:len * F arr' off<=cap * F arr' off:=zU _ h2
      simp only [Go.E2.Rel]
      exact ⟨b,0,arr'.size,off,cap,e',arr'.size,_,qcq hb',rfl,.inr rfl,h2,Nat.zero_le _,by omega,.inl rfl,fun k hk=>by cases hk;exact ⟨rfl,h3⟩,by simp only [World.shape?,hb'],h3⟩
     .exact .inl rfl
    .exact .inl rfl
 | int k n=>right;simp [qci,qb2,Go.E2.Rel]
 | bool b=>right;simp [qci,qb2,Go.E2.Rel]
 | string s=>right;simp [qci,qb2,Go.E2.Rel]
 | _=>exact .inl rfl
theorem qqj {W:World} {F:Array Value->Nat->Nat} {self:Nat} {arr:Array Value} {e:TypeId} {fz:Nat×Nat} (hb:W.heap[self]? = some (.cells arr e fz)):∀ l:List Value,qw (j5 W) W (l.map (qci W F self)) l
 | []=>by simp [qw]
 | x::l=>by
  simp only [List.map_cons,qw]
  exact ⟨x,l,rfl,qx4 hb x,qqj hb l⟩
def q0t (W:World) (F:Array Value->Nat->Nat) (b:Nat):Option (Nat×O):=
 match W.heap[b]? with
 | some (.cells arr e fz)=>some (b,.row (arr.toList.map (qci W F b)) e 0 0 fz.2 false)
 | _=>none
def qy4 (W:World) (F:Array Value->Nat->Nat):List (Nat×O):=(List.range W.heap.size).filterMap (q0t W F)
theorem qxi {W:World} {F:Array Value->Nat->Nat} {b:Nat} {x:Nat×O} (h:q0t W F b=some x):∃ arr e fz,W.heap[b]? = some (.cells arr e fz)/\x=(b,.row (arr.toList.map (qci W F b)) e 0 0 fz.2 false):=by
 unfold q0t at h
 split at h
 .rename_i arr e fz hb
  exact ⟨arr,e,fz,hb,(Option.some.inj h).symm⟩
 .cases h
theorem qp9 {W:World} {F:Array Value->Nat->Nat} {b:Nat} {o:O} (h:(b,o) ∈ qy4 W F):∃ arr e fz,W.heap[b]? = some (.cells arr e fz)/\o=.row (arr.toList.map (qci W F b)) e 0 0 fz.2 false:=by
 obtain ⟨b',_,h2⟩:=List.mem_filterMap.1 h
 obtain ⟨arr,e,fz,h3,h4⟩:=qxi h2
 cases h4
 exact ⟨arr,e,fz,h3,rfl⟩
def qe1 (W:World) (F:Array Value->Nat->Nat) (ng:Nat):Heap:={kz:=qax (qy4 W F),next:=W.heap.size,ro:=W.heap.size,qk:=ng}
theorem qp1 {W:World} {F:Array Value->Nat->Nat} {ng b:Nat} {arr:Array Value} {e:TypeId} {fz:Nat×Nat} (h:W.heap[b]? = some (.cells arr e fz)):(qe1 W F ng).get b=some (.row (arr.toList.map (qci W F b)) e 0 0 fz.2 false):=by
 have hm:(b,O.row (arr.toList.map (qci W F b)) e 0 0 fz.2 false) ∈ qy4 W F:=by
  refine List.mem_filterMap.2 ⟨b,List.mem_range.2 (qau h),?_⟩
  unfold q0t
  rw [h]
 obtain ⟨o,ho⟩:=qeg hm
 obtain ⟨arr',e',fz',h',rfl⟩:=qp9 (ky _ _ _ ho)
 rw [h] at h'
 cases h'
 exact ho
theorem qn1 {W:World} {F:Array Value->Nat->Nat} {ng b:Nat} {o:O} (h:(qe1 W F ng).get b=some o):∃ arr e fz,W.heap[b]? = some (.cells arr e fz)/\o=.row (arr.toList.map (qci W F b)) e 0 0 fz.2 false:=
 qp9 (ky _ _ _ h)
theorem q33 {W:World} {F:Array Value->Nat->Nat} {ng:Nat} (hng:ng<=W.heap.size):Sim (qe1 W F ng) (j5 W) W:=by
 refine ⟨fun nm g b sh n h=>?_,fun nm g b sh n nm' g' sh' n' h h'=>?_,fun nm o _ ho=>?_,zN _,hng,fun g o _ ho=>?_⟩
 .obtain ⟨_,arr,e,fz,hb,hx⟩:=km h
  cases hx
  exact ⟨qau hb,qau hb⟩
 .obtain ⟨_,_,_,_,_,hx⟩:=km h
  obtain ⟨_,_,_,_,_,hx'⟩:=km h'
  cases hx
  cases hx'
  exact ⟨rfl,rfl⟩
 .obtain ⟨arr,e,fz,hb,rfl⟩:=qn1 ho
  refine ⟨zN _,fun h=>(by cases h),fun g b sh n hg=>?_⟩
  obtain ⟨rfl,arr',e',fz',hb',hx⟩:=km hg
  rw [hb] at hb'
  cases hb'
  cases hx
  refine ⟨zN _,Nat.zero_le _,by simp,fun _=>by simp,fun h=>(by cases h),fun _=>⟨arr,fz,hb,by simp,?_,fun _ i h1 h2=>by omega,fun h=>(by cases h)⟩⟩
  rw [List.drop_zero,Nat.sub_zero,List.take_of_length_le (by simp),List.take_of_length_le (by simp)]
  exact qqj hb _
 .obtain ⟨arr,e,fz,hb,_⟩:=qn1 ho
  exact ⟨_,qcq hb⟩
def qhc:Value->Bool
 | .slice ..=>true
 | _=>false
section
variable {Hd:Type} {enc:TypeId×Value->Hd} {P:Program} {W:World} {F:Array Value->Nat->Nat} {cd:TypeId->Option Nat} {good:∀ c,K c->Prop} {X:Codecs K} {sz:Nat->Nat}
theorem qwp {leaf:Leaf4} {x:Value} {self:Nat} (hf:leaf.flat=true) (h:kh enc P W cd leaf x):qci W F self x=qb2 x:=by
 cases leaf with
 | int k=>obtain ⟨n,rfl,_⟩:=h;rfl
 | bool=>obtain ⟨b,rfl⟩:=h;rfl
 | str=>obtain ⟨s,rfl,_⟩:=h;rfl
 | list c=>cases hf
theorem qpa {leaf:Leaf4} {x:Value} (h:kh enc P W cd leaf x):qhc x = !leaf.flat:=by
 cases leaf with
 | int k=>obtain ⟨n,rfl,_⟩:=h;rfl
 | bool=>obtain ⟨b,rfl⟩:=h;rfl
 | str=>obtain ⟨s,rfl,_⟩:=h;rfl
 | list c=>rcases h with rfl | ⟨e,a,len,cap,_,rfl,_⟩<;>rfl
theorem qs6 {self:Nat}:∀ {l:List Value},(l.all fun x=>!qhc x)=true->l.map (qci W F self)=l.map qb2
 | [],_=>rfl
 | x::l,h=>by
  simp only [List.all_cons,zA] at h
  simp only [List.map_cons,qs6 h.2]
  congr 1
  cases x<;>first | rfl | (simp [qhc] at h)
def qqt (sz:Nat->Nat) (P:Program) (F:Array Value->Nat->Nat) (cd:TypeId->Option Nat) (depth c:Nat):Prop:=
 ∀ e ls,cd e=some c->qh8 P cd depth e=some ls->∀ (arr:Array Value) (off:Nat),(∀ (i:Nat) leaf,ls[i]? = some leaf->∃ x,arr[off+i]? = some x/\qhc x = !leaf.flat)->F arr off=sz c
def qgk (good:∀ c,K c->Prop) (X:Codecs K) (sz:Nat->Nat) (P:Program) (F:Array Value->Nat->Nat) (cd:TypeId->Option Nat) (depth:Nat):Nat->Nat->Prop
 | 0,_=>False
 | n+1,c=>∀ e,cd e=some c->∃ ls,qh8 P cd depth e=some ls/\(∀ leaf ∈ ls,leaf.flat=true∨∃ c',leaf=.list c'/\qgk good X sz P F cd depth n c'/\qqt sz P F cd depth c')/\ls.length=sz c/\P.cellsOf e=sz c/\0<sz c/\
   ∀ ps:List (PV K),qdm good ls ps->∃ pre x,X.pack c ps=some (pre,x)/\pre/\good c x
theorem add_add (b off i j:Nat):((⟨b,off,none⟩:Addr).add i).add j=⟨b,off+i+j,none⟩:=by
 unfold Addr.add
 by_cases h0:i=0
 .rw [zT h0,h0]
  by_cases hj0:j=0
  .rw [zT hj0,hj0];simp
  .rw [zF hj0];simp
 .rw [zF h0]
  by_cases hj0:j=0
  .rw [zT hj0,hj0];simp
  .rw [zF hj0]
theorem qxu {a:Addr} {n:Nat} {cs:List Value} (hn:0<n) (h:W.cells? 0 (a.add (0 * n)) n=some cs):a.spot=none/\∃ arr e fz,W.heap[a.block]? = some (.cells arr e fz):=by
 obtain ⟨_,h9,h10⟩:=World.cells?_some h
 have h0:=h10 0 hn
 rw [Nat.zero_mul] at h0
 have ha:(a.add 0).add 0=a:=by simp [Addr.add]
 rw [ha,List.getElem?_eq_getElem (by omega)] at h0
 simp only [World.cell?] at h0
 split at h0
 .rename_i arr e fz hb
  split at h0
  .cases h0
  .rename_i hs
   exact ⟨by simpa using hs,arr,e,fz,hb⟩
 .cases h0
theorem qkv {T:Nat->Prop} {w:Wd} {self:Nat} (hT:∀ c,T c->∀ x,kh enc P W cd (.list c) x->∃ p:PV K,qgi good (.list c) p/\Rep X sz w p (qci W F self x)) :
  ∀ {ls:List Leaf4} {cs:List Value},(∀ leaf ∈ ls,leaf.flat=true∨∃ c,leaf=.list c/\T c)->cs.length=ls.length->
   (∀ (i:Nat) leaf x,ls[i]? = some leaf->cs[i]? = some x->kh enc P W cd leaf x)->
   ∃ ps:List (PV K),qdm good ls ps/\qh X sz w ps (cs.map (qci W F self))
 | [],[],_,_,_=>⟨[],rfl,.nil⟩
 | [],_::_,_,h,_=>by simp at h
 | _::_,[],_,h,_=>by simp at h
 | l::ls,x::cs,hf,hl,hr=>by
  obtain ⟨ps,h3,h4⟩:=qkv hT (cs:=cs) (fun leaf hm=>hf leaf (zG _ hm)) (by simpa using hl) fun i leaf y h5 h6=>hr (i+1) leaf y (by simpa using h5) (by simpa using h6)
  have h0:=hr 0 l x rfl rfl
  obtain ⟨p,h1,h2⟩:∃ p:PV K,qgi good l p/\Rep X sz w p (qci W F self x):=by
   rcases hf l zC with h | ⟨c,rfl,hc⟩
   .obtain ⟨p,h1,h2⟩:=qhk (good:=good) (X:=X) (sz:=sz) (w:=w) h h0
    exact ⟨p,h1,by rw [qwp h h0];exact h2⟩
   .exact hT c hc x h0
  exact ⟨p::ps,⟨p,ps,rfl,h1,h3⟩,.cons h2 h4⟩
theorem qnm {C:Cfg Int Bool (List UInt8) Prop (fun c=>List (K c))} (ok:CfgOk X sz C) {depth c b off cap:Nat} {arr:Array Value} {el e:TypeId} {fz:Nat×Nat} {w:Wd} {ls:List Leaf4} (hb:W.heap[b]? = some (.cells arr el fz)) (h1:qh8 P cd depth e=some ls) (h3:ls.length=sz c)
  (hL:∀ cs:List Value,cs.length=ls.length->(∀ (i:Nat) leaf x,ls[i]? = some leaf->cs[i]? = some x->kh enc P W cd leaf x)->∃ ps:List (PV K),qdm good ls ps/\qh X sz w ps (cs.map (qci W F b)))
  (h6:∀ ps:List (PV K),qdm good ls ps->∃ pre x,X.pack c ps=some (pre,x)/\pre/\good c x)
  (hr:∀ i,i<cap->∃ cs m r,W.cells? 0 ((⟨b,off,none⟩:Addr).add (i * sz c)) (sz c)=some cs/\DataW.trod enc P W 0 (fun _=>true) true m e cs=some r) :
  ∀ i,i<cap->∃ cs:List Value,cs.length=sz c/\(∀ j,j<sz c->arr[off+i * sz c+j]? = cs[j]?)/\(∀ (j:Nat) leaf,ls[j]? = some leaf->∃ x,arr[off+i * sz c+j]? = some x/\qhc x = !leaf.flat)/\
   ∃ y:K c,good c y/\qh X sz w (X.cells c y) (cs.map (qci W F b)):=by
 intro i hi
 obtain ⟨cs,m,r,h7,h8⟩:=hr i hi
 obtain ⟨_,h9,h10⟩:=World.cells?_some h7
 obtain ⟨h11,h12⟩:=qd5 depth h8 h1
 obtain ⟨ps,h13,h14⟩:=hL cs h11 h12
 obtain ⟨pre,y,h15,h16,h17⟩:=h6 ps h13
 have hcell:∀ j,j<sz c->arr[off+i * sz c+j]? = cs[j]?:=by
  intro j hj
  have:=h10 j hj
  rw [add_add] at this
  simp only [World.cell?,hb] at this
  simpa using this
 refine ⟨cs,h9,hcell,fun j leaf hl=>?_,y,h17,ok.pack c ps pre y h15 h16 _ _ h14⟩
 have hj:j<sz c:=by rw [<-h3];exact (List.getElem?_eq_some_iff.1 hl).1
 have hjc:j<cs.length:=by omega
 refine ⟨cs[j],by rw [hcell j hj,List.getElem?_eq_getElem hjc],qpa (h12 j leaf _ hl (List.getElem?_eq_getElem hjc))⟩
theorem qyd {arr:Array Value} {off cap c:Nat} {Q:List Value->Nat->Prop} (h5:0<sz c) (hoff:cap=0->off<=arr.size) (hc:∀ i,i<cap->∃ cs:List Value,cs.length=sz c/\(∀ j,j<sz c->arr[off+i * sz c+j]? = cs[j]?)/\Q cs i):off+cap * sz c<=arr.size:=by
 cases cap with
 | zero=>simpa using hoff rfl
 | succ q=>
  obtain ⟨cs,g1,g2,_⟩:=hc q (Nat.lt_succ_self q)
  have:=g2 (sz c-1) (by omega)
  rw [List.getElem?_eq_getElem (by omega)] at this
  have:=(Array.getElem?_eq_some_iff.1 this).1
  rw [Nat.add_mul,Nat.one_mul]
  omega
theorem qhy {C:Cfg Int Bool (List UInt8) Prop (fun c=>List (K c))} (ok:CfgOk X sz C) {ng c b off len cap:Nat} {arr:Array Value} {el:TypeId} {fz:Nat×Nat} {M:Nat->Prop} {Q:List Value->Nat->Prop} (hM:∀ n,¬ M n) (hb:W.heap[b]? = some (.cells arr el fz)) (h5:0<sz c) (hl:len<=cap) (hcap:cap<=maxLen) (hsz:off+cap * sz c<=arr.size)
  (hcell:∀ i,i<cap->∃ cs:List Value,cs.length=sz c/\(∀ j,j<sz c->arr[off+i * sz c+j]? = cs[j]?)/\Q cs i/\∃ y:K c,good c y/\qh X sz (wd0 (qe1 W F ng) M C.codec) (X.cells c y) (cs.map (qci W F b))) :
  ∃ p:PV K,qgi good (.list c) p/\Rep X sz (wd0 (qe1 W F ng) M C.codec) p (.slice b 0 off len (sz c) (some cap)):=by
 have hlm:len * sz c<=cap * sz c:=zU _ hl
 obtain ⟨l,g1,g2⟩:=qg1 (Q:=fun i (y:K c)=>∃ cs:List Value,cs.length=sz c/\(∀ j,j<sz c->arr[off+i * sz c+j]? = cs[j]?)/\good c y/\qh X sz (wd0 (qe1 W F ng) M C.codec) (X.cells c y) (cs.map (qci W F b))) (n:=len) fun i hi=>by
  obtain ⟨cs,q1,q2,_,y,q4,q3⟩:=hcell i (by omega)
  exact ⟨y,cs,q1,q2,q4,q3⟩
 refine ⟨.list c l none,⟨l,rfl,by omega,fun y hy=>?_⟩,?_⟩
 .obtain ⟨i,hi,rfl⟩:=List.mem_iff_getElem.1 hy
  obtain ⟨cs,q1,q2,q4,q3⟩:=g2 i hi
  exact q4
 .refine .list (qp1 hb) (zN _) (hM b) g1.symm (by simp;omega) ⟨h5,.inl rfl⟩ (fun k hk=>by cases hk;exact hl) (fun i hi j p hp=>?_) trivial
  obtain ⟨cs,q1,q2,q4,q3⟩:=g2 i hi
  have hj:j<sz c:=by rw [<-ok.len c (l[i]'hi)];exact (List.getElem?_eq_some_iff.1 hp).1
  have:=q3.2 j p hp
  rw [List.getD_eq_getElem?_getD,List.getElem?_map] at this ⊢
  rw [Array.getElem?_toList,q2 j hj]
  exact this
theorem qn3 {C:Cfg Int Bool (List UInt8) Prop (fun c=>List (K c))} (ok:CfgOk X sz C) {depth ng:Nat} {M:Nat->Prop} (hM:∀ n,¬ M n):∀ (n:Nat) {c self:Nat},qgk good X sz P F cd depth n c->qqt sz P F cd depth c->∀ {arr0:Array Value} {e0:TypeId} {fz0:Nat×Nat},W.heap[self]? = some (.cells arr0 e0 fz0)->∀ {x:Value},
  kh enc P W cd (.list c) x->∃ p:PV K,qgi good (.list c) p/\Rep X sz (wd0 (qe1 W F ng) M C.codec) p (qci W F self x)
 | 0,c,self,fo,_,_,_,_,_,_,_=>fo.elim
 | n+1,c,self,fo,hFk,arr0,e0,fz0,hself,x,h=>by
  rcases h with rfl | ⟨e,a,len,cap,he,rfl,hl,hcap,hr⟩
  .exact ⟨.list c [] none,⟨[],rfl,Nat.zero_le _,fun x hx=>by cases hx⟩,.nlist trivial⟩
  .obtain ⟨ls,h1,h2,h3,h4,h5,h6⟩:=fo e he
   rw [h4] at hr
   by_cases hc0:cap=0
   .subst hc0
    obtain rfl:len=0:=by omega
    refine ⟨.list c [] none,⟨[],rfl,Nat.zero_le _,fun x hx=>by cases hx⟩,?_⟩
    have:qci W F self (.slice (some a) 0 0)=.slice self 0 0 0 1 (some 0):=by simp [qci]
    rw [this]
    exact .list (qp1 hself) (zN _) (hM self) rfl (by simp) ⟨h5,.inr ⟨Nat.one_pos,rfl,rfl⟩⟩ (fun k hk=>by cases hk;exact zN _) (fun i hi=>by simp at hi) trivial
   .obtain ⟨cs0,m0,r0,q0,_⟩:=hr 0 (by omega)
    obtain ⟨hsp,arr,el,fz,hb⟩:=qxu h5 q0
    obtain ⟨b,off,spot⟩:=a
    simp only at hsp hb
    subst hsp
    have hcell:=qnm (w:=wd0 (qe1 W F ng) M C.codec) ok hb h1 h3 (fun cs q1 q2=>qkv (T:=fun c'=>qgk good X sz P F cd depth n c'/\qqt sz P F cd depth c') (fun c' hc' x hx=>qn3 ok hM n hc'.1 hc'.2 hb hx) h2 q1 q2) h6 hr
    have hsz:=qyd (Q:=fun cs i=>_) h5 (fun h=>absurd h hc0) hcell
    have hFs:F arr off=sz c:=by
     obtain ⟨_,_,_,q,_⟩:=hcell 0 (by omega)
     exact hFk e ls he h1 arr off fun i leaf hi=>by have:=q i leaf hi;simpa using this
    have habs:qci W F self (.slice (some ⟨b,off,none⟩) len cap)=.slice b 0 off len (sz c) (some cap):=by
     simp only [qci,zF hc0,hb]
     rw [zT ⟨trivial,hl,by rw [hFs];exact hsz⟩,hFs]
    rw [habs]
    exact qhy ok hM hb h5 hl hcap hsz hcell
theorem qn7 {C:Cfg Int Bool (List UInt8) Prop (fun c=>List (K c))} (ok:CfgOk X sz C) {depth ng n:Nat} {base:Nat} {u:TypeId} {leaf:Leaf4} {x:Value} {M:Nat->Prop} (hM:∀ n,¬ M n) (ht:leaf.flat=true∨∃ c,leaf=.list c/\qgk good X sz P F cd depth n c) (hc:Cell.okWide P W .any base u x) (h:kh enc P W cd leaf x) :
  ∃ (p:PV K) (v:V),qgi good leaf p/\Rep X sz (wd0 (qe1 W F ng) M C.codec) p v/\Go.E2.Rel (j5 W) W v x:=by
 rcases ht with hf | ⟨c,rfl,fo⟩
 .obtain ⟨p,h1,h2⟩:=qhk (X:=X) (sz:=sz) (w:=wd0 (qe1 W F ng) M C.codec) hf h
  exact ⟨p,qb2 x,h1,h2,qsx hf h _⟩
 .cases n with
  | zero=>exact fo.elim
  | succ n=>
   rcases h with rfl | ⟨e,a,len,cap,he,rfl,hl,hcap,hr⟩
   .exact ⟨.list c [] none,.nils,⟨[],rfl,Nat.zero_le _,fun x hx=>by cases hx⟩,.nlist trivial,by simp [Go.E2.Rel]⟩
   .obtain ⟨hsp,arr,el,fz,hb,hoff⟩:=qtw hc
    obtain ⟨b,off,spot⟩:=a
    simp only at hsp hb hoff
    subst hsp
    obtain ⟨ls,h1,h2,h3,h4,h5,h6⟩:=fo e he
    rw [h4] at hr
    have hcell:=qnm (w:=wd0 (qe1 W F ng) M C.codec) ok hb h1 h3 (fun cs q1 q2=>qkv (T:=fun c'=>qgk good X sz P F cd depth n c'/\qqt sz P F cd depth c') (fun c' hc' x hx=>qn3 ok hM n hc'.1 hc'.2 hb hx) h2 q1 q2) h6 hr
    have hsz:=qyd (Q:=fun cs i=>_) h5 (fun _=>hoff) hcell
    obtain ⟨p,g1,g2⟩:=qhy ok hM hb h5 hl hcap hsz hcell
    have hlm:len * sz c<=cap * sz c:=zU _ hl
    refine ⟨p,_,g1,g2,?_⟩
    simp only [Go.E2.Rel]
    exact ⟨b,0,arr.size,off,cap,el,arr.size,_,qcq hb,rfl,.inr rfl,hl,Nat.zero_le _,by omega,.inl rfl,fun k hk=>by cases hk;exact ⟨rfl,hsz⟩,by simp only [World.shape?,hb],hsz⟩
theorem qjv {C:Cfg Int Bool (List UInt8) Prop (fun c=>List (K c))} (ok:CfgOk X sz C) {depth ng n:Nat} {base:Nat} {M:Nat->Prop} (hM:∀ n,¬ M n):∀ {ls:List Leaf4} {cs:List Value},(∀ leaf ∈ ls,leaf.flat=true∨∃ c,leaf=.list c/\qgk good X sz P F cd depth n c)->cs.length=ls.length->
  (∀ (i:Nat) x,cs[i]? = some x->∃ u,Cell.okWide P W .any base u x)->(∀ (i:Nat) leaf x,ls[i]? = some leaf->cs[i]? = some x->kh enc P W cd leaf x)->
  ∃ (ps:List (PV K)) (vs:List V),qdm good ls ps/\qh X sz (wd0 (qe1 W F ng) M C.codec) ps vs/\Go.E2.qd (j5 W) W vs cs
 | [],[],_,_,_,_=>⟨[],[],rfl,.nil,by simp [Go.E2.qd]⟩
 | [],_::_,_,h,_,_=>by simp at h
 | _::_,[],_,h,_,_=>by simp at h
 | l::ls,x::cs,ht,hl,hc,hr=>by
  obtain ⟨u,hu⟩:=hc 0 x rfl
  obtain ⟨p,v,h1,h2,h3⟩:=qn7 (ng:=ng) ok hM (ht l zC) hu (hr 0 l x rfl rfl)
  obtain ⟨ps,vs,h4,h5,h6⟩:=qjv (ng:=ng) ok hM (cs:=cs) (ls:=ls) (fun leaf hm=>ht leaf (zG _ hm)) (by simpa using hl) (fun i y hy=>hc (i+1) y (by simpa using hy)) fun i leaf y h7 h8=>hr (i+1) leaf y (by simpa using h7) (by simpa using h8)
  exact ⟨p::ps,v::vs,⟨p,ps,rfl,h1,h4⟩,.cons h2 h5,Go.E2.qd.cons h3 h6⟩
theorem q2l {C:Cfg Int Bool (List UInt8) Prop (fun c=>List (K c))} (ok:CfgOk X sz C) {depth ng n:Nat} {base:Nat} {M:Nat->Prop} (hM:∀ n,¬ M n) {t:TypeId} {v:Value} {d:DataW Hd} {ps:List MemPlace} {leaf:Leaf4} (hT:leaf.flat=true∨∃ c,leaf=.list c/\qgk good X sz P F cd depth n c)
  (ht:(match P.underlying t with | some (.struct _) | some (.array _ _)=>false | _=>true)=true) (hl:qh8 P cd depth t=some [leaf]) (hv:Value.okWide P W .any base t v) (hd:DataW.Trod enc P W 0 (fun _=>true) true t v d ps) :
  ∃ (p:PV K) (u:V),qgi good leaf p/\Rep X sz (wd0 (qe1 W F ng) M C.codec) p u/\Go.E2.Rel (j5 W) W u v:=by
 obtain ⟨n,hn⟩:=hd
 obtain ⟨h1,h2⟩:=qd5 depth hn hl
 have hcell:Cell.okWide P W .any base t v:=by
  unfold Value.okWide at hv
  split at hv
  .rename_i h;simp [h] at ht
  .rename_i h;simp [h] at ht
  .exact hv
 have hcs:v.cells.toList=[v]:=by
  cases v with
  | agg cs=>
   exfalso
   unfold Cell.okWide at hcell
   split at hcell<;>first | (rename_i hx;cases hx;done) | skip
   unfold Cell.ok at hcell
   split at hcell<;>first | (rename_i hx;cases hx;done) | exact hcell
  | _=>rfl
 exact qn7 ok hM hT hcell (h2 0 leaf v rfl (by rw [hcs];rfl))
theorem q1l {C:Cfg Int Bool (List UInt8) Prop (fun c=>List (K c))} (ok:CfgOk X sz C) {depth ng n:Nat} {base:Nat} {M:Nat->Prop} (hM:∀ n,¬ M n) {t:TypeId} {v:Value} {d:DataW Hd} {ps:List MemPlace} {ls:List Leaf4} {fs:Array Field} (hT:∀ leaf ∈ ls,leaf.flat=true∨∃ c,leaf=.list c/\qgk good X sz P F cd depth n c)
  (ht:P.underlying t=some (.struct fs)) (hl:qh8 P cd depth t=some ls) (hv:Value.okWide P W .any base t v) (hd:DataW.Trod enc P W 0 (fun _=>true) true t v d ps) :
  ∃ (ps:List (PV K)) (u:V),qdm good ls ps/\Rep X sz (wd0 (qe1 W F ng) M C.codec) (.agg ps) u/\Go.E2.Rel (j5 W) W u v:=by
 obtain ⟨n,hn⟩:=hd
 obtain ⟨h1,h2⟩:=qd5 depth hn hl
 unfold Value.okWide at hv
 rw [ht] at hv
 obtain ⟨cs,rfl,_,ts,_,_,hts⟩:=hv
 have hcs:(Value.agg cs).cells.toList=cs.toList:=rfl
 rw [hcs] at h1 h2
 obtain ⟨qs,vs,h3,h4,h5⟩:=qjv (ng:=ng) ok hM hT h1 (fun i x hx=>by
  obtain ⟨u,_,hu⟩:=hts i x (by simpa using hx)
  exact ⟨u,hu⟩) h2
 exact ⟨qs,.agg vs,h3,.agg h4.1 h4.2,by simp only [Go.E2.Rel];exact ⟨cs,rfl,h5⟩⟩
end
end Go.E3
/- PLAIN LEAN FOR CONDITIONS: elements, bytes, parts of lists by numbers; places up to which something holds; cuts at a byte. No program in sight. -/
namespace Go.E3
theorem qxd {α:Type} (l:List α):0<=ln l:=Int.natCast_nonneg _
theorem qv3 {α:Type} (a:α) (l:List α):ln (a::l)=ln l+1:=by simp [ln]
end Go.E3
