/- A VERIFIED EVALUATOR, texts E3u, E3v, E3w, E3x, E3y, E3z, E3za, E3zb, E3zd, L3a in one. -/
import Derived.Test.YtpbliaccnbgapaaGreatDoorM5
import Derived.ChangeBook
import Derived.ChangeStays
import Derived.ChangeArms
import Derived.ChangeMaps5
import Derived.OpenShut
/- E3: THE HEAD of a loop, and what stands behind a cut. -/
namespace Go.E3
open Go Go.E2
variable {K:Nat->Type}
theorem qv1 {α:Type}:∀ {l:List Nat} {t:Tree α} {n:Nat},(qqt l t).get n=if n ∈ l then none else t.get n
 | [],t,n=>by simp [qqt]
 | m::l,t,n=>by
  simp only [qqt]
  rw [qv1,Tree.qpn]
  by_cases h1:n ∈ l
  .simp [h1]
  .by_cases h2:n=m
   .subst h2;simp [h1]
   .simp [h1,h2]
theorem qkj {α:Type}:∀ {ids:List Nat} {l:List (Nat×α)} {j:Nat},look (ids.foldl qa0 l) j=if j ∈ ids then none else look l j
 | [],l,j=>by simp
 | i::ids,l,j=>by
  simp only [List.foldl_cons]
  rw [qkj,qeu]
  by_cases h1:j ∈ ids
  .simp [h1]
  .by_cases h2:j=i
   .subst h2;simp [h1]
   .simp [h1,h2]
theorem qeg {α:Type}:∀ {l:List (Nat×α)} {n:Nat} {a:α},look l n=some a->(n,a) ∈ l
 | [],_,_,h=>by cases h
 | (i,b)::l,n,a,h=>by
  simp only [look,cond_eq_ite,Nat.beq_eq] at h
  split at h
  .rename_i hi
   subst hi
   cases h
   exact zC
  .exact zG _ (qeg h)
theorem qff:∀ {l:List Nat},distinct l=true->l.Nodup
 | [],_=>List.nodup_nil
 | i::l,h=>by
  simp only [distinct,zA,Bool.not_eq_true'] at h
  rw [List.nodup_cons]
  refine ⟨fun hm=>?_,qff h.2⟩
  have:=h.1
  rw [<-Bool.not_eq_true,List.any_eq_true] at this
  exact this ⟨i,hm,Nat.beq_refl i⟩
section
variable {X:Codecs K} {sz:Nat->Nat} {C:ZC K} {base H0 H2:Heap} {st0 st2:StV K} {w0 w1 w2:Wd} {fr0 fr2:Fr}
variable {tbl:Tbl K} {inv:Nat->List (NV K)->Prop} {meas:Nat->List (NV K)->Nat}
theorem Rep.zi0 {w:Wd} {c:Nat} {l:List (K c)} {own:Option (Nat×Nat)} {v:V} (r:Rep X sz w (.list c l own) v):Rep X sz w (.list c l none) v/\qjz w sz c own v:=by
 cases r with
 | nlist ho=>exact ⟨.nlist trivial,ho⟩
 | list hg hf hM hlen hb hz hcap hc ho=>exact ⟨.list hg hf hM hlen hb hz hcap hc trivial,ho⟩
theorem Rep.qg4 {w:Wd} {c:Nat} {l:List (K c)} {own:Option (Nat×Nat)} {v:V} (r:Rep X sz w (.list c l none) v) (h:qjz w sz c own v):Rep X sz w (.list c l own) v:=by
 cases r with
 | nlist ho=>exact .nlist h
 | list hg hf hM hlen hb hz hcap hc ho=>exact .list hg hf hM hlen hb hz hcap hc h
theorem qwd {st:StV K} {w:Wd} (how:∀ i,w.owns i=look st.owns i) {c:Nat} {l:List (K c)} {i s:Nat} (h:qdf st (.list c l (some (i,s)):PV K)=true):w.owns i=some s:=by
 rw [how]
 simp only [qdf] at h
 split at h
 .rename_i s' hs
  rw [hs,zE h]
 .cases h
theorem q2u (ok2:CfgOk2 X C) (hle:Le w0 w1) (hle2:Le w0 w2) {c:Nat} {l l':List (K c)} {i s:Nat} {v0 v:V} (h2:w2.owns i=some s) (hg:w1.g=w2.g) (hM:w1.M=w2.M) (r0:Rep X sz w0 (.list c l' (some (i,s))) v0) (r2:Rep X sz w2 (.list c l (some (i,s))) v) :
  Rep X sz w1 (.list c l (some (i,s))) v:=by
 obtain ⟨r2',o2⟩:=r2.zi0
 obtain ⟨_,o0⟩:=r0.zi0
 refine (r2'.plain ok2.plain hg (fun _ _ _ hm=>by rw [hM];exact hm) .list).qg4 ⟨zL o0.1 hle.n,(qjz.mono hle o0).2.1,fun h1=>?_,o2.2.2.2⟩
 have hv:=o2.2.2.1 h2
 have h0:w0.owns i=some s:=by
  cases h0:w0.owns i with
  | none=>rw [hle.o1 i o0.1 h0] at h1;cases h1
  | some s0=>
   have a:=o0.2.1 s0 h0
   have b:=hle.o2 i s0 s o0.1 h0 h1
   rw [Nat.le_antisymm b a]
 obtain ⟨e1,_⟩:=hle.o3 i s o0.1 h0 h1
 obtain ⟨e2,_⟩:=hle2.o3 i s o0.1 h0 h2
 have ec:w1.ce=w2.ce:=hle.ce.trans hle2.ce.symm
 cases v with
 | nils=>trivial
 | slice nm gn off len z cap=>
  simp only [qs7] at hv ⊢
  rcases hv with hv | ⟨hcap,he,cs,e,floor,frz,ex,hg',hr⟩
  .exact .inl hv
  .exact .inr ⟨hcap,by rw [e1,<-e2];exact he,cs,e,floor,frz,ex,by rw [hg];exact hg',hr.1,hr.2.1,by rw [ec];exact hr.2.2⟩
 | _=>exact hv
mutual
theorem qsz (hx:∀ c x,(X.cells c x).length=sz c) (ok2:CfgOk2 X C) (hle:Le w0 w1) (hle2:Le w0 w2) (how:∀ i,w2.owns i=look st2.owns i) (hc:∀ id,id<w0.n->w1.c id=w2.c id) (hg:w1.g=w2.g) (hM:w1.M=w2.M):∀ (p p2:PV K) {obs:List Prop} {v0 v:V},
  qat (qt X tbl inv meas) st2 p p2=some obs->(∀ q ∈ obs,q)->Rep X sz w0 p v0->Rep X sz w2 p2 v->Rep X sz w1 p v
 | .int k l a,p2,obs,v0,v,h,ho,r0,r2=>by
  cases p2 with
  | int k' l' b=>
   simp only [qat] at h
   split at h
   .rename_i hk
    subst hk
    have:a=b:=by
     rcases hl:q2y l l' with _ | _
     .rw [hl] at h
      cases h
      exact ho _ zC
     .unfold q2y at hl
      split at hl
      .rename_i x y
       have hxy:x=y:=of_decide_eq_true hl
       cases r0 with | int h0=>cases r2 with | int h2=>
       rw [<-h0 x rfl,<-h2 y rfl,hxy]
      .cases hl
    subst this
    cases r2
    cases r0 with | int h1=>exact .int h1
   .cases h
  | _=>simp [qat] at h
 | .lit a,p2,obs,v0,v,h,ho,r0,r2=>by
  cases p2 with
  | lit b=>
   simp only [qat] at h
   split at h
   .rename_i hk
    subst hk
    cases r2
    exact .lit
   .cases h
  | _=>simp [qat] at h
 | .sb id neg a pt pf,p2,obs,v0,v,h,ho,r0,r2=>by
  cases p2 with
  | sb id' neg' b pt' pf'=>
   simp only [qat,zS] at h
   subst h
   have:a=b:=ho _ zC
   subst this
   cases r2
   have:=r0.mono hx hle
   cases r0
   exact this
  | _=>simp [qat] at h
 | .str a,p2,obs,v0,v,h,ho,r0,r2=>by
  cases p2 with
  | str b=>
   simp only [qat,zS] at h
   subst h
   have:a=b:=ho _ zC
   subst this
   cases r2
   exact .str
  | _=>simp [qat] at h
 | .list c l o,p2,obs,v0,v,h,ho,r0,r2=>by
  cases o with
  | some x=>
   obtain ⟨i,s⟩:=x
   cases p2 with
   | list c' l' o'=>
    cases o' with
    | none=>simp [qat] at h
    | some y=>
     obtain ⟨i',s'⟩:=y
     simp only [qat] at h
     rcases ka h with ⟨_,h1⟩ | ⟨h1,h2⟩
     .cases h1
     .simp only [zA] at h1
      obtain ⟨⟨e1,e2⟩,e3⟩:=h1
      have:=zE e1
      subst this
      have:=zE e2
      subst this
      split at h2
      .rename_i hcc
       subst hcc
       cases h2
       have:l=l':=ho _ zC
       subst this
       exact q2u ok2 hle hle2 (qwd how e3) hg hM r0 r2
      .cases h2
   | _=>simp [qat] at h
  | none=>
   cases p2 with
   | list c' l' o'=>
    cases o' with
    | some x=>simp [qat] at h
    | none=>
     simp only [qat] at h
     split at h
     .rename_i hcc
      subst hcc
      cases h
      have:l=l':=ho _ zC
      subst this
      exact r2.plain ok2.plain hg (fun _ _ _ hm=>by rw [hM];exact hm) .list
     .cases h
   | _=>simp [qat] at h
 | .nils,p2,obs,v0,v,h,ho,r0,r2=>by
  cases p2 with
  | nils=>cases r2;exact .nils
  | _=>simp [qat] at h
 | .cell i o l,p2,obs,v0,v,h,ho,r0,r2=>by
  cases p2 with
  | cell i' o' l'=>
   simp only [qat] at h
   rcases ka h with ⟨_,h1⟩ | ⟨h1,_⟩
   .cases h1
   .simp only [zA] at h1
    have e1:=zE h1.1.1
    have e2:=zE h1.1.2
    have e3:=zE h1.2
    subst e1;subst e2;subst e3
    cases r0 with
    | cell hi=>
     cases r2 with
     | cell hi2=>
      rw [<-hc i hi]
      exact .cell (zL hi hle.n)
  | _=>simp [qat] at h
 | .eptr cs o,p2,obs,v0,v,h,ho,r0,r2=>by cases p2<;>simp [qat] at h
 | .mlist i c n,p2,obs,v0,v,h,ho,r0,r2=>by
  cases p2 with
  | mlist i' c' n'=>
   simp only [qat] at h
   rcases ka h with ⟨_,h1⟩ | ⟨h1,h2⟩
   .cases h1
   .simp only [zA] at h1
    have:=zE h1.1
    subst this
    have:=zE h1.2
    subst this
    cases h2
    have:n=n':=ho _ zC
    subst this
    have hi:i<w0.n:=by cases r0;assumption
    cases r2 with
    | mlist h3 h4 h5=>
     rw [<-hc i hi]
     exact .mlist (zL hi hle.n) h4 h5
  | _=>simp [qat] at h
 | .nilp,p2,obs,v0,v,h,ho,r0,r2=>by
  cases p2 with
  | nilp=>cases r2;exact .nilp
  | _=>simp [qat] at h
 | .func f a c,p2,obs,v0,v,h,ho,r0,r2=>by
  cases p2 with
  | func f' a' c'=>
   simp only [qat] at h
   rcases ka h with ⟨_,h1⟩ | ⟨h1,h2⟩
   .cases h1
   .have e1:=zE h1
    subst e1
    obtain ⟨x,hx1,hx2⟩:=zI.1 h2
    obtain ⟨y,hy1,hy2⟩:=zM.1 hx2
    subst hy2
    cases r0 with
    | @func _ _ _ va vc q1 q2 q3 q4=>
     cases r2 with
     | @func _ _ _ va' vc' p1 p2 p3 p4=>
      have g1:=qhr hx ok2 hle hle2 how hc hg hM a a' hx1 (fun q hq=>ho q (List.mem_append_left _ hq)) ⟨q1,q3⟩ ⟨p1,p3⟩
      have g2:=qhr hx ok2 hle hle2 how hc hg hM c c' hy1 (fun q hq=>ho q (List.mem_append_right _ hq)) ⟨q2,q4⟩ ⟨p2,p4⟩
      exact .func g1.1 g2.1 g1.2 g2.2
  | _=>simp [qat] at h
 | .nilf,p2,obs,v0,v,h,ho,r0,r2=>by
  cases p2 with
  | nilf=>cases r2;exact .nilf
  | _=>simp [qat] at h
 | .yield i,p2,obs,v0,v,h,ho,r0,r2=>by
  cases p2 with
  | yield i'=>
   simp only [qat] at h
   rcases ka h with ⟨_,h1⟩ | ⟨h1,_⟩
   .cases h1
   .have:=zE h1
    subst this
    have hi:i<w0.n:=by cases r0;assumption
    cases r2 with
    | yield h3=>
     rw [<-hc i hi]
     exact .yield (zL hi hle.n)
  | _=>simp [qat] at h
 | .map i,p2,obs,v0,v,h,ho,r0,r2=>by
  cases p2 with
  | map i'=>
   simp only [qat] at h
   rcases ka h with ⟨_,h1⟩ | ⟨h1,_⟩
   .cases h1
   .have:=zE h1
    subst this
    have hi:i<w0.n:=by cases r0;assumption
    cases r2 with
    | map h3=>
     rw [<-hc i hi]
     exact .map (zL hi hle.n)
  | _=>simp [qat] at h
 | .iface t q,p2,obs,v0,v,h,ho,r0,r2=>by cases p2<;>simp [qat] at h
 | .nili,p2,obs,v0,v,h,ho,r0,r2=>by
  cases p2 with
  | nili=>cases r2;exact .nili
  | _=>simp [qat] at h
 | .agg cs,p2,obs,v0,v,h,ho,r0,r2=>by cases p2<;>simp [qat] at h
 | .tuple cs,p2,obs,v0,v,h,ho,r0,r2=>by cases p2<;>simp [qat] at h
theorem qhr (hx:∀ c x,(X.cells c x).length=sz c) (ok2:CfgOk2 X C) (hle:Le w0 w1) (hle2:Le w0 w2) (how:∀ i,w2.owns i=look st2.owns i) (hc:∀ id,id<w0.n->w1.c id=w2.c id) (hg:w1.g=w2.g) (hM:w1.M=w2.M):∀ (ps p2s:List (PV K)) {obs:List Prop} {vs0 vs:List V},
  qmc (qt X tbl inv meas) st2 ps p2s=some obs->(∀ q ∈ obs,q)->qq X sz w0 ps vs0->qq X sz w2 p2s vs->qq X sz w1 ps vs
 | [],[],obs,vs0,vs,h,ho,r0,r2=>by rw [r2.kg];exact .nil
 | [],_::_,obs,vs0,vs,h,ho,r0,r2=>by simp [qmc] at h
 | _::_,[],obs,vs0,vs,h,ho,r0,r2=>by simp [qmc] at h
 | p::ps,p2::p2s,obs,vs0,vs,h,ho,r0,r2=>by
  simp only [qmc] at h
  obtain ⟨x,hx1,hx2⟩:=zI.1 h
  obtain ⟨y,hy1,hy2⟩:=zM.1 hx2
  subst hy2
  obtain ⟨v0,vs0',rfl,a1,a2⟩:=r0.zv
  obtain ⟨v,vs',rfl,b1,b2⟩:=r2.zv
  exact .cons (qsz hx ok2 hle hle2 how hc hg hM p p2 hx1 (fun q hq=>ho q (List.mem_append_left _ hq)) a1 b1) (qhr hx ok2 hle hle2 how hc hg hM ps p2s hy1 (fun q hq=>ho q (List.mem_append_right _ hq)) a2 b2)
end
def q9f (fr2:Fr) (H2:Heap) (w2:Wd):RSlot->List V->Prop
 | .one t _,vs=>∃ v,fr2.tmp t=some v/\vs=[v]
 | .agg t _,vs=>fr2.tmp t=some (.agg vs)
 | .var id _,vs=>w2.M (w2.c id)/\∃ e ex,H2.get (w2.c id)=some (.row vs e 0 0 0 ex)
 | .ml ..,_=>False
 | .it ..,_=>False
def Good (w0 w2 w':Wd):Prop:=Le w0 w'/\w'.g=w2.g/\w'.M=w2.M/\w'.c=w2.c
def q62 (X:Codecs K) (sz:Nat->Nat) (st0:StV K) (fr2:Fr) (H2:Heap) (w0 w2:Wd) (s:RSlot):Prop:=
 ∀ x,qbd st0 s=some x->∀ vs,q9f fr2 H2 w2 s vs->∀ (i:Nat) (p:PV K),x.1[i]? = some .keep->x.2[i]? = some p->∀ w',Le w0 w'->w'.g=w2.g->w'.M=w2.M->Rep X sz w' p (vs.getD i jb)
def qnp (X:Codecs K) (sz:Nat->Nat) (H2:Heap) (w2 w1:Wd) (id:Nat) (ct:ZT K):Prop:=w2.M (w2.c id)/\∀ w',Le w1 w'->qa8 X sz w' id ct (H2.get (w2.c id))
theorem q22 {A B:StV K} {s:RSlot} {x y:List SK×List (PV K)} (h1:qbd A s=some x) (h2:qbd B s=some y):x.1=y.1:=by
 cases s with
 | one t k=>
  simp only [qbd] at h1 h2
  obtain ⟨_,_,rfl⟩:=zM.1 h1
  obtain ⟨_,_,rfl⟩:=zM.1 h2
  rfl
 | agg t ks=>
  simp only [qbd] at h1 h2
  split at h1
  .split at h2
   .cases h1;cases h2;rfl
   .cases h2
  .cases h1
 | var id ks=>
  simp only [qbd] at h1 h2
  obtain ⟨_,_,rfl⟩:=zM.1 h1
  obtain ⟨_,_,rfl⟩:=zM.1 h2
  rfl
 | ml id c=>simp [qbd] at h1
 | it id=>simp [qbd] at h1
theorem qm2 (R2:Rel X sz C base st2 fr2 H2 w2) {s:RSlot} {y:List SK×List (PV K)} (h:qbd st2 s=some y):∃ vs,q9f fr2 H2 w2 s vs/\qq X sz w2 y.2 vs:=by
 cases s with
 | one t k=>
  simp only [qbd] at h
  obtain ⟨p,h1,rfl⟩:=zM.1 h
  obtain ⟨v,hv,hr⟩:=R2.f t p h1
  exact ⟨[v],⟨v,hv,rfl⟩,.cons hr .nil⟩
 | agg t ks=>
  simp only [qbd] at h
  split at h
  .rename_i cs h1
   cases h
   obtain ⟨v,hv,hr⟩:=R2.f t _ h1
   obtain ⟨vs,rfl,hl⟩:=hr.qem
   exact ⟨vs,hv,hl⟩
  .cases h
 | var id ks=>
  simp only [qbd] at h
  obtain ⟨ps,h1,rfl⟩:=zM.1 h
  obtain ⟨_,hM,vs,e,ex,hg,_,hr⟩:=R2.h.cells id _ (qe4 h1)
  exact ⟨vs,⟨hM,e,ex,hg⟩,hr⟩
 | ml id c=>simp [qbd] at h
 | it id=>simp [qbd] at h
theorem qca (ok:CfgOk X sz C) (ok2:CfgOk2 X C) (R2:Rel X sz C base st2 fr2 H2 w2):∀ {slots:List RSlot} {ns:List (NV K)} {st1:StV K} {w1:Wd} {G:List (NV K)->StV K->Prop},
  qcu (qt X tbl inv meas) st2 slots=some ns->(∀ s ∈ slots,q62 X sz st0 fr2 H2 w0 w2 s)->Part X sz base st0 w0 st2 H2 w2 st1 w1 (kc st2 slots)->q3n X sz w1 st1.tmps fr2->
  (∀ id ps,look st1.cells id=some ps->id ∈ qea slots∨qnp X sz H2 w2 w1 id ps)->(∀ id,(look st1.cells id).isSome=(look st0.cells id).isSome)->qbv (qt X tbl inv meas) st0 slots st1 G->
  ∃ st1' w1',G ns st1'/\Part X sz base st0 w0 st2 H2 w2 st1' w1' []/\q3n X sz w1' st1'.tmps fr2/\(∀ id ps,look st1'.cells id=some ps->qnp X sz H2 w2 w1' id ps)/\(∀ id,(look st1'.cells id).isSome=(look st0.cells id).isSome)/\st1'.n=st1.n
 | [],ns,st1,w1,G,hN,hK,m,hT,hC,hD,h=>by
  simp only [qcu,zS] at hN
  subst hN
  exact ⟨st1,w1,h,m,hT,fun id ps hl=>(hC id ps hl).elim (fun hv=>by simp [qea] at hv) (fun h=>h),hD,rfl⟩
 | s::slots,ns,st1,w1,G,hN,hK,m,hT,hC,hD,h=>by
  by_cases hmm:∃ id c,s=.ml id c
  .obtain ⟨id,c,rfl⟩:=hmm
   simp only [qcu] at hN
   obtain ⟨l2,hl2,hN1⟩:=zI.1 hN
   obtain ⟨ns',hN3,rfl⟩:=zM.1 hN1
   simp only [qbv] at h
   obtain ⟨l0,hl0,h1⟩:=qb h
   have g1:=h1 l2
   have hlk2:=qga hl2
   obtain ⟨_,hM,vs,e,ex,hg,_,hr⟩:=R2.h.cells id _ hlk2
   have hids:kc st2 (.ml id c::slots)=kc st2 slots:=rfl
   rw [hids] at m
   have hr1:qq X sz w1 (qnv X (.ml c l2)) vs:=by
    refine ⟨hr.1,fun j p hp=>m.move ok2 (hr.2 j p hp) ?_⟩
    obtain ⟨x,_,hx⟩:=List.mem_flatMap.1 (List.mem_of_getElem? hp)
    exact ok2.plain c x p hx
   have m2:Part X sz base st0 w0 st2 H2 w2 {st1 with cells:=qei st1.cells id (.ml c l2)} w1 (kc st2 slots):=⟨m.g,m.M,m.ce,m.nx,m.c,m.cl,m.n,m.le,m.nxt,m.known,m.owns,m.ownn,m.eta,m.einj,m.pends,m.pdist⟩
   have hC2:∀ id' ps,look (qei st1.cells id (.ml c l2)) id'=some ps->id' ∈ qea slots∨qnp X sz H2 w2 w1 id' ps:=by
    intro id' ps hl
    rw [qc5] at hl
    by_cases hi:id'=id
    .rw [zT hi] at hl
     cases hl
     subst hi
     exact .inr ⟨hM,fun w' hw=>⟨vs,e,ex,hg,trivial,hr1.mono ok.len hw⟩⟩
    .rw [zF hi] at hl
     rcases hC id' ps hl with h1 | h1
     .simp only [qea,zD] at h1
      rcases h1 with h1 | h1
      .exact absurd h1 hi
      .exact .inl h1
     .exact .inr h1
   have hD2:∀ id',(look (qei st1.cells id (.ml c l2)) id').isSome=(look st0.cells id').isSome:=by
    intro id'
    rw [qc5]
    by_cases hi:id'=id
    .rw [zT hi,hi,qga hl0];rfl
    .rw [zF hi];exact hD id'
   obtain ⟨st3,w3,b1,b2,b3,b4,b5,b6⟩:=qca ok ok2 R2 hN3 (fun s' hs'=>hK s' (zG _ hs')) m2 hT hC2 hD2 g1
   exact ⟨st3,w3,b1,b2,b3,b4,b5,b6⟩
  have hml':∀ id c,s=.ml id c->False:=fun id c he=>hmm ⟨id,c,he⟩
  by_cases hmi:∃ id,s=.it id
  .obtain ⟨id,rfl⟩:=hmi
   simp only [qcu] at hN
   obtain ⟨l2,hl2,hN1⟩:=zI.1 hN
   obtain ⟨ns',hN3,rfl⟩:=zM.1 hN1
   simp only [qbv] at h
   obtain ⟨l0,hl0,h1⟩:=qb h
   have g1:=h1 l2.1 l2.2
   have hlk2:=qki hl2
   obtain ⟨_,hM,pos,hpos,hg⟩:=R2.h.cells id _ hlk2
   have hids:kc st2 (.it id::slots)=kc st2 slots:=rfl
   rw [hids] at m
   have m2:Part X sz base st0 w0 st2 H2 w2 {st1 with cells:=qei st1.cells id (.si l2.1 l2.2)} w1 (kc st2 slots):=⟨m.g,m.M,m.ce,m.nx,m.c,m.cl,m.n,m.le,m.nxt,m.known,m.owns,m.ownn,m.eta,m.einj,m.pends,m.pdist⟩
   have hC2:∀ id' ps,look (qei st1.cells id (.si l2.1 l2.2)) id'=some ps->id' ∈ qea slots∨qnp X sz H2 w2 w1 id' ps:=by
    intro id' ps hl
    rw [qc5] at hl
    by_cases hi:id'=id
    .rw [zT hi] at hl
     cases hl
     subst hi
     exact .inr ⟨hM,fun w' hw=>⟨pos,hpos,hg⟩⟩
    .rw [zF hi] at hl
     rcases hC id' ps hl with h1 | h1
     .simp only [qea,zD] at h1
      rcases h1 with h1 | h1
      .exact absurd h1 hi
      .exact .inl h1
     .exact .inr h1
   have hD2:∀ id',(look (qei st1.cells id (.si l2.1 l2.2)) id').isSome=(look st0.cells id').isSome:=by
    intro id'
    rw [qc5]
    by_cases hi:id'=id
    .rw [zT hi,hi,qki hl0];rfl
    .rw [zF hi];exact hD id'
   obtain ⟨st3,w3,b1,b2,b3,b4,b5,b6⟩:=qca ok ok2 R2 hN3 (fun s' hs'=>hK s' (zG _ hs')) m2 hT hC2 hD2 g1
   exact ⟨st3,w3,b1,b2,b3,b4,b5,b6⟩
  have hit':∀ id,s=.it id->False:=fun id he=>hmi ⟨id,he⟩
  simp only [qcu] at hN
  obtain ⟨y,hy,hN1⟩:=zI.1 hN
  obtain ⟨a,ha,hN2⟩:=zI.1 hN1
  obtain ⟨ns',hN3,rfl⟩:=zM.1 hN2
  simp only [qbv] at h
  split at h
  .exact absurd h id
  .rename_i x hx
   obtain ⟨vs,hvs,hr⟩:=qm2 R2 hy
   have hk:=q22 hx hy
   rw [<-hk] at ha
   have hids:kc st2 (s::slots)=qae x.1 y.2++kc st2 slots:=by
    simp only [kc,hy]
    rw [hk]
   rw [hids] at m
   obtain ⟨qs,st1',w1',g1,g2,g3,g4,g5,g6,g7⟩:=qes ok ok2 R2.h ha hr (hK s zC x hx vs hvs) m h
   have hT':q3n X sz w1' st1'.tmps fr2:=by
    intro i p hp
    rw [g5] at hp
    obtain ⟨v,h1,h2⟩:=hT i p hp
    exact ⟨v,h1,h2.mono ok.len g3⟩
   have hC':∀ id ps,look st1'.cells id=some ps->id ∈ qea (s::slots)∨qnp X sz H2 w2 w1' id ps:=by
    intro id ps hl
    rw [g7] at hl
    rcases hC id ps hl with h1 | ⟨h0,h1⟩
    .exact .inl h1
    .exact .inr ⟨h0,fun w' hw=>h1 w' (g3.trans hw)⟩
   have hD':∀ id,(look st1'.cells id).isSome=(look st0.cells id).isSome:=by
    intro id
    rw [g7]
    exact hD id
   have hK':∀ s' ∈ slots,q62 X sz st0 fr2 H2 w0 w2 s':=fun s' hs'=>hK s' (zG _ hs')
   cases s with
   | ml id c=>exact absurd ⟨id,c,rfl⟩ hmm
   | it id=>exact absurd ⟨id,rfl⟩ hmi
   | one t k=>
    simp only at g1
    split at g1
    .rename_i q
     obtain ⟨v,hv,rfl⟩:=hvs
     obtain ⟨v',_,he,hq,_⟩:=g4.zv
     cases he
     have m2:Part X sz base st0 w0 st2 H2 w2 {st1' with tmps:=st1'.tmps.set t q} w1' (kc st2 slots):=⟨g2.g,g2.M,g2.ce,g2.nx,g2.c,g2.cl,g2.n,g2.le,g2.nxt,g2.known,g2.owns,g2.ownn,g2.eta,g2.einj,g2.pends,g2.pdist⟩
     have hT2:q3n X sz w1' (st1'.tmps.set t q) fr2:=by
      intro i p hp
      rw [Tree.km] at hp
      by_cases hi:i=t
      .rw [zT hi] at hp
       cases hp
       subst hi
       exact ⟨v,hv,hq⟩
      .rw [zF hi] at hp
       exact hT' i p hp
     obtain ⟨st3,w3,b1,b2,b3,b4,b5,b6⟩:=qca ok ok2 R2 hN3 hK' m2 hT2 hC' hD' g1
     exact ⟨st3,w3,b1,b2,b3,b4,b5,b6.trans g6⟩
    .exact absurd g1 id
   | agg t ks=>
    simp only at g1
    have m2:Part X sz base st0 w0 st2 H2 w2 {st1' with tmps:=st1'.tmps.set t (.agg qs)} w1' (kc st2 slots):=⟨g2.g,g2.M,g2.ce,g2.nx,g2.c,g2.cl,g2.n,g2.le,g2.nxt,g2.known,g2.owns,g2.ownn,g2.eta,g2.einj,g2.pends,g2.pdist⟩
    have hT2:q3n X sz w1' (st1'.tmps.set t (.agg qs)) fr2:=by
     intro i p hp
     rw [Tree.km] at hp
     by_cases hi:i=t
     .rw [zT hi] at hp
      cases hp
      subst hi
      exact ⟨_,hvs,.qqp g4⟩
     .rw [zF hi] at hp
      exact hT' i p hp
    obtain ⟨st3,w3,b1,b2,b3,b4,b5,b6⟩:=qca ok ok2 R2 hN3 hK' m2 hT2 hC' hD' g1
    exact ⟨st3,w3,b1,b2,b3,b4,b5,b6.trans g6⟩
   | var id ks=>
    simp only at g1
    have m2:Part X sz base st0 w0 st2 H2 w2 {st1' with cells:=qei st1'.cells id (.cs none qs)} w1' (kc st2 slots):=⟨g2.g,g2.M,g2.ce,g2.nx,g2.c,g2.cl,g2.n,g2.le,g2.nxt,g2.known,g2.owns,g2.ownn,g2.eta,g2.einj,g2.pends,g2.pdist⟩
    obtain ⟨hM0,e,ex,hg⟩:=hvs
    have hC2:∀ id' ps,look (qei st1'.cells id (.cs none qs)) id'=some ps->id' ∈ qea slots∨qnp X sz H2 w2 w1' id' ps:=by
     intro id' ps hl
     rw [qc5] at hl
     by_cases hi:id'=id
     .rw [zT hi] at hl
      cases hl
      subst hi
      exact .inr ⟨hM0,fun w' hw=>⟨vs,e,ex,hg,trivial,g4.mono ok.len hw⟩⟩
     .rw [zF hi] at hl
      rcases hC' id' ps hl with h1 | h1
      .simp only [qea,zD] at h1
       rcases h1 with h1 | h1
       .exact absurd h1 hi
       .exact .inl h1
      .exact .inr h1
    have hsome:(look st0.cells id).isSome=true:=by
     simp only [qbd] at hx
     obtain ⟨ps,h1,_⟩:=zM.1 hx
     rw [qe4 h1];rfl
    have hD2:∀ id',(look (qei st1'.cells id (.cs none qs)) id').isSome=(look st0.cells id').isSome:=by
     intro id'
     rw [qc5]
     by_cases hi:id'=id
     .rw [zT hi,hi,hsome];rfl
     .rw [zF hi];exact hD' id'
    obtain ⟨st3,w3,b1,b2,b3,b4,b5,b6⟩:=qca ok ok2 R2 hN3 hK' m2 hT' hC2 hD2 g1
    exact ⟨st3,w3,b1,b2,b3,b4,b5,b6.trans g6⟩
theorem qsq (A:zm9 K):∀ {ks:List SK} {ps:List (PV K)} {ns:List (NV K)} {i:Nat},qkz A st2 ks ps=some ns->i ∈ qae ks ps->∃ s,look st2.owns i=some s
 | [],ps,ns,i,_,h=>by cases ps<;>simp [qae] at h
 | _::_,[],ns,i,h,_=>by simp [qkz] at h
 | k::ks,p::ps,ns,i,h,hi=>by
  simp only [qkz] at h
  obtain ⟨a,h1,h2⟩:=zI.1 h
  obtain ⟨r,h3,_⟩:=zM.1 h2
  have ih:i ∈ qae ks ps->∃ s,look st2.owns i=some s:=qsq A h3
  cases k with
  | list c own nb=>
   cases own with
   | false=>
    have e:qae (.list c false nb::ks) (p::ps)=qae ks ps:=by cases p<;>rfl
    rw [e] at hi
    exact ih hi
   | true=>
    cases p with
    | list c' l o=>
     cases o with
     | none=>exact ih hi
     | some x=>
      obtain ⟨j,s⟩:=x
      simp only [qae,zD] at hi
      rcases hi with rfl | hi
      .simp only [qrs] at h1
       rcases ka h1 with ⟨hb,_⟩ | ⟨_,hb⟩
       .simp only [Bool.true_and] at hb
        simp only [qdf] at hb
        split at hb
        .rename_i s' hs;exact ⟨s',hs⟩
        .cases hb
       .cases hb
      .exact ih hi
    | _=>exact ih hi
  | _=>exact ih hi
theorem qfq (A:zm9 K):∀ {slots:List RSlot} {ns:List (NV K)} {i:Nat},qcu A st2 slots=some ns->i ∈ kc st2 slots->∃ s,look st2.owns i=some s
 | [],ns,i,_,h=>by simp [kc] at h
 | s::slots,ns,i,h,hi=>by
  by_cases hmm:∃ id c,s=.ml id c
  .obtain ⟨id,c,rfl⟩:=hmm
   simp only [qcu] at h
   obtain ⟨y,hy,h1⟩:=zI.1 h
   obtain ⟨r,hr,_⟩:=zM.1 h1
   exact qfq A hr hi
  have hml':∀ id c,s=.ml id c->False:=fun id c he=>hmm ⟨id,c,he⟩
  by_cases hmi:∃ id,s=.it id
  .obtain ⟨id,rfl⟩:=hmi
   simp only [qcu] at h
   obtain ⟨y,hy,h1⟩:=zI.1 h
   obtain ⟨r,hr,_⟩:=zM.1 h1
   exact qfq A hr hi
  have hit':∀ id,s=.it id->False:=fun id he=>hmi ⟨id,he⟩
  simp only [qcu] at h
  obtain ⟨y,hy,h1⟩:=zI.1 h
  obtain ⟨a,ha,h2⟩:=zI.1 h1
  obtain ⟨r,hr,_⟩:=zM.1 h2
  simp only [kc,hy,List.mem_append] at hi
  rcases hi with hi | hi
  .exact qsq A ha hi
  .exact qfq A hr hi
theorem qv6 (ok:CfgOk X sz C) (ok2:CfgOk2 X C) (R0:Rel X sz C base st0 fr0 H0 w0) (R2:Rel X sz C base st2 fr2 H2 w2) (hle:Le w0 w2) {ds:List Nat} {slots:List RSlot} {ns:List (NV K)} {G:List (NV K)->StV K->Prop}
  (hn:st2.n=st0.n) (hfr:∀ t,t ∉ ds->fr2.tmp t=fr0.tmp t) (hN:qcu (qt X tbl inv meas) st2 slots=some ns) (hK:∀ s ∈ slots,q62 X sz st0 fr2 H2 w0 w2 s)
  (hC:∀ id ps,look st0.cells id=some ps->id ∈ qea slots∨∀ w',Good w0 w2 w'->qnp X sz H2 w2 w' id ps)
  (hret:∀ i s,look (qc9 st0 ds slots).owns i=some s->look st2.owns i=some s) (hsep:∀ i ∈ kc st2 slots,look (qc9 st0 ds slots).owns i=none) (hdist:distinct (kc st2 slots)=true)
  (h:qbv (qt X tbl inv meas) st0 slots (qc9 st0 ds slots) G):∃ st1 w1,G ns st1/\Rel X sz C base st1 fr2 H2 w1/\Le w0 w1/\st1.n=st0.n:=by
 have howns:∀ i,look (qc9 st0 ds slots).owns i=if i ∈ kc st0 slots then none else look st0.owns i:=fun i=>qkj
 have hsub:∀ i s,look (qc9 st0 ds slots).owns i=some s->look st0.owns i=some s:=by
  intro i s hi
  rw [howns] at hi
  split at hi
  .cases hi
  .exact hi
 let w1:Wd:={w2 with n:=st0.next,owns:=look (qc9 st0 ds slots).owns,cl:=fun id=>w2.cl id/\id<st0.next}
 have hn0:w0.n=st0.next:=R0.h.n
 have hle1:Le w0 w1:=by
  refine ⟨⟨by rw [hn0];exact zN _,hle.mem,hle.c,hle.nu,fun i hi h0=>?_,fun i s s' hi h0 h1=>?_,fun i s hi h0 h1=>?_,hle.ce,fun id hi=>⟨fun hh=>(hle.cl id hi).1 hh.1,fun hh=>⟨(hle.cl id hi).2 hh,by rw [<-hn0];exact hi⟩⟩,hle.nx,hle.b,hle.Mu,hle.lp⟩,hle.df,hle.fl⟩
  .rw [R0.h.owns] at h0
   show look (qc9 st0 ds slots).owns i=none
   rw [howns,h0]
   split<;>rfl
  .rw [R0.h.owns] at h0
   have:=hsub i s' h1
   rw [h0] at this
   cases this
   exact zN _
  .have h2:w2.owns i=some s:=by rw [R2.h.owns];exact hret i s h1
   exact hle.o3 i s hi h0 h2
 have m:Part X sz base st0 w0 st2 H2 w2 (qc9 st0 ds slots) w1 (kc st2 slots):=by
  refine ⟨rfl,rfl,rfl,rfl,rfl,fun _=>.rfl,rfl,hle1,zN _,rfl,rfl,fun i s hi=>R0.h.ownn i s (hsub i s hi),fun i s nm hi he=>R2.h.eta i s nm (hret i s hi) he,fun i j s s' nm h1 h2 e1 e2=>R2.h.einj i j s s' nm (hret i s h1) (hret j s' h2) e1 e2,fun i2 hi2=>⟨qfq _ hN hi2,fun nm hnm j s hj he=>?_⟩,qff hdist⟩
  obtain ⟨s2,hs2⟩:=qfq _ hN hi2
  have:=R2.h.einj i2 j s2 s nm hs2 (hret j s hj) hnm he
  subst this
  rw [hsep i2 hi2] at hj
  cases hj
 have hT:q3n X sz w1 (qc9 st0 ds slots).tmps fr2:=by
  intro t p hp
  have hp':(qqt ds st0.tmps).get t=some p:=hp
  rw [qv1] at hp'
  split at hp'
  .cases hp'
  .rename_i ht
   obtain ⟨v,h1,h2⟩:=R0.f t p hp'
   exact ⟨v,by rw [hfr t ht];exact h1,h2.mono ok.len hle1⟩
 have hgood:Good w0 w2 w1:=⟨hle1,rfl,rfl,rfl⟩
 obtain ⟨st1,w3,g1,g2,g3,g4,g5,g6⟩:=qca ok ok2 R2 hN hK m hT (fun id ps hl=>(hC id ps hl).imp_right fun hh=>hh w1 hgood) (fun _=>rfl) h
 have hds:q3e base.next w3 fr2.defers:=by
  have hfl:w3.fl=w2.fl:=g2.le.fl.trans hle.fl.symm
  refine ⟨fun x hx=>?_,R2.ds.2.1,by rw [hfl,g2.nx];exact R2.ds.2.2⟩
  obtain ⟨m,h1,h2,h3,h4⟩:=R2.ds.1 x hx
  exact ⟨m,h1,h2,by rw [hfl];exact h3,by rw [g2.g];exact h4⟩
 refine ⟨st1,w3,g1,⟨?_,g3,?_,hds⟩,g2.le,g6⟩
 .have hcl0:∀ id,(look st1.cells id).isSome=true->w0.cl id/\id<st0.next:=by
   intro id hs
   rw [g5] at hs
   obtain ⟨ps,hps⟩:=Option.isSome_iff_exists.1 hs
   obtain ⟨q1,q2,_⟩:=R0.h.cells id ps hps
   exact ⟨q1,(R0.h.cl id q1).1⟩
  refine ⟨R2.h.wf,R2.h.rob,g2.g.trans R2.h.g,g2.nx.trans R2.h.nx,g2.le.b.trans R0.h.b,fun n hM=>R2.h.Mlt n (by rw [<-g2.M];exact hM),g2.n,zR R0.h.one g2.nxt,R2.h.keeps,fun id hc=>?_,fun id id' h1 h2 he=>?_,fun id ps hl=>?_,fun i=>by rw [g2.owns],g2.ownn,fun i s nm h1 h2=>?_,g2.einj,g2.ce.trans R2.h.ce,fun id b hk=>?_,fun gn ps hg=>?_⟩
  .obtain ⟨c1,c2⟩:=(g2.cl id).1 hc
   obtain ⟨q1,q2,q3⟩:=R2.h.cl id c1
   exact ⟨zL c2 g2.nxt,by rw [g2.c];exact q2,by rw [g2.c];exact q3⟩
  .rw [g2.c] at he
   exact R2.h.cinj id id' ((g2.cl id).1 h1).1 ((g2.cl id').1 h2).1 he
  .obtain ⟨q1,q2⟩:=hcl0 id (by rw [hl];rfl)
   have hi:id<w0.n:=by rw [hn0];exact q2
   obtain ⟨a0,a1⟩:=g4 id ps hl
   refine ⟨(g2.cl id).2 ⟨(hle.cl id hi).2 q1,q2⟩,by rw [g2.c,g2.M];exact a0,by rw [g2.c];exact a1 w3 (.refl w3)⟩
  .obtain ⟨q1,q2,q3⟩:=g2.eta i s nm h1 h2
   exact ⟨q1,q2,by rw [g2.M];exact q3⟩
  .rw [g2.known] at hk
   obtain ⟨q0,q1,q2⟩:=R0.h.known id b hk
   exact ⟨q0,zL q1 g2.nxt,by rw [g2.le.nu id (by rw [hn0];exact q1)];exact q2⟩
  .obtain ⟨q0,vs',e',fl,fz,ex',q1,q2,q3⟩:=R0.h.globs gn ps hg
   exact ⟨q0,vs',e',fl,fz,ex',q1,q2,q3.mono ok.len g2.le⟩
 .rw [R2.n,hn,g6]
  rfl
end
end Go.E3
/- E3: CODE against E2's. -/
namespace Go.E3
open Go Go.E2
variable {K:Nat->Type}
section
variable {X:Codecs K} {sz:Nat->Nat} {C:ZC K} {base:Heap}
variable {tbl:Tbl K} {inv:Nat->List (NV K)->Prop} {meas:Nat->List (NV K)->Nat} {inl:ZI K}
theorem q6i {fr2:Fr} {H2:Heap} {w2:Wd} {s:RSlot} {vs us:List V} (h1:q9f fr2 H2 w2 s vs) (h2:q9f fr2 H2 w2 s us):vs=us:=by
 cases s with
 | one t k=>
  obtain ⟨v,a,rfl⟩:=h1
  obtain ⟨u,b,rfl⟩:=h2
  rw [a] at b
  cases b
  rfl
 | agg t ks=>
  have a:fr2.tmp t=some (.agg vs):=h1
  have b:fr2.tmp t=some (.agg us):=h2
  rw [a] at b
  cases b
  rfl
 | var id ks=>
  obtain ⟨_,e,ex,a⟩:=h1
  obtain ⟨_,e',ex',b⟩:=h2
  rw [a] at b
  cases b
  rfl
 | ml id c=>exact False.elim h1
 | it id=>exact False.elim h1
theorem qpv {st0 st2:StV K}:∀ {ks:List SK} {as bs:List (PV K)} {obs:List Prop},qkf (qt X tbl inv meas) st2 ks as bs=some obs->(∀ q ∈ obs,q)->∀ (i:Nat) (p:PV K),ks[i]? = some .keep->as[i]? = some p->
  ∃ p2 o,bs[i]? = some p2/\qat (qt X tbl inv meas) st2 p p2=some o/\∀ q ∈ o,q
 | [],as,bs,obs,h,ho,i,p,hk,ha=>by simp at hk
 | k::ks,[],bs,obs,h,ho,i,p,hk,ha=>by simp at ha
 | k::ks,a::as,[],obs,h,ho,i,p,hk,ha=>by cases k<;>simp [qkf] at h
 | k::ks,a::as,b::bs,obs,h,ho,i,p,hk,ha=>by
  have rest:∀ obs',qkf (qt X tbl inv meas) st2 ks as bs=some obs'->(∀ q ∈ obs',q)->∀ i',i=i'+1->∃ p2 o,(b::bs)[i]? = some p2/\qat (qt X tbl inv meas) st2 p p2=some o/\∀ q ∈ o,q:=by
   intro obs' h1 h2 i' hi
   subst hi
   obtain ⟨p2,o,e1,e2,e3⟩:=qpv (st0:=st0) (st2:=st2) h1 h2 i' p (by simpa using hk) (by simpa using ha)
   exact ⟨p2,o,by simpa using e1,e2,e3⟩
  cases k with
  | keep=>
   simp only [qkf] at h
   obtain ⟨x,hx,h1⟩:=zI.1 h
   obtain ⟨y,hy,rfl⟩:=zM.1 h1
   cases i with
   | zero=>
    simp only [List.getElem?_cons_zero,zS] at ha
    subst ha
    exact ⟨b,x,rfl,hx,fun q hq=>ho q (List.mem_append_left _ hq)⟩
   | succ i=>exact rest y hy (fun q hq=>ho q (List.mem_append_right _ hq)) i rfl
  | _=>
   have h':qkf (qt X tbl inv meas) st2 ks as bs=some obs:=h
   cases i with
   | zero=>simp at hk
   | succ i=>exact rest obs h' ho i rfl
theorem qep {st0 st2:StV K}:∀ {slots:List RSlot} {obs:List Prop},qdx (qt X tbl inv meas) st0 st2 slots=some obs->(∀ q ∈ obs,q)->∀ s ∈ slots,((∃ id c,s=.ml id c)∨∃ id,s=.it id)∨∃ x y o,qbd st0 s=some x/\qbd st2 s=some y/\qkf (qt X tbl inv meas) st2 x.1 x.2 y.2=some o/\∀ q ∈ o,q
 | [],obs,_,_,s,hs=>by cases hs
 | s0::slots,obs,h,ho,s,hs=>by
  by_cases hmm:∃ id c,s0=.ml id c
  .obtain ⟨id,c,rfl⟩:=hmm
   simp only [qdx] at h
   rcases zD.1 hs with rfl | hs
   .exact .inl (.inl ⟨id,c,rfl⟩)
   .exact qep h ho s hs
  have hml':∀ id c,s0=.ml id c->False:=fun id c he=>hmm ⟨id,c,he⟩
  by_cases hmi:∃ id,s0=.it id
  .obtain ⟨id,rfl⟩:=hmi
   simp only [qdx] at h
   rcases zD.1 hs with rfl | hs
   .exact .inl (.inr ⟨id,rfl⟩)
   .exact qep h ho s hs
  have hit':∀ id,s0=.it id->False:=fun id he=>hmi ⟨id,he⟩
  simp only [qdx] at h
  obtain ⟨x,hx,h1⟩:=zI.1 h
  obtain ⟨y,hy,h2⟩:=zI.1 h1
  obtain ⟨a,ha,h3⟩:=zI.1 h2
  obtain ⟨r,hr,rfl⟩:=zM.1 h3
  rcases zD.1 hs with rfl | hs
  .exact .inr ⟨x,y,a,hx,hy,ha,fun q hq=>ho q (List.mem_append_left _ hq)⟩
  .exact qep hr (fun q hq=>ho q (List.mem_append_right _ hq)) s hs
theorem qg0 {vias:List Nat} {st2:StV K}:∀ {l:List (Nat×ZT K)} {obs:List Prop},qhv (qt X tbl inv meas) vias st2 l=some obs->(∀ q ∈ obs,q)->∀ id ct,(id,ct) ∈ l->id ∈ vias∨∃ o,qip (qt X tbl inv meas) st2 id ct=some o/\∀ q ∈ o,q
 | [],obs,_,_,id,ps,h=>by cases h
 | (i,cs)::l,obs,h,ho,id,ps,hm=>by
  simp only [qhv] at h
  rcases ka h with ⟨hb,h1⟩ | ⟨hb,h1⟩
  .obtain ⟨x,hx,h3⟩:=zI.1 h1
   obtain ⟨y,hy,rfl⟩:=zM.1 h3
   rcases zD.1 hm with he | hm
   .cases he
    exact .inr ⟨x,hx,fun q hq=>ho q (List.mem_append_left _ hq)⟩
   .exact qg0 hy (fun q hq=>ho q (List.mem_append_right _ hq)) id ps hm
  .rcases zD.1 hm with he | hm
   .cases he
    obtain ⟨j,hj,hb2⟩:=List.any_eq_true.1 hb
    have:=zE hb2
    subst this
    exact .inl hj
   .exact qg0 h1 ho id ps hm
theorem cond_prop {c:Bool} {p:Prop} (h:bif c then p else False):c=true/\p:=by
 cases c with
 | false=>exact absurd h id
 | true=>exact ⟨rfl,h⟩
theorem zml {t t':Option TypeId} {ps qs:List (PV K)} {e:TypeId} {ex:Bool} (h:zsi t t'=true) (h':qxq (.cs t' qs) e ex):qxq (.cs t ps) e ex:=by
 cases t with
 | none=>trivial
 | some a=>
  cases t' with
  | none=>cases h
  | some b=>
   have:=zE h
   subst this
   exact h'
theorem zb7 {j:Nat} {seen:List (NV K)} {slots:List RSlot} {dec:Option (List (NV K))} {st0 hd st2:StV K} (h:qyu (qt X tbl inv meas) j seen slots dec st0 hd st2) :
  ∃ ns a b,qcu (qt X tbl inv meas) st2 slots=some ns/\qdx (qt X tbl inv meas) st0 st2 slots=some a/\qhv (qt X tbl inv meas) (qea slots) st2 st0.cells=some b/\(∀ q ∈ a,q)/\(∀ q ∈ b,q)/\
   distinct (kc st2 slots)=true/\(∀ i ∈ kc st2 slots,look hd.owns i=none)/\(∀ i s,look hd.owns i=some s->look st2.owns i=some s)/\inv j (ns++seen)/\(∀ m,dec=some m->meas j (ns++seen)<meas j (m++seen)):=by
 unfold qyu at h
 split at h
 .rename_i ns a b hN hK hS
  obtain ⟨hb,h⟩:=cond_prop h
  simp only [zA] at hb
  obtain ⟨h1,h2⟩:=qox h
  obtain ⟨h3,h4⟩:=qox h2
  refine ⟨ns,a,b,hN,hK,hS,h1,h3,hb.1.1,fun i hi=>?_,fun i s hi=>?_,h4.1,fun m hm=>?_⟩
  .cases hl:look hd.owns i with
   | none=>rfl
   | some s=>
    have:=List.all_eq_true.1 hb.1.2 i hi
    simp only [Bool.not_eq_true',<-Bool.not_eq_true,List.any_eq_true] at this
    exact absurd ⟨(i,s),qeg hl,Nat.beq_refl i⟩ this
  .have:=List.all_eq_true.1 hb.2 (i,s) (qeg hi)
   simp only at this
   split at this
   .rename_i s' hs'
    have:=zE this
    rw [hs',this]
   .cases this
  .subst hm
   exact h4.2
 .exact absurd h id
theorem qzj (ok:CfgOk X sz C) (ok2:CfgOk2 X C) {st0 st2:StV K} {fr0 fr2:Fr} {H0 H2:Heap} {w0 w2:Wd} (R0:Rel X sz C base st0 fr0 H0 w0) (R2:Rel X sz C base st2 fr2 H2 w2) (hle:Le w0 w2) {j:Nat} {seen:List (NV K)} {ds:List Nat} {slots:List RSlot} {dec:Option (List (NV K))}
  (hn:fr2.n=fr0.n) (hfr:∀ t,t ∉ ds->fr2.tmp t=fr0.tmp t) (hb:qyu (qt X tbl inv meas) j seen slots dec st0 (qc9 st0 ds slots) st2) :
  ∃ ns,inv j (ns++seen)/\(∀ m,dec=some m->meas j (ns++seen)<meas j (m++seen))/\∀ G:List (NV K)->StV K->Prop,qbv (qt X tbl inv meas) st0 slots (qc9 st0 ds slots) G->∃ st1 w1,G ns st1/\Rel X sz C base st1 fr2 H2 w1/\Le w0 w1/\st1.n=st0.n:=by
 obtain ⟨ns,a,b,hN,hK,hS,ha,hbb,hd,hsep,hret,hinv,hdec⟩:=zb7 hb
 refine ⟨ns,hinv,hdec,fun G hG=>qv6 ok ok2 R0 R2 hle (by rw [<-R2.n,hn,R0.n]) hfr hN (fun s hs=>?_) (fun id ps hl=>?_) hret hsep hd hG⟩
 .rcases qep hK ha s hs with (⟨id,c,rfl⟩ | ⟨id,rfl⟩) | ⟨x,y,o,hx,hy,ho,hq⟩
  .intro x' hx'
   simp [qbd] at hx'
  .intro x' hx'
   simp [qbd] at hx'
  intro x' hx' vs hvs i p hk hp w' h1 h2 h3
  rw [hx] at hx'
  cases hx'
  obtain ⟨p2,o2,hp2,hs2,ho2⟩:=qpv (st0:=st0) (st2:=st2) ho hq i p hk hp
  obtain ⟨vs0,_,r0⟩:=qm2 R0 hx
  obtain ⟨vs2,hvs2,r2⟩:=qm2 R2 hy
  have:=q6i hvs hvs2
  subst this
  obtain ⟨v0,_,q0⟩:=r0.get hp
  have q2:=r2.2 i p2 hp2
  exact qsz ok.len ok2 h1 hle R2.h.owns (fun id hi=>by rw [h1.c id hi,hle.c id hi]) h2 h3 p p2 hs2 ho2 q0 q2
 .rcases qg0 hS hbb id ps (qeg hl) with h1 | ⟨o,h2,h3⟩
  .exact .inl h1
  .right
   intro w' hg
   obtain ⟨g1,g2,g3,g4⟩:=hg
   obtain ⟨hcl0,_,r0⟩:=R0.h.cells id ps hl
   have hid0:id<w0.n:=by rw [R0.h.n];exact (R0.h.cl id hcl0).1
   cases ps with
   | lp r=>
    simp only [qip] at h2
    split at h2
    .rename_i r' hl2
     rcases ka h2 with ⟨_,h2⟩ | ⟨hm,_⟩
     .cases h2
     obtain ⟨_,hM,gg,p1,p2,_⟩:=R2.h.cells id _ hl2
     obtain ⟨gg0,q1,_,q3,q4,q5,q6,q7⟩:=r0
     have e1:gg=gg0:=by
      rw [hle.lp id hid0,q1] at p1
      exact (Option.some.inj p1).symm
     subst e1
     have e2:r'.mode=r.mode:=by
      revert hm
      cases r.mode<;>cases r'.mode<;>simp [q6d]
     refine ⟨hM,fun w'' hw=>⟨gg,?_,by rw [p2,e2],q3,q4,q5,q6,fun i p hp=>?_⟩⟩
     .rw [hw.lp id (zL hid0 g1.n),g1.lp id hid0]
      exact q1
     .obtain ⟨v,a,b⟩:=q7 i p hp
      exact ⟨v,a,b.mono ok.len (g1.trans hw)⟩
    .cases h2
   | cs t ps=>
    obtain ⟨vs0,_,_,_,ty0,r0⟩:=r0
    simp only [qip] at h2
    rcases ka h2 with ⟨_,h2⟩ | ⟨hty,h2⟩
    .cases h2
    obtain ⟨dd,h1,h2⟩:=zI.1 h2
    obtain ⟨_,hM,vs2,e,ex,hgt,ty2,r2⟩:=R2.h.cells id _ (qe4 h1)
    exact ⟨hM,fun w'' hw=>⟨vs2,e,ex,hgt,zml hty ty2,(qhr ok.len ok2 g1 hle R2.h.owns (fun id hi=>by rw [g1.c id hi,hle.c id hi]) g2 g3 ps dd h2 h3 r0 r2).mono ok.len hw⟩⟩
   | si s n=>
    simp only [qip] at h2
    obtain ⟨x,h1,rfl⟩:=zM.1 h2
    have he1:s=x.1:=h3 _ zC
    have he2:n=x.2:=h3 _ (zG _ zC)
    obtain ⟨_,hM,pos,hpos,hgt⟩:=R2.h.cells id _ (qki h1)
    exact ⟨hM,fun w'' hw=>⟨pos,he2.trans hpos,by rw [he1];exact hgt⟩⟩
   | mp c lf va l=>
    simp only [qip] at h2
    split at h2
    .rename_i m hm
     split at h2
     .rename_i hc
      obtain ⟨c',lf',va',l'⟩:=m
      simp only at hc
      subst hc
      rcases ka h2 with ⟨_,h2⟩ | ⟨hb,h2⟩
      .cases h2
      cases h2
      have he:l=l':=h3 _ zC
      subst he
      simp only [zA,beq_iff_eq] at hb
      have e1:=qsy hb.1
      have e2:=hb.2
      subst e1
      subst e2
      have hlk:look st2.cells id=some (.mp c' lf va l):=by
       unfold q2b at hm
       split at hm
       .rename_i e
        cases hm
        exact e
       .cases hm
      obtain ⟨_,hM,es,clock,hgt,hlen,hent⟩:=R2.h.cells id _ hlk
      have pl:∀ {x:K c'} {ps:List (PV K)} {vs:List V},(∀ p ∈ ps,p ∈ X.cells c' x)->qq X sz w2 ps vs->qq X sz w' ps vs:=fun hsub r2=>
       ⟨r2.1,fun j p hp=>(r2.2 j p hp).plain ok2.plain g2 (fun _ _ _ h=>by rw [g3];exact h) (ok2.plain c' _ p (hsub p (List.mem_of_getElem? hp)))⟩
      refine ⟨hM,fun w'' hw=>⟨es,clock,hgt,hlen,fun i x e a b=>?_⟩⟩
      obtain ⟨z1,z2,z3,z4⟩:=hent i x e a b
      exact ⟨(pl (fun p hp=>List.mem_of_mem_take hp) z1).mono ok.len hw,z2,(pl (fun p hp=>List.mem_of_mem_drop hp) z3).mono ok.len hw,z4⟩
     .cases h2
    .cases h2
   | ml c l=>
    simp only [qip] at h2
    obtain ⟨l',h1,rfl⟩:=zM.1 h2
    have he:l=l':=h3 _ zC
    subst he
    obtain ⟨_,hM,vs2,e,ex,hgt,_,r2⟩:=R2.h.cells id _ (qga h1)
    refine ⟨hM,fun w'' hw=>⟨vs2,e,ex,hgt,trivial,qq.mono ok.len hw ⟨r2.1,fun j p hp=>(r2.2 j p hp).plain ok2.plain g2 (fun _ _ _ h=>by rw [g3];exact h) ?_⟩⟩⟩
    obtain ⟨x,_,hx⟩:=List.mem_flatMap.1 (List.mem_of_getElem? hp)
    exact ok2.plain c x p hx
theorem q75 (ok:CfgOk X sz C) (ok2:CfgOk2 X C) {st0:StV K} {fr0:Fr} {H0:Heap} {w0:Wd} (R0:Rel X sz C base st0 fr0 H0 w0) {ds:List Nat} {slots:List RSlot} {ns:List (NV K)} (hN:qcu (qt X tbl inv meas) st0 slots=some ns) (hd:distinct (kc st0 slots)=true)
  {G:List (NV K)->StV K->Prop} (hG:qbv (qt X tbl inv meas) st0 slots (qc9 st0 ds slots) G):∃ st1 w1,G ns st1/\Rel X sz C base st1 fr0 H0 w1/\Le w0 w1/\st1.n=st0.n:=by
 have howns:∀ i,look (qc9 st0 ds slots).owns i=if i ∈ kc st0 slots then none else look st0.owns i:=fun i=>qkj
 refine qv6 ok ok2 R0 R0 (.refl w0) rfl (fun _ _=>rfl) hN (fun s hs=>?_) (fun id ps hl=>?_) (fun i s hi=>?_) (fun i hi=>?_) hd hG
 .intro x hx vs hvs i p hk hp w' h1 h2 h3
  obtain ⟨vs0,hvs0,r0⟩:=qm2 R0 hx
  have:=q6i hvs hvs0
  subst this
  exact (r0.2 i p hp).mono ok.len h1
 .right
  intro w' hg
  obtain ⟨hcl0,hM,r0⟩:=R0.h.cells id ps hl
  exact ⟨hM,fun w'' hw=>r0.mono ok.len (hg.1.trans hw) (by rw [R0.h.n];exact (R0.h.cl id hcl0).1)⟩
 .rw [howns] at hi
  split at hi
  .cases hi
  .exact hi
 .rw [howns,zT hi]
abbrev qou (X:Codecs K) (sz:Nat->Nat) (C:ZC K) (base:Heap) (w:Wd) (k:Ex->StV K->Prop) (ex:Ex) (fr':Fr) (H':Heap):Prop:=
 (∀ l,ex≠.goto l)/\∃ st' w',k ex st'/\Rel X sz C base st' fr' H' w'/\Le w w'
theorem q77 {σ:Type} {step:σ->(σ->Prop)->Prop} {n:Nat} {s:σ} (h:q47 step False n s):∃ m,n=m+1/\step s fun s'=>q47 step False m s':=by
 cases n with
 | zero=>exact absurd h id
 | succ m=>exact ⟨m,rfl,h⟩
theorem zmr {E:Env} {fn:FuncId} {round:Option Nat} {c:Code} {fr:Fr} {H:Heap} {Q:Ex->Fr->Heap->Prop}
  (h:Wp E fn round c fr H (q0k (fun fr' H'=>∃ (Inv:Nat->Fr->Heap->Prop) (m:Nat),Inv m fr' H'/\∀ m fr H,Inv m fr H->Wp E fn round c fr H (q0k (fun fr' H'=>∃ m',m'<m/\Inv m' fr' H') Q)) Q)):Wp E fn round (.loop c) fr H Q:=by
 obtain ⟨⟨e,fr1,H1⟩,hk,h2⟩:=h
 cases e with
 | normal=>
  obtain ⟨Inv,m1,hi,hs⟩:=h2
  refine qtr (fun m fr' H'=>(m=m1+1/\fr'=fr/\H'=H)∨(m<=m1/\Inv m fr' H')) (m:=m1+1) (.inl ⟨rfl,rfl,rfl⟩) ?_
  rintro m fr' H' (⟨rfl,rfl,rfl⟩ | ⟨hm,hi⟩)
  .exact ⟨_,hk,m1,Nat.lt_succ_self _,.inr ⟨zN _,hi⟩⟩
  .refine (hs m fr' H' hi).mono fun ex fr2 H2 hA=>?_
   cases ex with
   | normal=>
    obtain ⟨m',h1,h2⟩:=hA
    exact ⟨m',h1,.inr ⟨by omega,h2⟩⟩
   | _=>exact hA
 | _=>
  refine qtr (fun m fr' H'=>fr'=fr/\H'=H) (m:=0) ⟨rfl,rfl⟩ ?_
  rintro m fr' H' ⟨rfl,rfl⟩
  exact ⟨_,hk,h2⟩
def q3m (w:Wd) (rd round:Option Nat):Prop:=
 match rd,round with
 | none,none=>True
 | some id,some l=>id<w.n/\l=w.c id
 | _,_=>False
theorem q3m.mono {w w':Wd} {rd round:Option Nat} (h:q3m w rd round) (hle:Le w w'):q3m w' rd round:=by
 cases rd<;>cases round
 .trivial
 .exact h
 .exact h
 .obtain ⟨h1,h2⟩:=h
  exact ⟨zL h1 hle.n,by rw [hle.c _ h1];exact h2⟩
theorem qse (ok:CfgOk X sz C) (ok2:CfgOk2 X C) {rd round:Option Nat} {fn:Nat} {c:Code} {j:Nat} {slots sees:List Slot} {st:StV K} {fr:Fr} {H:Heap} {w:Wd} {k:Ex->StV K->Prop} {body:StV K->(Ex->StV K->Prop)->Prop}
  (hbody:∀ {st:StV K} {fr:Fr} {H:Heap} {w:Wd} {k:Ex->StV K->Prop},q3m w rd round->Rel X sz C base st fr H w->body st k->Wp C.E fn round c fr H (qou X sz C base w k))
  (hrd:q3m w rd round) (R:Rel X sz C base st fr H w) (h:zac (qt X tbl inv meas) j slots sees (qfc c) st body k) :
  ∃ (Inv:Nat->Fr->Heap->Prop) (m:Nat),Inv m fr H/\∀ m fr' H',Inv m fr' H'->Wp C.E fn round c fr' H' (q0k (fun fr' H'=>∃ m',m'<m/\Inv m' fr' H') (qou X sz C base w k)):=by
 unfold zac at h
 obtain ⟨rs,hrs,h1⟩:=qb h
 obtain ⟨ns0,hns,h1⟩:=qb h1
 obtain ⟨seen,_,h2⟩:=qb h1
 cases hd:distinct (kc st rs) with
 | false=>rw [hd] at h2;exact absurd h2 id
 | true=>
  rw [hd] at h2
  simp only [zO] at h2
  obtain ⟨hinv0,hG⟩:=h2
  let Body:List (NV K)->StV K->Prop:=fun ns st1=>inv j (ns++seen)->body st1 fun ex st2=>match ex with
    | .normal=>qyu (qt X tbl inv meas) j seen rs (some ns) st (qc9 st (qfc c) rs) st2
    | ex=>k ex st2
  refine ⟨fun m fr' H'=>∃ ns st1 w1,m=meas j (ns++seen)/\inv j (ns++seen)/\Body ns st1/\Rel X sz C base st1 fr' H' w1/\Le w w1/\fr'.n=fr.n/\∀ t,t ∉ qfc c->fr'.tmp t=fr.tmp t,meas j (ns0++seen),?_,?_⟩
  .obtain ⟨st1,w1,g1,g2,g3,g4⟩:=q75 ok ok2 R hns hd hG
   exact ⟨ns0,st1,w1,rfl,hinv0,g1,g2,g3,rfl,fun _ _=>rfl⟩
  .rintro m fr' H' ⟨ns,st1,w1,rfl,hinv,hB,R1,hle1,hn1,hf1⟩
   refine (Go.E3.Wp.frame (hbody (hrd.mono hle1) R1 (hB hinv))).mono fun ex fr2 H2 hA=>?_
   obtain ⟨⟨hgo,st2,w2,hk,R2,hle2⟩,hfr2,hnn2⟩:=hA
   cases ex with
   | normal=>
    obtain ⟨ns',hinv',hdec,hh⟩:=qzj ok ok2 R R2 (hle1.trans hle2) (hnn2.trans hn1) (fun t ht=>(hfr2 t ht).trans (hf1 t ht)) hk
    obtain ⟨st3,w3,g1,g2,g3,_⟩:=hh _ hG
    exact ⟨meas j (ns'++seen),hdec ns rfl,ns',st3,w3,rfl,hinv',g1,g2,g3,hnn2.trans hn1,fun t ht=>(hfr2 t ht).trans (hf1 t ht)⟩
   | _=>exact ⟨hgo,st2,w2,hk,R2,hle1.trans hle2⟩
theorem zi5 {E:Env} {fn:FuncId} {round:Option Nat} {f:Operand} {params:Array Tmp} {a b:Code} {fr:Fr} {H H1:Heap} {Q:Ex->Fr->Heap->Prop} {g:Nat} {va vc:List V} {mk:List Dfr} {d:Nat}
  (hf:opd fr H f=some (.func (.func g) va vc)) (hb:qkb E g=true) (he:qqu round H=some (mk,H1,d))
  (h:qch E (.func g) (va++[.func (.yield H1.next) [] []]++vc) (H1.new (.loop .ready none fr.tmps fr.n params.toList a b d)) fun _ H3=>∃ ex H4,qef H3 H1.next=some (ex,H4)/\Q ex {fr with defers:=mk++fr.defers} H4) :
  Wp E fn round (.rangeFunc f params a b) fr H Q:=by
 obtain ⟨v,H3,⟨k0,h1⟩,ex,H4,h2,h3⟩:=h
 refine ⟨(ex,{fr with defers:=mk++fr.defers},H4),⟨k0,fun k hk=>?_⟩,h3⟩
 simp only [zi,he,zB,hf,qds,hb,zO,h1 k hk,h2,zH]
theorem RelH.alike {H:Heap} {w:Wd} {st st':StV K} (R:RelH X sz C base st H w) (h1:st'.cells=st.cells) (h2:st'.owns=st.owns) (h3:st'.next=st.next) (h4:st'.known=st.known):RelH X sz C base st' H w:=by
 obtain ⟨t,n,c,o,x,kn⟩:=st
 obtain ⟨t',n',c',o',x',kn'⟩:=st'
 simp only at h1 h2 h3 h4
 subst h1 h2 h3 h4
 exact ⟨R.wf,R.rob,R.g,R.nx,R.b,R.Mlt,R.n,R.one,R.keeps,R.cl,R.cinj,R.cells,R.owns,R.ownn,R.eta,R.einj,R.ce,R.known,R.globs⟩
theorem q4a (ok:CfgOk X sz C) {H:Heap} {w:Wd} {st:StV K} (R:RelH X sz C base st H w) {id:Nat} {ct:ZT K} (o:O) (hl:look st.cells id=some ct) :
  ∃ w',RelH X sz C base {st with cells:=qa0 st.cells id} (H.put (w.c id) o) w'/\Le w w':=by
 obtain ⟨hcl,hM,hat⟩:=R.cells id _ hl
 obtain ⟨hid,hnext,hbase⟩:=R.cl id hcl
 let H':=H.put (w.c id) o
 have hget:∀ nm,nm≠w.c id->H'.get nm=H.get nm:=fun nm hn=>qbf hn
 have hle:Le w {w with g:=H'.get}:=by
  refine ⟨⟨zN _,fun nm cs e gen floor frz ex h hM'=>⟨hM',[],gen,frz,ex,?_⟩,fun _ _=>rfl,fun _ _=>rfl,fun _ _ h=>h,fun _ _ _ _ h h'=>(by rw [h] at h';cases h';exact zN _),fun i s hi ho _=>⟨rfl,fun nm hn _=>?_⟩,rfl,fun _ _=>.rfl,zN _,rfl,fun _ _ h=>h,fun _ _=>rfl⟩,fun m hm=>?_,rfl⟩
  .rw [zJ]
   show H'.get nm=_
   rw [hget nm (by intro he;subst he;exact hM' hM),<-R.g]
   exact h
  .show H'.get nm=w.g nm
   rw [R.owns] at ho
   obtain ⟨_,_,hnM⟩:=R.eta i s nm ho hn
   rw [hget nm (by intro he;subst he;exact hnM hM),R.g]
  .show H'.get m=_
   rw [R.g] at hm
   rw [hget m (by intro he;subst he;exact hat.some.1 hm)]
   exact hm
 refine ⟨{w with g:=H'.get},?_,hle⟩
 refine ⟨fun n hn=>?_,R.rob,rfl,R.nx,R.b,R.Mlt,R.n,R.one,R.keeps.put hbase _,R.cl,R.cinj,fun id' ps' h'=>?_,R.owns,R.ownn,R.eta,R.einj,R.ce,R.known,fun gn ps' h'=>?_⟩
 .have hn':H.next<=n:=hn
  rw [hget n (by omega)]
  exact R.wf n hn'
 .simp only [qeu] at h'
  by_cases hi:id'=id
  .rw [zT hi] at h';cases h'
  .rw [zF hi] at h'
   obtain ⟨q1,q2,q5⟩:=R.cells id' ps' h'
   refine ⟨q1,q2,?_⟩
   show qa8 X sz _ id' _ (H'.get (w.c id'))
   rw [hget _ (by intro he;exact hi (R.cinj id' id q1 hcl he))]
   exact q5.mono ok.len hle (by rw [R.n];exact (R.cl id' q1).1)
 .obtain ⟨q0,vs',e',fl,fz,ex',q1,q2,q3⟩:=R.globs gn ps' h'
  exact ⟨q0,vs',e',fl,fz,ex',q1,q2,q3.mono ok.len hle⟩
theorem q2r (ok:CfgOk X sz C) (iok:qk0 X sz C inl) {rd round:Option Nat} {fnE:Nat} {st:StV K} {fr:Fr} {H:Heap} {w:Wd} (hrd:q3m w rd round) (R:Rel X sz C base st fr H w) (hin:inRound rd st=true)
  {f:Operand} {vf:V} {v:PV K} (ev:opd fr H f=some vf) (rv:Rep X sz w v vf) {r:LRec Int Bool (List UInt8) Prop (fun c=>List (K c))} {params:Array Tmp} {a b:Code}
  (e1:r.tmps=st.tmps) (e2:r.n=st.n) (e3:r.params=params.toList) (e4:r.assign=a) (e5:r.body=b) (e6:r.mode=.ready) {k:Ex->StV K->Prop} (h:q8q (qt X tbl inv meas) C inl r v st k) :
  Wp C.E fnE round (.rangeFunc f params a b) fr H (qou X sz C base w k):=by
 unfold q8q at h
 split at h
 .rename_i g first cap
  cases rv with
  | @func f' a' c' va vc ha hc h1 h2=>
  obtain ⟨hb,h⟩:=cond_prop h
  obtain ⟨mk,H1,d,w1,he,R1,hle1,hds⟩:∃ mk H1 d w1,qqu round H=some (mk,H1,d)/\RelH X sz C base {st with next:=st.next+1} H1 w1/\Le w w1/\q3e base.next w1 (mk++fr.defers):=by
   cases round with
   | none=>
    obtain ⟨w1,R1,hle,hg,hg0⟩:=q2f ok R.h
    have hds:=R.ds.mono hle
    refine ⟨[.mark H.next],H.new .dfr,H.next,w1,rfl,R1,hle,fun x hx=>?_,?_,hds.2.2⟩
    .rcases zD.1 hx with rfl | hx
     .refine ⟨H.next,rfl,R.h.keeps.next,?_,hg⟩
      rw [hle.fl,<-R.h.nx]
      exact R.ds.2.2
     .exact hds.1 x hx
    .show (Dfr.mark H.next::fr.defers).Nodup
     rw [List.nodup_cons]
     refine ⟨fun hm=>?_,R.ds.2.1⟩
     obtain ⟨m,h3,_,_,h4⟩:=R.ds.1 _ hm
     cases h3
     rw [hg0] at h4
     cases h4
   | some l=>
    cases rd with
    | none=>exact absurd hrd id
    | some id=>
     obtain ⟨hid,rfl⟩:=hrd
     simp only [inRound] at hin
     split at hin
     .rename_i r' hl
      obtain ⟨_,_,g',_,p2,_⟩:=R.h.cells id _ hl
      obtain ⟨hle,R1⟩:=R.h.ext ok (m:=st.next+1) (nu':=w.nu) (Nat.le_succ _) (fun _ _=>rfl)
      refine ⟨[],H,g'.ld,_,?_,R1,hle,R.ds.mono hle⟩
      simp only [qqu,p2]
      unfold qfl
      split
      .rename_i heq;split at heq<;>cases heq<;>rfl
      .rename_i hno
       exfalso
       split at hno<;>exact hno _ _ _ _ _ _ _ _ rfl
     .cases hin
  let gl:LG:=⟨fr.tmps,fr.n,params.toList,a,b,d⟩
  obtain ⟨w2,R2,hle2,hc2,hlt2⟩:=qhk ok R1 (ct:=.lp r) (row:=.loop .ready none fr.tmps fr.n params.toList a b d) (lp':=fun i=>if i=st.next+1 then some gl else w1.lp i)
   (fun i hi=>zF (by have:i<st.next+1:=hi;omega)) (fun w' hw hlp=>⟨gl,by rw [hlp];exact zT rfl,by rw [e6];rfl,by rw [e2];exact R.n.symm,e3,e4,e5,fun i p hp=>by
     rw [e1] at hp
     obtain ⟨x,p1,p2⟩:=R.f i p hp
     exact ⟨x,p1,(p2.mono ok.len hle1).mono ok.len hw⟩⟩)
  have hle12:=hle1.trans hle2
  have ry:qq X sz w2 [.yield (st.next+1)] [.func (.yield H1.next) [] []]:=by
   have hy:=Rep.yield (X:=X) (sz:=sz) (w:=w2) (id:=st.next+1) hlt2
   rw [show w2.c (st.next+1)=H1.next from hc2] at hy
   exact .cons hy .nil
  have hra:qq X sz w2 (first++[.yield (st.next+1)]++cap) (va++[.func (.yield H1.next) [] []]++vc):=
   qq.append (qq.append (qq.mono ok.len hle12 (ps:=first) ⟨ha,h1⟩) ry) (qq.mono ok.len hle12 (ps:=cap) ⟨hc,h2⟩)
  refine zi5 ev hb he ((iok (.func g) _ _ _ h base _ w2 _ R2 hra).mono fun _ H3 hA=>?_)
  obtain ⟨_,st3,w3,hk,t3,n3,R3,hle3,_⟩:=hA
  unfold zm7 at hk
  split at hk
  .rename_i r3 hl3
   obtain ⟨hcl3,hM3,g3,p1,p2,_⟩:=R3.cells _ _ hl3
   have hc3:w3.c (st.next+1)=H1.next:=(hle3.c _ hlt2).trans hc2
   have hro:H3.ro<=H1.next:=by rw [R3.keeps.ro,<-hc3];exact zR R3.rob.1 (R3.cl _ hcl3).2.2
   rw [hc3] at p2
   have fin:∀ (ex:Ex) (o:O),(∀ l,ex≠.goto l)->qef H3 H1.next=some (ex,H3.put H1.next o)->k ex {st3 with cells:=qa0 st3.cells (st.next+1),tmps:=st.tmps,n:=st.n}->
     ∃ ex H4,qef H3 H1.next=some (ex,H4)/\qou X sz C base w k ex {fr with defers:=mk++fr.defers} H4:=by
    intro ex o hg he hk
    obtain ⟨w4,R4,hle4⟩:=q4a ok R3 o hl3
    rw [hc3] at R4
    have hle:Le w w4:=hle12.trans (hle3.trans hle4)
    exact ⟨ex,_,he,hg,_,w4,hk,⟨R4.alike rfl rfl rfl rfl,fun i p hp=>by
     obtain ⟨x,p1,p2⟩:=R.f i p hp
     exact ⟨x,p1,p2.mono ok.len hle⟩,R.n,hds.mono (hle2.trans (hle3.trans hle4))⟩,hle⟩
   split at hk
   .rename_i hm
    rw [hm] at p2
    exact fin .normal _ (by simp) (by simp only [qef,p2,qfl,qbn hro,zB,qd1,zH];rfl) hk
   .rename_i hm
    rw [hm] at p2
    exact fin .ret _ (by simp) (by simp only [qef,p2,qfl,qbn hro,zB,qd1,zH];rfl) hk
   .rename_i i hm
    rw [hm] at p2
    exact fin (.exit i) _ (by simp) (by simp only [qef,p2,qfl,qbn hro,zB,qd1,zH];rfl) hk
   .exact absurd hk id
  .exact absurd hk id
 .exact absurd h id
theorem k6 (ok:CfgOk X sz C) (ok2:CfgOk2 X C) (tok:qh0 X sz C tbl) (iok:qk0 X sz C inl) {rd round:Option Nat} {fn fnE:Nat}:∀ {c:Code} {p:Nat} {st:StV K} {fr:Fr} {H:Heap} {w:Wd} {k:Ex->StV K->Prop},
  q3m w rd round->Rel X sz C base st fr H w->qbe (qt X tbl inv meas) C inl rd fn p c st k->Wp C.E fnE round c fr H (qou X sz C base w k)
 | .skip,p,st,fr,H,w,k,hrd,R,h=>zms ⟨by simp,st,w,h,R,.refl w⟩
 | .label _,p,st,fr,H,w,k,hrd,R,h=>zi4 ⟨by simp,st,w,h,R,.refl w⟩
 | .exit _,p,st,fr,H,w,k,hrd,R,h=>zmq ⟨by simp,st,w,h,R,.refl w⟩
 | .ret,p,st,fr,H,w,k,hrd,R,h=>zi6 ⟨by simp,st,w,h,R,.refl w⟩
 | .goto _,p,st,fr,H,w,k,hrd,R,h=>absurd h id
 | .refuse _,p,st,fr,H,w,k,hrd,R,h=>absurd h id
 | .rangeFunc f params a b,p,st,fr,H,w,k,hrd,R,h=>by
  simp only [qbe] at h
  obtain ⟨hin,h1⟩:=cond_prop h
  obtain ⟨v,hv,h2⟩:=qb h1
  obtain ⟨vf,ev,rv⟩:=qn R hv
  exact q2r ok iok hrd R hin ev rv rfl rfl rfl rfl rfl rfl h2
 | .cond c a b,p,st,fr,H,w,k,hrd,R,h=>by
  simp only [qbe] at h
  split at h
  .rename_i pc hc
   obtain ⟨v,ev,rv⟩:=qn R hc
   obtain ⟨t,rfl⟩:=q9k rv h
   obtain ⟨st1,h1,hn,_,R1⟩:=quj R.h rv h
   have R1':=R.zqw ok hn R1 (.refl w)
   refine zmp ev ?_
   cases t with
   | true=>exact k6 ok ok2 tok iok hrd R1' h1
   | false=>exact k6 ok ok2 tok iok hrd R1' h1
  .exact absurd h id
 | .block id c,p,st,fr,H,w,k,hrd,R,h=>by
  simp only [qbe] at h
  refine zi3 ((k6 ok ok2 tok iok hrd R h).mono fun ex fr' H' hA=>?_)
  obtain ⟨hg,st',w',hk,R',hle⟩:=hA
  cases ex with
  | exit id'=>
   simp only at hk
   simp only [qns]
   cases hb:Nat.beq id' id with
   | true=>
    rw [hb] at hk
    simp only [zO] at hk
    have:=zE hb
    subst this
    exact q7h ⟨by simp,st',w',hk,R',hle⟩
   | false=>
    rw [hb] at hk
    simp only [zQ] at hk
    have hne:¬ id'=id:=by
     intro he
     subst he
     simp at hb
    exact q3v hne ⟨by simp,st',w',hk,R',hle⟩
  | _=>exact ⟨hg,st',w',hk,R',hle⟩
 | .scope c,p,st,fr,H,w,k,hrd,R,h=>by
  simp only [qbe] at h
  refine zi7 ((k6 ok ok2 tok iok hrd R h).mono fun ex fr' H' hA=>⟨hA.1,hA⟩)
 | .region id ops draw,p,st,fr,H,w,k,hrd,R,h=>by
  simp only [qbe] at h
  cases draw with
  | true=>
   simp only [zO] at h
   refine q6t ?_
   have m:Mid X sz C base H.next st.next 0 w [] [] st fr H w:=⟨R,.nil,zN _,zN _,fun id _ hc=>(R.h.cl id hc).2.1,fun d hd=>(by cases hd),fun d hd=>(by cases hd),.refl w,_,_,R.h,rfl⟩
   obtain ⟨x,hx,e,st',w',a1,a2,a3⟩:=qku (b:=Region.before ops) (i:=0) ok ok2 tok iok m R.cm h
   exact ⟨x,hx,by simp,st',w',a1,a2,a3⟩
  | false=>
   simp only [zQ] at h
   refine q0t ((qmh ok ok2 tok iok R h).mono fun ex fr' H' hA=>?_)
   obtain ⟨rfl,st',w',a1,a2,a3⟩:=hA
   exact ⟨by simp,st',w',a1,a2,a3⟩
 | .seq a b,p,st,fr,H,w,k,hrd,R,h=>by
  simp only [qbe] at h
  split at h
  .rename_i j slots sees hann
   obtain ⟨rs,hrs,h1⟩:=qb h
   obtain ⟨seen,_,h1⟩:=qb h1
   obtain ⟨ha,hg⟩:=h1
   refine q25 ((Go.E3.Wp.frame (k6 ok ok2 tok iok hrd R ha)).mono fun ex fr' H' hA=>?_)
   obtain ⟨⟨hgo,st',w',hk,R',hle⟩,hfr,hnn⟩:=hA
   cases ex with
   | normal=>
    obtain ⟨ns,hinv,_,hh⟩:=qzj ok ok2 R R' hle hnn hfr hk
    obtain ⟨st1,w1,g1,g2,g3,_⟩:=hh _ hg
    refine (k6 ok ok2 tok iok (hrd.mono g3) g2 (g1 hinv)).mono fun ex fr2 H2 hB=>?_
    obtain ⟨q1,st3,w3,q2,q3,q4⟩:=hB
    exact ⟨q1,st3,w3,q2,q3,g3.trans q4⟩
   | _=>exact ⟨hgo,st',w',hk,R',hle⟩
  .refine q25 ((k6 ok ok2 tok iok hrd R h).mono fun ex fr' H' hA=>?_)
   obtain ⟨hg,st',w',hk,R',hle⟩:=hA
   cases ex with
   | normal=>
    refine (k6 ok ok2 tok iok (hrd.mono hle) R' hk).mono fun ex fr2 H2 hB=>?_
    obtain ⟨q1,st3,w3,q2,q3,q4⟩:=hB
    exact ⟨q1,st3,w3,q2,q3,hle.trans q4⟩
   | _=>exact ⟨hg,st',w',hk,R',hle⟩
 | .loop c,p,st,fr,H,w,k,hrd,R,h=>by
  simp only [qbe] at h
  split at h
  .rename_i j slots sees hann
   obtain ⟨Inv,m,h0,hs⟩:=qse ok ok2 (fun hrd R h=>k6 ok ok2 tok iok hrd R h) hrd R h
   exact qtr Inv h0 hs
  .rename_i j slots sees hann
   refine zmr ((k6 ok ok2 tok iok hrd R h).mono fun ex fr' H' hA=>?_)
   obtain ⟨hg,st1,w1,hk,R1,hle1⟩:=hA
   cases ex with
   | normal=>
    obtain ⟨Inv,m,h0,hs⟩:=qse ok ok2 (fun hrd R h=>k6 ok ok2 tok iok hrd R h) (hrd.mono hle1) R1 hk
    refine ⟨Inv,m,h0,fun m fr2 H2 hi=>(hs m fr2 H2 hi).mono fun ex fr3 H3 hB=>?_⟩
    cases ex with
    | normal=>exact hB
    | _=>
     obtain ⟨q1,st3,w3,q2,q3,q4⟩:=hB
     exact ⟨q1,st3,w3,q2,q3,hle1.trans q4⟩
   | _=>exact ⟨hg,st1,w1,hk,R1,hle1⟩
  .rename_i n hann
   refine qtr (fun m fr' H'=>∃ st1 w1,q47 (fun s g=>qbe (qt X tbl inv meas) C inl rd fn (2 * p) c s fun ex st1=>match ex with
    | .normal=>g st1
    | ex=>k ex st1) False m st1/\Rel X sz C base st1 fr' H' w1/\Le w w1) (m:=n) ⟨st,w,h,R,.refl w⟩ ?_
   rintro m fr' H' ⟨st1,w1,hit,R1,hle1⟩
   obtain ⟨m',rfl,hit'⟩:=q77 hit
   refine (k6 ok ok2 tok iok (hrd.mono hle1) R1 hit').mono fun ex fr2 H2 hA=>?_
   obtain ⟨hg,st2,w2,hk,R2,hle2⟩:=hA
   cases ex with
   | normal=>exact ⟨m',Nat.lt_succ_self _,st2,w2,hk,R2,hle1.trans hle2⟩
   | _=>exact ⟨hg,st2,w2,hk,R2,hle1.trans hle2⟩
  .exact absurd h id
end
end Go.E3
/- E3: FUNCTIONS against E2's: what the conditions of a function show. -/
namespace Go.E3
open Go Go.E2
variable {K:Nat->Type}
def jo:List (PV K)->List (PV K)->List (Nat×Nat)
 | .list _ _ (some (i,_))::ps,.list _ _ (some (j,_))::rs=>(j,i)::jo ps rs
 | _::ps,_::rs=>jo ps rs
 | _,_=>[]
def RT:PV K->Prop
 | .sb id _ b pt pf=>id=0/\(pt↔b=true)/\(pf↔b=false)
 | .int _ l _=>l=none
 | .list _ _ (some (_,s))=>s=0
 | _=>True
section
variable {X:Codecs K} {sz:Nat->Nat} {C:ZC K} {base H:Heap} {st:StV K} {w:Wd}
variable {tbl:Tbl K} {inv:Nat->List (NV K)->Prop} {meas:Nat->List (NV K)->Nat} {inl:ZI K}
theorem qim {fr:Fr} (R:RelH X sz C base st H w) (F:q3n X sz w st.tmps fr):∀ {rs:List ResultVar} {ps:List (PV K)},qgx (qt X tbl inv meas) C st rs=some ps->∃ vs,kx C.E fr H rs=some vs/\qq X sz w ps vs
 | [],ps,h=>by
  simp only [qgx,zS] at h
  subst h
  exact ⟨[],rfl,.nil⟩
 | .tmp t::rs,ps,h=>by
  simp only [qgx] at h
  obtain ⟨p,h1,h2⟩:=zI.1 h
  obtain ⟨qs,h3,rfl⟩:=zM.1 h2
  obtain ⟨v,e1,r1⟩:=F t p h1
  obtain ⟨vs,e2,r2⟩:=qim R F h3
  exact ⟨v::vs,by simp only [kx,e1,zB,e2,zH],.cons r1 r2⟩
 | .cell a t::rs,ps,h=>by
  simp only [qgx] at h
  obtain ⟨ti,h0,h1⟩:=zI.1 h
  obtain ⟨pa,h2,h3⟩:=zI.1 h1
  obtain ⟨p,h4,h5⟩:=zI.1 h3
  obtain ⟨qs,h6,rfl⟩:=zM.1 h5
  obtain ⟨va,e1,r1⟩:=F a pa h2
  obtain ⟨nm,gn,off,lim,rfl,_,hl,_⟩:=qig R r1 h4
  obtain ⟨u,hu,ru⟩:=hl H rfl
  obtain ⟨vs,e2,r2⟩:=qim R F h6
  exact ⟨u::vs,by simp only [kx,h0,e1,hu,zB,e2,zH],.cons ru r2⟩
theorem zdm {ps:List (PV K)} {vs:List V} (r:qq X sz w ps vs):Rep X sz w (q8e ps) (oneOf vs):=by
 match ps,r with
 | [],r=>rw [r.kg];exact .undef
 | [p],r=>
  obtain ⟨v,vs',rfl,r1,r2⟩:=r.zv
  have:=r2.kg;subst this
  exact r1
 | p::q::ps,r=>
  obtain ⟨v,vs',rfl,r1,r2⟩:=r.zv
  obtain ⟨u,vs'',rfl,r3,r4⟩:=r2.zv
  exact .tuple' (.cons r1 (.cons r3 r4))
theorem qop (ok:CfgOk X sz C) {base H:Heap}:∀ {ps:List (PV K)} {vs:List V} {st:StV K} {w:Wd} {k:List (PV K)->StV K->Prop},RelH X sz C base st H w->qq X sz w ps vs->q85 (qt X tbl inv meas) ps st k->
  ∃ qs st' w',k qs st'/\RelH X sz C base st' H w'/\Le w w'/\qq X sz w' qs vs
 | [],vs,st,w,k,R,r,h=>⟨[],st,w,h,R,.refl w,r⟩
 | p::ps,vs,st,w,k,R,r,h=>by
  obtain ⟨v,vs',rfl,r1,r2⟩:=r.zv
  by_cases hmm:∃ id c n,p=.mlist id c n
  .obtain ⟨id,c,n,rfl⟩:=hmm
   simp only [q85] at h
   obtain ⟨l,hl,hn,h⟩:=qb h
   have hn:n=(l.length:Int):=hn
   have hl:=qga hl
   cases r1 with
   | mlist hi h0 hz=>
    obtain ⟨w1,R1,hle1,hn1,hg1,hrep⟩:=qpk ok R hl hz
    have hB:Bump {st with cells:=qa0 st.cells id} {st with cells:=qa0 st.cells id,owns:=(st.next,0)::st.owns,next:=st.next+1} st.next 0:=by
     have hnone:look st.owns st.next=none:=by
      cases hl:look st.owns st.next with
      | none=>rfl
      | some g=>have:=R.ownn _ _ hl;omega
     exact ⟨rfl,rfl,rfl,rfl,fun j=>qa7,Nat.le_succ _,Nat.lt_succ_self _,fun g hg=>(by have hg:look st.owns st.next=some g:=hg;rw [hnone] at hg;cases hg),fun _=>zN _⟩
    obtain ⟨w2,R2,hle2,ow,et,hn2,_⟩:=qoj (named:=false) ok R1 hB (by simp)
    have rl:=(hrep none trivial).mono ok.len hle2
    have ho:qjz w2 sz c (some (st.next,0)) (.slice (w.c id) 0 0 l.length (sz c) (some l.length)):=
     ⟨by rw [hn2];exact Nat.lt_succ_self _,fun cur hc'=>(by rw [ow] at hc';cases hc';exact zN _),fun _=>.inl rfl,fun h=>by cases h⟩
    have rl2:Rep X sz w2 (.list c l (some (st.next,0))) (.slice (w.c id) 0 0 l.length (sz c) (some l.length)):=by
     cases rl with
     | list hg hf hM hlen hb hz hcap hc _=>exact .list hg hf hM hlen hb hz hcap hc ho
    have hnn:n.toNat=l.length:=by omega
    obtain ⟨qs,st',w',a1,a2,a3,a4⟩:=qop ok R2 ((r2.mono ok.len hle1).mono ok.len hle2) h
    refine ⟨_,st',w',a1,a2,(hle1.trans hle2).trans a3,.cons ?_ a4⟩
    rw [hnn]
    exact rl2.mono ok.len a3
  .have hml':∀ id c n,p=.mlist id c n->False:=fun id c n he=>hmm ⟨id,c,n,he⟩
   simp only [q85] at h
   obtain ⟨qs,st',w',a1,a2,a3,a4⟩:=qop ok R r2 h
   exact ⟨_,st',w',a1,a2,a3,.cons (r1.mono ok.len a3) a4⟩
theorem zfl {X:Codecs K}:(X.u8 ▸ ([]:List (K 0)):List UInt8)=[]:=by
 rw [qmk]
 rfl
theorem q5y (ok:CfgOk X sz C) (pok:q69 C) {f:Nat} (hf:C.prim f=true) {args:List (PV K)} {st:StV K} {k:PV K->StV K->Prop} (h:zij (qt X tbl inv meas) args st k) {base H:Heap} {w:Wd} {vs:List V}
  (R:RelH X sz C base st H w) (ra:qq X sz w args vs):qch C.E (.func f) vs H fun v H'=>∃ p st' w',k p st'/\st'.tmps=st.tmps/\st'.n=st.n/\RelH X sz C base st' H' w'/\Le w w'/\Rep X sz w' p v:=by
 unfold zij at h
 split at h
 .rename_i id off lim
  obtain ⟨a,us,rfl,r1,r2⟩:=ra.zv
  have:=r2.kg;subst this
  obtain ⟨cs,hcs,h1⟩:=qb h
  clear h
  obtain ⟨hcl,hMc,vs,e,ex,hg,_,hr⟩:=R.cells id _ (qe4 hcs)
  have hr:qq X sz w cs vs:=hr
  cases r1 with
  | cell hid=>
   obtain ⟨hb,h2⟩:=cond_prop h1
   clear h1
   simp only [zA,Nat.ble_eq] at hb
   obtain ⟨hb1,hb2⟩:=hb
   have hb2':lim<=vs.length:=by rw [<-hr.1];exact hb2
   obtain ⟨pk1,pk2⟩:=pok f hf H (w.c id) off lim vs e ex R.wf hg hb1 hb2'
   have hget:∀ q,cs[off+1]? = some q->∃ u,vs[off+1]? = some u/\Rep X sz w q u:=fun q hq=>hr.get hq
   split at h2
   .rename_i hq
    obtain ⟨u,hu,ru⟩:=hget _ hq
    cases ru
    refine (pk1 hu).mono fun v H' hA=>?_
    obtain ⟨rfl,rfl⟩:=hA
    exact ⟨_,st,w,h2,rfl,rfl,R,.refl w,.str⟩
   .rename_i c l i s hq
    split at h2
    .rename_i hc
     subst hc
     obtain ⟨ho,h3,h4⟩:=cond_prop h2
     clear h2
     simp only [zA] at ho
     have hodd:=zE ho.2
     have hlook:=qwd R.owns ho.1
     obtain ⟨u,hu,ru⟩:=hget _ hq
     have hlk:look st.owns i=some s:=by rw [<-R.owns];exact hlook
     have hs1:sz 0=1:=by rw [<-ok.len 0 (X.dflt 0),ok.u8];rfl
     obtain ⟨ru0,ro⟩:=ru.zi0
     have hnb:=ro.2.2.2 hodd
     have hov:=ro.2.2.1 hlook
     rcases ji ru with ⟨rfl,rfl⟩ | ⟨nm,gn,o2,z,cap,cells,el,gen,floor,frz,eb,rfl,hgn,hf2,hM2,hlen,hzz,hcap,hcell,_⟩
     .refine (pk1 hu).mono fun v H' hA=>?_
      obtain ⟨rfl,rfl⟩:=hA
      have e0:(qt X tbl inv meas).bstr ([]:List (K 0))=[]:=zfl (X:=X)
      have h4':k (.str ((qt X tbl inv meas).bstr ([]:List (K 0)))) {st with owns:=qa0 st.owns i}:=h4
      rw [e0] at h4'
      obtain ⟨w',R',hle⟩:=q7v ok R i
      exact ⟨_,_,w',h4',rfl,rfl,R',hle,.str⟩
     .obtain ⟨rfl,rfl,hpos⟩:=hnb
      simp only [qs7] at hov
      obtain rfl:z=sz 0:=by
       rcases hzz.2 with h | ⟨_,_,h⟩
       .exact h
       .cases h
      rcases hov with hov | ⟨_,het,cells',el',floor',frz',eb',hg',htop,hfrz,hce⟩
      .cases hov
      .rw [hgn] at hg'
       cases hg'
       rw [R.g] at hgn
       rw [hs1] at htop hlen hu
       obtain ⟨hbase,hnext,hnM⟩:=R.eta i s nm hlk het
       obtain ⟨ecs,ee1,ee2⟩:=qgq ok.len R.g ru0 (by rw [hs1];exact Nat.one_pos)
       rw [<-qr8,qmx hzz] at ee1
       rw [hs1] at ee1
       have hecs:ecs=cells:=by
        have b1:Nat.ble floor gn=true:=by rw [Nat.ble_eq];exact hf2
        have b2:Nat.ble (0+l.length * 1) (0+l.length * 1)=true:=by rw [Nat.ble_eq];exact zN _
        have b3:Nat.ble (0+l.length * 1) cells.length=true:=by rw [Nat.ble_eq];exact hlen
        simp only [kp,V.qju,qbu,Nat.beq_refl,zO,jk,hgn,b1,b2,b3,Bool.and_self,zM,zP,true_and] at ee1
        obtain ⟨_,ee1,rfl⟩:=ee1
        obtain ⟨rfl,_⟩:=qkl ee1
        rw [List.drop_zero,List.take_of_length_le]
        omega
       subst hecs
       have hbytes:=qla ok ee2
       have hle':l.length<=140737488355328:=by
        have:(l.length:Int)<=140737488355328:=h3
        omega
       refine (pk2 nm gn l.length ecs el floor frz eb _ hu hgn (by omega) hf2 hpos hle' (by rw [<-R.ce];exact hce) hbytes ee2.qwm (by rw [R.keeps.ro];exact zR R.rob.1 hbase) (fun he=>hnM (by rw [he];exact hMc))).mono fun v H' hA=>?_
       obtain ⟨rfl,rfl⟩:=hA
       obtain ⟨w',R',hle⟩:=q8w ok R hlk het (max frz l.length) hgn
       exact ⟨_,_,w',h4,rfl,rfl,R',hle,.str⟩
    .exact h2.elim
   .exact h2.elim
 .exact h.elim
theorem LeB.qky (w:Wd) (x:Nat):LeB w {w with fl:=x}:=
 have h:=LeB.refl w
 ⟨h.n,h.mem,h.c,h.nu,h.o1,h.o2,h.o3,h.ce,h.cl,h.nx,h.b,h.Mu,h.lp⟩
theorem RelH.qky (ok:CfgOk X sz C) (R:RelH X sz C base st H w) (x:Nat):RelH X sz C base st H {w with fl:=x}:=
 ⟨R.wf,R.rob,R.g,R.nx,R.b,R.Mlt,R.n,R.one,R.keeps,R.cl,R.cinj,fun id ct h=>by
  obtain ⟨a,b,c⟩:=R.cells id ct h
  exact ⟨a,b,c.qdh ok.len (LeB.qky w x) (by rw [R.n];exact (R.cl id a).1)⟩,R.owns,R.ownn,R.eta,R.einj,R.ce,R.known,fun gn ps h=>by
  obtain ⟨q0,vs',e',fl,fz,ex',q1,q2,q3⟩:=R.globs gn ps h
  exact ⟨q0,vs',e',fl,fz,ex',q1,q2,q3.qdh ok.len (LeB.qky w x)⟩⟩
theorem qsm (ok:CfgOk X sz C) {F:Nat}:∀ {ds:List Dfr} {H:Heap} {w:Wd},RelH X sz C base st H w->(∀ x ∈ ds,∃ m,x=.mark m/\base.next<=m/\F<=m/\w.g m=some .dfr)->ds.Nodup->
  ∃ H'' w2,qcd ds H=some H''/\RelH X sz C base st H'' w2/\LeB w w2/\w2.fl=w.fl/\∀ m,m<F->w2.g m=w.g m
 | [],H,w,R,_,_=>⟨H,w,rfl,R,.refl w,rfl,fun _ _=>rfl⟩
 | x::ds,H,w,R,hd,hn=>by
  obtain ⟨m,rfl,hb,hF,hg⟩:=hd x zC
  rw [List.nodup_cons] at hn
  let H1:=H.put m .gone
  let w1:Wd:={w with g:=H1.get}
  have hgH:H.get m=some .dfr:=by rw [<-R.g];exact hg
  have hget:∀ nm,nm≠m->H1.get nm=H.get nm:=fun nm hn=>qbf hn
  have hlt:m<H.next:=by
   by_cases h:m<H.next
   .exact h
   .rw [R.wf m (by omega)] at hgH;cases hgH
  have hle:LeB w w1:=by
   refine ⟨zN _,fun nm cs e gen floor frz ex h hM'=>⟨hM',[],gen,frz,ex,?_⟩,fun _ _=>rfl,fun _ _=>rfl,fun _ _ h=>h,fun _ _ _ _ h h'=>(by rw [h] at h';cases h';exact zN _),fun i s hi ho _=>⟨rfl,fun nm hn hne=>?_⟩,rfl,fun _ _=>.rfl,zN _,rfl,fun _ _ h=>h,fun _ _=>rfl⟩
   .rw [zJ]
    show H1.get nm=_
    rw [hget nm (by intro he;subst he;rw [hg] at h;cases h),<-R.g]
    exact h
   .show H1.get nm=w.g nm
    rw [hget nm (by intro he;subst he;exact hne hg),R.g]
  have R1:RelH X sz C base st H1 w1:=by
   refine ⟨fun n hn=>?_,R.rob,rfl,R.nx,R.b,R.Mlt,R.n,R.one,R.keeps.put hb _,R.cl,R.cinj,fun id' ps' h'=>?_,R.owns,R.ownn,R.eta,R.einj,R.ce,R.known,fun gn ps' h'=>?_⟩
   .have hn':H.next<=n:=hn
    rw [hget n (by omega)]
    exact R.wf n hn'
   .obtain ⟨q1,q2,q5⟩:=R.cells id' ps' h'
    refine ⟨q1,q2,?_⟩
    show qa8 X sz w1 id' _ (H1.get (w.c id'))
    rw [hget _ (by intro he;rw [he] at q5;exact q5.some.1 hgH)]
    exact q5.qdh ok.len hle (by rw [R.n];exact (R.cl id' q1).1)
   .obtain ⟨q0,vs',e',fl,fz,ex',q1,q2,q3⟩:=R.globs gn ps' h'
    exact ⟨q0,vs',e',fl,fz,ex',q1,q2,q3.qdh ok.len hle⟩
  obtain ⟨H'',w2,a1,a2,a3,a4,a5⟩:=qsm ok R1 (fun x hx=>by
   obtain ⟨m',h1,h2,h3,h4⟩:=hd x (zG _ hx)
   refine ⟨m',h1,h2,h3,?_⟩
   show H1.get m'=_
   rw [hget m' (by intro he;subst he;subst h1;exact hn.1 hx),<-R.g]
   exact h4) hn.2
  refine ⟨H'',w2,?_,a2,hle.trans a3,a4,fun m' hm'=>?_⟩
  .simp only [qcd,hgH,qbn (show H.ro<=m by rw [R.keeps.ro];exact zR R.rob.1 hb),zB]
   exact a1
  .rw [a5 m' hm']
   show H1.get m'=w.g m'
   rw [hget m' (by omega),R.g]
theorem Le.leave {w w1 w2 w3:Wd} (hwf:∀ n,w.nx<=n->w.g n=none) (h1:Le {w with fl:=w.nx} w1) (h2:LeB w1 w2) (hold:∀ m,m<w.nx->w2.g m=w1.g m) (h3:Le w2 w3):Le w {w3 with fl:=w.fl}:=by
 have h:=h1.toLeB.trans (h2.trans h3.toLeB)
 refine ⟨⟨h.n,h.mem,h.c,h.nu,h.o1,h.o2,h.o3,h.ce,h.cl,h.nx,h.b,h.Mu,h.lp⟩,fun m hm=>?_,rfl⟩
 have hlt:m<w.nx:=by
  by_cases hlt:m<w.nx
  .exact hlt
  .rw [hwf m (by omega)] at hm;cases hm
 refine h3.df m ?_
 rw [hold m hlt]
 exact h1.df m hm
theorem qcy {n:Nat}:∀ {ps:List Tmp} {args:List (PV K)} {vs:List V} {t t':Tree (PV K)} {lt:Tree V},qq X sz w args vs->(∀ i p,t.get i=some p->∃ v,lt.get i=some v/\Rep X sz w p v)->qe0 n ps args t=some t'->
  ∃ lt',qc6 n ps vs lt=some lt'/\∀ i p,t'.get i=some p->∃ v,lt'.get i=some v/\Rep X sz w p v
 | [],[],vs,t,t',lt,r,ht,h=>by
  have:=r.kg;subst this
  simp only [qe0,zS] at h
  subst h
  exact ⟨lt,rfl,ht⟩
 | [],_::_,vs,t,t',lt,r,ht,h=>by simp [qe0] at h
 | _::_,[],vs,t,t',lt,r,ht,h=>by simp [qe0] at h
 | p::ps,a::args,vs,t,t',lt,r,ht,h=>by
  obtain ⟨v,vs',rfl,r1,r2⟩:=r.zv
  simp only [qe0] at h
  rcases ka h with ⟨_,h1⟩ | ⟨hb,h1⟩
  .cases h1
  .obtain ⟨lt',e1,e2⟩:=qcy (lt:=lt.set p v) r2 (fun i q hq=>by
    rw [Tree.km] at hq ⊢
    by_cases hi:i=p
    .rw [zT hi] at hq ⊢
     cases hq
     exact ⟨v,rfl,r1⟩
    .rw [zF hi] at hq ⊢
     exact ht i q hq) h1
   refine ⟨lt',?_,e2⟩
   simp only [qc6,hb,zO]
   exact e1
theorem q3z {E:Env} {l:Nat} {args:List V} {H:Heap} {Q:V->Heap->Prop} {st:LoopState} {p:Option Code} {lt t:Tree V} {ln ld:Nat} {lp:List Tmp} {la lb:Code} (hl:H.get l=some (.loop st p lt ln lp la lb ld)) (hp:qc6 ln lp args lt=some t)
  (h:Wp E 0 (some l) la {tmps:=t,n:=ln,defers:=[]} H fun ex fr H1=>ex=.normal/\∃ H2,qug H1 l=some H2/\Wp E 0 (some l) lb fr H2 fun ex' fr' H3=>∃ v H4,ql8 l (ex',fr',H3)=some (.ret v,H4)/\Q v H4):qch E (.round l) args H Q:=by
 obtain ⟨⟨ex,fr,H1⟩,⟨k0,h1⟩,h0,H2,hb,⟨x,⟨k1,h2⟩,v,H4,h3,h4⟩⟩:=h
 simp only at h0
 subst h0
 refine ⟨v,H4,⟨max k0 k1+1,fun k hk=>?_⟩,h4⟩
 obtain ⟨k,rfl⟩:∃ g,k=g+1:=⟨k-1,by omega⟩
 simp only [qaa,hl,hp,zB,h1 k (by omega)]
 simp only at hb
 rw [hb]
 simp only [zB]
 simp only at h2
 rw [h2 k (by omega)]
 simp only [zB]
 exact h3
theorem qye (ok:CfgOk X sz C) (ok2:CfgOk2 X C) (tok:qh0 X sz C tbl) (iok:qk0 X sz C inl) {id:Nat} {args:List (PV K)} {st:StV K} {k:PV K->StV K->Prop} (h:q28 (qt X tbl inv meas) C inl id args st k) {base H:Heap} {w:Wd} {vs:List V}
  (R:RelH X sz C base st H w) (ra:qq X sz w args vs):qch C.E (.round (w.c id)) vs H fun v H'=>∃ p st' w',k p st'/\st'.tmps=st.tmps/\st'.n=st.n/\RelH X sz C base st' H' w'/\Le w w'/\Rep X sz w' p v:=by
 unfold q28 at h
 split at h
 .rename_i r hl
  split at h
  .rename_i hm
   obtain ⟨t,ht,h1⟩:=qb h
   obtain ⟨hcl,hM,g,p1,p2,p3,p4,p5,p6,p7⟩:=R.cells id _ hl
   obtain ⟨hid,hnext,hbase⟩:=R.cl id hcl
   have hidn:id<w.n:=by rw [R.n];exact hid
   rw [hm] at p2
   let w0:Wd:={w with fl:=w.nx}
   have R0:RelH X sz C base st H w0:=R.qky ok w.nx
   have ra0:qq X sz w0 args vs:=ra.qdh ok.len (LeB.qky w w.nx)
   rw [p3,p4] at ht
   obtain ⟨lt',e1,e2⟩:=qcy (lt:=g.lt) ra0 (fun i p hp=>by
    obtain ⟨v,a,b⟩:=p7 i p hp
    exact ⟨v,a,b.qdh ok.len (LeB.qky w w.nx)⟩) ht
   have F0:Rel X sz C base {st with tmps:=t,n:=r.n} {tmps:=lt',n:=g.ln,defers:=[]} H w0:=⟨R0.alike rfl rfl rfl rfl,e2,p3.symm,.nil (zN _)⟩
   have hrd:q3m w0 (some id) (some (w.c id)):=⟨hidn,rfl⟩
   refine q3z (l:=w.c id) (t:=lt') (by rw [p2];rfl) e1 ?_
   rw [<-p5]
   refine (k6 (fnE:=0) ok ok2 tok iok hrd F0 h1).mono fun ex fr1 H1 hA=>?_
   obtain ⟨_,st1,w1,hk,F1,hle1⟩:=hA
   cases ex with
   | normal=>
    refine ⟨rfl,?_⟩
    simp only at hk
    split at hk
    .rename_i r1 hl1
     split at hk
     .rename_i hm1
      obtain ⟨hcl1,hM1,g1,q1,q2,_⟩:=F1.h.cells id _ hl1
      have hc1:w1.c id=w.c id:=hle1.c id hidn
      have hg1:g1=g:=by
       have:w1.lp id=w.lp id:=hle1.lp id hidn
       rw [this,p1] at q1
       exact (Option.some.inj q1).symm
      subst hg1
      rw [hc1,hm1] at q2
      have hro1:H1.ro<=w.c id:=by rw [F1.h.keeps.ro,<-hc1];exact zR F1.h.rob.1 (F1.h.cl _ hcl1).2.2
      have hT1:∀ i p,r.tmps.get i=some p->∃ v,g1.lt.get i=some v/\Rep X sz w1 p v:=fun i p hp=>by
       obtain ⟨v,a,b⟩:=p7 i p hp
       exact ⟨v,a,(b.qdh ok.len (LeB.qky w w.nx)).mono ok.len hle1⟩
      obtain ⟨w2,R2,hle2⟩:=qil ok F1.h (ct':=.lp {r with mode:=.busy}) (o:=qfl g1 .busy) hl1 ⟨g1,q1,rfl,p3,p4,p5,p6,hT1⟩
      rw [hc1] at R2
      have hle02:=hle1.trans hle2
      refine ⟨H1.put (w.c id) (qfl g1 .busy),?_,?_⟩
      .simp only [qug,q2,qfl]
       exact qbn hro1
      have F2:Rel X sz C base {st1 with cells:=qei st1.cells id (.lp {r with mode:=.busy})} fr1 (H1.put (w.c id) (qfl g1 .busy)) w2:=⟨R2,fun i p hp=>by
       obtain ⟨x,a,b⟩:=F1.f i p hp
       exact ⟨x,a,b.mono ok.len hle2⟩,F1.n,F1.ds.mono hle2⟩
      rw [<-p6]
      refine (k6 (fnE:=0) ok ok2 tok iok (hrd.mono hle02) F2 hk).mono fun ex fr3 H3 hB=>?_
      obtain ⟨_,st3,w3,hk3,F3,hle3⟩:=hB
      split at hk3
      .rename_i r3 hl3
       obtain ⟨hcl3,hM3,g3,u1,u2,_⟩:=F3.h.cells id _ hl3
       have hle03:=hle02.trans hle3
       have hc3:w3.c id=w.c id:=hle03.c id hidn
       have hg3:g3=g1:=by
        have:w3.lp id=w.lp id:=hle03.lp id hidn
        rw [this,p1] at u1
        exact (Option.some.inj u1).symm
       subst hg3
       rw [hc3] at u2
       have hro3:H3.ro<=w.c id:=by rw [F3.h.keeps.ro,<-hc3];exact zR F3.h.rob.1 (F3.h.cl _ hcl3).2.2
       have hT3:∀ i p,r.tmps.get i=some p->∃ v,g3.lt.get i=some v/\Rep X sz w3 p v:=fun i p hp=>by
        obtain ⟨v,a,b⟩:=hT1 i p hp
        exact ⟨v,a,(b.mono ok.len hle2).mono ok.len hle3⟩
       have hend:∀ (jump:Option Code),qf2 H3 (w.c id) jump=some (.ret (.bool jump.isNone),H3.put (w.c id) (.loop (if jump.isNone then .ready else .done) jump g3.lt g3.ln g3.lp g3.la g3.lb g3.ld)):=by
        intro jump
        simp only [qf2,u2]
        cases r3.mode with
        | done x=>cases x<;>simp only [qfl,qbn hro3,zH]
        | _=>simp only [qfl,qbn hro3,zH]
       have fin:∀ (md:LMode) (b:Bool) (ex:Ex),ql8 (w.c id) (ex,fr3,H3)=some (.ret (.bool b),H3.put (w.c id) (qfl g3 md))->k (.lit b) {st3 with cells:=qei st3.cells id (.lp {r with mode:=md}),tmps:=st.tmps,n:=st.n}->
         ∃ v H4,ql8 (w.c id) (ex,fr3,H3)=some (.ret v,H4)/\∃ p st' w',k p st'/\st'.tmps=st.tmps/\st'.n=st.n/\RelH X sz C base st' H4 w'/\Le w w'/\Rep X sz w' p v:=by
        intro md b ex he hk
        obtain ⟨w4,R4,hle4⟩:=qil ok F3.h (ct':=.lp {r with mode:=md}) (o:=qfl g3 md) hl3 ⟨g3,u1,rfl,p3,p4,p5,p6,hT3⟩
        rw [hc3] at R4
        have hfin:Le w {w4 with fl:=w.fl}:=Le.leave (fun n hn=>by rw [R.g];exact R.wf n (by rw [<-R.nx];exact hn)) (hle03.trans hle4) (.refl w4) (fun _ _=>rfl) (.refl w4)
        exact ⟨_,_,he,_,_,{w4 with fl:=w.fl},hk,rfl,rfl,(R4.qky ok w.fl).alike rfl rfl rfl rfl,hfin,.lit⟩
       cases ex with
       | normal=>exact fin .ready true .normal (hend none) hk3
       | ret=>exact fin (.done none) false .ret (hend (some .ret)) hk3
       | exit i=>exact fin (.done (some i)) false (.exit i) (hend (some (.exit i))) hk3
       | _=>exact (show False from hk3).elim
      .exact (show False from hk3).elim
     .exact (show False from hk).elim
    .exact (show False from hk).elim
   | _=>exact (show False from hk).elim
  .exact (show False from h).elim
 .exact (show False from h).elim
theorem ql0 {α:Type} {p:Nat->Bool}:∀ {l:List (Nat×α)} {n:Nat} {a:α},look (l.filter fun x=>p x.1) n=some a->look l n=some a
 | [],_,_,h=>by cases h
 | (i,b)::l,n,a,h=>by
  rw [List.filter_cons] at h
  by_cases hn:i=n
  .subst hn
   cases hp:p i with
   | true=>simp only [hp,if_true,look,Nat.beq_refl,zO] at h ⊢;exact h
   | false=>
    exfalso
    simp only [hp,Bool.false_eq_true,if_false] at h
    have hm:=qeg h
    rw [List.mem_filter] at hm
    have:=hm.2
    rw [hp] at this
    cases this
  .have hb:Nat.beq i n=false:=by rw [<-Bool.not_eq_true,Nat.beq_eq];exact hn
   simp only [look,hb,zQ]
   cases hp:p i with
   | true=>simp only [hp,if_true,look,hb,zQ] at h;exact ql0 h
   | false=>simp only [hp,Bool.false_eq_true,if_false] at h;exact ql0 h
theorem zgh {lo:Nat} {vs:List (PV K)} {cells:List (Nat×ZT K)} {id:Nat} {ct:ZT K} (h:look (gcC lo vs cells) id=some ct):look cells id=some ct:=by
 unfold gcC at h
 rw [cond_eq_ite] at h
 split at h
 .exact h
 .exact ql0 (p:=fun i=>!Nat.ble lo i || (q72 lo cells 3 ((qp6 vs++cells.flatMap fun x=>bif Nat.ble lo x.1 then [] else x.2.refs).filter (Nat.ble lo))).any (Nat.beq i)) h
theorem RelH.zqc (R:RelH X sz C base st H w) {cs:List (Nat×ZT K)} (h:∀ {id ct},look cs id=some ct->look st.cells id=some ct):RelH X sz C base {st with cells:=cs} H w:=
 ⟨R.wf,R.rob,R.g,R.nx,R.b,R.Mlt,R.n,R.one,R.keeps,R.cl,R.cinj,fun id ct hl=>R.cells id ct (h hl),R.owns,R.ownn,R.eta,R.einj,R.ce,R.known,R.globs⟩
theorem qqi (ok:CfgOk X sz C) (ok2:CfgOk2 X C) (tok:qh0 X sz C tbl) (hq:za C) (iok:qk0 X sz C inl) {f:Nat} {args:List (PV K)} {st:StV K} {k:PV K->StV K->Prop} (h:q27 (qt X tbl inv meas) C inl f args st k) {base H:Heap} {w:Wd} {vs:List V}
  (R:RelH X sz C base st H w) (ra:qq X sz w args vs):qch C.E (.func f) vs H fun v H'=>∃ p st' w',k p st'/\st'.tmps=st.tmps/\st'.n=st.n/\RelH X sz C base st' H' w'/\Le w w'/\Rep X sz w' p v:=by
 unfold q27 at h
 cases hans:C.ans f with
 | true=>rw [hans] at h;exact absurd h id
 | false=>
  rw [hans] at h
  simp only [zQ] at h
  have hs:=hq.1 f hans
  cases hprim:C.prim f with
  | true=>
   rw [hprim] at h
   simp only [zO] at h
   exact q5y ok hq.2 hprim h R ra
  | false=>
  rw [hprim] at h
  simp only [zQ] at h
  split at h
  .rename_i fi hfi
   split at h
   .rename_i c hc
    have ra0:qq X sz {w with fl:=w.nx} args vs:=ra.qdh ok.len (LeB.qky w w.nx)
    have R1:Rel X sz C base {st with tmps:=Tree.ofList args,n:=max args.length fi.ntmps} {tmps:=qdt vs,n:=max vs.length fi.ntmps,defers:=[]} H {w with fl:=w.nx}:=by
     refine ⟨(R.qky ok w.nx).alike rfl rfl rfl rfl,fun i p hp=>?_,by rw [ra.1],.nil (zN _)⟩
     have hp':(Tree.ofList args).get i=some p:=hp
     rw [Tree.qn3] at hp'
     obtain ⟨v,h1,h2⟩:=ra0.get hp'
     exact ⟨v,qy6 h1,h2⟩
    refine qul hs hfi hc ((k6 (rd:=none) (round:=none) ok ok2 tok iok trivial R1 h).mono fun ex fr' H' hA=>?_)
    obtain ⟨_,st1,w1,hk,R2,hle⟩:=hA
    have key:onS False (qgx (qt X tbl inv meas) C st1 fi.results) (fun vs=>q85 (qt X tbl inv meas) vs st1 fun vs st2=>k (q8e vs) {st2 with tmps:=st.tmps,n:=st.n,cells:=gcC st.next vs st2.cells})->∃ H'',qcd fr'.defers H'=some H''/\∃ vs,kx C.E fr' H'' fi.results=some vs/\∃ p st' w',k p st'/\st'.tmps=st.tmps/\st'.n=st.n/\RelH X sz C base st' H'' w'/\Le w w'/\Rep X sz w' p (oneOf vs):=by
     intro hm
     obtain ⟨qs,hps,hm⟩:=qb hm
     obtain ⟨H'',w2,hmk,R3,hB,hfl,hold⟩:=qsm ok R2.h (F:=w.nx) (fun x hx=>by
      obtain ⟨m,a1,a2,a3,a4⟩:=R2.ds.1 x hx
      exact ⟨m,a1,a2,by rw [hle.fl] at a3;exact a3,a4⟩) R2.ds.2.1
     obtain ⟨us,e1,e2⟩:=qim (fr:=fr') R3 (fun i p hp=>by
      obtain ⟨v,h1,h2⟩:=R2.f i p hp
      exact ⟨v,h1,h2.qdh ok.len hB⟩) hps
     obtain ⟨qs',st2,w3,hm,R4,hle3,e3⟩:=qop ok R3 e2 hm
     have hfin:Le w {w3 with fl:=w.fl}:=Le.leave (fun n hn=>by rw [R.g];exact R.wf n (by rw [<-R.nx];exact hn)) hle hB hold hle3
     exact ⟨H'',hmk,us,e1,_,_,{w3 with fl:=w.fl},hm,rfl,rfl,((R4.qky ok w.fl).zqc (cs:=gcC st.next qs' st2.cells) zgh).alike rfl rfl rfl rfl,hfin,zdm (e3.qdh ok.len (LeB.qky w3 w.fl))⟩
    cases ex with
    | normal=>exact ⟨.inl rfl,key hk⟩
    | ret=>exact ⟨.inr rfl,key hk⟩
    | _=>exact absurd hk id
   .rename_i hc
    split at h
    .rename_i x hext
     obtain ⟨v,vs',rfl,r1,r2⟩:=ra.zv
     have:=r2.kg;subst this
     exact qyw hs hfi hc (v:=v) (by simp only [hext,zcp]) ⟨x,st,w,h,rfl,rfl,R,.refl w,r1⟩
    .exact absurd h id
  .exact absurd h id
theorem qxj (ok:CfgOk X sz C) (ok2:CfgOk2 X C) (tok:qh0 X sz C tbl) (hq:za C):∀ n,qk0 X sz C (za4 (qt X tbl inv meas) C n)
 | 0=>fun g args st k h=>absurd h id
 | n+1=>fun t args st k h base H w vs R ra=>match t,h with
  | .func f,h=>qqi ok ok2 tok hq (qxj ok ok2 tok hq n) h R ra
  | .round id,h=>qye ok ok2 tok (qxj ok ok2 tok hq n) h R ra
theorem qhn:∀ {ps rs:List (PV K)} {obs:List Prop},qkk (qt X tbl inv meas) st ps rs=some obs->∀ j i,(j,i) ∈ jo ps rs->∃ s,look st.owns i=some s
 | [],rs,obs,h,j,i,hm=>by cases rs<;>simp [jo] at hm
 | _::_,[],obs,h,j,i,hm=>by simp [qkk] at h
 | p::ps,r::rs,obs,h,j,i,hm=>by
  simp only [qkk] at h
  obtain ⟨x,h1,h2⟩:=zI.1 h
  obtain ⟨y,h3,_⟩:=zM.1 h2
  have ih:=qhn h3 j i
  cases p with
  | list c l o=>
   cases o with
   | none=>cases r<;>exact ih hm
   | some a=>
    obtain ⟨i',s'⟩:=a
    cases r with
    | list c' l' o'=>
     cases o' with
     | none=>exact ih hm
     | some b=>
      obtain ⟨j',s2⟩:=b
      simp only [jo,zD] at hm
      rcases hm with hm | hm
      .cases hm
       simp only [meets,Option.isSome_some,Bool.true_and] at h1
       rcases ka h1 with ⟨hb,_⟩ | ⟨_,hb⟩
       .simp only [Bool.not_eq_false',qdf] at hb
        split at hb
        .rename_i s3 hs3;exact ⟨s3,hs3⟩
        .cases hb
       .cases hb
      .exact ih hm
    | _=>exact ih hm
  | _=>cases r<;>exact ih hm
theorem qp4:∀ {ps rs:List (PV K)},(jo ps rs).map (·.2)=qij ps rs
 | [],rs=>by cases rs<;>simp [jo,qij]
 | p::ps,[]=>by cases p<;>simp [jo,qij]
 | p::ps,r::rs=>by
  have ih:=qp4 (ps:=ps) (rs:=rs)
  cases p with
  | list c l o=>
   cases o with
   | none=>cases r<;>simp only [jo,qij,ih]
   | some a=>
    cases r with
    | list c' l' o'=>
     cases o' with
     | none=>simp only [jo,qij,ih]
     | some b=>simp only [jo,qij,List.map_cons,ih]
    | _=>simp only [jo,qij,ih]
  | _=>cases r<;>simp only [jo,qij,ih]
theorem qp3:∀ {ps rs:List (PV K)},((jo ps rs).map (·.1)).Sublist (qbo rs)
 | [],rs=>by cases rs<;>simp [jo]
 | p::ps,[]=>by cases p<;>simp [jo]
 | p::ps,r::rs=>by
  have ih:=qp3 (ps:=ps) (rs:=rs)
  cases r with
  | list c' l' o'=>
   cases o' with
   | none=>cases p with
    | list c l o=>cases o<;>exact ih
    | _=>exact ih
   | some b=>
    cases p with
    | list c l o=>
     cases o with
     | none=>exact ih.trans (List.sublist_cons_self _ _)
     | some a=>exact ih.cons_cons _
    | _=>exact ih.trans (List.sublist_cons_self _ _)
  | _=>cases p with
   | list c l o=>cases o<;>exact ih
   | _=>exact ih
theorem qsk:∀ {l:List (Nat×Nat)} {j i:Nat},(l.map (·.1)).Nodup->(j,i) ∈ l->look l j=some i
 | [],j,i,_,h=>by cases h
 | (a,b)::l,j,i,hn,h=>by
  simp only [List.map_cons,List.nodup_cons] at hn
  simp only [look,cond_eq_ite,Nat.beq_eq]
  rcases zD.1 h with h | h
  .cases h
   rw [zT rfl]
  .rw [zF]
   .exact qsk hn.2 h
   .intro he
    subst he
    exact hn.1 (List.mem_map.2 ⟨_,h,rfl⟩)
theorem qpz (ok2:CfgOk2 X C) (R:RelH X sz C base st H w) {w':Wd} (hg:w'.g=w.g) (hM':∀ nm x,w.g nm=some x->¬ w.M nm->¬ w'.M nm) (hce:w'.ce=w.ce) (ho:∀ i,w'.owns i=some 0):∀ {ps rs:List (PV K)} {obs:List Prop} {vs:List V},
  qkk (qt X tbl inv meas) st ps rs=some obs->(∀ q ∈ obs,q)->qq X sz w ps vs->(∀ r ∈ rs,RT r)->(∀ j i,(j,i) ∈ jo ps rs->w'.eta j=w.eta i)->(∀ j ∈ qbo rs,j<w'.n)->qq X sz w' rs vs
 | [],[],obs,vs,h,hq,r,ht,he,hn=>by rw [r.kg];exact .nil
 | [],_::_,obs,vs,h,hq,r,ht,he,hn=>by simp [qkk] at h
 | _::_,[],obs,vs,h,hq,r,ht,he,hn=>by simp [qkk] at h
 | p::ps,q::rs,obs,vs,h,hq,r,ht,he,hn=>by
  obtain ⟨v,vs',rfl,r1,r2⟩:=r.zv
  simp only [qkk] at h
  obtain ⟨x,h1,h2⟩:=zI.1 h
  obtain ⟨y,h3,rfl⟩:=zM.1 h2
  have hsubP:∀ j i,(j,i) ∈ jo ps rs->(j,i) ∈ jo (p::ps) (q::rs):=by
   intro j i hm
   cases p with
   | list c l o=>
    cases o with
    | none=>cases q<;>exact hm
    | some a=>
     cases q with
     | list c' l' o'=>
      cases o' with
      | none=>exact hm
      | some b=>exact zG _ hm
     | _=>exact hm
   | _=>cases q<;>exact hm
  have hsubI:∀ j ∈ qbo rs,j ∈ qbo (q::rs):=by
   intro j hm
   cases q with
   | list c' l' o'=>
    cases o' with
    | none=>exact hm
    | some b=>exact zG _ hm
   | _=>exact hm
  have ih:=qpz ok2 R hg hM' hce ho h3 (fun q hq'=>hq q (List.mem_append_right _ hq')) r2 (fun r hr=>ht r (zG _ hr)) (fun j i hm=>he j i (hsubP j i hm)) (fun j hj=>hn j (hsubI j hj))
  refine .cons ?_ ih
  have hx:∀ a ∈ x,a:=fun a ha=>hq a (List.mem_append_left _ ha)
  have hT:=ht q zC
  cases q with
  | int k' l' b=>
   cases p with
   | int k l a=>
    simp only [meets] at h1
    split at h1
    .rename_i hk
     subst hk
     cases h1
     have:a=b:=hx _ zC
     subst this
     cases r1
     have:l'=none:=hT
     subst this
     exact .int fun m hm=>by cases hm
    .cases h1
   | _=>simp [meets] at h1
  | sb id neg b pt pf=>
   obtain ⟨t1,t2,t3⟩:id=0/\(pt↔b=true)/\(pf↔b=false):=hT
   have:v=.bool b:=by
    cases p with
    | lit a=>
     simp only [meets,zS] at h1
     subst h1
     have:a=b:=hx _ zC
     subst this
     cases r1
     rfl
    | sb id' neg' a pt' pf'=>
     simp only [meets,zS] at h1
     subst h1
     have:a=b:=hx _ zC
     subst this
     cases r1
     rfl
    | _=>simp [meets] at h1
   subst this
   exact .sb t2 t3 fun h0=>absurd t1 h0
  | str b=>
   cases p with
   | str a=>
    simp only [meets,zS] at h1
    subst h1
    have:a=b:=hx _ zC
    subst this
    cases r1
    exact .str
   | _=>simp [meets] at h1
  | list c l o=>
   have hm:∃ l',asL (qt X tbl inv meas) c p=some l'/\l'=l/\(o.isSome=true->qdf st p=true):=by
    have e:meets (qt X tbl inv meas) st p (.list c l o)=(bif o.isSome&&!qdf st p then none else (asL (qt X tbl inv meas) c p).map fun l'=>[(qt X tbl inv meas).eqL c l' l]):=by
     cases p<;>rfl
    rw [e] at h1
    rcases ka h1 with ⟨hb,h4⟩ | ⟨_,hb⟩
    .obtain ⟨l',hl,rfl⟩:=zM.1 h4
     refine ⟨l',hl,hx _ zC,fun hs=>?_⟩
     rw [hs] at hb
     simpa using hb
    .cases hb
   obtain ⟨l',hl,rfl,hown⟩:=hm
   have rl:=qc3 r1 hl
   have rp:=rl.plain ok2.plain hg hM' .list
   cases o with
   | none=>exact rp
   | some b=>
    obtain ⟨j,s⟩:=b
    have hs0:s=0:=hT
    subst hs0
    have hown:=hown rfl
    have hj:j<w'.n:=hn j (by simp [qbo])
    have hcur:∀ cur,w'.owns j=some cur->0<=cur:=fun _ _=>Nat.zero_le _
    rcases ji rp with ⟨rfl,rfl⟩ | ⟨nm,gn,off,z,cap,cs,e,gen,floor,frz,ex,rfl,hg',hf,hM2,hlen,hz,hcap,hcell,_⟩
    .exact .nlist ⟨hj,hcur,fun _=>trivial,fun _=>trivial⟩
    .refine .list hg' hf hM2 rfl hlen hz hcap hcell ⟨hj,hcur,fun _=>?_,fun h=>by cases h⟩
     cases p with
     | list c2 l2 o2=>
      cases o2 with
      | none=>simp [qdf] at hown
      | some a=>
       obtain ⟨i,s2⟩:=a
       have hcl:c2=c:=by
        unfold asL at hl
        simp only at hl
        split at hl
        .assumption
        .cases hl
       subst hcl
       have hls:look st.owns i=some s2:=by
        simp only [qdf] at hown
        split at hown
        .rename_i s3 hs3
         rw [hs3,zE hown]
        .cases hown
       have hll:l2.length=l'.length:=by
        unfold asL at hl
        simp only at hl
        split at hl
        .cases hl;rfl
        .cases hl
       have hclaim:qs7 w sz i c2 (.slice nm gn off l'.length z cap):=by
        rcases ji r1 with ⟨_,hh⟩ | ⟨nm3,gn3,off3,z3,cap3,cs3,e3,gen3,floor3,frz3,ex3,hh,_,_,_,_,_,_,_,ho3⟩
        .cases hh
        .rw [hh];exact ho3.2.2.1 (by rw [R.owns];exact hls)
       have heta:w'.eta j=w.eta i:=he j i (by simp [jo])
       simp only [qs7] at hclaim ⊢
       rcases hclaim with hc | ⟨hc1,hc2,cs4,e4,floor4,frz4,ex4,hg4,hr4⟩
       .exact .inl hc
       .exact .inr ⟨hc1,by rw [heta];exact hc2,cs4,e4,floor4,frz4,ex4,by rw [hg];exact hg4,hr4.1,hr4.2.1,by rw [hce];exact hr4.2.2⟩
     | nils=>cases r1
     | _=>simp [qdf] at hown
  | _=>cases p<;>simp [meets] at h1
theorem zcu {ps:List (PV K)} {vs:List V} (r:qq X sz w ps vs):qq X sz w (ps.flatMap P.cellsOf) (vs.flatMap V.cells):=by
 induction ps generalizing vs with
 | nil=>rw [r.kg];exact .nil
 | cons p ps ih=>
  obtain ⟨v,vs',rfl,r1,r2⟩:=r.zv
  exact r1.cells.append (ih r2)
theorem qov {w':Wd} {p r:PV K} {v:V} {cs:List (PV K)} {us:List V} (ha:qj0 p r=true) (rp:Rep X sz w p v) (h:qq X sz w' (r.cellsOf++cs) (v.cells++us)):Rep X sz w' r v/\qq X sz w' cs us:=by
 have sp:∀ {a:List (PV K)} {b:List V},a.length=b.length->qq X sz w' (a++cs) (b++us)->qq X sz w' a b/\qq X sz w' cs us:=by
  intro a b hl hr
  have h1:=hr.take a.length
  have h2:=hr.drop a.length
  rw [List.take_left' rfl] at h1
  rw [List.drop_left' rfl] at h2
  rw [hl,List.take_left' rfl] at h1
  rw [hl,List.drop_left' rfl] at h2
  exact ⟨h1,h2⟩
 cases p with
 | agg a=>
  obtain ⟨vs,rfl,rl⟩:=rp.qem
  cases r with
  | agg b=>
   simp only [qj0] at ha
   have hl:=zE ha
   obtain ⟨q1,q2⟩:=sp (a:=b) (b:=vs) (by rw [<-hl,rl.1]) h
   exact ⟨.qqp q1,q2⟩
  | _=>simp [qj0] at ha
 | tuple a=>cases r<;>simp [qj0] at ha
 | _=>
  have hv:=rp.cellsOf (by intro ps hh;cases hh)
  cases r with
  | agg b=>simp [qj0] at ha
  | tuple b=>simp [qj0] at ha
  | _=>
   obtain ⟨q1,q2⟩:=sp (a:=P.cellsOf _) (b:=v.cells) (by rw [hv.2];rfl) h
   rw [hv.2] at q1
   obtain ⟨u,us',he,e1,e2⟩:=qq.zv q1
   simp only [List.cons.injEq] at he
   obtain ⟨rfl,rfl⟩:=he
   exact ⟨e1,q2⟩
theorem qt7 {w':Wd}:∀ {ps rs:List (PV K)} {vs:List V},qnr ps rs=true->qq X sz w ps vs->qq X sz w' (rs.flatMap P.cellsOf) (vs.flatMap V.cells)->qq X sz w' rs vs
 | [],[],vs,_,r,_=>by rw [r.kg];exact .nil
 | [],_::_,vs,h,_,_=>by simp [qnr] at h
 | _::_,[],vs,h,_,_=>by simp [qnr] at h
 | p::ps,q::rs,vs,h,r,h2=>by
  obtain ⟨v,vs',rfl,r1,r2⟩:=r.zv
  simp only [qnr,zA] at h
  rw [List.flatMap_cons,List.flatMap_cons] at h2
  obtain ⟨a1,a2⟩:=qov h.1 r1 h2
  exact .cons a1 (qt7 h.2 r2 a2)
theorem qzc {p:PV K} (h:∀ ps,p≠.tuple ps):p.flat=p.cellsOf:=by
 cases p with
 | tuple ps=>exact absurd rfl (h ps)
 | _=>rfl
theorem zd5 {w':Wd} {p r:PV K} {v:V} (hs:zaw p r=true) (rp:Rep X sz w p v) (h:∀ us,qq X sz w p.flat us->qq X sz w' r.flat us):Rep X sz w' r v:=by
 by_cases hp:∃ ps,p=.tuple ps
 .obtain ⟨ps,rfl⟩:=hp
  obtain ⟨vs,rfl,rl⟩:=rp.qgf
  by_cases hr:∃ rs,r=.tuple rs
  .obtain ⟨rs,rfl⟩:=hr
   have hs':qnr ps rs=true:=hs
   exact .tuple' (qt7 hs' rl (h _ (zcu rl)))
  .exfalso
   cases r with
   | tuple rs=>exact hr ⟨rs,rfl⟩
   | _=>cases hs
 .by_cases hr:∃ rs,r=.tuple rs
  .exfalso
   obtain ⟨rs,rfl⟩:=hr
   cases p with
   | tuple ps=>exact hp ⟨ps,rfl⟩
   | _=>cases hs
  .have hs':qj0 p r=true:=by
    cases p with
    | tuple ps=>exact absurd ⟨ps,rfl⟩ hp
    | _=>cases r with
     | tuple rs=>exact absurd ⟨rs,rfl⟩ hr
     | _=>exact hs
   have h1:=h v.cells (by rw [qzc (fun ps he=>hp ⟨ps,he⟩)];exact rp.cells)
   rw [qzc (fun rs he=>hr ⟨rs,he⟩)] at h1
   exact (qov (cs:=[]) (us:=[]) hs' rp (by simpa using h1)).1
theorem zcw (ok:CfgOk X sz C) (ok2:CfgOk2 X C) (tok:qh0 X sz C tbl) (hq:za C) {depth f:Nat} {args:List (PV K)} {r:PV K} (hpl:∀ p ∈ args,Plain p) (hT:∀ p ∈ r.flat,RT p) (h:qai (qt X tbl inv meas) C depth f args r):qau X sz C f args r:=by
 intro H M vs S ra
 unfold qai at h
 have hle1:Le (wd0 H M C.codec) {wd0 H M C.codec with n:=1}:=Le.ext (w:=wd0 H M C.codec) (m:=1) (nu':=fun _=>false) (Nat.zero_le _) (fun _ _=>rfl)
 have ra1:=ra.mono ok.len hle1
 obtain ⟨nu',g1,g2,g3⟩:=qdu ok.len ra1 (zN 1)
 let w0:Wd:={wd0 H M C.codec with n:=(jx args 1).2,nu:=nu'}
 have hle0:Le (wd0 H M C.codec) w0:=Le.ext (w:=wd0 H M C.codec) (Nat.zero_le _) (fun id hi=>by have:id<0:=hi;omega)
 have R0:RelH X sz C H {tmps:=.nil,n:=0,cells:=[],owns:=[],next:=(jx args 1).2,known:=[]} H w0:=by
  refine ⟨S.wf,S.ro,rfl,rfl,rfl,S.Mlt,rfl,g2,.refl H,fun _ hc=>False.elim hc,fun _ _ hc=>False.elim hc,fun id ps hl=>(by cases hl),fun _=>rfl,fun i s hl=>(by cases hl),fun i s nm hl=>(by cases hl),fun i j s s' nm hl=>(by cases hl),rfl,fun id b hl=>(by cases hl),fun gn ps hg=>?_⟩
  obtain ⟨q0,vs',e',fl,fz,ex',q1,q2,q3⟩:=S.globs gn ps hg
  exact ⟨q0,vs',e',fl,fz,ex',q1,q2,q3.mono ok.len hle0⟩
 refine (qqi ok ok2 tok hq (qxj ok ok2 tok hq depth) h R0 g3).mono fun v H' hA=>?_
 obtain ⟨p,st',w',hk,_,_,R,hle,rp⟩:=hA
 unfold ends at hk
 obtain ⟨hb,hk⟩:=cond_prop hk
 simp only [zA] at hb
 split at hk
 .rename_i l hl
  obtain ⟨hobs,_⟩:=qox hk
  let pairs:=jo p.flat r.flat
  have hnd:(pairs.map (·.1)).Nodup:=(qff hb.2).sublist qp3
  have hnd2:(pairs.map (·.2)).Nodup:=by rw [qp4];exact qff hb.1.2
  let w2:Wd:={g:=H'.get,M:=fun n=>if n<H.next then M n else w'.M n,c:=fun _=>0,nu:=fun _=>false,n:=qn6 (qbo r.flat),owns:=fun _=>some 0,eta:=fun j=>(look pairs j).bind w'.eta,ce:=C.codec,cl:=fun _=>False,nx:=H'.next,b:=H.next,lp:=fun _=>none,fl:=0}
  have heta:∀ j i,(j,i) ∈ pairs->w2.eta j=w'.eta i:=by
   intro j i hm
   show (look pairs j).bind w'.eta=_
   rw [qsk hnd hm]
   rfl
  have hinv:∀ j nm,w2.eta j=some nm->∃ i,(j,i) ∈ pairs/\w'.eta i=some nm:=by
   intro j nm he
   obtain ⟨i,h1,h2⟩:=zI.1 he
   exact ⟨i,qeg h1,h2⟩
  have hold:=R.keeps
  refine ⟨w2,R.keeps,R.wf,rfl,fun n hn=>?_,fun n hn=>?_,rfl,rfl,fun _=>rfl,fun j nm he=>?_,fun j1 j2 nm e1 e2=>?_,?_⟩
  .show (if n<H.next then M n else w'.M n)↔M n
   rw [zT hn]
  .have hn':(if n<H.next then M n else w'.M n):=hn
   split at hn'
   .rename_i hlt;exact zL hlt R.keeps.next
   .exact R.Mlt n hn'
  .obtain ⟨i,h1,h2⟩:=hinv j nm he
   obtain ⟨s,hs⟩:=qhn hl j i h1
   obtain ⟨b1,b2,b3⟩:=R.eta i s nm hs h2
   refine ⟨b1,b2,?_⟩
   show ¬ (if nm<H.next then M nm else w'.M nm)
   rw [zF (by omega)]
   exact b3
  .obtain ⟨i1,a1,b1⟩:=hinv j1 nm e1
   obtain ⟨i2,a2,b2⟩:=hinv j2 nm e2
   obtain ⟨s1,hs1⟩:=qhn hl j1 i1 a1
   obtain ⟨s2,hs2⟩:=qhn hl j2 i2 a2
   have:=R.einj i1 i2 s1 s2 nm hs1 hs2 b1 b2
   subst this
   have key:∀ (l:List (Nat×Nat)),(l.map (·.2)).Nodup->(j1,i1) ∈ l->(j2,i1) ∈ l->j1=j2:=by
    intro l
    induction l with
    | nil=>intro _ h;cases h
    | cons x l ih=>
     intro hn h1 h2
     simp only [List.map_cons,List.nodup_cons] at hn
     rcases zD.1 h1 with h1 | h1<;>rcases zD.1 h2 with h2 | h2
     .rw [<-h1] at h2;cases h2;rfl
     .exact absurd (List.mem_map.2 ⟨_,h2,by rw [<-h1]⟩) hn.1
     .exact absurd (List.mem_map.2 ⟨_,h1,by rw [<-h2]⟩) hn.1
     .exact ih hn.2 h1 h2
   exact key pairs hnd2 a1 a2
  .refine zd5 hb.1.1 rp fun us hus=>?_
   exact qpz ok2 R (w':=w2) R.g.symm (fun nm x _ hm=>by
    show ¬ (if nm<H.next then M nm else w'.M nm)
    split
    .rename_i hlt;exact fun h0=>hm (hle.Mu nm hlt h0)
    .exact hm) R.ce.symm (fun _=>rfl) hl hobs hus hT heta (fun j hj=>(qq2 _ 0).2 j hj)
 .exact absurd hk id
end
end Go.E3
/- E3: TOOLS for claims: tables by lists, list elements of a claim's own types. -/
namespace Go.E3
open Go Go.E2
variable {K:Nat->Type}
def j9:List (Nat×Nat×Ann)->Nat->Nat->Option Ann
 | [],_,_=>none
 | (f,p,a)::l,g,q=>bif Nat.beq f g&&Nat.beq p q then some a else j9 l g q
abbrev Ct (K:Nat->Type):=List Sh×(List (NV K)->Option (Prop×PV K))
def jj:List (Nat×Ct K)->Tbl K
 | [],_=>none
 | (f,c)::l,g=>bif Nat.beq f g then some c else jj l g
section
variable {X:Codecs K} {sz:Nat->Nat} {C:ZC K}
def qbk (X:Codecs K) (sz:Nat->Nat) (C:ZC K) (f:Nat) (c:Ct K):Prop:=
 ∀ ns pre r,c.2 ns=some (pre,r)->pre->∃ args,qlb c.1 ns=some args/\qau X sz C f args r/\Form r
theorem zl:qh0 X sz C (jj []):=fun f shs res ns pre r h=>by cases h
theorem qk {f:Nat} {c:Ct K} {l:List (Nat×Ct K)} (h:qbk X sz C f c) (hl:qh0 X sz C (jj l)):qh0 X sz C (jj ((f,c)::l)):=by
 intro g shs res ns pre r h1 h2 h3
 simp only [jj,cond_eq_ite,Nat.beq_eq] at h1
 split at h1
 .rename_i hf
  subst hf
  cases h1
  exact h ns pre r h2 h3
 .exact hl g shs res ns pre r h1 h2 h3
theorem CfgOk.ann (h:CfgOk X sz C) (a:Nat->Nat->Option Ann):CfgOk X sz {C with ann:=a}:=⟨h.len,h.pos,h.size,h.inj,h.one,h.u8,h.pack⟩
theorem CfgOk2.ann (h:CfgOk2 X C) (a:Nat->Nat->Option Ann):CfgOk2 X {C with ann:=a}:=⟨h.plain,h.qy⟩
theorem qau.ann {f:Nat} {args:List (PV K)} {r:PV K} (h:qau X sz C f args r) (a:Nat->Nat->Option Ann):qau X sz {C with ann:=a} f args r:=by
 intro H M vs S ra
 refine (h H M vs ⟨S.wf,S.ro,S.Mlt,S.globs⟩ ra).mono fun v H' hA=>?_
 obtain ⟨w',b⟩:=hA
 exact ⟨w',b.keeps,b.wf,b.g,b.M,b.Mlt,b.ce,b.n,b.owns,b.eta,b.einj,b.rep⟩
theorem qau.zsj {f:Nat} {args:List (PV K)} {r:PV K} {a:Nat->Nat->Option Ann} (h:qau X sz {C with ann:=a} f args r):qau X sz C f args r:=by
 intro H M vs S ra
 refine (h H M vs ⟨S.wf,S.ro,S.Mlt,S.globs⟩ ra).mono fun v H' hA=>?_
 obtain ⟨w',b⟩:=hA
 exact ⟨w',b.keeps,b.wf,b.g,b.M,b.Mlt,b.ce,b.n,b.owns,b.eta,b.einj,b.rep⟩
theorem qaw (ok:CfgOk X sz C) (ok2:CfgOk2 X C) {l:List (Nat×Ct K)} (tok:qh0 X sz C (jj l)) (hq:za C) {inv:Nat->List (NV K)->Prop} {meas:Nat->List (NV K)->Nat} {ann:List (Nat×Nat×Ann)} {depth f:Nat} {args:List (PV K)} {r:PV K} {VC:Prop}
  (hpl:∀ p ∈ args,Plain p) (hT:∀ p ∈ r.flat,RT p) (hvc:qai (qt X (jj l) inv meas) {C with ann:=j9 ann} depth f args r=VC) (h:VC):qau X sz C f args r:=
 zcw (C:={C with ann:=j9 ann}) (tbl:=jj l) (inv:=inv) (meas:=meas) (ok.ann _) (ok2.ann _) (fun f shs res ns pre r h1 h2 h3=>by
  obtain ⟨as,e1,e2,e3⟩:=tok f shs res ns pre r h1 h2 h3
  exact ⟨as,e1,e2.ann _,e3⟩) hq hpl hT (hvc.symm ▸ h) |>.zsj
def q2o:PV K->Bool
 | .int .. | .lit _ | .str _ | .nils | .nilp | .nilf | .nili=>true
 | .sb 0 _ _ _ _=>true
 | .list _ _ none=>true
 | .func _ [] []=>true
 | _=>false
def q8k:PV K->Bool
 | .agg ps=>ps.all q2o
 | p=>q2o p
theorem qz3 {p:PV K} (h:q2o p=true):Plain p:=by
 unfold q2o at h
 split at h<;>first | (cases h;done) | constructor
theorem zds {p:PV K} (h:q8k p=true):Plain p:=by
 unfold q8k at h
 split at h
 .exact .agg fun p hp=>qz3 (List.all_eq_true.1 h p hp)
 .exact qz3 h
theorem zg {ps:List (PV K)} (h:ps.all q8k=true):∀ p ∈ ps,Plain p:=fun p hp=>zds (List.all_eq_true.1 h p hp)
def qtq:PV K->Bool
 | .int .. | .lit _ | .str _=>true
 | .sb 0 _ _ _ _=>true
 | .list _ _ none=>true
 | .list _ _ (some (_,0))=>true
 | _=>false
def q1r:PV K->Bool
 | .agg ps=>ps.all qtq
 | p=>qtq p
def zm1:PV K->Bool
 | .tuple l=>l.all q1r
 | p=>q1r p
theorem qw4 {p:PV K} (h:qtq p=true):Simple p:=by
 unfold qtq at h
 split at h<;>first | (cases h;done) | constructor
theorem qzg {p:PV K} (h:q1r p=true):Form1 p:=by
 unfold q1r at h
 split at h
 .exact .agg fun p hp=>qw4 (List.all_eq_true.1 h p hp)
 .exact .one (qw4 h)
theorem zo {p:PV K} (h:zm1 p=true):Form p:=by
 unfold zm1 at h
 split at h
 .exact .tuple fun p hp=>qzg (List.all_eq_true.1 h p hp)
 .exact .one (qzg h)
def qlq (k:IntKind):PV K->Option Int
 | .int k' _ n=>if k=k' then some n else none
 | _=>none
def zk7:PV K->Option Bool
 | .lit b=>some b
 | .sb _ _ b _ _=>some b
 | _=>none
def zk8:PV K->Option (List UInt8)
 | .str s=>some s
 | _=>none
def zoa (c:Nat):PV K->Option (List (K c))
 | .nils=>some []
 | .list c' l _=>if h:c'=c then some (h ▸ l) else none
 | _=>none
variable {w:Wd}
theorem qbl {k:IntKind} {p:PV K} {n:Int} {v:V} (h:qlq k p=some n) (r:Rep X sz w p v):Rep X sz w (.int k none n) v:=by
 unfold qlq at h
 split at h
 .split at h
  .rename_i hk;subst hk;cases h;cases r;exact .int fun m hm=>by cases hm
  .cases h
 .cases h
theorem q4z {p:PV K} {b:Bool} {v:V} (h:zk7 p=some b) (r:Rep X sz w p v):Rep X sz w (.sb 0 false b (b=true) (b=false)) v:=by
 unfold zk7 at h
 split at h
 .cases h;cases r;exact .sb .rfl .rfl fun h0=>absurd rfl h0
 .cases h;cases r;exact .sb .rfl .rfl fun h0=>absurd rfl h0
 .cases h
theorem q40 {p:PV K} {s:List UInt8} {v:V} (h:zk8 p=some s) (r:Rep X sz w p v):Rep X sz w (.str s) v:=by
 unfold zk8 at h
 split at h
 .cases h;exact r
 .cases h
theorem zgj (tbl:Tbl K) (inv:Nat->List (NV K)->Prop) (meas:Nat->List (NV K)->Nat) {c:Nat} {p:PV K} {l:List (K c)} {v:V} (h:zoa c p=some l) (r:Rep X sz w p v):Rep X sz w (.list c l none) v:=by
 have:asL (qt X tbl inv meas) c p=some l:=by
  cases p<;>exact h
 exact qc3 r this
theorem zcy {c:Nat} {p:PV K} {l:List (K c)} {v:V} (h:zoa c p=some l) (r:Rep X sz w p v):Rep X sz w (.list c l none) v:=zgj (fun _=>none) (fun _ _=>True) (fun _ _=>0) h r
theorem j6 {p q:PV K} {ps qs:List (PV K)} {vs:List V} (h:∀ v,Rep X sz w p v->Rep X sz w q v) (hl:∀ us,qq X sz w ps us->qq X sz w qs us) (r:qq X sz w (p::ps) vs):qq X sz w (q::qs) vs:=by
 obtain ⟨v,vs',rfl,r1,r2⟩:=r.zv
 exact .cons (h v r1) (hl vs' r2)
end
end Go.E3
/- E3: FUNCTIONS WITHOUT A BODY as contracts. -/
namespace Go.E3
open Go Go.E2
variable {K:Nat->Type}
def qf (s:List UInt8) (c:Int):Int:=match s.findIdx? (fun b=>b == c.toNat.toUInt8) with | some i=>(i:Int) | none=>-1
def j4 (s:List UInt8) (c:Int):Int:=((s.countP (fun b=>b == c.toNat.toUInt8):Nat):Int)
section
variable {X:Codecs K} {sz:Nat->Nat} {C:ZC K}
theorem zge (ok2:CfgOk2 X C) (hq:za C) {f:Nat} {fi:FI} {args:List (PV K)} {r:PV K} (hans:C.ans f=false) (hf:C.E.funcs f=some fi) (hb:fi.body=none) (hp:Plain r) (hr:qbo r.flat=[])
  (h:∀ H M vs,Start X sz C H M->qq X sz (wd0 H M C.codec) args vs->∃ v,zcp fi.ext vs=some v/\Rep X sz (wd0 H M C.codec) r v):qau X sz C f args r:=by
 intro H M vs S ra
 obtain ⟨v,hv,rv⟩:=h H M vs S ra
 let w':Wd:={wd0 H M C.codec with owns:=fun _=>some 0}
 have rv':Rep X sz w' r v:=Rep.plain (w:=wd0 H M C.codec) (w':=w') ok2.plain rfl (fun _ _ _ h=>h) rv hp
 refine qyw (hq.1 f hans) hf hb hv ⟨w',?_⟩
 refine ⟨.refl H,S.wf,rfl,fun n _=>.rfl,S.Mlt,rfl,?_,fun _=>rfl,fun i nm he=>(by cases he),fun i j nm he=>(by cases he),rv'⟩
 rw [hr]
 rfl
theorem zgd (ok2:CfgOk2 X C) {f:Nat} {r:PV K} {v:V} (hp:Plain r) (hr:qbo r.flat=[]) (h:∀ H,H.qy=C.ng->(∀ gn o,C.gobj gn=some o->H.get gn=some o/\gn<H.next)->qch C.E (.func f) [] H fun u H'=>u=v/\H'=H) (hv:∀ H M,Rep X sz (wd0 H M C.codec) r v):qau X sz C f [] r:=by
 intro H M vs S ra
 have:=ra.kg;subst this
 refine (h H S.ro.2.1 S.ro.2.2).mono fun u H' hA=>?_
 obtain ⟨rfl,rfl⟩:=hA
 let w':Wd:={wd0 H' M C.codec with owns:=fun _=>some 0}
 have rv':Rep X sz w' r u:=Rep.plain (w:=wd0 H' M C.codec) (w':=w') ok2.plain rfl (fun _ _ _ h=>h) (hv H' M) hp
 refine ⟨w',?_⟩
 refine ⟨.refl H',S.wf,rfl,fun n _=>.rfl,S.Mlt,rfl,?_,fun _=>rfl,fun i nm he=>(by cases he),fun i j nm he=>(by cases he),rv'⟩
 rw [hr]
 rfl
theorem zgt (ok2:CfgOk2 X C) (hq:za C) {f:Nat} {fi:FI} (hans:C.ans f=false) (hf:C.E.funcs f=some fi) (hb:fi.body=none) (he:fi.ext=1) (s:List UInt8) (c:Int) :
  qau X sz C f [.str s,.int .u8 none c] (.int .i64 none (qf s c)):=by
 refine zge ok2 hq hans hf hb .int rfl fun H M vs S ra=>?_
 obtain ⟨v,vs',rfl,r1,r2⟩:=ra.zv
 obtain ⟨u,vs'',rfl,r3,r4⟩:=r2.zv
 have:=r4.kg;subst this
 cases r1;cases r3
 exact ⟨.int .i64 (qf s c),by rw [he];rfl,.int fun m hm=>by cases hm⟩
theorem zfs (ok2:CfgOk2 X C) (hq:za C) {f:Nat} {fi:FI} (hans:C.ans f=false) (hf:C.E.funcs f=some fi) (hb:fi.body=none) (he:fi.ext=2) (s:List UInt8) (c:Int) :
  qau X sz C f [.str s,.int .u8 none c] (.int .i64 none (j4 s c)):=by
 refine zge ok2 hq hans hf hb .int rfl fun H M vs S ra=>?_
 obtain ⟨v,vs',rfl,r1,r2⟩:=ra.zv
 obtain ⟨u,vs'',rfl,r3,r4⟩:=r2.zv
 have:=r4.kg;subst this
 cases r1;cases r3
 exact ⟨.int .i64 (j4 s c),by rw [he];rfl,.int fun m hm=>by cases hm⟩
theorem q4m {f e:Nat} (h:(C.E.funcs f).map (fun fi=>(fi.body.isNone,fi.ext))=some (true,e)):∃ fi,C.E.funcs f=some fi/\fi.body=none/\fi.ext=e:=by
 obtain ⟨fi,h1,h2⟩:=zM.1 h
 simp only [zP,Option.isNone_iff_eq_none] at h2
 exact ⟨fi,h1,h2.1,h2.2⟩
theorem zc0 (ok2:CfgOk2 X C) (hq:za C) {f:Nat} (hans:C.ans f=false) (hf:(C.E.funcs f).map (fun fi=>(fi.body.isNone,fi.ext))=some (true,1)) (s:List UInt8) (c:Int) :
  qau X sz C f [.str s,.int .u8 none c] (.int .i64 none (qf s c)):=by
 obtain ⟨fi,h1,h2,h3⟩:=q4m hf
 exact zgt ok2 hq hans h1 h2 h3 s c
theorem zcg (ok2:CfgOk2 X C) (hq:za C) {f:Nat} (hans:C.ans f=false) (hf:(C.E.funcs f).map (fun fi=>(fi.body.isNone,fi.ext))=some (true,2)) (s:List UInt8) (c:Int) :
  qau X sz C f [.str s,.int .u8 none c] (.int .i64 none (j4 s c)):=by
 obtain ⟨fi,h1,h2,h3⟩:=q4m hf
 exact zfs ok2 hq hans h1 h2 h3 s c
end
end Go.E3
/- E3: ARGUMENTS THAT LIE IN MEMORY: slices whose elements are numbers, conditions, texts, structs of such. -/
namespace Go.E3
open Go Go.E2
variable {K:Nat->Type}
def qeb:Value->V
 | .int k n=>.int k n
 | .bool b=>.bool b
 | .string s=>.str s.data.toList
 | _=>.tuple [.slice 0 0 0 0 0 none]
theorem zff (G:qi) (W:World) (x:Value):isHole (qeb x)=true∨Go.E2.Rel G W (qeb x) x:=by
 cases x with
 | int k n=>right;simp [qeb,Go.E2.Rel]
 | bool b=>right;simp [qeb,Go.E2.Rel]
 | string s=>right;simp [qeb,Go.E2.Rel]
 | _=>exact .inl rfl
theorem q50 (G:qi) (W:World):∀ l:List Value,kh G W (l.map qeb) l
 | []=>by simp [kh]
 | x::l=>by
  simp only [List.map_cons,kh]
  exact ⟨x,l,rfl,zff G W x,q50 G W l⟩
def zlt (W:World) (b:Nat):Option (Nat×O):=
 match W.heap[b]? with
 | some (.cells arr e fz)=>some (b,.row (arr.toList.map qeb) e 0 0 fz.2 true)
 | _=>none
def zhn (W:World):List (Nat×O):=(List.range W.heap.size).filterMap (zlt W)
theorem zdl {W:World} {b:Nat} {x:Nat×O} (h:zlt W b=some x):∃ arr e fz,W.heap[b]? = some (.cells arr e fz)/\x=(b,.row (arr.toList.map qeb) e 0 0 fz.2 true):=by
 unfold zlt at h
 split at h
 .rename_i arr e fz hb
  exact ⟨arr,e,fz,hb,(Option.some.inj h).symm⟩
 .cases h
theorem qzu {W:World} {b:Nat} {o:O} (h:(b,o) ∈ zhn W):∃ arr e fz,W.heap[b]? = some (.cells arr e fz)/\o=.row (arr.toList.map qeb) e 0 0 fz.2 true:=by
 obtain ⟨b',_,h2⟩:=List.mem_filterMap.1 h
 obtain ⟨arr,e,fz,h3,h4⟩:=zdl h2
 cases h4
 exact ⟨arr,e,fz,h3,rfl⟩
def qia (W:World) (ng:Nat):Heap:={qa6:=qdq (zhn W),next:=W.heap.size,ro:=W.heap.size,qy:=ng}
theorem qjp {W:World} {ng b:Nat} {arr:Array Value} {e:TypeId} {fz:Nat×Nat} (h:W.heap[b]? = some (.cells arr e fz)):(qia W ng).get b=some (.row (arr.toList.map qeb) e 0 0 fz.2 true):=by
 have hm:(b,O.row (arr.toList.map qeb) e 0 0 fz.2 true) ∈ zhn W:=by
  refine List.mem_filterMap.2 ⟨b,List.mem_range.2 (qdm h),?_⟩
  unfold zlt
  rw [h]
 obtain ⟨o,ho⟩:=qh9 hm
 obtain ⟨arr',e',fz',h',rfl⟩:=qzu (qba _ _ _ ho)
 rw [h] at h'
 cases h'
 exact ho
theorem qn4 {W:World} {ng b:Nat} {o:O} (h:(qia W ng).get b=some o):∃ arr e fz,W.heap[b]? = some (.cells arr e fz)/\o=.row (arr.toList.map qeb) e 0 0 fz.2 true:=
 qzu (qba _ _ _ h)
def qcr (W:World):qi:=fun nm g=>if g=0 then (match W.heap[nm]? with
 | some (.cells arr _ _)=>some (nm,0,arr.size)
 | _=>none) else none
theorem qa3 {W:World} {nm g:Nat} {x:Nat×Nat×Nat} (h:qcr W nm g=some x):g=0/\∃ arr e fz,W.heap[nm]? = some (.cells arr e fz)/\x=(nm,0,arr.size):=by
 unfold qcr at h
 split at h
 .rename_i hg
  split at h
  .rename_i arr e fz hb
   exact ⟨hg,arr,e,fz,hb,(Option.some.inj h).symm⟩
  .cases h
 .cases h
theorem qf6 {W:World} {b:Nat} {arr:Array Value} {e:TypeId} {fz:Nat×Nat} (h:W.heap[b]? = some (.cells arr e fz)):qcr W b 0=some (b,0,arr.size):=by
 unfold qcr
 rw [zT rfl,h]
theorem zs5 {W:World} {ng:Nat} (hng:ng<=W.heap.size):Sim (qia W ng) (qcr W) W:=by
 refine ⟨fun nm g b sh n h=>?_,fun nm g b sh n nm' g' sh' n' h h'=>?_,fun nm o _ ho=>?_,zN _,hng,fun g o _ ho=>?_⟩
 .obtain ⟨_,arr,e,fz,hb,hx⟩:=qa3 h
  cases hx
  exact ⟨qdm hb,qdm hb⟩
 .obtain ⟨_,_,_,_,_,hx⟩:=qa3 h
  obtain ⟨_,_,_,_,_,hx'⟩:=qa3 h'
  cases hx
  cases hx'
  exact ⟨rfl,rfl⟩
 .obtain ⟨arr,e,fz,hb,rfl⟩:=qn4 ho
  refine ⟨zN _,fun _=>rfl,fun g b sh n hg=>?_⟩
  obtain ⟨rfl,arr',e',fz',hb',hx⟩:=qa3 hg
  rw [hb] at hb'
  cases hb'
  cases hx
  refine ⟨zN _,Nat.zero_le _,by simp,fun _=>by simp,fun _=>rfl,fun _=>⟨arr,fz,hb,by simp,?_,fun _ i h1 h2=>by omega,fun _=>by simp⟩⟩
  rw [List.drop_zero,Nat.sub_zero,List.take_of_length_le (by simp),List.take_of_length_le (by simp)]
  exact q50 _ _ _
 .obtain ⟨arr,e,fz,hb,_⟩:=qn4 ho
  exact ⟨_,qf6 hb⟩
theorem zcq {W w':World} {G':qi} (h:Ext W.heap.size (qcr W) W G' w'):∀ b,b<W.heap.size->w'.heap[b]? = W.heap[b]?:=by
 intro b hb
 cases hc:qcr W b 0 with
 | some x=>
  obtain ⟨_,arr,e,fz,_,rfl⟩:=qa3 hc
  exact h.ro b 0 b 0 _ hb hc
 | none=>
  refine (h.frg b hb fun nm g sh n hg=>?_).1
  obtain ⟨rfl,arr,e,fz,hb',hx⟩:=qa3 hg
  cases hx
  rw [qf6 hb'] at hc
  cases hc
inductive Leaf4 where
 | int (k:IntKind)
 | bool
 | str
 | list (c:Nat)
def Leaf4.flat:Leaf4->Bool
 | .list _=>false
 | _=>true
def qxb (P:Program) (g:TypeId->Option (List Leaf4)):List Field->Nat->Option (List Leaf4)
 | [],_=>some []
 | f::fs,off=>(g f.type).bind fun l=>bif Nat.beq f.offset off&&Nat.beq l.length (P.cellsOf f.type) then (qxb P g fs (off+l.length)).map fun r=>l++r else none
def qno (P:Program) (cd:TypeId->Option Nat):Nat->TypeId->Option (List Leaf4)
 | 0,_=>none
 | d+1,t=>match P.underlying t with
  | some (.int k)=>some [.int k]
  | some .bool=>some [.bool]
  | some .string=>some [.str]
  | some (.slice e)=>(cd e).map fun c=>[.list c]
  | some (.struct fs)=>(qxb P (qno P cd d) fs.toList 0).bind fun l=>bif Nat.beq l.length (P.cellsOf t) then some l else none
  | _=>none
section
variable {Hd:Type} {enc:TypeId×Value->Hd} {P:Program} {W:World} {cd:TypeId->Option Nat}
def qay (enc:TypeId×Value->Hd) (P:Program) (W:World) (cd:TypeId->Option Nat):Leaf4->Value->Prop
 | .int k,x=>∃ n,x=.int k n/\(Lit.int k n).wf=true
 | .bool,x=>∃ b,x=.bool b
 | .str,x=>∃ s,x=.string s/\s.size<=maxLen
 | .list c,x=>x=.slice none 0 0∨∃ e a len cap,cd e=some c/\x=.slice (some a) len cap/\len<=cap/\cap<=maxLen/\
   ∀ i,i<cap->∃ cs m r,W.cells? 0 (a.add (i * P.cellsOf e)) (P.cellsOf e)=some cs/\DataW.trod enc P W 0 (fun _=>true) true m e cs=some r
theorem qs4 {Q:Leaf4->Value->Prop} {cs:List Value} {g:TypeId->Option (List Leaf4)}:∀ {fs:List Field} {off:Nat} {ls:List Leaf4},qxb P g fs off=some ls->
  (∀ f ∈ fs,∀ l,g f.type=some l->l.length=P.cellsOf f.type->∀ (i:Nat) leaf x,l[i]? = some leaf->((cs.drop f.offset).take (P.cellsOf f.type))[i]? = some x->Q leaf x)->
  ∀ (i:Nat) leaf x,ls[i]? = some leaf->cs[off+i]? = some x->Q leaf x
 | [],off,ls,h,_,i,leaf,x,hl,_=>by
  simp only [qxb,zS] at h
  subst h
  simp at hl
 | f::fs,off,ls,h,hR,i,leaf,x,hl,hx=>by
  simp only [qxb] at h
  obtain ⟨l,h1,h2⟩:=zI.1 h
  rcases ka h2 with ⟨_,h3⟩ | ⟨h3,h4⟩
  .cases h3
  .simp only [zA,Nat.beq_eq] at h3
   obtain ⟨rfl,hlen⟩:=h3
   obtain ⟨r,h5,rfl⟩:=zM.1 h4
   by_cases hi:i<l.length
   .rw [List.getElem?_append_left hi] at hl
    refine hR f zC l h1 hlen i leaf x hl ?_
    rw [List.getElem?_take_of_lt (by omega),List.getElem?_drop]
    exact hx
   .rw [List.getElem?_append_right (by omega)] at hl
    refine qs4 h5 (fun f' hf'=>hR f' (zG _ hf')) (i-l.length) leaf x hl ?_
    rw [show f.offset+l.length+(i-l.length)=f.offset+i by omega]
    exact hx
theorem qhw:∀ (d:Nat) {n:Nat} {t:TypeId} {cs:List Value} {r:DataW Hd×List MemPlace} {ls:List Leaf4},DataW.trod enc P W 0 (fun _=>true) true n t cs=some r->qno P cd d t=some ls->
  cs.length=ls.length/\∀ (i:Nat) leaf x,ls[i]? = some leaf->cs[i]? = some x->qay enc P W cd leaf x
 | 0,n,t,cs,r,ls,h,ht=>by cases ht
 | d+1,n,t,cs,r,ls,h,ht=>by
  have one:∀ {leaf:Leaf4} {x:Value},qay enc P W cd leaf x->[x].length=[leaf].length/\∀ (i:Nat) l y,[leaf][i]? = some l->[x][i]? = some y->qay enc P W cd l y:=by
   intro leaf x hr
   refine ⟨rfl,fun i l y h1 h2=>?_⟩
   cases i with
   | zero=>simp only [List.getElem?_cons_zero,zS] at h1 h2;subst h1;subst h2;exact hr
   | succ i=>simp at h1
  simp only [qno] at ht
  split at ht
  .rename_i k hu
   cases ht
   obtain ⟨m,rfl,_,hw⟩:=DataW.trod_int hu h
   exact one ⟨m,rfl,hw⟩
  .rename_i hu
   cases ht
   obtain ⟨b,rfl,_⟩:=DataW.trod_bool hu h
   exact one ⟨b,rfl⟩
  .rename_i hu
   cases ht
   obtain ⟨s,rfl,_,hs⟩:=DataW.trod_string hu h
   exact one ⟨s,rfl,hs⟩
  .rename_i e hu
   obtain ⟨c,hc,rfl⟩:=zM.1 ht
   rcases DataW.trod_slice hu h with ⟨rfl,_⟩ | ⟨a,len,cap,elems,rest,m,_,rfl,_,_,hl,hm,hel,he1,he2,_⟩
   .exact one (.inl rfl)
   .refine one (.inr ⟨e,a,len,cap,hc,rfl,hl,hm,fun i hi=>?_⟩)
    obtain ⟨hr1,hr2⟩:=he2 rfl
    by_cases hil:i<len
    .have:=he1 i hil
     rw [List.getElem?_eq_getElem (by omega)] at this
     obtain ⟨cs',h1,h2⟩:=zI.1 this
     exact ⟨cs',m,_,h1,h2⟩
    .have:=hr2 (i-len) (by omega)
     rw [List.getElem?_eq_getElem (by omega),show len+(i-len)=i by omega] at this
     obtain ⟨cs',h1,h2⟩:=zI.1 this
     exact ⟨cs',m,_,h1,h2⟩
  .rename_i fs hu
   obtain ⟨l,h1,h2⟩:=zI.1 ht
   rcases ka h2 with ⟨_,h3⟩ | ⟨h3,h4⟩
   .cases h3
   .cases h4
    have hlen:=zE h3
    obtain ⟨xs,m,_,_,hl,hxs,hf⟩:=DataW.trod_struct hu h
    refine ⟨by omega,fun i leaf x hi hx=>?_⟩
    refine qs4 (Q:=qay enc P W cd) (off:=0) h1 (fun f hfm l' hg hgl j lf y hj hy=>?_) i leaf x hi (by simpa using hx)
    obtain ⟨q,hq,rfl⟩:=List.mem_iff_getElem.1 hfm
    have h5:=hf q fs.toList[q] (by simp at hq ⊢)
    rw [List.getElem?_eq_getElem (by simp at hq;omega)] at h5
    exact (qhw d h5 hg).2 j lf y hj hy
  .cases ht
def qk1 (good:∀ c,K c->Prop):Leaf4->PV K->Prop
 | .int k,p=>∃ n,p=.int k none n/\k.min<=n/\n<=k.max
 | .bool,p=>∃ b,p=.sb 0 false b (b=true) (b=false)
 | .str,p=>∃ s:List UInt8,p=.str s/\s.length<=maxLen
 | .list c,p=>∃ l:List (K c),p=.list c l none/\l.length<=maxLen/\∀ x ∈ l,good c x
def qg5 (good:∀ c,K c->Prop):List Leaf4->List (PV K)->Prop
 | [],ps=>ps=[]
 | l::ls,ps=>∃ p qs,ps=p::qs/\qk1 good l p/\qg5 good ls qs
variable {good:∀ c,K c->Prop}
variable {X:Codecs K} {sz:Nat->Nat} {w:Wd}
theorem qmo {leaf:Leaf4} {x:Value} (hf:leaf.flat=true) (h:qay enc P W cd leaf x):∃ p:PV K,qk1 good leaf p/\Rep X sz w p (qeb x):=by
 cases leaf with
 | int k=>
  obtain ⟨n,rfl,hw⟩:=h
  simp only [Lit.wf,zA,decide_eq_true_eq] at hw
  exact ⟨_,⟨n,rfl,hw⟩,.int fun m hm=>by cases hm⟩
 | bool=>
  obtain ⟨b,rfl⟩:=h
  exact ⟨_,⟨b,rfl⟩,.sb .rfl .rfl fun h0=>absurd rfl h0⟩
 | str=>
  obtain ⟨s,rfl,hs⟩:=h
  exact ⟨_,⟨s.data.toList,rfl,by simpa using hs⟩,.str⟩
 | list c=>cases hf
theorem qsj:∀ {ls:List Leaf4} {cs:List Value},ls.all Leaf4.flat=true->cs.length=ls.length->(∀ (i:Nat) leaf x,ls[i]? = some leaf->cs[i]? = some x->qay enc P W cd leaf x)->
  ∃ ps:List (PV K),qg5 good ls ps/\qq X sz w ps (cs.map qeb)
 | [],[],_,_,_=>⟨[],rfl,.nil⟩
 | [],_::_,_,h,_=>by simp at h
 | _::_,[],_,h,_=>by simp at h
 | l::ls,x::cs,hf,hl,hr=>by
  simp only [List.all_cons,zA] at hf
  obtain ⟨p,h1,h2⟩:=qmo (X:=X) (sz:=sz) (w:=w) hf.1 (hr 0 l x rfl rfl)
  obtain ⟨ps,h3,h4⟩:=qsj (cs:=cs) hf.2 (by simpa using hl) fun i leaf y h5 h6=>hr (i+1) leaf y (by simpa using h5) (by simpa using h6)
  exact ⟨p::ps,⟨p,ps,rfl,h1,h3⟩,.cons h2 h4⟩
theorem qly {α:Type} {Q:Nat->α->Prop}:∀ {n:Nat},(∀ i,i<n->∃ x,Q i x)->∃ l:List α,l.length=n/\∀ (i:Nat) (h:i<l.length),Q i (l[i]'h)
 | 0,_=>⟨[],rfl,fun i h=>by simp at h⟩
 | n+1,h=>by
  obtain ⟨l,h1,h2⟩:=qly (n:=n) fun i hi=>h i (by omega)
  obtain ⟨x,hx⟩:=h n (by omega)
  refine ⟨l++[x],by simp [h1],fun i hi=>?_⟩
  by_cases hin:i<l.length
  .rw [List.getElem_append_left hin];exact h2 i hin
  .have:i=n:=by simp at hi;omega
   subst this
   rw [List.getElem_append_right (by omega)]
   simpa [h1] using hx
theorem zd0 {f:TypeId->Bool}:∀ {d:Nat} {e:TypeId} {count off n:Nat},rowAt P f d e count off n=true->off<=count * P.cellsOf e
 | 0,_,_,_,_,h=>by simp [rowAt] at h
 | d+1,e,count,off,n,h=>by
  unfold rowAt at h
  by_cases hs:P.cellsOf e=0
  .simp [hs] at h
  .simp only [hs,if_false,Bool.or_eq_true,zA,beq_iff_eq,decide_eq_true_eq] at h
   have hd:=Nat.div_add_mod off (P.cellsOf e)
   have hm:=Nat.mod_lt off (Nat.pos_of_ne_zero hs)
   rcases h with ⟨⟨h1,h2⟩,_⟩ | ⟨h1,_⟩
   .have:=zU (P.cellsOf e) (show off / P.cellsOf e<=count by omega)
    rw [Nat.mul_comm] at hd
    omega
   .have:=zU (P.cellsOf e) (show off / P.cellsOf e+1<=count by omega)
    rw [Nat.add_mul,Nat.one_mul] at this
    rw [Nat.mul_comm] at hd
    omega
theorem qwi:∀ {d:Nat} {e:TypeId} {count off:Nat} {u:TypeId} {n:Nat},liesAt P d e count off u n=true->off<=count * P.cellsOf e
 | 0,_,_,_,_,_,h=>by simp [liesAt] at h
 | d+1,e,count,off,u,n,h=>by
  unfold liesAt at h
  simp only [Bool.or_eq_true] at h
  rcases h with h | h
  .exact zd0 h
  .split at h
   .exact qwi h
   .cases h
theorem q6h {base:Nat} {u:TypeId} {a:Addr} {len cap:Nat} (h:Cell.okWide P W .any base u (.slice (some a) len cap)) :
  a.spot=none/\∃ arr e fz,W.heap[a.block]? = some (.cells arr e fz)/\a.off<=arr.size:=by
 have h':Cell.ok P W .any base u (.slice (some a) len cap):=by
  unfold Cell.okWide at h
  split at h<;>first | exact h | (rename_i hx;cases hx)
 unfold Cell.ok at h'
 split at h'<;>try (first | exact h'.elim | (rename_i hx;cases hx;done))
 rename_i e a' len' cap' _ hx
 cases hx
 obtain ⟨_,_,_,h1,row,cells,h2,h3⟩:=h'
 refine ⟨h1,?_⟩
 simp only [World.shape?] at h2
 split at h2
 .rename_i arr el fz hb
  cases h2
  refine ⟨arr,_,fz,hb,zR (qwi h3) ?_⟩
  exact Nat.div_mul_le_self _ _
 .cases h2
structure ArgOk (good:∀ c,K c->Prop) (X:Codecs K) (sz:Nat->Nat) (P:Program) (cd:TypeId->Option Nat) (depth:Nat):Prop where
 elem:∀ e c,cd e=some c->∃ ls,qno P cd depth e=some ls/\ls.all Leaf4.flat=true/\ls.length=sz c/\P.cellsOf e=sz c/\0<sz c/\∀ ps:List (PV K),qg5 good ls ps->∃ pre x,X.pack c ps=some (pre,x)/\pre/\good c x
theorem zde {C:ZC K} (ok:CfgOk X sz C) {depth ng:Nat} (ao:ArgOk good X sz P cd depth) {base:Nat} {u:TypeId} {c:Nat} {x:Value} {M:Nat->Prop} (hM:∀ n,¬ M n) (hc:Cell.okWide P W .any base u x) (h:qay enc P W cd (.list c) x) :
  ∃ (p:PV K) (v:V),qk1 good (.list c) p/\Rep X sz (wd0 (qia W ng) M C.codec) p v/\Go.E2.Rel (qcr W) W v x:=by
 rcases h with rfl | ⟨e,a,len,cap,he,rfl,hl,hcap,hr⟩
 .exact ⟨.list c [] none,.nils,⟨[],rfl,Nat.zero_le _,fun x hx=>by cases hx⟩,.nlist trivial,by simp [Go.E2.Rel]⟩
 .obtain ⟨hsp,arr,el,fz,hb,hoff⟩:=q6h hc
  obtain ⟨b,off,spot⟩:=a
  simp only at hsp hb hoff
  subst hsp
  obtain ⟨ls,h1,h2,h3,h4,h5,h6⟩:=ao.elem e c he
  rw [h4] at hr
  have hcell:∀ i,i<cap->∃ cs:List Value,cs.length=sz c/\(∀ j,j<sz c->arr[off+i * sz c+j]? = cs[j]?)/\∃ y:K c,good c y/\qq X sz (wd0 (qia W ng) M C.codec) (X.cells c y) (cs.map qeb):=by
   intro i hi
   obtain ⟨cs,m,r,h7,h8⟩:=hr i hi
   obtain ⟨_,h9,h10⟩:=World.cells?_some h7
   obtain ⟨h11,h12⟩:=qhw depth h8 h1
   obtain ⟨ps,h13,h14⟩:=qsj (X:=X) (sz:=sz) (w:=wd0 (qia W ng) M C.codec) h2 h11 h12
   obtain ⟨pre,y,h15,h16,h17⟩:=h6 ps h13
   refine ⟨cs,h9,fun j hj=>?_,y,h17,ok.pack c ps pre y h15 h16 _ _ h14⟩
   have hadd:((⟨b,off,none⟩:Addr).add (i * sz c)).add j=⟨b,off+i * sz c+j,none⟩:=by
    unfold Addr.add
    by_cases h0:i * sz c=0
    .rw [zT h0,h0]
     by_cases hj0:j=0
     .rw [zT hj0,hj0];simp
     .rw [zF hj0];simp
    .rw [zF h0]
     by_cases hj0:j=0
     .rw [zT hj0,hj0];simp
     .rw [zF hj0]
   have:=h10 j hj
   rw [hadd] at this
   simp only [World.cell?,hb] at this
   simpa using this
  have hsz:off+cap * sz c<=arr.size:=by
   cases cap with
   | zero=>simpa using hoff
   | succ q=>
    obtain ⟨cs,g1,g2,_⟩:=hcell q (Nat.lt_succ_self q)
    have:=g2 (sz c-1) (by omega)
    rw [List.getElem?_eq_getElem (by omega)] at this
    have:=(Array.getElem?_eq_some_iff.1 this).1
    rw [Nat.add_mul,Nat.one_mul]
    omega
  have hlm:len * sz c<=cap * sz c:=zU _ hl
  obtain ⟨l,g1,g2⟩:=qly (Q:=fun i (y:K c)=>∃ cs:List Value,cs.length=sz c/\(∀ j,j<sz c->arr[off+i * sz c+j]? = cs[j]?)/\good c y/\qq X sz (wd0 (qia W ng) M C.codec) (X.cells c y) (cs.map qeb)) (n:=len) fun i hi=>by
   obtain ⟨cs,q1,q2,y,q4,q3⟩:=hcell i (by omega)
   exact ⟨y,cs,q1,q2,q4,q3⟩
  refine ⟨.list c l none,.slice b 0 off len (sz c) (some cap),⟨l,rfl,by omega,fun y hy=>?_⟩,?_,?_⟩
  .obtain ⟨i,hi,rfl⟩:=List.mem_iff_getElem.1 hy
   obtain ⟨cs,q1,q2,q4,q3⟩:=g2 i hi
   exact q4
  .refine .list (qjp hb) (zN _) (hM b) g1.symm (by simp;omega) ⟨h5,.inl rfl⟩ (fun k hk=>by cases hk;exact hl) (fun i hi j p hp=>?_) trivial
   obtain ⟨cs,q1,q2,q4,q3⟩:=g2 i hi
   have hj:j<sz c:=by rw [<-ok.len c (l[i]'hi)];exact (List.getElem?_eq_some_iff.1 hp).1
   have:=q3.2 j p hp
   rw [List.getD_eq_getElem?_getD,List.getElem?_map] at this ⊢
   rw [Array.getElem?_toList,q2 j hj]
   exact this
  .simp only [Go.E2.Rel]
   exact ⟨b,0,arr.size,off,cap,el,arr.size,_,qf6 hb,rfl,.inr rfl,hl,Nat.zero_le _,by omega,.inl rfl,fun k hk=>by cases hk;exact ⟨rfl,hsz⟩,by simp only [World.shape?,hb],hsz⟩
theorem q4s {leaf:Leaf4} {x:Value} (hf:leaf.flat=true) (h:qay enc P W cd leaf x) (G:qi):Go.E2.Rel G W (qeb x) x:=by
 cases leaf with
 | int k=>obtain ⟨n,rfl,_⟩:=h;simp [qeb,Go.E2.Rel]
 | bool=>obtain ⟨b,rfl⟩:=h;simp [qeb,Go.E2.Rel]
 | str=>obtain ⟨s,rfl,_⟩:=h;simp [qeb,Go.E2.Rel]
 | list c=>cases hf
theorem zda {C:ZC K} (ok:CfgOk X sz C) {depth ng:Nat} (ao:ArgOk good X sz P cd depth) {base:Nat} {u:TypeId} {leaf:Leaf4} {x:Value} {M:Nat->Prop} (hM:∀ n,¬ M n) (hc:Cell.okWide P W .any base u x) (h:qay enc P W cd leaf x) :
  ∃ (p:PV K) (v:V),qk1 good leaf p/\Rep X sz (wd0 (qia W ng) M C.codec) p v/\Go.E2.Rel (qcr W) W v x:=by
 cases hf:leaf.flat with
 | true=>
  obtain ⟨p,h1,h2⟩:=qmo (X:=X) (sz:=sz) (w:=wd0 (qia W ng) M C.codec) hf h
  exact ⟨p,qeb x,h1,h2,q4s hf h _⟩
 | false=>
  cases leaf with
  | list c=>exact zde ok ao hM hc h
  | _=>cases hf
theorem q9h {C:ZC K} (ok:CfgOk X sz C) {depth ng:Nat} (ao:ArgOk good X sz P cd depth) {base:Nat} {M:Nat->Prop} (hM:∀ n,¬ M n) {t:TypeId} {v:Value} {d:DataW Hd} {ps:List MemPlace} {leaf:Leaf4}
  (ht:(match P.underlying t with | some (.struct _) | some (.array _ _)=>false | _=>true)=true) (hl:qno P cd depth t=some [leaf]) (hv:Value.okWide P W .any base t v) (hd:DataW.Trod enc P W 0 (fun _=>true) true t v d ps) :
  ∃ (p:PV K) (u:V),qk1 good leaf p/\Rep X sz (wd0 (qia W ng) M C.codec) p u/\Go.E2.Rel (qcr W) W u v:=by
 obtain ⟨n,hn⟩:=hd
 obtain ⟨h1,h2⟩:=qhw depth hn hl
 have hcell:Cell.okWide P W .any base t v:=by
  unfold Value.okWide at hv
  split at hv
  .rename_i h;simp [h] at ht
  .rename_i h;simp [h] at ht
  .exact hv
 have hcs:v.cells.toList=[v]:=by
  cases v with
  | agg cs=>
   exfalso
   unfold Cell.okWide at hcell
   split at hcell<;>first | (rename_i hx;cases hx;done) | skip
   unfold Cell.ok at hcell
   split at hcell<;>first | (rename_i hx;cases hx;done) | exact hcell
  | _=>rfl
 exact zda ok ao hM hcell (h2 0 leaf v rfl (by rw [hcs];rfl))
theorem zab {p:MemPlace} (h:Go.Good W p):p.block<W.heap.size:=by
 cases p with
 | cell b off=>
  obtain ⟨v,hv,_⟩:=h
  simp only [World.cell?] at hv
  split at hv
  .rename_i hb;exact qdm hb
  .cases hv
 | map b=>
  obtain ⟨es,clock,hb⟩:=h
  exact qdm hb
theorem qxf {w':World} {t:TypeId} {v:Value} {d:DataW Hd} {ps:List MemPlace} (hlaid:laidOutB P=true) (hrec:P.readableRec t=true) (hrow:t<P.types.size) (h:DataW.Trod enc P W 0 (fun _=>true) true t v d ps) (hs:∀ b,b<W.heap.size->w'.heap[b]? = W.heap[b]?)
  (sp:Nat->Bool) (hsp:∀ b,b<W.heap.size->sp b=true):DataW.Trod enc P w' 0 sp true t v d ps:=by
 obtain ⟨n,hn⟩:=h
 have K:=kids_book hlaid hrec
 have hgood:=DataW.trod_good K (fun h=>by cases h) n t _ _ ⟨hrow,book_self t⟩ hn
 refine ⟨n,DataW.trod_stays K (book_sized hrec) (fun h=>by cases h) ⟨hrow,book_self t⟩ hn (fun p hp=>?_) (fun p hp=>hsp _ ?_)⟩
 .have hlt:p.block<W.heap.size:=zab (hgood p hp)
  cases p with
  | cell b off=>simp only [World.sameAt,World.cell?,hs b hlt]
  | map b=>exact hs b hlt
 .exact zab (hgood p hp)
end
end Go.E3
/- E3: (*strings.Builder).String, BY ITS TEXT: a check of the body, and what the body does. -/
namespace Go.E3
open Go Go.E2
def isT (t:Nat):Operand->Bool
 | .tmp x=>Nat.beq x t
 | _=>false
theorem qlu {t:Nat} {x:Operand} (h:isT t x=true):x=.tmp t:=by
 cases x<;>simp only [isT,Bool.false_eq_true] at h
 rw [zE h]
def qtm (t:Nat):Op->Bool
 | .move x=>isT t x
 | _=>false
def qq5 (t:Nat):Op->Bool
 | .assign x=>isT t x
 | _=>false
def qq4:Op->Bool
 | .assign (.const c)=>match qk5 1000 c with
  | some (.str [])=>true
  | _=>false
 | _=>false
def q14 (t:Nat):Op->Bool
 | .nilCheck x=>isT t x
 | _=>false
def zld (tB t k:Nat):Op->Bool
 | .fieldAddr a x i=>Nat.beq a tB&&isT t x&&Nat.beq i k
 | _=>false
def qtl (tS t:Nat):Op->Bool
 | .load a x=>Nat.beq a tS&&isT t x
 | _=>false
def qwa (b:Builtin->Bool) (ts:List Nat) (tys:List Nat):Op->Bool
 | .call c=>(match c.callee with
  | .builtin x=>b x
  | _=>false)&&Nat.beq c.args.toList.length ts.length&&((c.args.toList.zip ts).all fun p=>isT p.2 p.1)&&listEq Nat.beq c.argTypes.toList tys
 | _=>false
 where listEq (f:Nat->Nat->Bool):List Nat->List Nat->Bool
 | [],[]=>true
 | a::l,b::m=>f a b&&listEq f l m
 | _,_=>false
theorem qra:∀ {a b:List Nat},qwa.listEq Nat.beq a b=true->a=b
 | [],[],_=>rfl
 | a::l,b::m,h=>by
  simp only [qwa.listEq,zA] at h
  rw [zE h.1,qra h.2]
 | [],_::_,h=>by simp [qwa.listEq] at h
 | _::_,[],h=>by simp [qwa.listEq] at h
theorem qwc {t:Nat} {op:Op} (h:qtm t op=true):op=.move (.tmp t):=by
 cases op<;>simp only [qtm,Bool.false_eq_true] at h
 rw [qlu h]
theorem q13 {t:Nat} {op:Op} (h:qq5 t op=true):op=.assign (.tmp t):=by
 cases op<;>simp only [qq5,Bool.false_eq_true] at h
 rw [qlu h]
theorem q12 {op:Op} (h:qq4 op=true):∃ c,op=.assign (.const c)/\qk5 1000 c=some (.str []):=by
 unfold qq4 at h
 split at h
 .split at h
  .exact ⟨_,rfl,by assumption⟩
  .cases h
 .cases h
theorem qzl {t:Nat} {op:Op} (h:q14 t op=true):op=.nilCheck (.tmp t):=by
 cases op<;>simp only [q14,Bool.false_eq_true] at h
 rw [qlu h]
theorem zae {tB t k:Nat} {op:Op} (h:zld tB t k op=true):op=.fieldAddr tB (.tmp t) k:=by
 cases op<;>simp only [zld,Bool.false_eq_true,zA] at h
 rw [qlu h.1.2,zE h.1.1,zE h.2]
theorem qwb {tS t:Nat} {op:Op} (h:qtl tS t op=true):op=.load tS (.tmp t):=by
 cases op<;>simp only [qtl,Bool.false_eq_true,zA] at h
 rw [qlu h.2,zE h.1]
theorem zm6 {b:Builtin->Bool} {t ty:Nat} {op:Op} (h:qwa b [t] [ty] op=true):∃ c x,op=.call c/\c.callee=.builtin x/\b x=true/\c.args.toList=[.tmp t]/\c.argTypes.toList=[ty]:=by
 cases op<;>simp only [qwa,Bool.false_eq_true,zA] at h
 rename_i c
 obtain ⟨⟨⟨h1,h2⟩,h3⟩,h4⟩:=h
 cases hc:c.callee with
 | builtin x=>
  rw [hc] at h1
  refine ⟨c,x,rfl,hc,h1,?_,qra h4⟩
  match ha:c.args.toList with
  | []=>rw [ha] at h2;simp at h2
  | [a]=>
   rw [ha] at h3
   simp only [List.zip_cons_cons,List.zip_nil_left,List.all_cons,List.all_nil,Bool.and_true] at h3
   rw [qlu h3]
  | a::b::l=>rw [ha] at h2;simp at h2
 | value f=>rw [hc] at h1;cases h1
 | invoke r m=>rw [hc] at h1;cases h1
theorem zqs {b:Builtin->Bool} {t t' ty ty':Nat} {op:Op} (h:qwa b [t,t'] [ty,ty'] op=true):∃ c x,op=.call c/\c.callee=.builtin x/\b x=true/\c.args.toList=[.tmp t,.tmp t']/\c.argTypes.toList=[ty,ty']:=by
 cases op<;>simp only [qwa,Bool.false_eq_true,zA] at h
 rename_i c
 obtain ⟨⟨⟨h1,h2⟩,h3⟩,h4⟩:=h
 cases hc:c.callee with
 | builtin x=>
  rw [hc] at h1
  refine ⟨c,x,rfl,hc,h1,?_,qra h4⟩
  match ha:c.args.toList with
  | []=>rw [ha] at h2;simp at h2
  | [a]=>rw [ha] at h2;simp at h2
  | [a,a']=>
   rw [ha] at h3
   simp only [List.zip_cons_cons,List.zip_nil_left,List.all_cons,List.all_nil,Bool.and_true,zA] at h3
   rw [qlu h3.1,qlu h3.2]
  | a::b::d::l=>rw [ha] at h2;simp at h2
 | value f=>rw [hc] at h1;cases h1
 | invoke r m=>rw [hc] at h1;cases h1
def qob (d:Nat) (p:Op->Bool) (o:Oper):Bool:=
 (match o.dst with
 | some e=>Nat.beq e d
 | none=>false)&&(match o.guard with
 | none=>true
 | some _=>false)&&p o.op
theorem qd0 {d:Nat} {p:Op->Bool} {o:Oper} (h:qob d p o=true):o.dst=some d/\o.guard=none/\p o.op=true:=by
 simp only [qob,zA] at h
 obtain ⟨⟨h1,h2⟩,h3⟩:=h
 refine ⟨?_,?_,h3⟩
 .split at h1
  .rename_i e he
   rw [he,zE h1]
  .cases h1
 .split at h2
  .assumption
  .cases h2
def zix (tB tS tQ tI:Nat):List Oper->Bool
 | [a,b,c,d,e,f,g,h,i,j,k,l]=>
  qob 3 (qtm 0) a&&qob 4 (q14 3) b&&qob 5 (zld tB 4 1) c&&qob 6 (qtl tS 5) d&&qob 7 (qwa (fun | .unsafeSliceData=>true | _=>false) [6] [tS]) e&&
  qob 8 (qtm 0) f&&qob 9 (q14 8) g&&qob 10 (zld tB 9 1) h&&qob 11 (qtl tS 10) i&&qob 12 (qwa (fun | .len=>true | _=>false) [11] [tS]) j&&
  qob 13 (qwa (fun | .unsafeString=>true | _=>false) [7,12] [tQ,tI]) k&&qob 2 (qq5 13) l
 | _=>false
def q24 (E:Env) (tB tS tQ tU:Nat):Bool:=
 (match E.types tB with
 | some ti=>match qfg ti 1 with
  | some f=>Nat.beq f.offset 1&&(match E.types f.type with
   | some fi=>!Nat.beq fi.size 0
   | none=>false)
  | none=>false
 | none=>false)&&
 (match E.types tS with
 | some ti=>Nat.beq ti.size 1&&!ti.isAgg&&(match ti.under with
  | .slice u=>Nat.beq u tU
  | _=>false)
 | none=>false)&&
 (match E.types tQ with
 | some ti=>match ti.under with
  | .pointer u=>Nat.beq u tU
  | _=>false
 | none=>false)&&
 (match E.types tU with
 | some ti=>Nat.beq ti.size 1
 | none=>false)
def q23 (E:Env) (F tB tS tQ tI tU:Nat):Bool:=
 match E.funcs F with
 | some fi=>(match fi.results with
  | [.tmp 2]=>true
  | _=>false)&&Nat.beq fi.ntmps 14&&q24 E tB tS tQ tU&&
  (match fi.body with
  | some (.seq (.region _ a false) (.seq (.region _ ops true) .ret))=>(match a.toList with
   | [o]=>qob 2 qq4 o
   | _=>false)&&zix tB tS tQ tI ops.toList&&((List.range 10).all fun i=>((Region.before ops).getD 10 0).testBit i)
  | _=>false)
 | none=>false
section
variable {E:Env} {fn:FuncId} {round:Option Nat} {all:Array Oper} {b:Array Nat} {i:Nat} {l:List Oper} {done:List Done} {o:Oper} {fr:Fr} {H:Heap} {Q:Ex->Fr->Heap->Prop} {B:Nat}
def qos (B i:Nat) (done:List Done):Prop:=E2.Calm B done/\∀ d ∈ done,d.i<i
theorem zb9:qos B 0 []:=⟨zfn,fun d h=>by cases h⟩
theorem qun {fp:FP} {lo hi:Nat} {dels:List Nat} (h:qos B i done) (hf:fp=.none∨∃ l,fp=.reads l) (hl:B<=lo):qos B (i+1) (⟨i,fp,lo,hi,dels⟩::done):=by
 refine ⟨zca hf hl h.1,fun d hd=>?_⟩
 rcases zD.1 hd with rfl | hd
 .exact Nat.lt_succ_self _
 .exact Nat.lt_succ_of_lt (h.2 d hd)
theorem qmp {t:Nat} (h:Operand.tmp t ∈ o.op.operands.toList):t ∈ o.looksAt all:=by
 unfold Oper.looksAt
 exact List.mem_append_left _ (List.mem_filterMap.2 ⟨_,h,rfl⟩)
theorem qjc {v:V} {d:Nat} (hc:qos B i done) (hB:B<=H.next) (hT:zy E o.op=false) (hg:o.guard=none) (hd:o.dst=some d) (hn:d<fr.n)
  (hev:∀ fr' H',(∀ t,Operand.tmp t ∈ o.op.operands.toList->fr'.tmp t=fr.tmp t)->zz E o fr' H'=some (.val v,H'))
  (k:∀ done' fr',qos B (i+1) done'->Upd fr d v fr'->WpD E all b (i+1) l done' fr' H Q):WpD E all b i (o::l) done fr H Q:=by
 refine qbz (fp:=.none) (out:=.val v) (K:=zr H .none _) (qhx hg) (by simp only [qf5,hT,Bool.not_false,zO]) (by simp) (qup hc.1 (.inl rfl)) (hev _ _ fun t ht=>qbs (qmp ht)) (.inl rfl) (zN _) ?_
 rw [qid,hd]
 exact k _ _ (qun hc (.inl rfl) hB) (qp5 hn)
theorem zi8 {t:TypeId} {ti:TI} {s d nm g off lim:Nat} {v:V} (hc:qos B i done) (hB:B<=H.next) (ho:o.op=.load t (.tmp s)) (ht:E.types t=some ti) (hp:fr.tmp s=some (.ptr nm g off lim)) (hnm:nm<B) (hg:o.guard=none) (hd:o.dst=some d) (hn:d<fr.n) (h:qg3 H ti (.ptr nm g off lim)=some v)
  (k:∀ done' fr',qos B (i+1) done'->Upd fr d v fr'->WpD E all b (i+1) l done' fr' H Q):WpD E all b i (o::l) done fr H Q:=by
 have hfp:qf5 E o fr=.reads [nm]:=by
  simp only [qf5,ho,zy,Bool.not_true,zQ,qaq,Op.operands,List.flatMap_cons,List.flatMap_nil,ql3,hp,V.nm,zJ]
 have hm:s ∈ o.looksAt all:=by simp [Oper.looksAt,ho,Op.operands]
 refine qbz (fp:=.reads [nm]) (out:=.val v) (K:=zr H (.reads [nm]) ((zn b i done).flatMap Done.names)) (qhx hg) hfp (by simp) (qup hc.1 (.inr ⟨_,rfl⟩)) ?_ (.inl rfl) (zN _) ?_
 .have hg:=qjb (H:=H) (l:=[nm]) (dels:=(zn b i done).flatMap Done.names) (List.mem_singleton.2 rfl) (by omega) (zcb hc.1 hnm)
  have hl:qg3 (zr H (.reads [nm]) ((zn b i done).flatMap Done.names)) ti (.ptr nm g off lim)=some v:=by
   rw [<-h]
   simp only [qg3,jk,hg]
  simp only [zz,ho,ht,zB,opd,qbs hm,hp,hl,zH]
 .rw [qi3,hd]
  exact k _ _ (qun hc (.inr ⟨_,rfl⟩) hB) (qp5 hn)
theorem q71 (hc:qos B i done) (hb:((List.range i).all fun j=>(b.getD i 0).testBit j)=true):zn b i done=[]:=by
 unfold zn
 rw [List.filter_eq_nil_iff]
 intro d hd
 rw [List.all_eq_true] at hb
 rw [hb d.i (List.mem_range.2 (hc.2 d hd))]
 simp
end
theorem q0h {E:Env} {tB tS tQ tU:Nat} (h:q24 E tB tS tQ tU=true) :
  (∃ ti f fi,E.types tB=some ti/\qfg ti 1=some f/\f.offset=1/\E.types f.type=some fi/\Nat.beq fi.size 0=false)/\
  (∃ ti,E.types tS=some ti/\ti.size=1/\ti.isAgg=false/\ti.under=.slice tU)/\
  (∃ ti,E.types tQ=some ti/\ti.under=.pointer tU)/\∃ ti,E.types tU=some ti/\ti.size=1:=by
 simp only [q24,zA] at h
 obtain ⟨⟨⟨h1,h2⟩,h3⟩,h4⟩:=h
 refine ⟨?_,?_,?_,?_⟩
 .split at h1
  .rename_i ti hti
   split at h1
   .rename_i f hf
    simp only [zA] at h1
    obtain ⟨a1,a2⟩:=h1
    split at a2
    .rename_i fi hfi
     exact ⟨ti,f,fi,hti,hf,zE a1,hfi,by simpa using a2⟩
    .cases a2
   .cases h1
  .cases h1
 .split at h2
  .rename_i ti hti
   simp only [zA,Bool.not_eq_true'] at h2
   obtain ⟨⟨a1,a2⟩,a3⟩:=h2
   split at a3
   .rename_i u hu
    exact ⟨ti,hti,zE a1,a2,by rw [hu,zE a3]⟩
   .cases a3
  .cases h2
 .split at h3
  .rename_i ti hti
   split at h3
   .rename_i u hu
    exact ⟨ti,hti,by rw [hu,zE h3]⟩
   .cases h3
  .cases h3
 .split at h4
  .rename_i ti hti
   exact ⟨ti,hti,zE h4⟩
  .cases h4
theorem qo2 {c:Go.Call} {b:Builtin} {x:Operand} (hc:c.callee=.builtin b) (h:x ∈ c.args.toList):x ∈ (Op.call c).operands.toList:=by
 simp only [Op.operands,Call.operands,hc]
 simpa using h
theorem zdg {H:Heap} {ti:TI} {nm off lim:Nat} {vs:List V} {e:TypeId} {ex:Bool} {x:V} (hs:ti.size=1) (ha:ti.isAgg=false) (hg:H.get nm=some (.row vs e 0 0 0 ex)) (h1:off+2<=lim) (h2:lim<=vs.length) (hx:vs[off+1]? = some x) (hnh:isHole x=false):qg3 H ti (.ptr nm 0 (off+1) lim)=some x:=by
 have b2:Nat.ble (off+1+1) lim=true:=by rw [Nat.ble_eq];omega
 have b3:Nat.ble lim vs.length=true:=by rw [Nat.ble_eq];exact h2
 have hd:(vs.drop (off+1)).take 1=[x]:=by
  have hlt:off+1<vs.length:=by omega
  rw [List.drop_eq_getElem_cons hlt]
  simp only [List.take_succ_cons,List.take_zero,List.cons.injEq,and_true]
  rw [List.getElem?_eq_getElem hlt] at hx
  exact Option.some.inj hx
 have hn:qms [x]=some [x]:=qi7 fun v hv=>by
  rw [List.mem_singleton.1 hv]
  exact hnh
 simp only [qg3,jk,hg,hs,b2,b3,hd,hn,ha,Nat.ble_eq,zN,Nat.ble,Bool.and_self,Bool.true_and,zO,zQ,zB]
section
variable {E:Env} {F tB tS tQ tI tU:Nat}
theorem q6l (hq:E.spec F=none) (hc:q23 E F tB tS tQ tI tU=true) {H H':Heap} {nm off lim:Nat} {vs:List V} {e:TypeId} {ex:Bool} (wf:∀ n,H.next<=n->H.get n=none) (hg:H.get nm=some (.row vs e 0 0 0 ex)) (h1:off+2<=lim) (h2:lim<=vs.length) {x p s:V} {n:Int} (hx:vs[off+1]? = some x) (hnh:isHole x=false)
  (hsd:∀ H0,jh E .unsafeSliceData [tS] [x] H0=some (.val p,H0)) (hlen:∀ H0,jh E .len [tS] [x] H0=some (.val (.int .i64 n),H0))
  (hus:∃ K,jh E .unsafeString [tQ,tI] [p,.int .i64 n] (zr H (.writes p.nm) [])=some (.val s,K)/\H.next<=K.next/\qbc H K (.writes p.nm) []=H') :
  qch E (.func F) [.ptr nm 0 off lim] H fun v K=>v=s/\K=H':=by
 have hnm:nm<H.next:=by
  by_cases h:nm<H.next
  .exact h
  .rw [wf nm (by omega)] at hg
   cases hg
 unfold q23 at hc
 cases hf:E.funcs F with
 | none=>rw [hf] at hc;cases hc
 | some fi=>
 rw [hf] at hc
 simp only [zA] at hc
 obtain ⟨⟨⟨c1,c2⟩,c3⟩,c4⟩:=hc
 have c2:=zE c2
 obtain ⟨⟨tib,fd,fdi,b1,b2,b3,b4,b5⟩,⟨tis,s1,s2,s3,s4⟩,-,-⟩:=q0h c3
 split at c1
 .rename_i hres
  split at c4
  .rename_i id0 oa id1 ops hb
   simp only [zA] at c4
   obtain ⟨⟨d1,d2⟩,d3⟩:=c4
   split at d1
   .rename_i o0 ho0
    obtain ⟨e1,e2,e3⟩:=qd0 d1
    obtain ⟨cc,e3,e4⟩:=q12 e3
    unfold zix at d2
    split at d2
    .rename_i q0 q1 q2 q3 q4 q5 q6 q7 q8 q9 q10 q11 hops
     simp only [zA] at d2
     obtain ⟨⟨⟨⟨⟨⟨⟨⟨⟨⟨⟨f0,f1⟩,f2⟩,f3⟩,f4⟩,f5⟩,f6⟩,f7⟩,f8⟩,f9⟩,f10⟩,f11⟩:=d2
     obtain ⟨g0a,g0b,g0⟩:=qd0 f0
     obtain ⟨g1a,g1b,g1⟩:=qd0 f1
     obtain ⟨g2a,g2b,g2⟩:=qd0 f2
     obtain ⟨g3a,g3b,g3⟩:=qd0 f3
     obtain ⟨g4a,g4b,g4⟩:=qd0 f4
     obtain ⟨g5a,g5b,g5⟩:=qd0 f5
     obtain ⟨g6a,g6b,g6⟩:=qd0 f6
     obtain ⟨g7a,g7b,g7⟩:=qd0 f7
     obtain ⟨g8a,g8b,g8⟩:=qd0 f8
     obtain ⟨g9a,g9b,g9⟩:=qd0 f9
     obtain ⟨g10a,g10b,g10⟩:=qd0 f10
     obtain ⟨g11a,g11b,g11⟩:=qd0 f11
     have g0:=qwc g0
     have g1:=qzl g1
     have g2:=zae g2
     have g3:=qwb g3
     obtain ⟨k4,y4,g4,g4c,g4d,g4e,g4f⟩:=zm6 g4
     have g5:=qwc g5
     have g6:=qzl g6
     have g7:=zae g7
     have g8:=qwb g8
     obtain ⟨k9,y9,g9,g9c,g9d,g9e,g9f⟩:=zm6 g9
     obtain ⟨k10,y10,g10,g10c,g10d,g10e,g10f⟩:=zqs g10
     have g11:=q13 g11
     have y4:y4=.unsafeSliceData:=by cases y4<;>first | rfl | cases g4d
     have y9:y9=.len:=by cases y9<;>first | rfl | cases g9d
     have y10:y10=.unsafeString:=by cases y10<;>first | rfl | cases g10d
     subst y4 y9 y10
     have hld:=zdg s2 s3 hg h1 h2 hx hnh
     have hfn:∀ fr':Fr,fr'.n=max 1 fi.ntmps->fr'.n=14:=fun fr' h=>by rw [h,c2];rfl
     refine qul hq hf hb ?_
     refine q25 (q0t ?_)
     rw [ho0]
     have n0:({tmps:=qdt [.ptr nm 0 off lim],n:=max [V.ptr nm 0 off lim].length fi.ntmps,defers:=[]}:Fr).n=14:=by simp only [c2];rfl
     refine zp2 (d:=2) (v:=.str []) (H':=H) (by simp only [qhg,e3]) (qhx e2) e1 (by rw [n0];decide) (qy8 e3 (zdp e4)) fun fr1 u1=>za5 (q6m (q25 (q6t ?_)))
     have t0:fr1.tmp 0=some (.ptr nm 0 off lim):=(u1.other 0 rfl).trans (qy6 rfl)
     have n1:fr1.n=14:=u1.n.trans n0
     have m1:fr1.defers=[]:=u1.ds
     clear u1
     rw [hops]
     have ci0:qos H.next 0 []:=zb9
     have tT:∀ (z:Op) (t:Nat),z.operands.toList=[.tmp t]->(z.operands.any fun | .global _=>true | _=>false)=false:=by
      intro z t hz
      rw [<-Array.any_toList,hz]
      rfl
     have t0_1:=t0
     refine qjc (d:=3) (v:=.ptr nm 0 off lim) ci0 (zN _) (by simp only [zy,g0];first | exact tT _ _ rfl | rfl) g0b g0a (by rw [n1];decide) (fun fr' H' hh=>q92 g0 (qfn ((hh 0 (by rw [g0];simp [Op.operands])).trans t0_1))) fun dn1 fr2 ci1 u2=>?_
     have t0_2:fr2.tmp 0=some (.ptr nm 0 off lim):=(u2.other 0 rfl).trans t0_1
     have t3_2:fr2.tmp 3=some (.ptr nm 0 off lim):=u2.get
     have n2:fr2.n=14:=u2.n.trans n1
     have m2:fr2.defers=[]:=u2.ds.trans m1
     clear u2
     refine qjc (d:=4) (v:=.ptr nm 0 off lim) ci1 (zN _) (by simp only [zy,g1];first | exact tT _ _ rfl | rfl) g1b g1a (by rw [n2];decide) (fun fr' H' hh=>by simp only [zz,g1,(qfn ((hh 3 (by rw [g1];simp [Op.operands])).trans t3_2))]) fun dn2 fr3 ci2 u3=>?_
     have t0_3:fr3.tmp 0=some (.ptr nm 0 off lim):=(u3.other 0 rfl).trans t0_2
     have t3_3:fr3.tmp 3=some (.ptr nm 0 off lim):=(u3.other 3 rfl).trans t3_2
     have t4_3:fr3.tmp 4=some (.ptr nm 0 off lim):=u3.get
     have n3:fr3.n=14:=u3.n.trans n2
     have m3:fr3.defers=[]:=u3.ds.trans m2
     clear u3
     refine qjc (d:=5) (v:=.ptr nm 0 (off+1) lim) ci2 (zN _) (by simp only [zy,g2];first | exact tT _ _ rfl | rfl) g2b g2a (by rw [n3];decide) (fun fr' H' hh=>by have h0:=qpe (H:=H') g2 b1 b2 b4 b5 (qfn ((hh 4 (by rw [g2];simp [Op.operands])).trans t4_3));rw [b3] at h0;exact h0) fun dn3 fr4 ci3 u4=>?_
     have t0_4:fr4.tmp 0=some (.ptr nm 0 off lim):=(u4.other 0 rfl).trans t0_3
     have t3_4:fr4.tmp 3=some (.ptr nm 0 off lim):=(u4.other 3 rfl).trans t3_3
     have t4_4:fr4.tmp 4=some (.ptr nm 0 off lim):=(u4.other 4 rfl).trans t4_3
     have t5_4:fr4.tmp 5=some (.ptr nm 0 (off+1) lim):=u4.get
     have n4:fr4.n=14:=u4.n.trans n3
     have m4:fr4.defers=[]:=u4.ds.trans m3
     clear u4
     refine zi8 (ti:=tis) (s:=5) (d:=6) (v:=x) ci3 (zN _) g3 s1 t5_4 hnm g3b g3a (by rw [n4];decide) hld fun dn4 fr5 ci4 u5=>?_
     have t0_5:fr5.tmp 0=some (.ptr nm 0 off lim):=(u5.other 0 rfl).trans t0_4
     have t3_5:fr5.tmp 3=some (.ptr nm 0 off lim):=(u5.other 3 rfl).trans t3_4
     have t4_5:fr5.tmp 4=some (.ptr nm 0 off lim):=(u5.other 4 rfl).trans t4_4
     have t5_5:fr5.tmp 5=some (.ptr nm 0 (off+1) lim):=(u5.other 5 rfl).trans t5_4
     have t6_5:fr5.tmp 6=some (x):=u5.get
     have n5:fr5.n=14:=u5.n.trans n4
     have m5:fr5.defers=[]:=u5.ds.trans m4
     clear u5
     refine qjc (d:=7) (v:=p) ci4 (zN _) (by simp only [zy,g4,g4c];rw [<-Array.any_toList,g4e];rfl) g4b g4a (by rw [n5];decide) (fun fr' H' hh=>by simp only [zz,g4,g4c,g4e,g4f,qbj,(qfn ((hh 6 (by rw [g4];exact qo2 g4c (by rw [g4e];simp))).trans t6_5)),zB,zH,hsd]) fun dn5 fr6 ci5 u6=>?_
     have t0_6:fr6.tmp 0=some (.ptr nm 0 off lim):=(u6.other 0 rfl).trans t0_5
     have t3_6:fr6.tmp 3=some (.ptr nm 0 off lim):=(u6.other 3 rfl).trans t3_5
     have t4_6:fr6.tmp 4=some (.ptr nm 0 off lim):=(u6.other 4 rfl).trans t4_5
     have t5_6:fr6.tmp 5=some (.ptr nm 0 (off+1) lim):=(u6.other 5 rfl).trans t5_5
     have t6_6:fr6.tmp 6=some (x):=(u6.other 6 rfl).trans t6_5
     have t7_6:fr6.tmp 7=some (p):=u6.get
     have n6:fr6.n=14:=u6.n.trans n5
     have m6:fr6.defers=[]:=u6.ds.trans m5
     clear u6
     refine qjc (d:=8) (v:=.ptr nm 0 off lim) ci5 (zN _) (by simp only [zy,g5];first | exact tT _ _ rfl | rfl) g5b g5a (by rw [n6];decide) (fun fr' H' hh=>q92 g5 (qfn ((hh 0 (by rw [g5];simp [Op.operands])).trans t0_6))) fun dn6 fr7 ci6 u7=>?_
     have t0_7:fr7.tmp 0=some (.ptr nm 0 off lim):=(u7.other 0 rfl).trans t0_6
     have t3_7:fr7.tmp 3=some (.ptr nm 0 off lim):=(u7.other 3 rfl).trans t3_6
     have t4_7:fr7.tmp 4=some (.ptr nm 0 off lim):=(u7.other 4 rfl).trans t4_6
     have t5_7:fr7.tmp 5=some (.ptr nm 0 (off+1) lim):=(u7.other 5 rfl).trans t5_6
     have t6_7:fr7.tmp 6=some (x):=(u7.other 6 rfl).trans t6_6
     have t7_7:fr7.tmp 7=some (p):=(u7.other 7 rfl).trans t7_6
     have t8_7:fr7.tmp 8=some (.ptr nm 0 off lim):=u7.get
     have n7:fr7.n=14:=u7.n.trans n6
     have m7:fr7.defers=[]:=u7.ds.trans m6
     clear u7
     refine qjc (d:=9) (v:=.ptr nm 0 off lim) ci6 (zN _) (by simp only [zy,g6];first | exact tT _ _ rfl | rfl) g6b g6a (by rw [n7];decide) (fun fr' H' hh=>by simp only [zz,g6,(qfn ((hh 8 (by rw [g6];simp [Op.operands])).trans t8_7))]) fun dn7 fr8 ci7 u8=>?_
     have t0_8:fr8.tmp 0=some (.ptr nm 0 off lim):=(u8.other 0 rfl).trans t0_7
     have t3_8:fr8.tmp 3=some (.ptr nm 0 off lim):=(u8.other 3 rfl).trans t3_7
     have t4_8:fr8.tmp 4=some (.ptr nm 0 off lim):=(u8.other 4 rfl).trans t4_7
     have t5_8:fr8.tmp 5=some (.ptr nm 0 (off+1) lim):=(u8.other 5 rfl).trans t5_7
     have t6_8:fr8.tmp 6=some (x):=(u8.other 6 rfl).trans t6_7
     have t7_8:fr8.tmp 7=some (p):=(u8.other 7 rfl).trans t7_7
     have t8_8:fr8.tmp 8=some (.ptr nm 0 off lim):=(u8.other 8 rfl).trans t8_7
     have t9_8:fr8.tmp 9=some (.ptr nm 0 off lim):=u8.get
     have n8:fr8.n=14:=u8.n.trans n7
     have m8:fr8.defers=[]:=u8.ds.trans m7
     clear u8
     refine qjc (d:=10) (v:=.ptr nm 0 (off+1) lim) ci7 (zN _) (by simp only [zy,g7];first | exact tT _ _ rfl | rfl) g7b g7a (by rw [n8];decide) (fun fr' H' hh=>by have h0:=qpe (H:=H') g7 b1 b2 b4 b5 (qfn ((hh 9 (by rw [g7];simp [Op.operands])).trans t9_8));rw [b3] at h0;exact h0) fun dn8 fr9 ci8 u9=>?_
     have t0_9:fr9.tmp 0=some (.ptr nm 0 off lim):=(u9.other 0 rfl).trans t0_8
     have t3_9:fr9.tmp 3=some (.ptr nm 0 off lim):=(u9.other 3 rfl).trans t3_8
     have t4_9:fr9.tmp 4=some (.ptr nm 0 off lim):=(u9.other 4 rfl).trans t4_8
     have t5_9:fr9.tmp 5=some (.ptr nm 0 (off+1) lim):=(u9.other 5 rfl).trans t5_8
     have t6_9:fr9.tmp 6=some (x):=(u9.other 6 rfl).trans t6_8
     have t7_9:fr9.tmp 7=some (p):=(u9.other 7 rfl).trans t7_8
     have t8_9:fr9.tmp 8=some (.ptr nm 0 off lim):=(u9.other 8 rfl).trans t8_8
     have t9_9:fr9.tmp 9=some (.ptr nm 0 off lim):=(u9.other 9 rfl).trans t9_8
     have t10_9:fr9.tmp 10=some (.ptr nm 0 (off+1) lim):=u9.get
     have n9:fr9.n=14:=u9.n.trans n8
     have m9:fr9.defers=[]:=u9.ds.trans m8
     clear u9
     refine zi8 (ti:=tis) (s:=10) (d:=11) (v:=x) ci8 (zN _) g8 s1 t10_9 hnm g8b g8a (by rw [n9];decide) hld fun dn9 fr10 ci9 u10=>?_
     have t0_10:fr10.tmp 0=some (.ptr nm 0 off lim):=(u10.other 0 rfl).trans t0_9
     have t3_10:fr10.tmp 3=some (.ptr nm 0 off lim):=(u10.other 3 rfl).trans t3_9
     have t4_10:fr10.tmp 4=some (.ptr nm 0 off lim):=(u10.other 4 rfl).trans t4_9
     have t5_10:fr10.tmp 5=some (.ptr nm 0 (off+1) lim):=(u10.other 5 rfl).trans t5_9
     have t6_10:fr10.tmp 6=some (x):=(u10.other 6 rfl).trans t6_9
     have t7_10:fr10.tmp 7=some (p):=(u10.other 7 rfl).trans t7_9
     have t8_10:fr10.tmp 8=some (.ptr nm 0 off lim):=(u10.other 8 rfl).trans t8_9
     have t9_10:fr10.tmp 9=some (.ptr nm 0 off lim):=(u10.other 9 rfl).trans t9_9
     have t10_10:fr10.tmp 10=some (.ptr nm 0 (off+1) lim):=(u10.other 10 rfl).trans t10_9
     have t11_10:fr10.tmp 11=some (x):=u10.get
     have n10:fr10.n=14:=u10.n.trans n9
     have m10:fr10.defers=[]:=u10.ds.trans m9
     clear u10
     refine qjc (d:=12) (v:=.int .i64 n) ci9 (zN _) (by obtain ⟨u1,u2,u3,u4,u5⟩:=tis;simp only at s4;subst s4;simp only [zy,g9,g9c,g9f,s1];rw [<-Array.any_toList,g9e];rfl) g9b g9a (by rw [n10];decide) (fun fr' H' hh=>by simp only [zz,g9,g9c,g9e,g9f,qbj,(qfn ((hh 11 (by rw [g9];exact qo2 g9c (by rw [g9e];simp))).trans t11_10)),zB,zH,hlen]) fun dn10 fr11 ci10 u11=>?_
     have t0_11:fr11.tmp 0=some (.ptr nm 0 off lim):=(u11.other 0 rfl).trans t0_10
     have t3_11:fr11.tmp 3=some (.ptr nm 0 off lim):=(u11.other 3 rfl).trans t3_10
     have t4_11:fr11.tmp 4=some (.ptr nm 0 off lim):=(u11.other 4 rfl).trans t4_10
     have t5_11:fr11.tmp 5=some (.ptr nm 0 (off+1) lim):=(u11.other 5 rfl).trans t5_10
     have t6_11:fr11.tmp 6=some (x):=(u11.other 6 rfl).trans t6_10
     have t7_11:fr11.tmp 7=some (p):=(u11.other 7 rfl).trans t7_10
     have t8_11:fr11.tmp 8=some (.ptr nm 0 off lim):=(u11.other 8 rfl).trans t8_10
     have t9_11:fr11.tmp 9=some (.ptr nm 0 off lim):=(u11.other 9 rfl).trans t9_10
     have t10_11:fr11.tmp 10=some (.ptr nm 0 (off+1) lim):=(u11.other 10 rfl).trans t10_10
     have t11_11:fr11.tmp 11=some (x):=(u11.other 11 rfl).trans t11_10
     have t12_11:fr11.tmp 12=some (.int .i64 n):=u11.get
     have n11:fr11.n=14:=u11.n.trans n10
     have m11:fr11.defers=[]:=u11.ds.trans m10
     clear u11
     obtain ⟨K,hk1,hk2,hk3⟩:=hus
     have hfree:zn (Region.before ops) (0+1+1+1+1+1+1+1+1+1+1) dn10=[]:=q71 ci10 d3
     have m7:Operand.tmp 7 ∈ q10.op.operands.toList:=by rw [g10];exact qo2 g10c (by rw [g10e];simp)
     have m12:Operand.tmp 12 ∈ q10.op.operands.toList:=by rw [g10];exact qo2 g10c (by rw [g10e];simp)
     refine qbz (fp:=.writes p.nm) (out:=.val s) (K:=K) (qhx g10b) ?_ (by simp) (by rw [hfree];rfl) ?_ (.inl rfl) hk2 ?_
     .simp only [qf5,zy,g10,g10c,Bool.not_true,zQ,qaq,g10e,List.flatMap_cons,List.flatMap_nil,ql3,t7_11,t12_11,V.nm,zJ]
     .rw [hfree]
      simp only [zz,g10,g10c,g10e,g10f,qbj,qfn ((qbs (qmp m7)).trans t7_11),qfn ((qbs (qmp m12)).trans t12_11),zB,zH,List.flatMap_nil]
      exact hk1
     .rw [hfree,List.flatMap_nil,hk3,g10a]
      have u12:=qp5 (v:=s) (fr:=fr11) (d:=13) (by rw [n11];decide)
      have t13:=u12.get
      have n12:=u12.n.trans n11
      have m12:=u12.ds.trans m11
      generalize fr11.put (some 13) s=fr12 at *
      refine qbz (fp:=.none) (out:=.val s) (K:=zr H' .none ?dels) (qhx g11b) (by simp only [qf5,zy,g11,Op.operands];rw [<-Array.any_toList];rfl) (by simp) ?g1 ?g2 (.inl rfl) (zN _) ?g3
      case g2=>exact qy8 g11 (qfn ((qbs (qmp (by rw [g11];simp [Op.operands]))).trans t13))
      case g1=>
       rw [<-Bool.not_eq_true,List.any_eq_true]
       rintro ⟨d,_,hcl⟩
       rw [qnt] at hcl
       cases hcl
      case g3=>
       rw [qid,g11a]
       have u13:=qp5 (v:=s) (fr:=fr12) (d:=2) (by rw [n12];decide)
       refine za3 (q6m (zi6 ⟨.inr rfl,?_⟩))
       refine ⟨_,zqb (u13.ds.trans m12),[s],?_,rfl,rfl⟩
       rw [hres]
       exact zmc u13.get zmb
    .cases d2
   .cases d1
  .cases c4
 .cases c1
end
theorem zc5 {H:Heap} {bn:Nat} {x:O} (h:bn<H.next):qbc H ((zr H (.writes [bn]) []).put bn x) (.writes [bn]) []=H.put bn x:=by
 have hb:Nat.blt bn H.next=true:=by rw [Nat.blt_eq];exact h
 have hf:[bn].filter (fun n=>Nat.blt n H.next&&!([]:List Nat).any fun m=>Nat.beq n m)=[bn]:=by
  simp only [List.filter_cons,hb,List.any_nil,Bool.not_false,Bool.and_self,if_true,List.filter_nil]
 have hg:((zr H (.writes [bn]) []).put bn x).qa6.get bn=some x:=qac
 have hn:((zr H (.writes [bn]) []).put bn x).next=H.next:=rfl
 simp only [qbc,hn,hf,Nat.sub_self,List.range'_zero,zJ,kk,hg]
 rfl
theorem zgy {H:Heap}:qbc H (zr H (.writes []) []) (.writes []) []=H:=by
 have hn:(zr H (.writes []) []).next=H.next:=rfl
 simp only [qbc,hn,List.filter_nil,Nat.sub_self,List.range'_zero,zJ,kk]
theorem zl8 {K:Nat->Type} {C:ZC K} {F tB tS tQ tI tU:Nat} (hpr:C.prim=fun f=>Nat.beq f F) (hq:C.E.spec F=none) (hc:q23 C.E F tB tS tQ tI tU=true) (hu:∀ el,C.codec el=some 0->el=tU):q69 C:=by
 intro f hf
 rw [hpr] at hf
 have hf:=zE hf
 subst hf
 intro H nm off lim vs e ex wf hg h1 h2
 have htys:q24 C.E tB tS tQ tU=true:=by
  have h:=hc
  unfold q23 at h
  split at h
  .simp only [zA] at h
   exact h.1.2
  .cases h
 obtain ⟨-,⟨tis,s1,s2,s3,s4⟩,⟨tq,q1,q2⟩,⟨tu,v1,v2⟩⟩:=q0h htys
 refine ⟨fun hx=>?_,fun bn g len cells el floor frz eb l hx hgb hlen hfl hpos hle hcod hby hho hro hne=>?_⟩
 .refine q6l (p:=.nilp) (n:=0) hq hc wf hg h1 h2 hx rfl (fun H0=>rfl) (fun H0=>?_) ⟨zr H (.writes []) [],?_,zN _,zgy⟩
  .simp only [jh,s1,zB,s4,qcc]
   rfl
  .simp only [jh,V.nm,if_true]
 .have hel:=hu el hcod
  subst hel
  have hbn:bn<H.next:=by
   by_cases h:bn<H.next
   .exact h
   .rw [wf bn (by omega)] at hgb
    cases hgb
  have hb:Nat.blt 0 len=true:=by rw [Nat.blt_eq];exact hpos
  have hbb:Nat.blt bn H.next=true:=by rw [Nat.blt_eq];exact hbn
  have hf:[bn].filter (fun n=>Nat.blt n H.next&&!([]:List Nat).any fun m=>Nat.beq n m)=[bn]:=by
   simp only [List.filter_cons,hbb,List.any_nil,Bool.not_false,Bool.and_self,if_true,List.filter_nil]
  have hgt:(zr H (.writes [bn]) []).get bn=some (.row cells el g floor frz eb):=by
   rw [<-hgb]
   simp only [zr,hf,Heap.get,jf,List.mem_singleton,if_true]
  have hup:(zr H (.writes [bn]) []).upd bn (.row cells el g floor (max frz len) eb)=some ((zr H (.writes [bn]) []).put bn (.row cells el g floor (max frz len) eb)):=qbn hro
  refine q6l (p:=.ptr bn g 0 (0+len * 1)) (n:=len) (H':=H.put bn (.row cells el g floor (max frz len) eb)) hq hc wf hg h1 h2 hx rfl (fun H0=>?_) (fun H0=>?_) ⟨(zr H (.writes [bn]) []).put bn (.row cells el g floor (max frz len) eb),?_,zN _,zc5 hbn⟩
  .simp only [jh,hb,zO]
  .simp only [jh,s1,zB,s4,qcc]
  .have b1:Nat.ble floor g=true:=by rw [Nat.ble_eq];exact hfl
   have b2:Nat.ble (0+len) (0+len * 1)=true:=by rw [Nat.ble_eq];omega
   have b3:Nat.ble (0+len * 1) cells.length=true:=by rw [Nat.ble_eq];omega
   have hcond:el=el/\tu.size=1/\(0:Int)<(len:Int)/\(len:Int)<=140737488355328/\g=g:=⟨rfl,v2,by omega,by omega,rfl⟩
   have htk:(cells.drop 0).take len=cells:=by
    rw [List.drop_zero,List.take_of_length_le (by omega)]
   have hrd:jk (zr H (.writes [bn]) []) len (.ptr bn g 0 (0+len * 1))=some cells:=by
    simp only [jk,hgt,b1,b2,b3,Bool.and_self,zO,htk]
    exact qi7 hho
   simp only [jh,V.nm,q1,q2,hgt,zB,v1,hcond,and_self,if_true,Int.toNat_natCast,hrd,hby,hup,zH]
theorem qx8 {P:Program} {Hd:Type} {enc:TypeId×Value->Hd} {g:Func} {s:Go.ChangeSpec} {apart fresh handsOn:Bool} {W w':World} {args:Array Value} {ds gs:List (DataW Hd)} {before:List MemPlace} {t:TypeId}
  (hW:DataW.Whole enc P g.params.toList s.vars apart W args.toList ds gs before) (hv:s.vars=[]) (ht:g.resultTypes = #[t]) (hu:P.underlying t=some .bool)
  (hfn:s.fn Hd ds = {results:=[.lit (.bool true)],args:=ds}) (hargs:∃ pa,DataW.TrodAll enc P w' 0 (fun b=>decide (b<W.heap.size)) true g.params.toList args.toList ds pa) (hk:∀ may,W.keptBut w' may) :
  s.post enc P g apart fresh handsOn false W args (.bool true) w':=by
 have hW':=hW
 obtain ⟨p,q,hA,hV,rfl,_,_⟩:=hW
 rw [hv] at hV
 obtain ⟨rfl,rfl⟩:=Go.ChangeShapes.trodVars_none hV
 obtain ⟨pa,hpa⟩:=hargs
 refine ⟨ds,[],p++[],[],pa,[],hW',?_,?_,?_,hk _,fun h=>by cases h⟩
 .rw [ht,zJ,hfn]
  exact Go.ChangeShapes.trodAll_mk1 (Go.RowKit.shut_bool hu true)
 .rw [zJ,hfn]
  exact hpa
 .rw [hv,zJ,hfn]
  rfl
end Go.E3
/- E3: A CLOSED CALL that looks at listed variables, as a contract. -/
namespace Go.E2
open Go
def Fact.quw (F:Fact):Bool:=
 F.args.isEmpty&&(F.pre.all fun x=>match assoc (F.pre.map fun x=>(x.1,x.1)) x.1,q2s (assoc (F.pre.map fun x=>(x.1,x.1))) x.2 with
  | some k,some o=>Nat.beq k x.1&&q4h o x.2
  | _,_=>false)&&ql4 (F.pre.map fun x=>(x.1,x.1))&&(F.pre.all fun x=>Nat.blt x.1 F.next)&&Nat.beq F.ro F.next&&qj7 F.ret ((qfp (fun _=>none) F.ret).getD (.tuple [.nilp]))
theorem zmk {F:Fact} {H:Heap} (hc:F.quw=true) (hg:H.qy=F.qy) (ho:∀ x ∈ F.pre,H.get x.1=some x.2/\x.1<H.next):F.q6n [] H=some (.ret F.ret,H):=by
 simp only [Fact.quw,zA] at hc
 obtain ⟨⟨⟨⟨⟨c1,c2⟩,c3⟩,c4⟩,c5⟩,c6⟩:=hc
 have ha:F.args=[]:=List.isEmpty_iff.1 c1
 have hfit:F.fits (F.pre.map fun x=>(x.1,x.1)) [] H=true:=by
  simp only [Fact.fits,zA]
  refine ⟨⟨⟨⟨?_,?_⟩,?_⟩,c3⟩,?_⟩
  .rw [ha];rfl
  .rw [hg];exact Nat.beq_refl _
  .unfold q1x
   rw [List.all_eq_true]
   intro x hx
   have:=List.all_eq_true.1 c2 x hx
   split at this
   .rename_i k o h1 h2
    simp only [zA] at this
    have hk:=zE this.1
    subst hk
    simp only [h1,h2,(ho x hx).1]
    exact this.2
   .cases this
  .rw [List.all_eq_true]
   intro x hx
   obtain ⟨y,hy,rfl⟩:=List.mem_map.1 hx
   have h1:=List.all_eq_true.1 c4 y hy
   have h2:Nat.blt y.1 H.next=true:=by rw [Nat.blt_eq];exact (ho y hy).2
   have h3:Nat.ble F.ro y.1=false:=by
    rw [<-Bool.not_eq_true,Nat.ble_eq,zE c5]
    rw [Nat.blt_eq] at h1
    omega
   simp only [h1,h2,h3,Nat.beq_refl,Bool.and_true,Bool.or_true,Bool.not_false,Bool.true_or]
 simp only [Fact.q6n,hfit,c5,c6,Bool.and_true,zO]
end Go.E2
namespace Go.E3
open Go Go.E2
theorem qng {α:Type}:∀ {l:List (Nat×α)},distinct (l.map (·.1))=true->∀ {x:Nat×α},x ∈ l->look l x.1=some x.2
 | [],_,x,hx=>by cases hx
 | y::l,h,x,hx=>by
  simp only [List.map_cons,distinct,zA,Bool.not_eq_true'] at h
  simp only [look,cond_eq_ite,Nat.beq_eq]
  rcases zD.1 hx with rfl | hx
  .rw [zT rfl]
  .rw [zF]
   .exact qng h.2 hx
   .intro he
    have h1:=h.1
    rw [<-Bool.not_eq_true,List.any_eq_true] at h1
    exact h1 ⟨x.1,List.mem_map.2 ⟨x,hx,rfl⟩,by rw [he];exact Nat.beq_refl _⟩
end Go.E3
/- E3: ARGUMENTS WHOSE ELEMENTS HOLD SLICES, to whatever depth. The element size of a slice that lies in a cell is told by a function F of the cells where it points. -/
namespace Go.E3
open Go Go.E2
variable {K:Nat->Type}
def qfu (W:World) (F:Array Value->Nat->Nat) (self:Nat):Value->V
 | .slice none len cap=>if len=0/\cap=0 then .nils else .tuple [.slice 0 0 0 0 0 none]
 | .slice (some a) len cap=>
  if cap=0 then (if len=0 then .slice self 0 0 0 1 (some 0) else .tuple [.slice 0 0 0 0 0 none])
  else match W.heap[a.block]? with
   | some (.cells arr _ _)=>if a.spot=none/\len<=cap/\a.off+cap * F arr a.off<=arr.size then .slice a.block 0 a.off len (F arr a.off) (some cap) else .tuple [.slice 0 0 0 0 0 none]
   | _=>.tuple [.slice 0 0 0 0 0 none]
 | x=>qeb x
theorem zfe {W:World} {F:Array Value->Nat->Nat} {self:Nat} {arr:Array Value} {e:TypeId} {fz:Nat×Nat} (hb:W.heap[self]? = some (.cells arr e fz)) (x:Value):isHole (qfu W F self x)=true∨Go.E2.Rel (qcr W) W (qfu W F self x) x:=by
 cases x with
 | slice a len cap=>
  cases a with
  | none=>
   simp only [qfu]
   split
   .rename_i h
    obtain ⟨rfl,rfl⟩:=h
    right;simp [Go.E2.Rel]
   .exact .inl rfl
  | some a=>
   simp only [qfu]
   split
   .rename_i hc
    subst hc
    split
    .rename_i hl
     subst hl
     right
     simp only [Go.E2.Rel]
     exact ⟨self,0,arr.size,0,0,e,arr.size,a,qf6 hb,rfl,.inl rfl,zN _,zN _,by omega,.inr rfl,fun k hk=>by cases hk;exact ⟨rfl,by omega⟩,by simp only [World.shape?,hb],by omega⟩
    .exact .inl rfl
   .split
    .rename_i arr' e' fz' hb'
     split
     .rename_i h
      obtain ⟨h1,h2,h3⟩:=h
      right
      obtain ⟨b,off,spot⟩:=a
      simp only at h1 h3 hb'
      subst h1
      have hm:len * F arr' off<=cap * F arr' off:=zU _ h2
      simp only [Go.E2.Rel]
      exact ⟨b,0,arr'.size,off,cap,e',arr'.size,_,qf6 hb',rfl,.inr rfl,h2,Nat.zero_le _,by omega,.inl rfl,fun k hk=>by cases hk;exact ⟨rfl,h3⟩,by simp only [World.shape?,hb'],h3⟩
     .exact .inl rfl
    .exact .inl rfl
 | int k n=>right;simp [qfu,qeb,Go.E2.Rel]
 | bool b=>right;simp [qfu,qeb,Go.E2.Rel]
 | string s=>right;simp [qfu,qeb,Go.E2.Rel]
 | _=>exact .inl rfl
theorem qz8 {W:World} {F:Array Value->Nat->Nat} {self:Nat} {arr:Array Value} {e:TypeId} {fz:Nat×Nat} (hb:W.heap[self]? = some (.cells arr e fz)):∀ l:List Value,kh (qcr W) W (l.map (qfu W F self)) l
 | []=>by simp [kh]
 | x::l=>by
  simp only [List.map_cons,kh]
  exact ⟨x,l,rfl,zfe hb x,qz8 hb l⟩
def zls (W:World) (F:Array Value->Nat->Nat) (b:Nat):Option (Nat×O):=
 match W.heap[b]? with
 | some (.cells arr e fz)=>some (b,.row (arr.toList.map (qfu W F b)) e 0 0 fz.2 true)
 | _=>none
def zhm (W:World) (F:Array Value->Nat->Nat):List (Nat×O):=(List.range W.heap.size).filterMap (zls W F)
theorem zdk {W:World} {F:Array Value->Nat->Nat} {b:Nat} {x:Nat×O} (h:zls W F b=some x):∃ arr e fz,W.heap[b]? = some (.cells arr e fz)/\x=(b,.row (arr.toList.map (qfu W F b)) e 0 0 fz.2 true):=by
 unfold zls at h
 split at h
 .rename_i arr e fz hb
  exact ⟨arr,e,fz,hb,(Option.some.inj h).symm⟩
 .cases h
theorem qzt {W:World} {F:Array Value->Nat->Nat} {b:Nat} {o:O} (h:(b,o) ∈ zhm W F):∃ arr e fz,W.heap[b]? = some (.cells arr e fz)/\o=.row (arr.toList.map (qfu W F b)) e 0 0 fz.2 true:=by
 obtain ⟨b',_,h2⟩:=List.mem_filterMap.1 h
 obtain ⟨arr,e,fz,h3,h4⟩:=zdk h2
 cases h4
 exact ⟨arr,e,fz,h3,rfl⟩
def qiz (W:World) (F:Array Value->Nat->Nat) (ng:Nat):Heap:={qa6:=qdq (zhm W F),next:=W.heap.size,ro:=W.heap.size,qy:=ng}
theorem qzk {W:World} {F:Array Value->Nat->Nat} {ng b:Nat} {arr:Array Value} {e:TypeId} {fz:Nat×Nat} (h:W.heap[b]? = some (.cells arr e fz)):(qiz W F ng).get b=some (.row (arr.toList.map (qfu W F b)) e 0 0 fz.2 true):=by
 have hm:(b,O.row (arr.toList.map (qfu W F b)) e 0 0 fz.2 true) ∈ zhm W F:=by
  refine List.mem_filterMap.2 ⟨b,List.mem_range.2 (qdm h),?_⟩
  unfold zls
  rw [h]
 obtain ⟨o,ho⟩:=qh9 hm
 obtain ⟨arr',e',fz',h',rfl⟩:=qzt (qba _ _ _ ho)
 rw [h] at h'
 cases h'
 exact ho
theorem qv7 {W:World} {F:Array Value->Nat->Nat} {ng b:Nat} {o:O} (h:(qiz W F ng).get b=some o):∃ arr e fz,W.heap[b]? = some (.cells arr e fz)/\o=.row (arr.toList.map (qfu W F b)) e 0 0 fz.2 true:=
 qzt (qba _ _ _ h)
theorem zs7 {W:World} {F:Array Value->Nat->Nat} {ng:Nat} (hng:ng<=W.heap.size):Sim (qiz W F ng) (qcr W) W:=by
 refine ⟨fun nm g b sh n h=>?_,fun nm g b sh n nm' g' sh' n' h h'=>?_,fun nm o _ ho=>?_,zN _,hng,fun g o _ ho=>?_⟩
 .obtain ⟨_,arr,e,fz,hb,hx⟩:=qa3 h
  cases hx
  exact ⟨qdm hb,qdm hb⟩
 .obtain ⟨_,_,_,_,_,hx⟩:=qa3 h
  obtain ⟨_,_,_,_,_,hx'⟩:=qa3 h'
  cases hx
  cases hx'
  exact ⟨rfl,rfl⟩
 .obtain ⟨arr,e,fz,hb,rfl⟩:=qv7 ho
  refine ⟨zN _,fun _=>rfl,fun g b sh n hg=>?_⟩
  obtain ⟨rfl,arr',e',fz',hb',hx⟩:=qa3 hg
  rw [hb] at hb'
  cases hb'
  cases hx
  refine ⟨zN _,Nat.zero_le _,by simp,fun _=>by simp,fun _=>rfl,fun _=>⟨arr,fz,hb,by simp,?_,fun _ i h1 h2=>by omega,fun _=>by simp⟩⟩
  rw [List.drop_zero,Nat.sub_zero,List.take_of_length_le (by simp),List.take_of_length_le (by simp)]
  exact qz8 hb _
 .obtain ⟨arr,e,fz,hb,_⟩:=qv7 ho
  exact ⟨_,qf6 hb⟩
def qmd:Value->Bool
 | .slice ..=>true
 | _=>false
section
variable {Hd:Type} {enc:TypeId×Value->Hd} {P:Program} {W:World} {F:Array Value->Nat->Nat} {cd:TypeId->Option Nat} {good:∀ c,K c->Prop} {X:Codecs K} {sz:Nat->Nat}
theorem zb4 {leaf:Leaf4} {x:Value} {self:Nat} (hf:leaf.flat=true) (h:qay enc P W cd leaf x):qfu W F self x=qeb x:=by
 cases leaf with
 | int k=>obtain ⟨n,rfl,_⟩:=h;rfl
 | bool=>obtain ⟨b,rfl⟩:=h;rfl
 | str=>obtain ⟨s,rfl,_⟩:=h;rfl
 | list c=>cases hf
theorem qx0 {leaf:Leaf4} {x:Value} (h:qay enc P W cd leaf x):qmd x = !leaf.flat:=by
 cases leaf with
 | int k=>obtain ⟨n,rfl,_⟩:=h;rfl
 | bool=>obtain ⟨b,rfl⟩:=h;rfl
 | str=>obtain ⟨s,rfl,_⟩:=h;rfl
 | list c=>rcases h with rfl | ⟨e,a,len,cap,_,rfl,_⟩<;>rfl
theorem q5a {self:Nat}:∀ {l:List Value},(l.all fun x=>!qmd x)=true->l.map (qfu W F self)=l.map qeb
 | [],_=>rfl
 | x::l,h=>by
  simp only [List.all_cons,zA] at h
  simp only [List.map_cons,q5a h.2]
  congr 1
  cases x<;>first | rfl | (simp [qmd] at h)
def q0x (sz:Nat->Nat) (P:Program) (F:Array Value->Nat->Nat) (cd:TypeId->Option Nat) (depth c:Nat):Prop:=
 ∀ e ls,cd e=some c->qno P cd depth e=some ls->∀ (arr:Array Value) (off:Nat),(∀ (i:Nat) leaf,ls[i]? = some leaf->∃ x,arr[off+i]? = some x/\qmd x = !leaf.flat)->F arr off=sz c
def qk4 (good:∀ c,K c->Prop) (X:Codecs K) (sz:Nat->Nat) (P:Program) (F:Array Value->Nat->Nat) (cd:TypeId->Option Nat) (depth:Nat):Nat->Nat->Prop
 | 0,_=>False
 | n+1,c=>∀ e,cd e=some c->∃ ls,qno P cd depth e=some ls/\(∀ leaf ∈ ls,leaf.flat=true∨∃ c',leaf=.list c'/\qk4 good X sz P F cd depth n c'/\q0x sz P F cd depth c')/\ls.length=sz c/\P.cellsOf e=sz c/\0<sz c/\
   ∀ ps:List (PV K),qg5 good ls ps->∃ pre x,X.pack c ps=some (pre,x)/\pre/\good c x
theorem add_add (b off i j:Nat):((⟨b,off,none⟩:Addr).add i).add j=⟨b,off+i+j,none⟩:=by
 unfold Addr.add
 by_cases h0:i=0
 .rw [zT h0,h0]
  by_cases hj0:j=0
  .rw [zT hj0,hj0];simp
  .rw [zF hj0];simp
 .rw [zF h0]
  by_cases hj0:j=0
  .rw [zT hj0,hj0];simp
  .rw [zF hj0]
theorem zd8 {a:Addr} {n:Nat} {cs:List Value} (hn:0<n) (h:W.cells? 0 (a.add (0 * n)) n=some cs):a.spot=none/\∃ arr e fz,W.heap[a.block]? = some (.cells arr e fz):=by
 obtain ⟨_,h9,h10⟩:=World.cells?_some h
 have h0:=h10 0 hn
 rw [Nat.zero_mul] at h0
 have ha:(a.add 0).add 0=a:=by simp [Addr.add]
 rw [ha,List.getElem?_eq_getElem (by omega)] at h0
 simp only [World.cell?] at h0
 split at h0
 .rename_i arr e fz hb
  split at h0
  .cases h0
  .rename_i hs
   exact ⟨by simpa using hs,arr,e,fz,hb⟩
 .cases h0
theorem qq9 {T:Nat->Prop} {w:Wd} {self:Nat} (hT:∀ c,T c->∀ x,qay enc P W cd (.list c) x->∃ p:PV K,qk1 good (.list c) p/\Rep X sz w p (qfu W F self x)) :
  ∀ {ls:List Leaf4} {cs:List Value},(∀ leaf ∈ ls,leaf.flat=true∨∃ c,leaf=.list c/\T c)->cs.length=ls.length->
   (∀ (i:Nat) leaf x,ls[i]? = some leaf->cs[i]? = some x->qay enc P W cd leaf x)->
   ∃ ps:List (PV K),qg5 good ls ps/\qq X sz w ps (cs.map (qfu W F self))
 | [],[],_,_,_=>⟨[],rfl,.nil⟩
 | [],_::_,_,h,_=>by simp at h
 | _::_,[],_,h,_=>by simp at h
 | l::ls,x::cs,hf,hl,hr=>by
  obtain ⟨ps,h3,h4⟩:=qq9 hT (cs:=cs) (fun leaf hm=>hf leaf (zG _ hm)) (by simpa using hl) fun i leaf y h5 h6=>hr (i+1) leaf y (by simpa using h5) (by simpa using h6)
  have h0:=hr 0 l x rfl rfl
  obtain ⟨p,h1,h2⟩:∃ p:PV K,qk1 good l p/\Rep X sz w p (qfu W F self x):=by
   rcases hf l zC with h | ⟨c,rfl,hc⟩
   .obtain ⟨p,h1,h2⟩:=qmo (good:=good) (X:=X) (sz:=sz) (w:=w) h h0
    exact ⟨p,h1,by rw [zb4 h h0];exact h2⟩
   .exact hT c hc x h0
  exact ⟨p::ps,⟨p,ps,rfl,h1,h3⟩,.cons h2 h4⟩
theorem qu5 {C:ZC K} (ok:CfgOk X sz C) {depth c b off cap:Nat} {arr:Array Value} {el e:TypeId} {fz:Nat×Nat} {w:Wd} {ls:List Leaf4} (hb:W.heap[b]? = some (.cells arr el fz)) (h1:qno P cd depth e=some ls) (h3:ls.length=sz c)
  (hL:∀ cs:List Value,cs.length=ls.length->(∀ (i:Nat) leaf x,ls[i]? = some leaf->cs[i]? = some x->qay enc P W cd leaf x)->∃ ps:List (PV K),qg5 good ls ps/\qq X sz w ps (cs.map (qfu W F b)))
  (h6:∀ ps:List (PV K),qg5 good ls ps->∃ pre x,X.pack c ps=some (pre,x)/\pre/\good c x)
  (hr:∀ i,i<cap->∃ cs m r,W.cells? 0 ((⟨b,off,none⟩:Addr).add (i * sz c)) (sz c)=some cs/\DataW.trod enc P W 0 (fun _=>true) true m e cs=some r) :
  ∀ i,i<cap->∃ cs:List Value,cs.length=sz c/\(∀ j,j<sz c->arr[off+i * sz c+j]? = cs[j]?)/\(∀ (j:Nat) leaf,ls[j]? = some leaf->∃ x,arr[off+i * sz c+j]? = some x/\qmd x = !leaf.flat)/\
   ∃ y:K c,good c y/\qq X sz w (X.cells c y) (cs.map (qfu W F b)):=by
 intro i hi
 obtain ⟨cs,m,r,h7,h8⟩:=hr i hi
 obtain ⟨_,h9,h10⟩:=World.cells?_some h7
 obtain ⟨h11,h12⟩:=qhw depth h8 h1
 obtain ⟨ps,h13,h14⟩:=hL cs h11 h12
 obtain ⟨pre,y,h15,h16,h17⟩:=h6 ps h13
 have hcell:∀ j,j<sz c->arr[off+i * sz c+j]? = cs[j]?:=by
  intro j hj
  have:=h10 j hj
  rw [add_add] at this
  simp only [World.cell?,hb] at this
  simpa using this
 refine ⟨cs,h9,hcell,fun j leaf hl=>?_,y,h17,ok.pack c ps pre y h15 h16 _ _ h14⟩
 have hj:j<sz c:=by rw [<-h3];exact (List.getElem?_eq_some_iff.1 hl).1
 have hjc:j<cs.length:=by omega
 refine ⟨cs[j],by rw [hcell j hj,List.getElem?_eq_getElem hjc],qx0 (h12 j leaf _ hl (List.getElem?_eq_getElem hjc))⟩
theorem zf8 {arr:Array Value} {off cap c:Nat} {Q:List Value->Nat->Prop} (h5:0<sz c) (hoff:cap=0->off<=arr.size) (hc:∀ i,i<cap->∃ cs:List Value,cs.length=sz c/\(∀ j,j<sz c->arr[off+i * sz c+j]? = cs[j]?)/\Q cs i):off+cap * sz c<=arr.size:=by
 cases cap with
 | zero=>simpa using hoff rfl
 | succ q=>
  obtain ⟨cs,g1,g2,_⟩:=hc q (Nat.lt_succ_self q)
  have:=g2 (sz c-1) (by omega)
  rw [List.getElem?_eq_getElem (by omega)] at this
  have:=(Array.getElem?_eq_some_iff.1 this).1
  rw [Nat.add_mul,Nat.one_mul]
  omega
theorem qne {C:ZC K} (ok:CfgOk X sz C) {ng c b off len cap:Nat} {arr:Array Value} {el:TypeId} {fz:Nat×Nat} {M:Nat->Prop} {Q:List Value->Nat->Prop} (hM:∀ n,¬ M n) (hb:W.heap[b]? = some (.cells arr el fz)) (h5:0<sz c) (hl:len<=cap) (hcap:cap<=maxLen) (hsz:off+cap * sz c<=arr.size)
  (hcell:∀ i,i<cap->∃ cs:List Value,cs.length=sz c/\(∀ j,j<sz c->arr[off+i * sz c+j]? = cs[j]?)/\Q cs i/\∃ y:K c,good c y/\qq X sz (wd0 (qiz W F ng) M C.codec) (X.cells c y) (cs.map (qfu W F b))) :
  ∃ p:PV K,qk1 good (.list c) p/\Rep X sz (wd0 (qiz W F ng) M C.codec) p (.slice b 0 off len (sz c) (some cap)):=by
 have hlm:len * sz c<=cap * sz c:=zU _ hl
 obtain ⟨l,g1,g2⟩:=qly (Q:=fun i (y:K c)=>∃ cs:List Value,cs.length=sz c/\(∀ j,j<sz c->arr[off+i * sz c+j]? = cs[j]?)/\good c y/\qq X sz (wd0 (qiz W F ng) M C.codec) (X.cells c y) (cs.map (qfu W F b))) (n:=len) fun i hi=>by
  obtain ⟨cs,q1,q2,_,y,q4,q3⟩:=hcell i (by omega)
  exact ⟨y,cs,q1,q2,q4,q3⟩
 refine ⟨.list c l none,⟨l,rfl,by omega,fun y hy=>?_⟩,?_⟩
 .obtain ⟨i,hi,rfl⟩:=List.mem_iff_getElem.1 hy
  obtain ⟨cs,q1,q2,q4,q3⟩:=g2 i hi
  exact q4
 .refine .list (qzk hb) (zN _) (hM b) g1.symm (by simp;omega) ⟨h5,.inl rfl⟩ (fun k hk=>by cases hk;exact hl) (fun i hi j p hp=>?_) trivial
  obtain ⟨cs,q1,q2,q4,q3⟩:=g2 i hi
  have hj:j<sz c:=by rw [<-ok.len c (l[i]'hi)];exact (List.getElem?_eq_some_iff.1 hp).1
  have:=q3.2 j p hp
  rw [List.getD_eq_getElem?_getD,List.getElem?_map] at this ⊢
  rw [Array.getElem?_toList,q2 j hj]
  exact this
theorem qv9 {C:ZC K} (ok:CfgOk X sz C) {depth ng:Nat} {M:Nat->Prop} (hM:∀ n,¬ M n):∀ (n:Nat) {c self:Nat},qk4 good X sz P F cd depth n c->q0x sz P F cd depth c->∀ {arr0:Array Value} {e0:TypeId} {fz0:Nat×Nat},W.heap[self]? = some (.cells arr0 e0 fz0)->∀ {x:Value},
  qay enc P W cd (.list c) x->∃ p:PV K,qk1 good (.list c) p/\Rep X sz (wd0 (qiz W F ng) M C.codec) p (qfu W F self x)
 | 0,c,self,fo,_,_,_,_,_,_,_=>fo.elim
 | n+1,c,self,fo,hFk,arr0,e0,fz0,hself,x,h=>by
  rcases h with rfl | ⟨e,a,len,cap,he,rfl,hl,hcap,hr⟩
  .exact ⟨.list c [] none,⟨[],rfl,Nat.zero_le _,fun x hx=>by cases hx⟩,.nlist trivial⟩
  .obtain ⟨ls,h1,h2,h3,h4,h5,h6⟩:=fo e he
   rw [h4] at hr
   by_cases hc0:cap=0
   .subst hc0
    obtain rfl:len=0:=by omega
    refine ⟨.list c [] none,⟨[],rfl,Nat.zero_le _,fun x hx=>by cases hx⟩,?_⟩
    have:qfu W F self (.slice (some a) 0 0)=.slice self 0 0 0 1 (some 0):=by simp [qfu]
    rw [this]
    exact .list (qzk hself) (zN _) (hM self) rfl (by simp) ⟨h5,.inr ⟨Nat.one_pos,rfl,rfl⟩⟩ (fun k hk=>by cases hk;exact zN _) (fun i hi=>by simp at hi) trivial
   .obtain ⟨cs0,m0,r0,q0,_⟩:=hr 0 (by omega)
    obtain ⟨hsp,arr,el,fz,hb⟩:=zd8 h5 q0
    obtain ⟨b,off,spot⟩:=a
    simp only at hsp hb
    subst hsp
    have hcell:=qu5 (w:=wd0 (qiz W F ng) M C.codec) ok hb h1 h3 (fun cs q1 q2=>qq9 (T:=fun c'=>qk4 good X sz P F cd depth n c'/\q0x sz P F cd depth c') (fun c' hc' x hx=>qv9 ok hM n hc'.1 hc'.2 hb hx) h2 q1 q2) h6 hr
    have hsz:=zf8 (Q:=fun cs i=>_) h5 (fun h=>absurd h hc0) hcell
    have hFs:F arr off=sz c:=by
     obtain ⟨_,_,_,q,_⟩:=hcell 0 (by omega)
     exact hFk e ls he h1 arr off fun i leaf hi=>by have:=q i leaf hi;simpa using this
    have habs:qfu W F self (.slice (some ⟨b,off,none⟩) len cap)=.slice b 0 off len (sz c) (some cap):=by
     simp only [qfu,zF hc0,hb]
     rw [zT ⟨trivial,hl,by rw [hFs];exact hsz⟩,hFs]
    rw [habs]
    exact qne ok hM hb h5 hl hcap hsz hcell
theorem qwh {C:ZC K} (ok:CfgOk X sz C) {depth ng n:Nat} {base:Nat} {u:TypeId} {leaf:Leaf4} {x:Value} {M:Nat->Prop} (hM:∀ n,¬ M n) (ht:leaf.flat=true∨∃ c,leaf=.list c/\qk4 good X sz P F cd depth n c) (hc:Cell.okWide P W .any base u x) (h:qay enc P W cd leaf x) :
  ∃ (p:PV K) (v:V),qk1 good leaf p/\Rep X sz (wd0 (qiz W F ng) M C.codec) p v/\Go.E2.Rel (qcr W) W v x:=by
 rcases ht with hf | ⟨c,rfl,fo⟩
 .obtain ⟨p,h1,h2⟩:=qmo (X:=X) (sz:=sz) (w:=wd0 (qiz W F ng) M C.codec) hf h
  exact ⟨p,qeb x,h1,h2,q4s hf h _⟩
 .cases n with
  | zero=>exact fo.elim
  | succ n=>
   rcases h with rfl | ⟨e,a,len,cap,he,rfl,hl,hcap,hr⟩
   .exact ⟨.list c [] none,.nils,⟨[],rfl,Nat.zero_le _,fun x hx=>by cases hx⟩,.nlist trivial,by simp [Go.E2.Rel]⟩
   .obtain ⟨hsp,arr,el,fz,hb,hoff⟩:=q6h hc
    obtain ⟨b,off,spot⟩:=a
    simp only at hsp hb hoff
    subst hsp
    obtain ⟨ls,h1,h2,h3,h4,h5,h6⟩:=fo e he
    rw [h4] at hr
    have hcell:=qu5 (w:=wd0 (qiz W F ng) M C.codec) ok hb h1 h3 (fun cs q1 q2=>qq9 (T:=fun c'=>qk4 good X sz P F cd depth n c'/\q0x sz P F cd depth c') (fun c' hc' x hx=>qv9 ok hM n hc'.1 hc'.2 hb hx) h2 q1 q2) h6 hr
    have hsz:=zf8 (Q:=fun cs i=>_) h5 (fun _=>hoff) hcell
    obtain ⟨p,g1,g2⟩:=qne ok hM hb h5 hl hcap hsz hcell
    have hlm:len * sz c<=cap * sz c:=zU _ hl
    refine ⟨p,_,g1,g2,?_⟩
    simp only [Go.E2.Rel]
    exact ⟨b,0,arr.size,off,cap,el,arr.size,_,qf6 hb,rfl,.inr rfl,hl,Nat.zero_le _,by omega,.inl rfl,fun k hk=>by cases hk;exact ⟨rfl,hsz⟩,by simp only [World.shape?,hb],hsz⟩
theorem qpw {C:ZC K} (ok:CfgOk X sz C) {depth ng n:Nat} {base:Nat} {M:Nat->Prop} (hM:∀ n,¬ M n):∀ {ls:List Leaf4} {cs:List Value},(∀ leaf ∈ ls,leaf.flat=true∨∃ c,leaf=.list c/\qk4 good X sz P F cd depth n c)->cs.length=ls.length->
  (∀ (i:Nat) x,cs[i]? = some x->∃ u,Cell.okWide P W .any base u x)->(∀ (i:Nat) leaf x,ls[i]? = some leaf->cs[i]? = some x->qay enc P W cd leaf x)->
  ∃ (ps:List (PV K)) (vs:List V),qg5 good ls ps/\qq X sz (wd0 (qiz W F ng) M C.codec) ps vs/\Go.E2.qm (qcr W) W vs cs
 | [],[],_,_,_,_=>⟨[],[],rfl,.nil,by simp [Go.E2.qm]⟩
 | [],_::_,_,h,_,_=>by simp at h
 | _::_,[],_,h,_,_=>by simp at h
 | l::ls,x::cs,ht,hl,hc,hr=>by
  obtain ⟨u,hu⟩:=hc 0 x rfl
  obtain ⟨p,v,h1,h2,h3⟩:=qwh (ng:=ng) ok hM (ht l zC) hu (hr 0 l x rfl rfl)
  obtain ⟨ps,vs,h4,h5,h6⟩:=qpw (ng:=ng) ok hM (cs:=cs) (ls:=ls) (fun leaf hm=>ht leaf (zG _ hm)) (by simpa using hl) (fun i y hy=>hc (i+1) y (by simpa using hy)) fun i leaf y h7 h8=>hr (i+1) leaf y (by simpa using h7) (by simpa using h8)
  exact ⟨p::ps,v::vs,⟨p,ps,rfl,h1,h4⟩,.cons h2 h5,Go.E2.qm.cons h3 h6⟩
theorem zp8 {C:ZC K} (ok:CfgOk X sz C) {depth ng n:Nat} {base:Nat} {M:Nat->Prop} (hM:∀ n,¬ M n) {t:TypeId} {v:Value} {d:DataW Hd} {ps:List MemPlace} {leaf:Leaf4} (hT:leaf.flat=true∨∃ c,leaf=.list c/\qk4 good X sz P F cd depth n c)
  (ht:(match P.underlying t with | some (.struct _) | some (.array _ _)=>false | _=>true)=true) (hl:qno P cd depth t=some [leaf]) (hv:Value.okWide P W .any base t v) (hd:DataW.Trod enc P W 0 (fun _=>true) true t v d ps) :
  ∃ (p:PV K) (u:V),qk1 good leaf p/\Rep X sz (wd0 (qiz W F ng) M C.codec) p u/\Go.E2.Rel (qcr W) W u v:=by
 obtain ⟨n,hn⟩:=hd
 obtain ⟨h1,h2⟩:=qhw depth hn hl
 have hcell:Cell.okWide P W .any base t v:=by
  unfold Value.okWide at hv
  split at hv
  .rename_i h;simp [h] at ht
  .rename_i h;simp [h] at ht
  .exact hv
 have hcs:v.cells.toList=[v]:=by
  cases v with
  | agg cs=>
   exfalso
   unfold Cell.okWide at hcell
   split at hcell<;>first | (rename_i hx;cases hx;done) | skip
   unfold Cell.ok at hcell
   split at hcell<;>first | (rename_i hx;cases hx;done) | exact hcell
  | _=>rfl
 exact qwh ok hM hT hcell (h2 0 leaf v rfl (by rw [hcs];rfl))
theorem zmx {C:ZC K} (ok:CfgOk X sz C) {depth ng n:Nat} {base:Nat} {M:Nat->Prop} (hM:∀ n,¬ M n) {t:TypeId} {v:Value} {d:DataW Hd} {ps:List MemPlace} {ls:List Leaf4} {fs:Array Field} (hT:∀ leaf ∈ ls,leaf.flat=true∨∃ c,leaf=.list c/\qk4 good X sz P F cd depth n c)
  (ht:P.underlying t=some (.struct fs)) (hl:qno P cd depth t=some ls) (hv:Value.okWide P W .any base t v) (hd:DataW.Trod enc P W 0 (fun _=>true) true t v d ps) :
  ∃ (ps:List (PV K)) (u:V),qg5 good ls ps/\Rep X sz (wd0 (qiz W F ng) M C.codec) (.agg ps) u/\Go.E2.Rel (qcr W) W u v:=by
 obtain ⟨n,hn⟩:=hd
 obtain ⟨h1,h2⟩:=qhw depth hn hl
 unfold Value.okWide at hv
 rw [ht] at hv
 obtain ⟨cs,rfl,_,ts,_,_,hts⟩:=hv
 have hcs:(Value.agg cs).cells.toList=cs.toList:=rfl
 rw [hcs] at h1 h2
 obtain ⟨qs,vs,h3,h4,h5⟩:=qpw (ng:=ng) ok hM hT h1 (fun i x hx=>by
  obtain ⟨u,_,hu⟩:=hts i x (by simpa using hx)
  exact ⟨u,hu⟩) h2
 exact ⟨qs,.agg vs,h3,.agg h4.1 h4.2,by simp only [Go.E2.Rel];exact ⟨cs,rfl,h5⟩⟩
end
end Go.E3
/- PLAIN LEAN FOR CONDITIONS: elements, bytes, parts of lists by numbers; places up to which something holds; cuts at a byte. No program in sight. -/
namespace Go.E3
theorem quk (s:List UInt8) (i:Int):0<=bx s i/\bx s i<=255:=by
 unfold bx
 have:=(s.getD i.toNat 0).toNat_lt
 omega
theorem qwf {α:Type} [Inhabited α] {l:List α} {i:Nat} (h:i<l.length):ix l (i:Int)=l[i]:=by
 simp [ix,List.getD_eq_getElem?_getD,h]
theorem qpu {α:Type} [Inhabited α] {a:α} {l:List α}:ix (a::l) 0=a:=rfl
theorem qcs {α:Type} [Inhabited α] {a:α} {l:List α} {i:Int} (h:0<=i):ix (a::l) (i+1)=ix l i:=by
 have:(i+1).toNat=i.toNat+1:=by omega
 simp [ix,this]
theorem qwe {α:Type} [Inhabited α] {l m:List α} {i:Int} (h0:0<=i) (h:i<ln l):ix (l++m) i=ix l i:=by
 have:i.toNat<l.length:=by simp only [ln] at h;omega
 simp [ix,List.getD_eq_getElem?_getD,List.getElem?_append_left this]
theorem qpj {α:Type} (l:List α):fr l 0=l:=rfl
theorem qka {α:Type} {l:List α} {i:Int} (h:ln l<=i):fr l i=[]:=by
 apply List.drop_of_length_le;simp only [ln] at h;omega
theorem qxg {α:Type} {l:List α} {i:Int} (h:ln l<=i):upto l i=l:=by
 apply List.take_of_length_le;simp only [ln] at h;omega
theorem qdd {α:Type} [Inhabited α] {l:List α} {i:Int} (h0:0<=i) (h:i<ln l):fr l i=ix l i::fr l (i+1):=by
 have hi:i.toNat<l.length:=by simp only [ln] at h;omega
 have e:(i+1).toNat=i.toNat+1:=by omega
 unfold fr ix
 rw [List.drop_eq_getElem_cons hi,e,List.getD_eq_getElem?_getD,List.getElem?_eq_getElem hi]
 rfl
theorem zg5 {α:Type} {l:List α} {i:Int} (h0:0<=i) (h:i<=ln l):ln (fr l i)=ln l-i:=by
 simp only [ln,fr,List.length_drop] at *;omega
theorem zlk {α:Type} {l:List α} {i:Int} (h0:0<=i) (h:i<=ln l):ln (upto l i)=i:=by
 simp only [ln,upto,List.length_take] at *;omega
theorem q2a {α:Type} {l:List α} {i j:Int} (h0:0<=i) (h1:i<=j) (h:j<=ln l):ln (sub l i j)=j-i:=by
 simp only [ln,sub,List.length_drop,List.length_take] at *;omega
theorem zt {α:Type} (l:List α):0<=ln l:=Int.natCast_nonneg _
theorem qbi {α:Type} (l m:List α):ln (l++m)=ln l+ln m:=by simp [ln]
theorem jv {α:Type} (a:α) (l:List α):ln (a::l)=ln l+1:=by simp [ln]
theorem qda {α:Type}:ln ([]:List α)=0:=rfl
theorem zdf {α:Type}:ln ([]:List α)<=0:=zK _
theorem zll {α:Type} {l:List α} (h:ln l<=0):l=[]:=by
 cases l with
 | nil=>rfl
 | cons a l=>simp only [ln,List.length_cons] at h;omega
theorem zd6 {α:Type} {l m:List α} (h:ln l+ln m<=1000000000):ze (l.length+m.length):=by simp only [ln,ze] at *;omega
theorem qir {α:Type} {l:List α} {a:α} (h:ln l+1<=1000000000):ze (l.length + [a].length):=by simp only [ln,ze,List.length_cons,List.length_nil] at *;omega
theorem qkh {α:Type} (l:List α) (a:α):ln (l++[a])=ln l+1:=by simp [ln]
theorem q83 {α:Type} {l:List α} {i j:Int} (h0:0<=i) (h1:i<=j):sub l i j=upto (fr l i) (j-i):=by
 simp only [sub,fr,upto]
 rw [List.take_drop]
 have:i.toNat+(j-i).toNat=j.toNat:=by omega
 rw [this]
theorem zm2 {α:Type} {l:List α} {i j:Int} (h0:0<=i) (h1:0<=j):fr (fr l i) j=fr l (i+j):=by
 simp only [fr,List.drop_drop]
 have:i.toNat+j.toNat=(i+j).toNat:=by omega
 rw [this]
theorem qyv {s:List UInt8} {i j:Int} (h0:0<=i) (h1:0<=j):bx (fr s i) j=bx s (i+j):=by
 have:i.toNat+j.toNat=(i+j).toNat:=by omega
 simp only [bx,fr,List.getD_eq_getElem?_getD,List.getElem?_drop,this]
theorem q7k {s:List UInt8} {i j k:Int} (h0:0<=i) (hk:0<=k) (h1:i+k<j):bx (sub s i j) k=bx s (i+k):=by
 have:i.toNat+k.toNat=(i+k).toNat:=by omega
 simp only [bx,sub,List.getD_eq_getElem?_getD,List.getElem?_drop,this]
 rw [List.getElem?_take_of_lt (by omega)]
theorem qo0 (s:List UInt8) (i:Int):bx s i=((ix s i).toNat:Int):=rfl
theorem qwk {α:Type} [Inhabited α] {l:List α} {a:α} (h:a ∈ l):∃ i:Int,0<=i/\i<ln l/\ix l i=a:=by
 obtain ⟨i,hi,rfl⟩:=List.mem_iff_getElem.1 h
 exact ⟨i,by omega,by simp only [ln];omega,qwf hi⟩
theorem qf8 {α:Type} [Inhabited α] {l:List α} {i:Int} (h0:0<=i) (h:i<ln l):ix l i ∈ l:=by
 have hi:i.toNat<l.length:=by simp only [ln] at h;omega
 have:ix l i=l[i.toNat]:=by simp [ix,List.getD_eq_getElem?_getD,hi]
 rw [this];exact List.getElem_mem hi
theorem q49 {α:Type} [Inhabited α] {l m:List α} (h:ln l=ln m) (he:∀ i,0<=i->i<ln l->ix l i=ix m i):l=m:=by
 apply List.ext_getElem (by simp only [ln] at h;omega)
 intro i h1 h2
 have:=he i (by omega) (by simp only [ln];omega)
 rwa [qwf h1,qwf h2] at this
def zp (p:Int->Bool) (s:List UInt8) (i:Int):Int:=if h:0<=i/\i<ln s/\p (bx s i)=true then zp p s (i+1) else i
 termination_by (ln s-i).toNat
 decreasing_by omega
theorem qej {p:Int->Bool} {s:List UInt8} {i:Int}:i<=zp p s i:=by
 fun_induction zp p s i with
 | case1 i h ih=>omega
 | case2 i h=>omega
theorem qmb {p:Int->Bool} {s:List UInt8} {i:Int} (hi:i<=ln s):zp p s i<=ln s:=by
 fun_induction zp p s i with
 | case1 i h ih=>exact ih (by omega)
 | case2 i h=>exact hi
theorem qgd {p:Int->Bool} {s:List UInt8} {i:Int} (h0:0<=i) (h:i<ln s) (hp:p (bx s i)=true):zp p s i=zp p s (i+1):=by
 rw [zp,dif_pos ⟨h0,h,hp⟩]
theorem qio {p:Int->Bool} {s:List UInt8} {i:Int} (h:ln s<=i∨p (bx s i)=false):zp p s i=i:=by
 rw [zp,dif_neg]
 rintro ⟨_,h1,h2⟩
 rcases h with h | h
 .omega
 .rw [h2] at h;cases h
theorem q58 {p:Int->Bool} {s:List UInt8} {i:Int} (h0:0<=i) (h:i<ln s) (hp:p (bx s i)=true):i+1<=zp p s i:=by
 rw [qgd h0 h hp];exact qej
theorem zd3 {p:Int->Bool} {s:List UInt8} {i:Int} (h0:0<=i) (h:zp p s i<ln s):p (bx s (zp p s i))=false:=by
 fun_induction zp p s i with
 | case1 i hi ih=>exact ih (by omega) h
 | case2 i hi=>
  rw [<-Bool.not_eq_true]
  exact fun hp=>hi ⟨h0,h,hp⟩
theorem zd2 {p:Int->Bool} {s:List UInt8} {i:Int}:∀ j,i<=j->j<zp p s i->p (bx s j)=true:=by
 fun_induction zp p s i with
 | case1 i hi ih=>
  intro j h1 h2
  by_cases h:j=i
  .rw [h];exact hi.2.2
  .exact ih j (by omega) h2
 | case2 i hi=>intro j h1 h2;omega
theorem qqa {p:Int->Bool} {s:List UInt8} {i k:Int} (h0:0<=i) (hk:i<=k) (hl:k<=ln s) (ha:∀ j,i<=j->j<k->p (bx s j)=true) (he:k=ln s∨p (bx s k)=false):zp p s i=k:=by
 fun_induction zp p s i with
 | case1 i hi ih=>
  by_cases h:i=k
  .subst h
   rcases he with he | he
   .omega
   .rw [hi.2.2] at he;cases he
  .exact ih (by omega) (by omega) fun j h1 h2=>ha j (by omega) h2
 | case2 i hi=>
  by_cases h:i=k
  .exact h
  .exact absurd ⟨h0,by omega,ha i (by omega) (by omega)⟩ hi
theorem qtf {b:UInt8} {c:Int} (h0:0<=c) (h1:c<256):(b == c.toNat.toUInt8)=decide ((b.toNat:Int)=c):=by
 rw [Bool.eq_iff_iff,beq_iff_eq,decide_eq_true_eq]
 have e:c.toNat.toUInt8.toNat=c.toNat:=by
  simp [Nat.toUInt8,UInt8.toNat_ofNat']
  omega
 constructor
 .rintro rfl
  omega
 .intro h
  apply UInt8.toNat_inj.1
  omega
theorem qmm {s:List UInt8} {c:Int} (h0:0<=c) (h1:c<256) (h:qf s c<0):∀ i,0<=i->i<ln s->bx s i≠c:=by
 unfold qf at h
 split at h
 .omega
 .rename_i hi
  rw [List.findIdx?_eq_none_iff] at hi
  intro i h2 h3 he
  have:=hi (ix s i) (qf8 h2 h3)
  rw [qtf h0 h1,<-qo0,he] at this
  simp at this
theorem qq3 {s:List UInt8} {c:Int} (h0:0<=c) (h1:c<256) (h:0<=qf s c):qf s c<ln s/\bx s (qf s c)=c/\∀ i,0<=i->i<qf s c->bx s i≠c:=by
 unfold qf at h ⊢
 split at h
 .rename_i i hi
  rw [List.findIdx?_eq_some_iff_getElem] at hi
  obtain ⟨h2,h3,h4⟩:=hi
  rw [qtf h0 h1] at h3
  refine ⟨by simp only [ln];omega,?_,fun j hj0 hj he=>?_⟩
  .rw [qo0,qwf h2];simpa using h3
  .have hj':j.toNat<i:=by omega
   have:=h4 j.toNat hj'
   rw [qtf h0 h1] at this
   have hx:bx s j=((s[j.toNat]'(by omega)).toNat:Int):=by
    rw [qo0]
    have:=qwf (l:=s) (i:=j.toNat) (by omega)
    rw [show ((j.toNat:Nat):Int)=j by omega] at this
    rw [this]
   rw [hx] at he
   simp [he] at this
 .omega
theorem q1y (s:List UInt8) (c:Int):-1<=qf s c:=by
 unfold qf
 split<;>omega
theorem q1z (s:List UInt8) (c:Int):qf s c<ln s∨qf s c = -1:=by
 unfold qf
 split
 .rename_i i hi
  rw [List.findIdx?_eq_some_iff_getElem] at hi
  obtain ⟨h2,_⟩:=hi
  left;simp only [ln];omega
 .right;rfl
def qa (c:Int):List UInt8->List (List UInt8)
 | []=>[[]]
 | b::l=>if (b.toNat:Int)=c then []::qa c l else match qa c l with
  | []=>[[b]]
  | x::xs=>(b::x)::xs
theorem q0f (c:Int) (s:List UInt8):qa c s≠[]:=by
 cases s with
 | nil=>simp [qa]
 | cons b l=>
  unfold qa
  split
  .simp
  .split<;>simp
theorem qja {c:Int}:∀ {s:List UInt8},(∀ b ∈ s,(b.toNat:Int)≠c)->qa c s=[s]
 | [],_=>rfl
 | b::l,h=>by
  rw [qa,zF (h b zC),qja fun x hx=>h x (zG _ hx)]
theorem qon {c:Int} {b:UInt8} (hb:(b.toNat:Int)=c):∀ {s t:List UInt8},(∀ x ∈ s,(x.toNat:Int)≠c)->qa c (s++b::t)=s::qa c t
 | [],t,_=>by rw [List.nil_append,qa,zT hb]
 | a::l,t,h=>by
  rw [List.cons_append,qa,zF (h a zC),qon hb fun x hx=>h x (zG _ hx)]
theorem zd7 {c:Int} {s:List UInt8} {i k:Int} (h0:0<=i) (hk:i<=k) (hl:k<=ln s) (ha:∀ j,i<=j->j<k->bx s j≠c) (he:k=ln s∨bx s k=c) :
  qa c (fr s i)=if k=ln s then [sub s i k] else sub s i k::qa c (fr s (k+1)):=by
 have hmem:∀ x ∈ sub s i k,(x.toNat:Int)≠c:=by
  intro x hx
  obtain ⟨j,h1,h2,rfl⟩:=qwk hx
  rw [q2a h0 hk hl] at h2
  have:=q7k (s:=s) (i:=i) (j:=k) (k:=j) h0 h1 (by omega)
  rw [<-qo0,this]
  exact ha _ (by omega) (by omega)
 have hs:sub s i k++fr s k=fr s i:=by
  rw [q83 h0 hk]
  have:fr s k=fr (fr s i) (k-i):=by rw [zm2 h0 (by omega)];congr 1;omega
  rw [this]
  exact List.take_append_drop _ _
 by_cases hkl:k=ln s
 .rw [zT hkl,<-hs,qka (l:=s) (i:=k) (by omega),zJ,qja hmem]
 .rw [zF hkl,<-hs,qdd (by omega:0<=k) (by omega),qon ?_ hmem]
  rcases he with he | he
  .exact absurd he hkl
  .rw [<-qo0];exact he
theorem qoo (c:Int):∀ s:List UInt8,ln (qa c s)=(s.countP (fun b=>decide ((b.toNat:Int)=c)):Nat)+1
 | []=>rfl
 | b::l=>by
  have ih:=qoo c l
  unfold qa
  split
  .rename_i h
   rw [jv,ih,List.countP_cons_of_pos (by simpa using h)]
   omega
  .rename_i h
   rw [List.countP_cons_of_neg (by simpa using h)]
   split
   .rename_i hn;exact absurd hn (q0f c l)
   .rename_i x xs hx
    rw [hx] at ih
    rw [jv] at ih ⊢
    exact ih
theorem zjx {s:List UInt8} {c:Int} (h0:0<=c) (h1:c<256):j4 s c=(s.countP (fun b=>decide ((b.toNat:Int)=c)):Nat):=by
 unfold j4
 simp only [qtf h0 h1]
theorem q06 (s:List UInt8) (c:Int):0<=j4 s c/\j4 s c<=ln s:=by
 unfold j4 ln
 have:=List.countP_le_length (p:=fun b=>b == c.toNat.toUInt8) (l:=s)
 omega
theorem qrb {s:List UInt8} {c:Int} (h0:0<=c) (h1:c<256):ln (qa c s)=j4 s c+1:=by
 rw [qoo,zjx h0 h1]
theorem qmf {s:List UInt8} {c:Int} (h0:0<=c) (h1:c<256) (h:0<=qf s c):qa c s=upto s (qf s c)::qa c (fr s (qf s c+1)):=by
 obtain ⟨a,b,d⟩:=qq3 h0 h1 h
 have:=zd7 (c:=c) (s:=s) (i:=0) (k:=qf s c) (zK 0) h (by omega) (fun j h2 h3=>d j h2 h3) (.inr b)
 rw [qpj,zF (by omega),q83 (zK 0) h,qpj,Int.sub_zero] at this
 exact this
theorem qs3 {s:List UInt8} {c:Int} (h0:0<=c) (h1:c<256) (h:qf s c<0):qa c s=[s]:=by
 refine qja fun b hb=>?_
 obtain ⟨i,h2,h3,rfl⟩:=qwk hb
 exact qmm h0 h1 h i h2 h3
theorem q8z (c:Int) (s:List UInt8):1<=ln (qa c s):=by
 rw [qoo];omega
theorem q8y {s:List UInt8} {c:Int} (h0:0<=c) (h1:c<256) (h:ln (qa c s)<=1):qa c s=[s]:=by
 by_cases hi:qf s c<0
 .exact qs3 h0 h1 hi
 .rw [qmf h0 h1 (by omega),jv] at h
  have:=q8z c (fr s (qf s c+1))
  omega
theorem q6p {α:Type} {l:List α} {i:Int} {a:α} (h0:0<=i) (h:i<ln l):upto (l.set i.toNat a) (i+1)=upto l i++[a]:=by
 have hi:i.toNat<l.length:=by simp only [ln] at h;omega
 have e:(i+1).toNat=i.toNat+1:=by omega
 unfold upto
 rw [e,List.take_add_one,List.take_set_of_le (zN _),List.getElem?_set_self hi]
 rfl
theorem qwj {α:Type} {l:List α} {i:Nat} {a:α}:ln (l.set i a)=ln l:=by simp [ln]
theorem q19 {α:Type} {n:Int} {a:α} (h:0<=n):ln (List.replicate n.toNat a)=n:=by simp only [ln,List.length_replicate];omega
theorem qfr {c:Int}:∀ {s x:List UInt8},x ∈ qa c s->ln x<=ln s
 | [],x,h=>by simp [qa] at h;subst h;exact zK _
 | b::l,x,h=>by
  rw [jv]
  unfold qa at h
  split at h
  .rcases zD.1 h with rfl | h
   .have:=zt l;rw [qda];omega
   .have:=qfr h;omega
  .split at h
   .rename_i hn;exact absurd hn (q0f c l)
   .rename_i y ys hy
    rcases zD.1 h with rfl | h
    .have:y ∈ qa c l:=by rw [hy];exact zC
     have:=qfr this
     rw [jv];omega
    .have:x ∈ qa c l:=by rw [hy];exact zG _ h
     have:=qfr this
     omega
end Go.E3
